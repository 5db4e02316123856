/- Part 3: contracts of the functions that the law reaches: each answers as its model does. No condition beyond those that each theorem states. -/
import Derived.Test.YtfcijboaamelfaaPart2
set_option linter.unusedVariables false
namespace Go.GL
open R6 R7
/-! ### What leaps keep to -/
namespace R9
def MemOk (ns : List Node) (mm : Memo) : Prop := ∀ p ∈ mm, ∃ lv : Nat, IsN ns (lv + 2) p.1 ∧ IsN ns (lv + 1) p.2.2
theorem MemOk.pre {ns ms : List Node} (hp : ns <+: ms) {mm : Memo} (h : MemOk ns mm) : MemOk ms mm := fun p hm => by
 obtain ⟨lv, a, b⟩ := h p hm
 exact ⟨lv, a.pre hp, b.pre hp⟩
theorem look9_mem : ∀ {mm : Memo} {n j to : Int}, look9 mm n j = some to → (n, j, to) ∈ mm
 | [], _, _, _, h => by simp [look9] at h
 | p :: mm, n, j, to, h => by
  unfold look9 at h
  split at h
  ·rename_i hp
   obtain ⟨a, b, c⟩ := p
   simp only [Option.some.injEq] at h
   simp only at hp
   obtain ⟨rfl, rfl⟩ := hp
   subst h
   exact List.mem_cons_self
  ·exact List.mem_cons_of_mem _ (look9_mem h)
structure Lk (room : Int) (s : LS) : Prop where
 right : R6.right s.ns room
 mem : MemOk s.ns s.mm
theorem Lk.wf {room : Int} {s : LS} (h : Lk room s) : Wf s.ns := (right_iff.1 h.right).2
/-- What came of a state without an error. -/
structure Gd (room : Int) (s : LS) (r : L9) (lv : Nat) : Prop where
 lk : Lk room r.1
 pre : s.ns <+: r.1.ns
 is : IsN r.1.ns lv r.2.1
theorem put_gd {ns : List Node} (h : Wf ns) {room q0 q1 q2 q3 : Int} {lv : Nat} (hq : IsN ns lv q0) (he : (put ns room q0 q1 q2 q3).2.2 = 0) : IsN (put ns room q0 q1 q2 q3).1 (lv + 1) (put ns room q0 q1 q2 q3).2.1 := by
 have hf : fit4 ns q0 q1 q2 q3 := Decidable.byContradiction fun hf => by
  unfold put at he; rw [if_neg hf] at he; cases he
 have hr : 0 ≤ R6.at_ ns [q0, q1, q2, q3] ∨ (ns.length : Int) < room := Decidable.byContradiction fun hr => by
  unfold put at he
  rw [if_pos hf, if_neg (by omega), if_pos (by omega)] at he
  cases he
 obtain ⟨ms, m, e, ok⟩ := put_ok h hf hr
 rw [e]
 exact ⟨ok.mem, by rw [ok.lv, hq.2]; omega⟩
theorem right_put {ns : List Node} {room : Int} (h : R6.right ns room) (q0 q1 q2 q3 : Int) : R6.right (put ns room q0 q1 q2 q3).1 room ∧ ns <+: (put ns room q0 q1 q2 q3).1 := by
 obtain ⟨⟨a, b, c⟩, hw⟩ := right_iff.1 h
 obtain ⟨d, e⟩ := put_wf hw room q0 q1 q2 q3
 exact ⟨right_iff.2 ⟨⟨a, b, put_room c q0 q1 q2 q3⟩, d⟩, e⟩
theorem putS_gd {room : Int} {s : LS} (h : Lk room s) {q0 q1 q2 q3 : Int} {lv : Nat} (hq : IsN s.ns lv q0) (he : (putS room s q0 q1 q2 q3).2.2 = 0) : Gd room s (putS room s q0 q1 q2 q3) (lv + 1) := by
 obtain ⟨a, b⟩ := right_put h.right q0 q1 q2 q3
 exact ⟨⟨a, h.mem.pre b⟩, b, put_gd h.wf hq he⟩
theorem s16_isN {ns : List Node} (h : Wf ns) {lv : Nat} {n : Int} (hn : IsN ns (lv + 2) n) : ∀ i : Int, 0 ≤ i → i < 16 → IsN ns lv (R8.g (R8.s16 ns n) i) := by
 obtain ⟨a, b, c, d⟩ := kids4 h hn
 obtain ⟨a0, a1, a2, a3⟩ := kids4 h a
 obtain ⟨b0, b1, b2, b3⟩ := kids4 h b
 obtain ⟨c0, c1, c2, c3⟩ := kids4 h c
 obtain ⟨d0, d1, d2, d3⟩ := kids4 h d
 intro i h0 h16
 obtain ⟨k, rfl⟩ : ∃ k : Nat, i = k := ⟨i.toNat, by omega⟩
 have hk : k < 16 := by omega
 unfold R8.g R8.s16
 rw [Int.toNat_natCast]
 match k, hk with
 | 0, _ => exact a0
 | 1, _ => exact a1
 | 2, _ => exact b0
 | 3, _ => exact b1
 | 4, _ => exact a2
 | 5, _ => exact a3
 | 6, _ => exact b2
 | 7, _ => exact b3
 | 8, _ => exact c0
 | 9, _ => exact c1
 | 10, _ => exact d0
 | 11, _ => exact d1
 | 12, _ => exact c2
 | 13, _ => exact c3
 | 14, _ => exact d2
 | 15, _ => exact d3
theorem midS_gd {room : Int} {s : LS} (h : Lk room s) {lv : Nat} {n : Int} (hn : IsN s.ns (lv + 2) n) (he : (midS room s n).2.2 = 0) : Gd room s (midS room s n) (lv + 1) :=
 putS_gd h (s16_isN h.wf hn 5 (by omega) (by omega)) he
theorem bit_01 (l : List Int) (y x : Int) : R8.bit l y x = 0 ∨ R8.bit l y x = 1 := by unfold R8.bit; split <;> simp
theorem oneS_gd {room : Int} {s : LS} (h : Lk room s) {n : Int} (he : (oneS room s n).2.2 = 0) : Gd room s (oneS room s n) 1 := by
 have h0 : IsN s.ns 0 (R8.bit (R8.s16 s.ns n) 1 1) := by
  rcases bit_01 (R8.s16 s.ns n) 1 1 with e | e <;> rw [e]
  ·exact ⟨h.wf.in0, by rw [h.wf.nd0]; rfl⟩
  ·exact ⟨h.wf.in1, by rw [h.wf.nd1]; rfl⟩
 obtain ⟨a, b⟩ := right_put h.right (R8.bit (R8.s16 s.ns n) 1 1) (R8.bit (R8.s16 s.ns n) 1 2) (R8.bit (R8.s16 s.ns n) 2 1) (R8.bit (R8.s16 s.ns n) 2 2)
 exact ⟨⟨a, h.mem.pre b⟩, b, put_gd h.wf h0 he⟩
theorem mapS_gd {room : Int} {f : LS → Int → L9} {C : List Node → Int → Prop} {lv : Nat} (hC : ∀ ns ms q, ns <+: ms → C ns q → C ms q) (hf : ∀ s q, Lk room s → C s.ns q → (f s q).2.2 = 0 → Gd room s (f s q) lv) : ∀ (qs : List Int) (s : LS), Lk room s → (∀ q ∈ qs, C s.ns q) → (mapS f s qs).2.2 = 0 →
  Lk room (mapS f s qs).1 ∧ s.ns <+: (mapS f s qs).1.ns ∧ (mapS f s qs).2.1.length = qs.length ∧ ∀ q ∈ (mapS f s qs).2.1, IsN (mapS f s qs).1.ns lv q
 | [], s, h, _, _ => ⟨h, List.prefix_refl _, rfl, fun q hq => by simp [mapS] at hq⟩
 | q :: qs, s, h, hq, he => by
  unfold mapS at he ⊢
  by_cases h0 : (f s q).2.2 = 0
  ·rw [if_neg (by simpa using h0)] at he ⊢
   have g := hf s q h (hq q List.mem_cons_self) h0
   obtain ⟨a, b, c, d⟩ := mapS_gd hC hf qs (f s q).1 g.lk (fun x hx => hC _ _ _ g.pre (hq x (List.mem_cons_of_mem _ hx))) he
   refine ⟨a, g.pre.trans b, by simp [c], fun x hx => ?_⟩
   rcases List.mem_cons.1 hx with rfl | hx
   ·exact g.is.pre b
   ·exact d x hx
  ·rw [if_pos h0] at he
   exact absurd he h0
theorem putSq_gd {ns : List Node} {room : Int} (h : R6.right ns room) {lv : Nat} {l : List Int} (hi : ∀ i : Int, 0 ≤ i → i < 16 → IsN ns lv (R8.g l i)) {y x : Int} (hy : 0 ≤ y ∧ y ≤ 2) (hx : 0 ≤ x ∧ x ≤ 2) (he : (R8.putSq ns room l y x).2.2 = 0) :
  R6.right (R8.putSq ns room l y x).1 room ∧ ns <+: (R8.putSq ns room l y x).1 ∧ IsN (R8.putSq ns room l y x).1 (lv + 1) (R8.putSq ns room l y x).2.1 := by
 have hw := (right_iff.1 h).2
 obtain ⟨a, b⟩ := right_put h (R8.g l (4 * y + x)) (R8.g l (4 * y + x + 1)) (R8.g l (4 * y + x + 4)) (R8.g l (4 * y + x + 5))
 exact ⟨a, b, put_gd hw (hi _ (by omega) (by omega)) he⟩
theorem all_gd {ns : List Node} {room : Int} (h : R6.right ns room) {lv : Nat} {n : Int} (hn : IsN ns (lv + 2) n) (he : (R8.all ns room n).2.2 = 0) :
  R6.right (R8.all ns room n).1 room ∧ ns <+: (R8.all ns room n).1 ∧ (R8.all ns room n).2.1.length = 9 ∧ ∀ q ∈ (R8.all ns room n).2.1, IsN (R8.all ns room n).1 (lv + 1) q := by
 have hi := s16_isN (right_iff.1 h).2 hn
 unfold R8.all at he ⊢
 dsimp only at he ⊢
 generalize R8.s16 ns n = l at *
 have key := fun {ms : List Node} (hr : R6.right ms room) (hp : ns <+: ms) {y x : Int} (hy : 0 ≤ y ∧ y ≤ 2) (hx : 0 ≤ x ∧ x ≤ 2) (he : (R8.putSq ms room l y x).2.2 = 0) => putSq_gd hr (fun i a b => (hi i a b).pre hp) hy hx he
 by_cases e0 : (R8.putSq ns room l 0 0).2.2 = 0
 case neg => rw [if_pos e0] at he; exact absurd he e0
 rw [if_neg (by simpa using e0)] at he ⊢
 obtain ⟨r0, p0, i0⟩ := key h (List.prefix_refl _) (by omega) (by omega) e0
 generalize R8.putSq ns room l 0 0 = P0 at *
 by_cases e1 : (R8.putSq P0.1 room l 0 1).2.2 = 0
 case neg => rw [if_pos e1] at he; exact absurd he e1
 rw [if_neg (by simpa using e1)] at he ⊢
 obtain ⟨r1, p1, i1⟩ := key r0 p0 (by omega) (by omega) e1
 generalize R8.putSq P0.1 room l 0 1 = P1 at *
 have t1 := p0.trans p1
 by_cases e2 : (R8.putSq P1.1 room l 0 2).2.2 = 0
 case neg => rw [if_pos e2] at he; exact absurd he e2
 rw [if_neg (by simpa using e2)] at he ⊢
 obtain ⟨r2, p2, i2⟩ := key r1 t1 (by omega) (by omega) e2
 generalize R8.putSq P1.1 room l 0 2 = P2 at *
 have t2 := t1.trans p2
 by_cases e3 : (R8.putSq P2.1 room l 1 0).2.2 = 0
 case neg => rw [if_pos e3] at he; exact absurd he e3
 rw [if_neg (by simpa using e3)] at he ⊢
 obtain ⟨r3, p3, i3⟩ := key r2 t2 (by omega) (by omega) e3
 generalize R8.putSq P2.1 room l 1 0 = P3 at *
 have t3 := t2.trans p3
 by_cases e4 : (R8.putSq P3.1 room l 1 1).2.2 = 0
 case neg => rw [if_pos e4] at he; exact absurd he e4
 rw [if_neg (by simpa using e4)] at he ⊢
 obtain ⟨r4, p4, i4⟩ := key r3 t3 (by omega) (by omega) e4
 generalize R8.putSq P3.1 room l 1 1 = P4 at *
 have t4 := t3.trans p4
 by_cases e5 : (R8.putSq P4.1 room l 1 2).2.2 = 0
 case neg => rw [if_pos e5] at he; exact absurd he e5
 rw [if_neg (by simpa using e5)] at he ⊢
 obtain ⟨r5, p5, i5⟩ := key r4 t4 (by omega) (by omega) e5
 generalize R8.putSq P4.1 room l 1 2 = P5 at *
 have t5 := t4.trans p5
 by_cases e6 : (R8.putSq P5.1 room l 2 0).2.2 = 0
 case neg => rw [if_pos e6] at he; exact absurd he e6
 rw [if_neg (by simpa using e6)] at he ⊢
 obtain ⟨r6, p6, i6⟩ := key r5 t5 (by omega) (by omega) e6
 generalize R8.putSq P5.1 room l 2 0 = P6 at *
 have t6 := t5.trans p6
 by_cases e7 : (R8.putSq P6.1 room l 2 1).2.2 = 0
 case neg => rw [if_pos e7] at he; exact absurd he e7
 rw [if_neg (by simpa using e7)] at he ⊢
 obtain ⟨r7, p7, i7⟩ := key r6 t6 (by omega) (by omega) e7
 generalize R8.putSq P6.1 room l 2 1 = P7 at *
 have t7 := t6.trans p7
 by_cases e8 : (R8.putSq P7.1 room l 2 2).2.2 = 0
 case neg => rw [if_pos e8] at he; exact absurd he e8
 rw [if_neg (by simpa using e8)] at he ⊢
 obtain ⟨r8, p8, i8⟩ := key r7 t7 (by omega) (by omega) e8
 generalize R8.putSq P7.1 room l 2 2 = P8 at *
 refine ⟨r8, t7.trans p8, rfl, fun q hq => ?_⟩
 simp only [List.mem_cons, List.not_mem_nil, or_false] at hq
 rcases hq with rfl | rfl | rfl | rfl | rfl | rfl | rfl | rfl | rfl
 ·exact i0.pre (((((((p1.trans p2).trans p3).trans p4).trans p5).trans p6).trans p7).trans p8)
 ·exact i1.pre ((((((p2.trans p3).trans p4).trans p5).trans p6).trans p7).trans p8)
 ·exact i2.pre (((((p3.trans p4).trans p5).trans p6).trans p7).trans p8)
 ·exact i3.pre ((((p4.trans p5).trans p6).trans p7).trans p8)
 ·exact i4.pre (((p5.trans p6).trans p7).trans p8)
 ·exact i5.pre ((p6.trans p7).trans p8)
 ·exact i6.pre (p7.trans p8)
 ·exact i7.pre p8
 ·exact i8
theorem g_mem {l : List Int} {i : Int} (h0 : 0 ≤ i) (h1 : i < l.length) : R8.g l i ∈ l := by
 unfold R8.g
 have : i.toNat < l.length := by omega
 rw [List.getD_eq_getElem?_getD, List.getElem?_eq_getElem this]
 exact List.getElem_mem this
theorem isN_mono {lv : Nat} : ∀ ns ms q, ns <+: ms → IsN ns lv q → IsN ms lv q := fun _ _ _ hp h => h.pre hp
theorem bindM_gd {r : LS × List Int × Int} {f : LS → List Int → L9} {P : L9 → Prop} (he : (bindM r f).2.2 = 0) (h : r.2.2 = 0 → (f r.1 r.2.1).2.2 = 0 → P (f r.1 r.2.1)) : P (bindM r f) := by
 by_cases e : r.2.2 = 0
 ·rw [bindM_ok e] at he ⊢; exact h e he
 ·rw [bindM_err e] at he; exact absurd he e
theorem half_gd {room : Int} {k : Nat} {lp : LS → Int → Int → L9} (hlp : ∀ s q j, Lk room s → IsN s.ns (k + 2) q → (lp s q j).2.2 = 0 → Gd room s (lp s q j) (k + 1)) {full : Bool} {s : LS} {n j : Int} {r1 : LS × List Int × Int} (h : Lk room s) (hn : IsN s.ns (k + 3) n) (h1 : half lp room full s n j = r1) (he : r1.2.2 = 0) :
  Lk room r1.1 ∧ s.ns <+: r1.1.ns ∧ r1.2.1.length = 9 ∧ ∀ q ∈ r1.2.1, IsN r1.1.ns (k + 1) q := by
 subst h1
 unfold half at he ⊢
 by_cases e0 : (R8.all s.ns room n).2.2 = 0
 case neg => rw [if_pos e0] at he; exact absurd he e0
 rw [if_neg (by simpa using e0)] at he ⊢
 obtain ⟨r0, p0, l0, i0⟩ := all_gd h.right hn e0
 have m1 := mapS_gd (room := room) (f := halfF lp room full j) (C := fun ns q => IsN ns (k + 2) q) (lv := k + 1) isN_mono (fun s q hs hq he => by
  unfold halfF at he ⊢
  cases full
  ·exact midS_gd hs hq he
  ·exact hlp s q (j - 1) hs hq he) (R8.all s.ns room n).2.1 ⟨(R8.all s.ns room n).1, s.mm⟩ ⟨r0, h.mem.pre p0⟩ i0 he
 exact ⟨m1.1, p0.trans m1.2.1, by rw [m1.2.2.1, l0], m1.2.2.2⟩
theorem four_gd {room : Int} {k : Nat} {t : LS} {l : List Int} (h : Lk room t) (hl : l.length = 9) (hi : ∀ q ∈ l, IsN t.ns (k + 1) q) (he : (mapS (fourP room l) t fourE).2.2 = 0) :
  Lk room (mapS (fourP room l) t fourE).1 ∧ t.ns <+: (mapS (fourP room l) t fourE).1.ns ∧ (mapS (fourP room l) t fourE).2.1.length = 4 ∧ ∀ q ∈ (mapS (fourP room l) t fourE).2.1, IsN (mapS (fourP room l) t fourE).1.ns (k + 2) q :=
 mapS_gd (room := room) (f := fourP room l) (C := fun ns k' => IsN ns (k + 1) (R8.g l k')) (lv := k + 2) (fun _ _ _ hp hq => hq.pre hp) (fun s q hs hq he => putS_gd hs hq he) fourE t h (fun q hq => by
  simp only [fourE, List.mem_cons, List.not_mem_nil, or_false] at hq
  exact hi _ (g_mem (by omega) (by rw [hl]; omega))) he
theorem last_gd {room : Int} {k : Nat} {lp : LS → Int → Int → L9} (hlp : ∀ s q j, Lk room s → IsN s.ns (k + 2) q → (lp s q j).2.2 = 0 → Gd room s (lp s q j) (k + 1)) {j : Int} {t : LS} {l : List Int} (h : Lk room t) (hi : ∀ q ∈ l, IsN t.ns (k + 2) q) (he : (mapS (lastF lp j) t l).2.2 = 0) :
  Lk room (mapS (lastF lp j) t l).1 ∧ t.ns <+: (mapS (lastF lp j) t l).1.ns ∧ (mapS (lastF lp j) t l).2.1.length = l.length ∧ ∀ q ∈ (mapS (lastF lp j) t l).2.1, IsN (mapS (lastF lp j) t l).1.ns (k + 1) q :=
 mapS_gd (room := room) (f := lastF lp j) (C := fun ns q => IsN ns (k + 2) q) (lv := k + 1) isN_mono (fun s q hs hq he => hlp s q j hs hq he) l t h hi he
theorem far_gd {room : Int} {k : Nat} {lp : LS → Int → Int → L9} (hlp : ∀ s q j, Lk room s → IsN s.ns (k + 2) q → (lp s q j).2.2 = 0 → Gd room s (lp s q j) (k + 1)) {full : Bool} {s : LS} {n j : Int} (h : Lk room s) (hn : IsN s.ns (k + 3) n) (he : (far lp room full s n j).2.2 = 0) : Gd room s (far lp room full s n j) (k + 2) := by
 unfold far at he ⊢
 refine bindM_gd (P := fun r => Gd room s r (k + 2)) he fun e1 he => ?_
 obtain ⟨r1, p1, l1, i1⟩ := half_gd hlp h hn rfl e1
 generalize half lp room full s n j = R1 at *
 refine bindM_gd (P := fun r => Gd room s r (k + 2)) he fun e2 he => ?_
 obtain ⟨r2, p2, l2, i2⟩ := four_gd r1 l1 i1 e2
 generalize mapS (fourP room R1.2.1) R1.1 fourE = R2 at *
 refine bindM_gd (P := fun r => Gd room s r (k + 2)) he fun e3 he => ?_
 obtain ⟨r3, p3, l3, i3⟩ := last_gd hlp (j := if full = true then j - 1 else j) r2 i2 e3
 generalize mapS (lastF lp (if full = true then j - 1 else j)) R2.1 R2.2.1 = R3 at *
 have g := putS_gd r3 (i3 _ (g_mem (i := 0) (by omega) (by rw [l3, l2]; omega))) he
 exact ⟨g.lk, ((p1.trans p2).trans p3).trans g.pre, g.is⟩
theorem keep_gd {room : Int} {s : LS} {n j : Int} {r : L9} {lv : Nat} (hn : IsN s.ns (lv + 2) n) (he : (keep n j r).2.2 = 0) (h : r.2.2 = 0 → Gd room s r (lv + 1)) : Gd room s (keep n j r) (lv + 1) := by
 unfold keep at he ⊢
 by_cases e : r.2.2 = 0
 case neg => rw [if_pos e] at he; exact absurd he e
 rw [if_neg (by simpa using e)]
 obtain ⟨a, b, c⟩ := h e
 refine ⟨⟨a.right, fun p hp => ?_⟩, b, c⟩
 rcases List.mem_append.1 hp with hp | hp
 ·exact a.mem p hp
 ·rw [List.mem_singleton.1 hp]
  exact ⟨lv, hn.pre b, c⟩
theorem leap_found {room : Int} {s : LS} (h : Lk room s) {lv : Nat} {n j to : Int} (hn : IsN s.ns (lv + 2) n) (hl : look9 s.mm n j = some to) : IsN s.ns (lv + 1) to := by
 obtain ⟨lv', a, b⟩ := h.mem _ (look9_mem hl)
 have e : lv' = lv := by
  have h1 := a.2
  have h2 := hn.2
  simp only at h1
  omega
 rw [← e]; exact b
theorem leap_gd {room : Int} : ∀ (k : Nat) (s : LS) (n j : Int), Lk room s → IsN s.ns (k + 2) n → (leap room k s n j).2.2 = 0 → Gd room s (leap room k s n j) (k + 1)
 | 0, s, n, j, h, hn, he => by
  unfold leap at he ⊢
  cases hl : look9 s.mm n j with
  | some to => exact ⟨h, List.prefix_refl _, leap_found h hn hl⟩
  | none =>
   rw [hl] at he
   exact keep_gd hn he fun e => oneS_gd h e
 | k + 1, s, n, j, h, hn, he => by
  unfold leap at he ⊢
  cases hl : look9 s.mm n j with
  | some to => exact ⟨h, List.prefix_refl _, leap_found h hn hl⟩
  | none =>
   rw [hl] at he
   exact keep_gd hn he fun e => far_gd (fun s q j hs hq he => leap_gd k s q j hs hq he) h hn e
/-! #### what is new of what was leapt -/
/-- What came to be kept is of nodes of the levels to K + 2. -/
def New (K : Nat) (mm mm' : Memo) (ns' : List Node) : Prop := ∃ add, mm' = mm ++ add ∧ ∀ p ∈ add, ∃ lv, lv ≤ K ∧ IsN ns' (lv + 2) p.1
theorem New.refl (K : Nat) (mm : Memo) (ns' : List Node) : New K mm mm ns' := ⟨[], by simp, by simp⟩
theorem New.trans {K : Nat} {a b c : Memo} {ns ms : List Node} (h : New K a b ns) (hp : ns <+: ms) (k : New K b c ms) : New K a c ms := by
 obtain ⟨x, rfl, hx⟩ := h
 obtain ⟨y, rfl, hy⟩ := k
 refine ⟨x ++ y, by rw [List.append_assoc], fun p hm => ?_⟩
 rcases List.mem_append.1 hm with hm | hm
 ·obtain ⟨lv, h1, h2⟩ := hx p hm
  exact ⟨lv, h1, h2.pre hp⟩
 ·exact hy p hm
theorem look9_app : ∀ {mm add : Memo} {n j : Int}, (∀ p ∈ add, p.1 ≠ n) → look9 (mm ++ add) n j = look9 mm n j
 | [], [], n, j, _ => rfl
 | [], p :: add, n, j, h => by
  have h1 := h p List.mem_cons_self
  have ih := look9_app (mm := []) (n := n) (j := j) fun q hq => h q (List.mem_cons_of_mem _ hq)
  simp only [List.nil_append] at ih ⊢
  unfold look9
  rw [if_neg (fun e => h1 e.1), ih]
  rfl
 | p :: mm, add, n, j, h => by
  simp only [List.cons_append]
  unfold look9
  split
  ·rfl
  ·exact look9_app h
theorem New.look {K : Nat} {mm mm' : Memo} {ns' : List Node} (h : New K mm mm' ns') {lv : Nat} {n j : Int} (hn : IsN ns' (lv + 2) n) (hlv : K < lv) (hl : look9 mm n j = none) : look9 mm' n j = none := by
 obtain ⟨add, rfl, ha⟩ := h
 rw [look9_app, hl]
 rintro p hp rfl
 obtain ⟨lv', h1, h2⟩ := ha p hp
 have e1 := h2.2
 have e2 := hn.2
 omega
theorem mapS_new {room : Int} {f : LS → Int → L9} {C : List Node → Int → Prop} {lv K : Nat} (hC : ∀ ns ms q, ns <+: ms → C ns q → C ms q) (hf : ∀ s q, Lk room s → C s.ns q → (f s q).2.2 = 0 → Gd room s (f s q) lv ∧ New K s.mm (f s q).1.mm (f s q).1.ns) : ∀ (qs : List Int) (s : LS), Lk room s → (∀ q ∈ qs, C s.ns q) → (mapS f s qs).2.2 = 0 → New K s.mm (mapS f s qs).1.mm (mapS f s qs).1.ns
 | [], s, h, _, _ => New.refl _ _ _
 | q :: qs, s, h, hq, he => by
  unfold mapS at he ⊢
  by_cases h0 : (f s q).2.2 = 0
  ·rw [if_neg (by simpa using h0)] at he ⊢
   obtain ⟨g, hn⟩ := hf s q h (hq q List.mem_cons_self) h0
   have hq' := fun x hx => hC _ _ _ g.pre (hq x (List.mem_cons_of_mem _ hx))
   have m := mapS_gd hC (fun s q a b c => (hf s q a b c).1) qs (f s q).1 g.lk hq' he
   exact hn.trans m.2.1 (mapS_new hC hf qs (f s q).1 g.lk hq' he)
  ·rw [if_pos h0] at he
   exact absurd he h0
theorem far_new {room : Int} {k : Nat} {lp : LS → Int → Int → L9} (hlp : ∀ s q j, Lk room s → IsN s.ns (k + 2) q → (lp s q j).2.2 = 0 → Gd room s (lp s q j) (k + 1)) (hln : ∀ s q j, Lk room s → IsN s.ns (k + 2) q → (lp s q j).2.2 = 0 → New k s.mm (lp s q j).1.mm (lp s q j).1.ns)
  {full : Bool} {s : LS} {n j : Int} (h : Lk room s) (hn : IsN s.ns (k + 3) n) (he : (far lp room full s n j).2.2 = 0) : New k s.mm (far lp room full s n j).1.mm (far lp room full s n j).1.ns := by
 unfold far at he ⊢
 refine bindM_gd (P := fun r => New k s.mm r.1.mm r.1.ns) he fun e1 he => ?_
 obtain ⟨r1, p1, l1, i1⟩ := half_gd hlp h hn rfl e1
 have n1 : New k s.mm (half lp room full s n j).1.mm (half lp room full s n j).1.ns := by
  unfold half at e1 ⊢
  by_cases e0 : (R8.all s.ns room n).2.2 = 0
  case neg => rw [if_pos e0] at e1; exact absurd e1 e0
  rw [if_neg (by simpa using e0)] at e1 ⊢
  obtain ⟨r0, p0, l0, i0⟩ := all_gd h.right hn e0
  exact mapS_new (room := room) (f := halfF lp room full j) (C := fun ns q => IsN ns (k + 2) q) (lv := k + 1) isN_mono (fun s q hs hq he => by
   unfold halfF at he ⊢
   cases full
   ·exact ⟨midS_gd hs hq he, New.refl _ _ _⟩
   ·exact ⟨hlp s q (j - 1) hs hq he, hln s q (j - 1) hs hq he⟩) (R8.all s.ns room n).2.1 ⟨(R8.all s.ns room n).1, s.mm⟩ ⟨r0, h.mem.pre p0⟩ i0 e1
 generalize half lp room full s n j = R1 at *
 refine bindM_gd (P := fun r => New k s.mm r.1.mm r.1.ns) he fun e2 he => ?_
 obtain ⟨r2, p2, l2, i2⟩ := four_gd r1 l1 i1 e2
 have n2 : New k R1.1.mm (mapS (fourP room R1.2.1) R1.1 fourE).1.mm (mapS (fourP room R1.2.1) R1.1 fourE).1.ns :=
  mapS_new (room := room) (f := fourP room R1.2.1) (C := fun ns k' => IsN ns (k + 1) (R8.g R1.2.1 k')) (lv := k + 2) (fun _ _ _ hp hq => hq.pre hp) (fun s q hs hq he => ⟨putS_gd hs hq he, New.refl _ _ _⟩) fourE R1.1 r1 (fun q hq => by
   simp only [fourE, List.mem_cons, List.not_mem_nil, or_false] at hq
   exact i1 _ (g_mem (by omega) (by rw [l1]; omega))) e2
 generalize mapS (fourP room R1.2.1) R1.1 fourE = R2 at *
 refine bindM_gd (P := fun r => New k s.mm r.1.mm r.1.ns) he fun e3 he => ?_
 obtain ⟨r3, p3, l3, i3⟩ := last_gd hlp (j := if full = true then j - 1 else j) r2 i2 e3
 have n3 : New k R2.1.mm (mapS (lastF lp (if full = true then j - 1 else j)) R2.1 R2.2.1).1.mm (mapS (lastF lp (if full = true then j - 1 else j)) R2.1 R2.2.1).1.ns :=
  mapS_new (room := room) (f := lastF lp (if full = true then j - 1 else j)) (C := fun ns q => IsN ns (k + 2) q) (lv := k + 1) isN_mono (fun s q hs hq he => ⟨hlp s q _ hs hq he, hln s q _ hs hq he⟩) R2.2.1 R2.1 r2 i2 e3
 generalize mapS (lastF lp (if full = true then j - 1 else j)) R2.1 R2.2.1 = R3 at *
 have g := putS_gd r3 (i3 _ (g_mem (i := 0) (by omega) (by rw [l3, l2]; omega))) he
 exact ((n1.trans p2 n2).trans p3 n3).trans g.pre (New.refl _ _ _)
theorem leap_new {room : Int} : ∀ (k : Nat) (s : LS) (n j : Int), Lk room s → IsN s.ns (k + 2) n → (leap room k s n j).2.2 = 0 → New k s.mm (leap room k s n j).1.mm (leap room k s n j).1.ns
 | 0, s, n, j, h, hn, he => by
  unfold leap at he ⊢
  cases hl : look9 s.mm n j with
  | some to => exact New.refl _ _ _
  | none =>
   rw [hl] at he
   simp only at he ⊢
   unfold keep at he ⊢
   by_cases e : (oneS room s n).2.2 = 0
   case neg => rw [if_pos e] at he; exact absurd he e
   rw [if_neg (by simpa using e)]
   have g := oneS_gd h e
   exact ⟨[(n, j, (oneS room s n).2.1)], rfl, fun p hp => by rw [List.mem_singleton.1 hp]; exact ⟨0, Nat.le_refl _, hn.pre g.pre⟩⟩
 | k + 1, s, n, j, h, hn, he => by
  unfold leap at he ⊢
  cases hl : look9 s.mm n j with
  | some to => exact New.refl _ _ _
  | none =>
   rw [hl] at he
   simp only at he ⊢
   unfold keep at he ⊢
   by_cases e : (far (leap room k) room (decide (j = k + 1)) s n j).2.2 = 0
   case neg => rw [if_pos e] at he; exact absurd he e
   rw [if_neg (by simpa using e)]
   have g := far_gd (fun s q j hs hq he => leap_gd k s q j hs hq he) h hn e
   have nw := far_new (fun s q j hs hq he => leap_gd k s q j hs hq he) (fun s q j hs hq he => leap_new k s q j hs hq he) h hn e
   obtain ⟨add, e2, ha⟩ := nw
   refine ⟨add ++ [(n, j, (far (leap room k) room (decide (j = k + 1)) s n j).2.1)], by simp only; rw [e2, List.append_assoc], fun p hp => ?_⟩
   rcases List.mem_append.1 hp with hp | hp
   ·obtain ⟨lv, h1, h2⟩ := ha p hp
    exact ⟨lv, by omega, h2⟩
   ·rw [List.mem_singleton.1 hp]
    exact ⟨k + 1, Nat.le_refl _, hn.pre g.pre⟩
end R9
end Go.GL


set_option linter.unusedVariables false
namespace Go.GL
open R6 R7
namespace R9
/-! #### empty, grow -/
theorem emptyF_gd {room : Int} : ∀ (k : Nat) (ns : List Node) (n : Int) (j : Nat), R6.right ns room → IsN ns j n → (emptyF room k ns n).2.2 = 0 → R6.right (emptyF room k ns n).1 room ∧ ns <+: (emptyF room k ns n).1 ∧ IsN (emptyF room k ns n).1 (j + k) (emptyF room k ns n).2.1
 | 0, ns, n, j, h, hn, _ => ⟨h, List.prefix_refl _, hn⟩
 | k + 1, ns, n, j, h, hn, he => by
  unfold emptyF at he ⊢
  by_cases e : (put ns room n n n n).2.2 = 0
  case neg => rw [if_pos e] at he; exact absurd he e
  rw [if_neg (by simpa using e)] at he ⊢
  obtain ⟨a, b⟩ := right_put h n n n n
  have c := put_gd (right_iff.1 h).2 hn e
  obtain ⟨d, f, g⟩ := emptyF_gd k _ _ (j + 1) a c he
  exact ⟨d, b.trans f, by rw [show j + (k + 1) = j + 1 + k by omega]; exact g⟩
theorem empty_gd {room : Int} {ns : List Node} (h : R6.right ns room) {lv : Nat} (he : (R7.empty ns room lv).2.2 = 0) : R6.right (R7.empty ns room lv).1 room ∧ ns <+: (R7.empty ns room lv).1 ∧ IsN (R7.empty ns room lv).1 lv (R7.empty ns room lv).2.1 := by
 have hw := (right_iff.1 h).2
 have := emptyF_gd lv ns 0 0 h ⟨hw.in0, by rw [hw.nd0]; rfl⟩ he
 rw [Nat.zero_add] at this
 exact this
def growF (room d : Int) (ks : List Int) : LS → Int → L9 := fun s k => putS room s (bigK d k.toNat (ks.getD k.toNat default) 0) (bigK d k.toNat (ks.getD k.toNat default) 1) (bigK d k.toNat (ks.getD k.toNat default) 2) (bigK d k.toNat (ks.getD k.toNat default) 3)
def k4 : List Int := [0, 1, 2, 3]
theorem grow_eq (room : Int) (s : LS) (n : Int) : grow room s n = if 42 ≤ (nd s.ns n).lv then (s, 0, 2) else if (R7.empty s.ns room ((nd s.ns n).lv - 1).toNat).2.2 ≠ 0 then (s, 0, (R7.empty s.ns room ((nd s.ns n).lv - 1).toNat).2.2) else
  bindM (mapS (growF room (R7.empty s.ns room ((nd s.ns n).lv - 1).toNat).2.1 (nd s.ns n).kids) ⟨(R7.empty s.ns room ((nd s.ns n).lv - 1).toNat).1, s.mm⟩ k4) (put4 room) := rfl
theorem bigK_isN {ns : List Node} {lv : Nat} {d kid : Int} (hd : IsN ns lv d) (hk : IsN ns lv kid) (k i : Nat) : IsN ns lv (bigK d k kid i) := by
 unfold bigK; split
 ·exact hk
 ·exact hd
theorem kids_getD {ns : List Node} (h : Wf ns) {lv : Nat} {n : Int} (hn : IsN ns (lv + 1) n) {k : Nat} (hk : k < 4) : IsN ns lv ((nd ns n).kids.getD k default) := by
 obtain ⟨a, b, c, d⟩ := kids4 h hn
 match k, hk with
 | 0, _ => exact a
 | 1, _ => exact b
 | 2, _ => exact c
 | 3, _ => exact d
theorem growF_gd {room : Int} {lv : Nat} {d : Int} {ks : List Int} {s : LS} {k : Int} (h : Lk room s) (hk : IsN s.ns lv d ∧ IsN s.ns lv (ks.getD k.toNat default)) (he : (growF room d ks s k).2.2 = 0) : Gd room s (growF room d ks s k) (lv + 1) :=
 putS_gd h (bigK_isN hk.1 hk.2 _ _) he
theorem growM_gd {room : Int} {lv : Nat} {d : Int} {ks : List Int} {s : LS} (h : Lk room s) (hd : IsN s.ns lv d) (hk : ∀ k : Nat, k < 4 → IsN s.ns lv (ks.getD k default)) (he : (mapS (growF room d ks) s k4).2.2 = 0) :
  Lk room (mapS (growF room d ks) s k4).1 ∧ s.ns <+: (mapS (growF room d ks) s k4).1.ns ∧ (mapS (growF room d ks) s k4).2.1.length = 4 ∧ ∀ q ∈ (mapS (growF room d ks) s k4).2.1, IsN (mapS (growF room d ks) s k4).1.ns (lv + 1) q :=
 mapS_gd (room := room) (f := growF room d ks) (C := fun ns k => IsN ns lv d ∧ IsN ns lv (ks.getD k.toNat default)) (lv := lv + 1) (fun _ _ _ hp hq => ⟨hq.1.pre hp, hq.2.pre hp⟩) (fun s q hs hq he => growF_gd hs hq he) k4 s h (fun q hq => by
  simp only [k4, List.mem_cons, List.not_mem_nil, or_false] at hq
  exact ⟨hd, hk q.toNat (by omega)⟩) he
theorem grow_gd {room : Int} {s : LS} (h : Lk room s) {k : Nat} {n : Int} (hn : IsN s.ns (k + 2) n) (he : (grow room s n).2.2 = 0) : Gd room s (grow room s n) (k + 3) := by
 have hlv : (nd s.ns n).lv = k + 2 := by rw [hn.2]; omega
 rw [grow_eq] at he ⊢
 rw [show ((nd s.ns n).lv - 1).toNat = k + 1 by omega] at he ⊢
 by_cases e0 : 42 ≤ (nd s.ns n).lv
 ·rw [if_pos e0] at he; cases he
 rw [if_neg e0] at he ⊢
 by_cases e1 : (R7.empty s.ns room (k + 1)).2.2 = 0
 case neg => rw [if_pos e1] at he; exact absurd he e1
 rw [if_neg (by simpa using e1)] at he ⊢
 obtain ⟨r1, p1, i1⟩ := empty_gd h.right e1
 have l1 : Lk room (⟨(R7.empty s.ns room (k + 1)).1, s.mm⟩ : LS) := ⟨r1, h.mem.pre p1⟩
 refine bindM_gd (P := fun r => Gd room s r (k + 3)) he fun e2 he => ?_
 obtain ⟨l2, p2, n2, i2⟩ := growM_gd l1 i1 (fun q hq => (kids_getD h.wf hn hq).pre p1) e2
 have g := putS_gd l2 (i2 _ (g_mem (i := 0) (by omega) (by rw [n2]; omega))) he
 exact ⟨g.lk, (p1.trans p2).trans g.pre, g.is⟩
/-! #### trim, power, run -/
/-- As Gd, of some level from 2 on. -/
structure Ge (room : Int) (s : LS) (r : L9) : Prop where
 lk : Lk room r.1
 pre : s.ns <+: r.1.ns
 is : ∃ k : Nat, IsN r.1.ns (k + 2) r.2.1
theorem Ge.trans {room : Int} {s t : LS} {r : L9} (h : Ge room t r) (hp : s.ns <+: t.ns) : Ge room s r := ⟨h.lk, hp.trans h.pre, h.is⟩
theorem trim_ge {room : Int} : ∀ (k : Nat) (s : LS) (n : Int), Lk room s → IsN s.ns (k + 2) n → (trim room k s n).2.2 = 0 → Ge room s (trim room k s n)
 | 0, s, n, h, hn, _ => ⟨h, List.prefix_refl _, 0, hn⟩
 | k + 1, s, n, h, hn, he => by
  unfold trim at he ⊢
  by_cases e : edged s.ns n = true
  ·rw [if_pos e]; exact ⟨h, List.prefix_refl _, k + 1, hn⟩
  rw [if_neg e] at he ⊢
  by_cases e1 : (midS room s n).2.2 = 0
  case neg => rw [if_pos e1] at he; exact absurd he e1
  rw [if_neg (by simpa using e1)] at he ⊢
  have g := midS_gd (lv := k + 1) h hn e1
  exact (trim_ge k _ _ g.lk g.is he).trans g.pre
theorem lvS_is {s : LS} {k : Nat} {n : Int} (hn : IsN s.ns (k + 2) n) : lvS s n = k := by
 unfold lvS; rw [hn.2]; omega
theorem bindS_err {r : L9} {f : LS → Int → L9} (h : r.2.2 ≠ 0) : bindS r f = (r.1, 0, r.2.2) := if_pos h
theorem bindS_ok {r : L9} {f : LS → Int → L9} (h : r.2.2 = 0) : bindS r f = f r.1 r.2.1 := if_neg (by simpa using h)
theorem bindS_assoc (r : L9) (f g : LS → Int → L9) : bindS (bindS r f) g = bindS r fun s n => bindS (f s n) g := by
 by_cases e : r.2.2 = 0
 ·rw [bindS_ok e, bindS_ok e]
 ·rw [bindS_err e, bindS_err e]
  exact if_pos e
/-- The loop of power: grown i times. -/
def more (room : Int) (j : Int) : Nat → LS → Int → L9
 | 0, s, n => bindS (bindS (grow room s n) (grow room)) (growTo room j 64)
 | 1, s, n => bindS (grow room s n) (growTo room j 64)
 | i + 2, s, n => growTo room j (64 - i) s n
theorem more_step {room j : Int} {i : Nat} {s : LS} {n : Int} (hi : i < 60) (h : i < 2 ∨ (nd s.ns n).lv < j + 3) : more room j i s n = bindS (grow room s n) (more room j (i + 1)) := by
 match i, hi, h with
 | 0, _, _ => exact bindS_assoc _ _ _
 | 1, _, _ => rfl
 | i + 2, hi, h =>
  show growTo room j (64 - i) s n = bindS (grow room s n) (more room j (i + 1 + 2))
  obtain ⟨f, hf⟩ : ∃ f, 64 - i = f + 1 := ⟨63 - i, by omega⟩
  have e : more room j (i + 1 + 2) = growTo room j f := by
   show growTo room j (64 - (i + 1)) = _
   rw [show 64 - (i + 1) = f by omega]
  rw [hf, e]
  exact if_pos (by omega)
theorem more_stop {room j : Int} {i : Nat} {s : LS} {n : Int} (hi : i < 60) (h : ¬ (i < 2 ∨ (nd s.ns n).lv < j + 3)) : more room j i s n = (s, n, 0) := by
 match i, hi, h with
 | 0, _, h => exact absurd (Or.inl (by omega)) h
 | 1, _, h => exact absurd (Or.inl (by omega)) h
 | i + 2, hi, h =>
  show growTo room j (64 - i) s n = _
  obtain ⟨f, hf⟩ : ∃ f, 64 - i = f + 1 := ⟨63 - i, by omega⟩
  rw [hf]
  exact if_neg (by omega)
/-- As Ge, of some level from k + 2 on. -/
def Gk (room : Int) (s : LS) (r : L9) (k : Nat) : Prop := Lk room r.1 ∧ s.ns <+: r.1.ns ∧ ∃ k' : Nat, k ≤ k' ∧ IsN r.1.ns (k' + 2) r.2.1
theorem bindS_gk {room : Int} {s : LS} {r : L9} {f : LS → Int → L9} {k k2 : Nat} (he : (bindS r f).2.2 = 0) (h : r.2.2 = 0 → Gk room s r k) (hf : ∀ (t : LS) (m : Int) (k' : Nat), k ≤ k' → Lk room t → s.ns <+: t.ns → IsN t.ns (k' + 2) m → (f t m).2.2 = 0 → Gk room t (f t m) k2) : Gk room s (bindS r f) k2 := by
 by_cases e : r.2.2 = 0
 ·rw [bindS_ok e] at he ⊢
  obtain ⟨lk, hp, k', hk, hi⟩ := h e
  obtain ⟨a, b, c⟩ := hf _ _ k' hk lk hp hi he
  exact ⟨a, hp.trans b, c⟩
 ·rw [bindS_err e] at he; exact absurd he e
theorem grow_gk {room : Int} {s : LS} (h : Lk room s) {k : Nat} {n : Int} (hn : IsN s.ns (k + 2) n) (he : (grow room s n).2.2 = 0) : Gk room s (grow room s n) (k + 1) := by
 have g := grow_gd h hn he
 exact ⟨g.lk, g.pre, k + 1, by omega, g.is⟩
theorem Gk.le {room : Int} {s : LS} {r : L9} {k k2 : Nat} (h : Gk room s r k) (hk : k2 ≤ k) : Gk room s r k2 := by
 obtain ⟨a, b, k', c, d⟩ := h
 exact ⟨a, b, k', by omega, d⟩
theorem growTo_gk {room j : Int} : ∀ (f : Nat) (s : LS) (n : Int) (k : Nat), Lk room s → IsN s.ns (k + 2) n → (growTo room j f s n).2.2 = 0 → Gk room s (growTo room j f s n) k
 | 0, s, n, k, h, hn, _ => ⟨h, List.prefix_refl _, k, by omega, hn⟩
 | f + 1, s, n, k, h, hn, he => by
  unfold growTo at he ⊢
  split at he
  ·rename_i hl
   rw [if_pos hl]
   exact bindS_gk (k := k + 1) he (fun e => grow_gk h hn e) fun t m k' hk ht _ hm e => (growTo_gk f t m k' ht hm e).le (by omega)
  ·rename_i hl
   rw [if_neg hl]
   exact ⟨h, List.prefix_refl _, k, by omega, hn⟩
theorem power_eq (room : Int) (s : LS) (n j : Int) : power room s n j = bindS (bindS (trimS room s n) (more room j 0)) fun s m => leap room (lvS s m) s m j := by
 unfold power
 rw [bindS_assoc (bindS (trimS room s n) (grow room)) (grow room) (growTo room j 64), bindS_assoc (trimS room s n) (grow room)]
 congr 1
 congr 1
 funext s n
 exact (bindS_assoc _ _ _).symm
theorem trimS_ge {room : Int} {s : LS} {k : Nat} {n : Int} (h : Lk room s) (hn : IsN s.ns (k + 2) n) (he : (trimS room s n).2.2 = 0) : Ge room s (trimS room s n) := by
 unfold trimS at he ⊢
 rw [lvS_is hn] at he ⊢
 exact trim_ge k s n h hn he
theorem more_gk {room j : Int} {s : LS} {k : Nat} {n : Int} (h : Lk room s) (hn : IsN s.ns (k + 2) n) (he : (more room j 0 s n).2.2 = 0) : Gk room s (more room j 0 s n) (k + 2) :=
 bindS_gk (k := k + 2) he (fun e => bindS_gk (k := k + 1) e (fun e => grow_gk h hn e) fun t m k' hk ht _ hm e => (grow_gk ht hm e).le (by omega)) fun t m k' hk ht _ hm e => (growTo_gk 64 t m k' ht hm e).le (by omega)
theorem power_ge {room j : Int} {s : LS} {k : Nat} {n : Int} (h : Lk room s) (hn : IsN s.ns (k + 2) n) (he : (power room s n j).2.2 = 0) : Ge room s (power room s n j) := by
 rw [power_eq] at he ⊢
 have e1 : (bindS (trimS room s n) (more room j 0)).2.2 = 0 := Decidable.byContradiction fun e => by rw [bindS_err e] at he; exact e he
 rw [bindS_ok e1] at he ⊢
 have g1 : Gk room s (bindS (trimS room s n) (more room j 0)) 2 := bindS_gk (k := 0) e1 (fun e => by
  obtain ⟨a, b, k', c⟩ := trimS_ge h hn e
  exact ⟨a, b, k', by omega, c⟩) fun t m k' _ ht _ hm e => (more_gk ht hm e).le (by omega)
 obtain ⟨a, b, k', hk', c⟩ := g1
 rw [lvS_is c] at he ⊢
 have g2 := leap_gd k' _ _ j a c he
 obtain ⟨k2, rfl⟩ : ∃ k2, k' = k2 + 1 := ⟨k' - 1, by omega⟩
 exact ⟨g2.lk, b.trans g2.pre, k2, g2.is⟩
end R9
end Go.GL


set_option linter.unusedVariables false
namespace Go.GL
open R6 R7
namespace R9
/-! #### how many things are kept -/
theorem nodup_len : ∀ (N : Nat) (l : List Nat), l.Nodup → (∀ x ∈ l, x < N) → l.length ≤ N
 | 0, l, _, hb => by
  cases l with
  | nil => exact Nat.le_refl _
  | cons x l => exact absurd (hb x List.mem_cons_self) (by omega)
 | N + 1, l, hn, hb => by
  have h1 := nodup_len N (l.erase N) (hn.erase N) fun x hx => by
   have := (hn.mem_erase_iff).1 hx
   have h2 := hb x this.2
   have h3 := this.1
   omega
  by_cases hm : N ∈ l
  ·have := List.length_erase_of_mem hm
   omega
  ·rw [List.erase_of_not_mem hm] at h1
   omega
/-- No two things that are kept are of the same node and exponent. -/
def Kn (mm : Memo) : Prop := (mm.map fun p => (p.1, p.2.1)).Nodup ∧ ∀ p ∈ mm, 0 ≤ p.2.1 ∧ p.2.1 ≤ 1000000
theorem nodup_map {α β γ : Type} (f : α → β) (g : β → γ) (P : β → Prop) (hg : ∀ a b, P a → P b → g a = g b → a = b) : ∀ l : List α, (∀ x ∈ l, P (f x)) → (l.map f).Nodup → (l.map fun x => g (f x)).Nodup
 | [], _, _ => List.nodup_nil
 | x :: l, hp, hn => by
  simp only [List.map_cons, List.nodup_cons] at hn ⊢
  refine ⟨fun hm => hn.1 ?_, nodup_map f g P hg l (fun y hy => hp y (List.mem_cons_of_mem _ hy)) hn.2⟩
  obtain ⟨y, hy, e⟩ := List.mem_map.1 hm
  rw [← hg _ _ (hp y (List.mem_cons_of_mem _ hy)) (hp x List.mem_cons_self) e]
  exact List.mem_map_of_mem hy
theorem Kn.len {ns : List Node} {mm : Memo} (hm : MemOk ns mm) (hk : Kn mm) (h : ns.length ≤ 100000) : mm.length ≤ 1000000000000 := by
 have h1 := nodup_map (fun p : Int × Int × Int => (p.1, p.2.1)) (fun q : Int × Int => q.1.toNat * 1000001 + q.2.toNat) (fun q => 0 ≤ q.1 ∧ 0 ≤ q.2 ∧ q.2 ≤ 1000000) (fun a b ha hb e => by
  obtain ⟨a1, a2⟩ := a
  obtain ⟨b1, b2⟩ := b
  simp only at ha hb e
  have e1 : a1 = b1 := by omega
  have e2 : a2 = b2 := by omega
  rw [e1, e2]) mm (fun p hp => by
   obtain ⟨lv, a, b⟩ := hm p hp
   exact ⟨a.1.1, hk.2 p hp⟩) hk.1
 have h2 := nodup_len 1000000000000 _ h1 fun x hx => by
  obtain ⟨p, hp, rfl⟩ := List.mem_map.1 hx
  obtain ⟨lv, a, b⟩ := hm p hp
  have h3 := a.1.2
  have h4 := hk.2 p hp
  simp only
  omega
 rw [List.length_map] at h2
 exact h2
theorem look9_none : ∀ {mm : Memo} {n j : Int}, look9 mm n j = none → ∀ p ∈ mm, (p.1, p.2.1) ≠ (n, j)
 | p :: mm, n, j, h, q, hq, e => by
  unfold look9 at h
  split at h
  ·cases h
  ·rename_i h1
   rcases List.mem_cons.1 hq with rfl | hq
   ·exact h1 (by simpa using e)
   ·exact look9_none h q hq e
theorem Kn.snoc {mm : Memo} (h : Kn mm) {n j to : Int} (hl : look9 mm n j = none) (hj : 0 ≤ j ∧ j ≤ 1000000) : Kn (mm ++ [(n, j, to)]) := by
 constructor
 ·rw [List.map_append, List.nodup_append]
  refine ⟨h.1, by simp, fun a ha b hb e => ?_⟩
  obtain ⟨p, hp, rfl⟩ := List.mem_map.1 ha
  simp only [List.map_cons, List.map_nil, List.mem_singleton] at hb
  exact look9_none hl p hp (e.trans hb)
 ·intro p hp
  rcases List.mem_append.1 hp with hp | hp
  ·exact h.2 p hp
  ·rw [List.mem_singleton.1 hp]; exact hj
theorem Kn.nil : Kn [] := ⟨List.nodup_nil, fun p hp => by cases hp⟩
end R9
end Go.GL


set_option linter.unusedVariables false
namespace Go.GL
/-! ### What the laws of chapter 9 make of raw numbers -/
namespace RL
def fcell (v : Int) (r : Cell) : Cell := ⟨pk r.x (2 * R7.side v) - R7.side v, pk r.y (2 * R7.side v) - R7.side v⟩
def fset (v : Int) (raw : List Cell) : List Cell := R1.puts ((raw.take 30).map (fcell v))
def putN (rm : Int) (ns : List Node) (r : Five) : List Node := (R6.intern ns rm (pk r.r0 2) (pk r.r1 2) (pk r.r2 2) (pk r.r3 2)).1
def fstore (rm : Int) (nodes : List Five) : List Node := (nodes.take 10).foldl (putN rm) [R6.n0, R6.n1]
def fv (level : Int) : Int := 3 + pk level 3
def field (c : Int) (nodes : List Five) (raw : List Cell) (level : Int) : List Node × Int × Int := R7.make (fstore (room c) nodes) (room c + 600) (fset (fv level) raw) (fv level)
theorem fv_bd (level : Int) : 3 ≤ fv level ∧ fv level ≤ 5 := by
 have := pk_bd (c := level) (n := 3) (by omega)
 unfold fv; omega
theorem putN_good {rm : Int} (h2 : 2 ≤ rm) (h3 : rm ≤ 100000) {ns : List Node} (h : R6.Good ns rm) (r : Five) : R6.Good (putN rm ns r) rm := by
 unfold putN R6.intern
 split
 ·exact h.put _ _ _ _
 ·exact h
theorem store0_good9 {rm : Int} (h2 : 2 ≤ rm) (h3 : rm ≤ 100000) : R6.Good [R6.n0, R6.n1] rm := ⟨by unfold R6.Mod; decide, by decide, by omega⟩
theorem foldN_good {rm : Int} (h2 : 2 ≤ rm) (h3 : rm ≤ 100000) : ∀ (l : List Five) (ns : List Node), R6.Good ns rm → R6.Good (l.foldl (putN rm) ns) rm
 | [], ns, h => h
 | r :: l, ns, h => foldN_good h2 h3 l _ (putN_good h2 h3 h r)
theorem new_room9 (c : Int) : R6.new (2 + pk c 60) = ([R6.n0, R6.n1], room c) := by
 have := room_bd c
 unfold room at this
 exact if_neg (by omega)
end RL
theorem R6.Mod.rng9 {ns : List Node} (h : R6.Mod ns) : R6.Rng ns := fun x hx => by have := h x hx; omega
namespace R9
end R9
end Go.GL


set_option linter.unusedVariables false
namespace Go.GL
open Go.Proofs
attribute [local irreducible] wpList Code.wp Exit.then Exit.inBlock Ends Tri TriH OpV OpG FnC epf wpAnyH
variable {A : List Asrt} {I : List Chunk}
set_option maxRecDepth 100000 in
theorem law09_pick {c n : Int} (h0 : -9223372036854775808 ≤ c) (h1 : c ≤ 9223372036854775807) (hn : 0 < n) : FnC Try.prog 14 [.int .i64 c, .int .i64 n].toArray A I (fun v A' I' => v = .int .i64 (pk c n) ∧ A = A' ∧ I = I') := by
 refine fn_enter2 Try.func14 rfl Try.ntmps14 rfl fun w0 => ?_
 refine tS (tR (tA rfl rfl (tN (tT (tS (tS (tR ?_)))))))
 refine tM rfl rfl ?_
 refine tri_v (opv_lss rfl rfl) rfl ?_
 refine tN (tT ?_)
 refine tri_cond_dec rfl (fun h => ?_) (fun h => ?_)
 ·refine tR (tM rfl rfl ?_)
  refine tU rfl rfl (by omega) (by omega) rfl ?_
  refine tri_v (opv_negE rfl (by omega) (by omega)) rfl ?_
  refine tA rfl rfl (tN (tT (tS (tR (tM rfl rfl (tM rfl rfl ?_))))))
  refine tri_v (opv_remE rfl rfl (by omega) (by omega)) rfl ?_
  refine tA rfl rfl (tN (tT (tri_ret ?_)))
  refine tri_end A Suf.h rfl (.cons (rv_tmp rfl) .nil) ⟨?_, rfl, rfl⟩
  rw [pk, if_pos h]; rfl
 ·refine tri_skip (tT (tS (tR (tM rfl rfl (tM rfl rfl ?_)))))
  refine tri_v (opv_remE rfl rfl (by omega) (by omega)) rfl ?_
  refine tA rfl rfl (tN (tT (tri_ret ?_)))
  refine tri_end A Suf.h rfl (.cons (rv_tmp rfl) .nil) ⟨?_, rfl, rfl⟩
  rw [pk, if_neg h]; rfl
set_option maxRecDepth 100000 in
theorem law09_field {nodes : List Five} {raw : List Cell} {a a2 : Option Addr} {cap cap2 : Nat} {c level : Int} (h0 : I64 c) (hs : SlAt I a nodes) (hf : RL.Fs nodes) (hs2 : SlAt I a2 raw) (hc : RL.Cs raw) (hl : I64 level) :
  FnC Try.prog 13 [.int .i64 c, .slice a nodes.length cap, .slice a2 raw.length cap2, .int .i64 level].toArray A I (fun v A' I' => ∃ a' cap', v = .tuple [storeV a' (RL.field c nodes raw level).1.length cap' (RL.room c + 600), .int .i64 (RL.field c nodes raw level).2.1].toArray ∧ StA I' a' cap' (RL.field c nodes raw level).1 ∧ A = A' ∧ I ⊆ I') := by
 have hrm := RL.room_bd c
 have hpk := pk_bd (c := level) (n := 3) (by decide)
 have hfv := RL.fv_bd level
 have hfd : RL.field c nodes raw level = R7.make (RL.fstore (RL.room c) nodes) (RL.room c + 600) (RL.fset (RL.fv level) raw) (RL.fv level) := rfl
 have hpc := pk_bd (c := c) (n := 60) (by decide)
 skip
 refine fn_enter4 Try.func13 rfl Try.ntmps13 rfl fun w0 => ?_
 refine tS (tR ?_)
 refine tri_g opg_alloc rfl ?_
 rintro _ _ _ ⟨b8, rfl, rfl, rfl⟩
 refine tA rfl rfl (tN (tT (tS (tR (tM rfl rfl ?_)))))
 refine tri_g (opg_call (xs := [_, _]) rfl (law09_pick hl.1 hl.2 (by decide))) rfl ?_
 rintro _ _ _ ⟨rfl, rfl, rfl⟩
 refine tU rfl rfl (by omega) (by omega) rfl ?_
 refine tA rfl rfl (tN (tT (tS (tR (tA rfl rfl (tN (tT ?_)))))))
 refine tS (tS (tR (tA rfl rfl (tN (tT ?_)))))
 rw [show (3 : Int) + pk level 3 = RL.fv level from rfl]
 generalize RL.fv level = v at *
 have hsd := R7.side_bd (lv := v) (by omega)
 have hsq : (2 : Int) ^ (v - 1).toNat = R7.side v := rfl
 refine tri_cut (fun F' A' J => ∃ (a1 : Option Addr) (c1 : Nat), F' = [(0, .int .i64 c), (1, .slice a nodes.length cap), (8, pt b8 0), (10, .int .i64 v), (11, .slice a1 (RL.fset v raw).length c1)] ∧ A' = Box b8 [.slice none 0 0, .int .i64 0] 26 :: A ∧ SlAt J a1 (RL.fset v raw) ∧ I ⊆ J) ?_ ?_
 ·refine tri_block ?_
  refine tri_sub (F' := [(0, .int .i64 c), (1, .slice a nodes.length cap), (2, .slice a2 raw.length cap2), (8, pt b8 0), (10, .int .i64 v), (11, .slice none 0 0), (12, .int .i64 (0 : Nat))]) ⟨rfl, rfl, rfl, rfl, rfl, rfl, rfl, trivial⟩ ?_
  refine loop_ind (G := Nat × Option Addr × Nat × List Chunk) (fun g => 30 - g.1) (fun g => g.1 ≤ raw.length ∧ g.1 ≤ 30 ∧ SlAt g.2.2.2 g.2.1 (R1.puts ((raw.take g.1).map (RL.fcell v))) ∧ I ⊆ g.2.2.2) (fun g => [(0, .int .i64 c), (1, .slice a nodes.length cap), (2, .slice a2 raw.length cap2), (8, pt b8 0), (10, .int .i64 v), (11, .slice g.2.1 (R1.puts ((raw.take g.1).map (RL.fcell v))).length g.2.2.1), (12, .int .i64 (g.1 : Nat))]) (fun _ => Box b8 [.slice none 0 0, .int .i64 0] 26 :: A) (fun g => g.2.2.2) ?_ (0, none, 0, I) ⟨by omega, by omega, SlAt.nil, fun _ h => h⟩
  rintro ⟨i, a1, cap1, I1⟩ ⟨hi, hi6, hs1, hI1⟩ K hK
  simp only at hi hi6 hs1 hI1 hK ⊢
  have hsm : SlAt I1 a2 raw := hs2.mono hI1
  have fin : i = raw.length ∨ i = 30 → RL.fset v raw = R1.puts ((raw.take i).map (RL.fcell v)) := by
   rintro (rfl | rfl)
   ·unfold RL.fset
    rw [List.take_length, List.take_of_length_le (by omega)]
   ·rfl
  skip
  refine tS (tS (tR (tM rfl rfl (tM rfl rfl ?_))))
  refine tri_v (opv_len rfl) rfl ?_
  refine tri_v (opv_lss rfl rfl) rfl ?_
  refine tM rfl rfl ?_
  refine tri_split rfl rfl (fun h => ?_) (fun h => ?_)
  ·refine tri_guard_run rfl rfl rfl (tM rfl rfl (tri_guard_run rfl rfl rfl ?_))
   refine tri_v (opv_lss rfl rfl) rfl ?_
   refine tri_v (opv_pick_t rfl rfl) rfl ?_
   refine tN (tT ?_)
   refine tri_cond_dec rfl (fun h2 => ?_) (fun h2 => ?_)
   ·refine tri_skip (tT (tS (tri_block (tS (tR (tM rfl rfl ?_))))))
    refine tri_v (opv_sub rfl rfl (w64 (by omega) (by omega))) rfl ?_
    refine tri_v (opv_shl1 rfl rfl (by omega) (by omega)) rfl ?_
    refine tA rfl rfl (tN (tT ?_))
    rw [hsq]
    have hlt : i < raw.length := by omega
    have hci := hc i hlt
    have hcx := hci.1
    have hcy := hci.2
    have px := pk_bd (c := (raw.getD i default).x) (n := 2 * R7.side v) (by omega)
    have py := pk_bd (c := (raw.getD i default).y) (n := 2 * R7.side v) (by omega)
    have hl1 := R1.puts_len ((raw.take i).map (RL.fcell v))
    rw [List.length_map, List.length_take] at hl1
    refine tri_draw [0, 1, 2, 3, 4, 5, 6, 7, 9, 11, 12, 13, 14, 15, 16, 17, 19, 8, 10, 18, 20, 21, 22, 23] rfl [] rfl mixed ?_
    refine th_take rfl rfl (by kernel_rfl)  (opv_move rfl) ?_
    refine th_take rfl rfl (by kernel_rfl)  (opv_move rfl) ?_
    refine th_take rfl rfl (by kernel_rfl)  (opv_move rfl) ?_
    refine th_take rfl rfl (by kernel_rfl)  (opv_indexAddrSN rfl rfl (by omega) (by assumption) rfl) ?_
    refine th_take rfl rfl (by kernel_rfl)  (opv_indexAddrE rfl (by assumption) (by omega) rfl (by decide) (by decide)) ?_
    refine th_take rfl rfl (by kernel_rfl)  (opv_loadE1 rfl (by assumption) rfl (by omega) rfl rfl) ?_
    refine th_take rfl rfl (by kernel_rfl)  (opv_move rfl) ?_
    refine th_take rfl rfl (by kernel_rfl)  (opv_mul rfl rfl (w64 (by omega) (by omega))) ?_
    refine th_take rfl rfl (by kernel_rfl)  (opv_move rfl) ?_
    refine th_take rfl rfl (by kernel_rfl)  (opv_move rfl) ?_
    refine th_take rfl rfl (by kernel_rfl)  (opv_move rfl) ?_
    refine th_take rfl rfl (by kernel_rfl)  (opv_indexAddrSN rfl rfl (by omega) (by assumption) rfl) ?_
    refine th_take rfl rfl (by kernel_rfl)  (opv_indexAddrE rfl (by assumption) (by omega) rfl (by decide) (by decide)) ?_
    refine th_take rfl rfl (by kernel_rfl)  (opv_loadE1 rfl (by assumption) rfl (by omega) rfl rfl) ?_
    refine th_take rfl rfl (by kernel_rfl)  (opv_move rfl) ?_
    refine th_take rfl rfl (by kernel_rfl)  (opv_mul rfl rfl (w64 (by omega) (by omega))) ?_
    refine th_take rfl rfl (by kernel_rfl)  (opv_move rfl) ?_
    refine th_one (by kernel_rfl) (step_m rfl rfl (opg_call (xs := [_, _]) rfl (law09_pick (c := (raw.getD i default).x) hcx.1 hcx.2 (by omega))) ?_)
    rintro _ _ _ ⟨rfl, rfl, rfl⟩
    refine ⟨Suf.h, (fun _ h => h), ?_⟩
    refine th_take rfl rfl (by kernel_rfl)  (opv_sub rfl rfl (w64 (by omega) (by omega))) ?_
    refine th_one (by kernel_rfl) (step_m rfl rfl (opg_call (xs := [_, _]) rfl (law09_pick (c := (raw.getD i default).y) hcy.1 hcy.2 (by omega))) ?_)
    rintro _ _ _ ⟨rfl, rfl, rfl⟩
    refine ⟨Suf.h, (fun _ h => h), ?_⟩
    refine th_take rfl rfl (by kernel_rfl)  (opv_sub rfl rfl (w64 (by omega) (by omega))) ?_
    refine th_take rfl rfl (by kernel_rfl)  (opv_buildS rfl rfl) ?_
    refine th_one (by kernel_rfl) (step_m rfl rfl (opg_call (xs := [_, _]) rfl (ref01_put (c := RL.fcell v (raw.getD i default)) hs1 (by omega))) ?_)
    rintro _ _ I2 ⟨a3, cap3, rfl, hs3, rfl, hI2⟩
    refine ⟨Suf.h, (by assumption), ?_⟩
    refine th_take rfl rfl (by kernel_rfl)  (opv_assign rfl) ?_
    refine th_done (by kernel_rfl) ?_
    refine tri_inBlock ?_
    refine tT (tR (tM rfl rfl ?_))
    refine tU rfl rfl (by omega) (by omega) rfl ?_
    refine tA rfl rfl (tN (tT ?_))
    have e : R1.puts ((raw.take (i + 1)).map (RL.fcell v)) = R1.put (R1.puts ((raw.take i).map (RL.fcell v))) (RL.fcell v (raw.getD i default)) := by
     rw [← R1.puts_snoc, List.take_succ_eq_append_getElem hlt, List.map_append, show raw.getD i default = raw[i] by simp [hlt]]; rfl
    refine tri_sub ?_ (hK (i + 1, a3, cap3, I2) ⟨by simp only; omega, by simp only; omega, by simp only [e]; exact hs3, fun _ h => hI2 (hI1 h)⟩ (by simp only; omega))
    simp only [e]
    exact ⟨rfl, rfl, rfl, rfl, rfl, rfl, rfl, trivial⟩
   ·refine tri_exit ?_
    refine tri_then_exit ?_
    refine tri_then_exit ?_
    refine tri_inBlock_hit rfl ?_
    rw [← fin (by omega)] at hs1
    refine tri_cutEnd _ ⟨a1, cap1, rfl, rfl, hs1, hI1⟩ ⟨rfl, rfl, rfl, rfl, ?_, trivial⟩
    rw [fin (by omega)]; rfl
  ·refine tri_guard_skip rfl rfl rfl rfl (tri_guard_skip rfl rfl rfl rfl ?_)
   refine tri_v (opv_pick_f rfl rfl) rfl ?_
   refine tN (tT ?_)
   refine tri_cond_false rfl ?_
   refine tri_exit ?_
   refine tri_then_exit ?_
   refine tri_then_exit ?_
   refine tri_inBlock_hit rfl ?_
   rw [← fin (by omega)] at hs1
   refine tri_cutEnd _ ⟨a1, cap1, rfl, rfl, hs1, hI1⟩ ⟨rfl, rfl, rfl, rfl, ?_, trivial⟩
   rw [fin (by omega)]; rfl
 rintro _ _ I1 ⟨a1, cap1, rfl, rfl, hset, hI1⟩
 skip
 refine tT (tS (tR (tM rfl rfl ?_)))
 have hsl : (RL.fset v raw).length ≤ 30 := by
  unfold RL.fset
  have h := R1.puts_len ((raw.take 30).map (RL.fcell v))
  rw [List.length_map, List.length_take] at h
  omega
 generalize hset' : RL.fset v raw = st at *
 skip
 refine tri_g (opg_call (xs := [_, _]) rfl (law09_pick h0.1 h0.2 (by decide))) rfl ?_
 rintro _ _ _ ⟨rfl, rfl, rfl⟩
 refine tU rfl rfl (by omega) (by omega) rfl ?_
 refine tri_g (opg_call (xs := [_]) rfl (ref06_new)) rfl ?_
 rintro _ _ I2 ⟨a3, cap3, rfl, hs3, rfl, hI2⟩
 rw [RL.new_room9] at hs3 ⊢
 refine tri_g opg_alloc rfl ?_
 rintro _ _ _ ⟨b14, rfl, rfl, rfl⟩
 refine tri_g (opg_store rfl rfl rfl rfl rfl rfl) rfl ?_
 rintro _ _ _ ⟨rfl, rfl⟩
 refine tN (tT (tS (tS (tR (tA rfl rfl (tN (tT ?_)))))))
 have hrmb : 2 + pk c 60 = RL.room c := rfl
 generalize RL.room c = rm at *
 refine tri_cut (fun F' A' J => ∃ (a4 : Option Addr) (c4 : Nat), F' = [(8, pt b8 0), (10, .int .i64 v), (11, .slice a1 st.length cap1), (14, pt b14 0)] ∧ A' = Box b14 [.slice a4 (RL.fstore rm nodes).length c4, .int .i64 rm] 26 :: Box b8 [.slice none 0 0, .int .i64 0] 26 :: A ∧ StA J a4 c4 (RL.fstore rm nodes) ∧ I2 ⊆ J) ?_ ?_
 ·refine tri_block ?_
  refine tri_sub (F' := [(1, .slice a nodes.length cap), (8, pt b8 0), (10, .int .i64 v), (11, .slice a1 st.length cap1), (14, pt b14 0), (15, .int .i64 (0 : Nat))]) ⟨rfl, rfl, rfl, rfl, rfl, rfl, trivial⟩ ?_
  refine loop_ind (G := Nat × Option Addr × Nat × List Chunk) (fun g => 10 - g.1) (fun g => g.1 ≤ nodes.length ∧ g.1 ≤ 10 ∧ StA g.2.2.2 g.2.1 g.2.2.1 ((nodes.take g.1).foldl (RL.putN rm) [R6.n0, R6.n1]) ∧ I2 ⊆ g.2.2.2) (fun g => [(1, .slice a nodes.length cap), (8, pt b8 0), (10, .int .i64 v), (11, .slice a1 st.length cap1), (14, pt b14 0), (15, .int .i64 (g.1 : Nat))]) (fun g => Box b14 [.slice g.2.1 ((nodes.take g.1).foldl (RL.putN rm) [R6.n0, R6.n1]).length g.2.2.1, .int .i64 rm] 26 :: Box b8 [.slice none 0 0, .int .i64 0] 26 :: A) (fun g => g.2.2.2) ?_ (0, a3, cap3, I2) ⟨by omega, by omega, hs3, fun _ h => h⟩
  rintro ⟨i, a4, cap4, I3⟩ ⟨hi, hi4, hs4, hI3⟩ K hK
  simp only at hi hi4 hs4 hI3 hK ⊢
  have hsm : SlAt I3 a nodes := (hs.mono hI1).mono (fun _ h => hI3 (hI2 h))
  have fin : i = nodes.length ∨ i = 10 → RL.fstore rm nodes = (nodes.take i).foldl (RL.putN rm) [R6.n0, R6.n1] := by
   rintro (rfl | rfl)
   ·unfold RL.fstore
    rw [List.take_length, List.take_of_length_le (by omega)]
   ·rfl
  have hg := RL.foldN_good (rm := rm) (by omega) (by omega) (nodes.take i) _ (RL.store0_good9 (by omega) (by omega))
  have e : ∀ h : i < nodes.length, (nodes.take (i + 1)).foldl (RL.putN rm) [R6.n0, R6.n1] = RL.putN rm ((nodes.take i).foldl (RL.putN rm) [R6.n0, R6.n1]) (nodes.getD i default) := fun h => by
   rw [List.take_succ_eq_append_getElem h, List.foldl_append, show nodes.getD i default = nodes[i] by simp [h]]; rfl
  generalize hns : (nodes.take i).foldl (RL.putN rm) [R6.n0, R6.n1] = ns at *
  skip
  refine tS (tS (tR (tM rfl rfl (tM rfl rfl ?_))))
  refine tri_v (opv_len rfl) rfl ?_
  refine tri_v (opv_lss rfl rfl) rfl ?_
  refine tM rfl rfl ?_
  refine tri_split rfl rfl (fun h => ?_) (fun h => ?_)
  ·refine tri_guard_run rfl rfl rfl (tM rfl rfl (tri_guard_run rfl rfl rfl ?_))
   refine tri_v (opv_lss rfl rfl) rfl ?_
   refine tri_v (opv_pick_t rfl rfl) rfl ?_
   refine tN (tT ?_)
   refine tri_cond_dec rfl (fun h2 => ?_) (fun h2 => ?_)
   ·have hlt : i < nodes.length := by omega
    have hfi := hf i hlt
    have es := e hlt
    refine tri_skip (tT (tS (tri_block ?_)))
    refine tri_cut (fun F' A' J => ∃ (a5 : Option Addr) (c5 : Nat), F' = [(1, .slice a nodes.length cap), (8, pt b8 0), (10, .int .i64 v), (11, .slice a1 st.length cap1), (14, pt b14 0), (15, .int .i64 (i : Nat))] ∧ A' = Box b14 [.slice a5 (RL.putN rm ns (nodes.getD i default)).length c5, .int .i64 rm] 26 :: Box b8 [.slice none 0 0, .int .i64 0] 26 :: A ∧ StA J a5 c5 (RL.putN rm ns (nodes.getD i default)) ∧ I3 ⊆ J) ?_ ?_
    ·skip
     refine tri_draw [1, 2, 3, 4, 5, 7, 8, 9, 10, 11, 13, 14, 15, 16, 17, 19, 20, 21, 22, 23, 0, 6, 12, 18, 24, 25, 26, 27, 28, 29, 30, 31] rfl [_] rfl mixed ?_
     refine th_take rfl rfl (by kernel_rfl)  (opv_move rfl) ?_
     refine th_take rfl rfl (by kernel_rfl)  (opv_move rfl) ?_
     refine th_take rfl rfl (by kernel_rfl)  (opv_indexAddrSN rfl rfl (by omega) (by assumption) rfl) ?_
     refine th_take rfl rfl (by kernel_rfl)  (opv_indexAddrE rfl (by assumption) (by omega) rfl (by decide) (by decide)) ?_
     refine th_take rfl rfl (by kernel_rfl)  (opv_loadE1 rfl (by assumption) rfl (by omega) rfl rfl) ?_
     refine th_take rfl rfl (by kernel_rfl)  (opv_move rfl) ?_
     refine th_take rfl rfl (by kernel_rfl)  (opv_move rfl) ?_
     refine th_take rfl rfl (by kernel_rfl)  (opv_indexAddrSN rfl rfl (by omega) (by assumption) rfl) ?_
     refine th_take rfl rfl (by kernel_rfl)  (opv_indexAddrE rfl (by assumption) (by omega) rfl (by decide) (by decide)) ?_
     refine th_take rfl rfl (by kernel_rfl)  (opv_loadE1 rfl (by assumption) rfl (by omega) rfl rfl) ?_
     refine th_take rfl rfl (by kernel_rfl)  (opv_move rfl) ?_
     refine th_take rfl rfl (by kernel_rfl)  (opv_move rfl) ?_
     refine th_take rfl rfl (by kernel_rfl)  (opv_indexAddrSN rfl rfl (by omega) (by assumption) rfl) ?_
     refine th_take rfl rfl (by kernel_rfl)  (opv_indexAddrE rfl (by assumption) (by omega) rfl (by decide) (by decide)) ?_
     refine th_take rfl rfl (by kernel_rfl)  (opv_loadE1 rfl (by assumption) rfl (by omega) rfl rfl) ?_
     refine th_take rfl rfl (by kernel_rfl)  (opv_move rfl) ?_
     refine th_take rfl rfl (by kernel_rfl)  (opv_move rfl) ?_
     refine th_take rfl rfl (by kernel_rfl)  (opv_indexAddrSN rfl rfl (by omega) (by assumption) rfl) ?_
     refine th_take rfl rfl (by kernel_rfl)  (opv_indexAddrE rfl (by assumption) (by omega) rfl (by decide) (by decide)) ?_
     refine th_take rfl rfl (by kernel_rfl)  (opv_loadE1 rfl (by assumption) rfl (by omega) rfl rfl) ?_
     refine th_two (j := 6) [0, 12, 18, 24, 25, 26, 27, 28, 29, 30, 31] (by kernel_rfl) rfl ?_ ?_
     ·refine (step_m rfl rfl (OpV.toG (opv_loadA rfl rfl rfl)) ?_)
      rintro _ _ _ ⟨rfl, rfl, rfl⟩
      refine ⟨Suf.h, (fun _ h => h), ?_⟩
      refine th_one (by kernel_rfl) (step_m rfl rfl (opg_call (xs := [_, _]) rfl (law09_pick hfi.1.1 hfi.1.2 (by decide))) ?_)
      rintro _ _ _ ⟨rfl, rfl, rfl⟩
      refine ⟨Suf.h, fun _ h => h, ?_⟩
      refine th_one (by kernel_rfl) (step_m rfl rfl (opg_call (xs := [_, _]) rfl (law09_pick hfi.2.1.1 hfi.2.1.2 (by decide))) ?_)
      rintro _ _ _ ⟨rfl, rfl, rfl⟩
      refine ⟨Suf.h, fun _ h => h, ?_⟩
      refine th_one (by kernel_rfl) (step_m rfl rfl (opg_call (xs := [_, _]) rfl (law09_pick hfi.2.2.1.1 hfi.2.2.1.2 (by decide))) ?_)
      rintro _ _ _ ⟨rfl, rfl, rfl⟩
      refine ⟨Suf.h, fun _ h => h, ?_⟩
      refine th_one (by kernel_rfl) (step_m rfl rfl (opg_call (xs := [_, _]) rfl (law09_pick hfi.2.2.2.1.1 hfi.2.2.2.1.2 (by decide))) ?_)
      rintro _ _ _ ⟨rfl, rfl, rfl⟩
      refine ⟨Suf.h, fun _ h => h, ?_⟩
      refine th_take rfl rfl (by kernel_rfl)  (opv_buildA rfl rfl) ?_
      refine th_one (by kernel_rfl) (step_m rfl rfl (opg_call (xs := [_, _]) rfl (ref06_intern (room := rm) hs4 hg.len hg.mod.rng9)) ?_)
      rintro _ _ I4 ⟨a5, cap5, rfl, hs5, rfl, hI4⟩
      refine ⟨Suf.h, fun _ h => hI4 h, ?_⟩
      refine th_take rfl rfl (by kernel_rfl)  (opv_move rfl) ?_
      refine th_take rfl rfl (by kernel_rfl)  (opv_extract rfl rfl) ?_
      refine th_take rfl rfl (by kernel_rfl)  (opv_extract rfl rfl) ?_
      refine th_take rfl rfl (by kernel_rfl)  (opv_extract rfl rfl) ?_
      refine th_one (by kernel_rfl) (step_m rfl rfl (opg_store rfl rfl rfl rfl rfl rfl) ?_)
      rintro _ _ _ ⟨rfl, rfl⟩
      refine ⟨Suf.h, (by assumption), ?_⟩
      refine th_done (by kernel_rfl) ?_
      exact tri_cutEnd _ ⟨a5, cap5, rfl, rfl, hs5, hI4⟩ ⟨rfl, rfl, rfl, rfl, rfl, rfl, trivial⟩
     ·refine (step_m rfl rfl (opg_call (xs := [_, _]) rfl (law09_pick hfi.1.1 hfi.1.2 (by decide))) ?_)
      rintro _ _ _ ⟨rfl, rfl, rfl⟩
      refine ⟨Suf.h, fun _ h => h, ?_⟩
      refine th_two (j := 12) [0, 18, 24, 25, 26, 27, 28, 29, 30, 31] (by kernel_rfl) rfl ?_ ?_
      ·refine (step_m rfl rfl (OpV.toG (opv_loadA rfl rfl rfl)) ?_)
       rintro _ _ _ ⟨rfl, rfl, rfl⟩
       refine ⟨Suf.h, (fun _ h => h), ?_⟩
       refine th_one (by kernel_rfl) (step_m rfl rfl (opg_call (xs := [_, _]) rfl (law09_pick hfi.2.1.1 hfi.2.1.2 (by decide))) ?_)
       rintro _ _ _ ⟨rfl, rfl, rfl⟩
       refine ⟨Suf.h, fun _ h => h, ?_⟩
       refine th_one (by kernel_rfl) (step_m rfl rfl (opg_call (xs := [_, _]) rfl (law09_pick hfi.2.2.1.1 hfi.2.2.1.2 (by decide))) ?_)
       rintro _ _ _ ⟨rfl, rfl, rfl⟩
       refine ⟨Suf.h, fun _ h => h, ?_⟩
       refine th_one (by kernel_rfl) (step_m rfl rfl (opg_call (xs := [_, _]) rfl (law09_pick hfi.2.2.2.1.1 hfi.2.2.2.1.2 (by decide))) ?_)
       rintro _ _ _ ⟨rfl, rfl, rfl⟩
       refine ⟨Suf.h, fun _ h => h, ?_⟩
       refine th_take rfl rfl (by kernel_rfl)  (opv_buildA rfl rfl) ?_
       refine th_one (by kernel_rfl) (step_m rfl rfl (opg_call (xs := [_, _]) rfl (ref06_intern (room := rm) hs4 hg.len hg.mod.rng9)) ?_)
       rintro _ _ I4 ⟨a5, cap5, rfl, hs5, rfl, hI4⟩
       refine ⟨Suf.h, fun _ h => hI4 h, ?_⟩
       refine th_take rfl rfl (by kernel_rfl)  (opv_move rfl) ?_
       refine th_take rfl rfl (by kernel_rfl)  (opv_extract rfl rfl) ?_
       refine th_take rfl rfl (by kernel_rfl)  (opv_extract rfl rfl) ?_
       refine th_take rfl rfl (by kernel_rfl)  (opv_extract rfl rfl) ?_
       refine th_one (by kernel_rfl) (step_m rfl rfl (opg_store rfl rfl rfl rfl rfl rfl) ?_)
       rintro _ _ _ ⟨rfl, rfl⟩
       refine ⟨Suf.h, (by assumption), ?_⟩
       refine th_done (by kernel_rfl) ?_
       exact tri_cutEnd _ ⟨a5, cap5, rfl, rfl, hs5, hI4⟩ ⟨rfl, rfl, rfl, rfl, rfl, rfl, trivial⟩
      ·refine (step_m rfl rfl (opg_call (xs := [_, _]) rfl (law09_pick hfi.2.1.1 hfi.2.1.2 (by decide))) ?_)
       rintro _ _ _ ⟨rfl, rfl, rfl⟩
       refine ⟨Suf.h, fun _ h => h, ?_⟩
       refine th_two (j := 18) [0, 24, 25, 26, 27, 28, 29, 30, 31] (by kernel_rfl) rfl ?_ ?_
       ·refine (step_m rfl rfl (OpV.toG (opv_loadA rfl rfl rfl)) ?_)
        rintro _ _ _ ⟨rfl, rfl, rfl⟩
        refine ⟨Suf.h, (fun _ h => h), ?_⟩
        refine th_one (by kernel_rfl) (step_m rfl rfl (opg_call (xs := [_, _]) rfl (law09_pick hfi.2.2.1.1 hfi.2.2.1.2 (by decide))) ?_)
        rintro _ _ _ ⟨rfl, rfl, rfl⟩
        refine ⟨Suf.h, fun _ h => h, ?_⟩
        refine th_one (by kernel_rfl) (step_m rfl rfl (opg_call (xs := [_, _]) rfl (law09_pick hfi.2.2.2.1.1 hfi.2.2.2.1.2 (by decide))) ?_)
        rintro _ _ _ ⟨rfl, rfl, rfl⟩
        refine ⟨Suf.h, fun _ h => h, ?_⟩
        refine th_take rfl rfl (by kernel_rfl)  (opv_buildA rfl rfl) ?_
        refine th_one (by kernel_rfl) (step_m rfl rfl (opg_call (xs := [_, _]) rfl (ref06_intern (room := rm) hs4 hg.len hg.mod.rng9)) ?_)
        rintro _ _ I4 ⟨a5, cap5, rfl, hs5, rfl, hI4⟩
        refine ⟨Suf.h, fun _ h => hI4 h, ?_⟩
        refine th_take rfl rfl (by kernel_rfl)  (opv_move rfl) ?_
        refine th_take rfl rfl (by kernel_rfl)  (opv_extract rfl rfl) ?_
        refine th_take rfl rfl (by kernel_rfl)  (opv_extract rfl rfl) ?_
        refine th_take rfl rfl (by kernel_rfl)  (opv_extract rfl rfl) ?_
        refine th_one (by kernel_rfl) (step_m rfl rfl (opg_store rfl rfl rfl rfl rfl rfl) ?_)
        rintro _ _ _ ⟨rfl, rfl⟩
        refine ⟨Suf.h, (by assumption), ?_⟩
        refine th_done (by kernel_rfl) ?_
        exact tri_cutEnd _ ⟨a5, cap5, rfl, rfl, hs5, hI4⟩ ⟨rfl, rfl, rfl, rfl, rfl, rfl, trivial⟩
       ·refine (step_m rfl rfl (opg_call (xs := [_, _]) rfl (law09_pick hfi.2.2.1.1 hfi.2.2.1.2 (by decide))) ?_)
        rintro _ _ _ ⟨rfl, rfl, rfl⟩
        refine ⟨Suf.h, fun _ h => h, ?_⟩
        refine th_two (j := 24) [25, 0, 26, 27, 28, 29, 30, 31] (by kernel_rfl) rfl ?_ ?_
        ·refine (step_m rfl rfl (OpV.toG (opv_loadA rfl rfl rfl)) ?_)
         rintro _ _ _ ⟨rfl, rfl, rfl⟩
         refine ⟨Suf.h, (fun _ h => h), ?_⟩
         refine th_one (by kernel_rfl) (step_m rfl rfl (opg_call (xs := [_, _]) rfl (law09_pick hfi.2.2.2.1.1 hfi.2.2.2.1.2 (by decide))) ?_)
         rintro _ _ _ ⟨rfl, rfl, rfl⟩
         refine ⟨Suf.h, fun _ h => h, ?_⟩
         refine th_take rfl rfl (by kernel_rfl)  (opv_buildA rfl rfl) ?_
         refine th_one (by kernel_rfl) (step_m rfl rfl (opg_call (xs := [_, _]) rfl (ref06_intern (room := rm) hs4 hg.len hg.mod.rng9)) ?_)
         rintro _ _ I4 ⟨a5, cap5, rfl, hs5, rfl, hI4⟩
         refine ⟨Suf.h, fun _ h => hI4 h, ?_⟩
         refine th_take rfl rfl (by kernel_rfl)  (opv_move rfl) ?_
         refine th_take rfl rfl (by kernel_rfl)  (opv_extract rfl rfl) ?_
         refine th_take rfl rfl (by kernel_rfl)  (opv_extract rfl rfl) ?_
         refine th_take rfl rfl (by kernel_rfl)  (opv_extract rfl rfl) ?_
         refine th_one (by kernel_rfl) (step_m rfl rfl (opg_store rfl rfl rfl rfl rfl rfl) ?_)
         rintro _ _ _ ⟨rfl, rfl⟩
         refine ⟨Suf.h, (by assumption), ?_⟩
         refine th_done (by kernel_rfl) ?_
         exact tri_cutEnd _ ⟨a5, cap5, rfl, rfl, hs5, hI4⟩ ⟨rfl, rfl, rfl, rfl, rfl, rfl, trivial⟩
        ·refine (step_m rfl rfl (opg_call (xs := [_, _]) rfl (law09_pick hfi.2.2.2.1.1 hfi.2.2.2.1.2 (by decide))) ?_)
         rintro _ _ _ ⟨rfl, rfl, rfl⟩
         refine ⟨Suf.h, fun _ h => h, ?_⟩
         refine th_take rfl rfl (by kernel_rfl)  (opv_buildA rfl rfl) ?_
         refine th_one (by kernel_rfl) (step_m rfl rfl (OpV.toG (opv_loadA rfl rfl rfl)) ?_)
         rintro _ _ _ ⟨rfl, rfl, rfl⟩
         refine ⟨Suf.h, (fun _ h => h), ?_⟩
         refine th_one (by kernel_rfl) (step_m rfl rfl (opg_call (xs := [_, _]) rfl (ref06_intern (room := rm) hs4 hg.len hg.mod.rng9)) ?_)
         rintro _ _ I4 ⟨a5, cap5, rfl, hs5, rfl, hI4⟩
         refine ⟨Suf.h, fun _ h => hI4 h, ?_⟩
         refine th_take rfl rfl (by kernel_rfl)  (opv_move rfl) ?_
         refine th_take rfl rfl (by kernel_rfl)  (opv_extract rfl rfl) ?_
         refine th_take rfl rfl (by kernel_rfl)  (opv_extract rfl rfl) ?_
         refine th_take rfl rfl (by kernel_rfl)  (opv_extract rfl rfl) ?_
         refine th_one (by kernel_rfl) (step_m rfl rfl (opg_store rfl rfl rfl rfl rfl rfl) ?_)
         rintro _ _ _ ⟨rfl, rfl⟩
         refine ⟨Suf.h, (by assumption), ?_⟩
         refine th_done (by kernel_rfl) ?_
         exact tri_cutEnd _ ⟨a5, cap5, rfl, rfl, hs5, hI4⟩ ⟨rfl, rfl, rfl, rfl, rfl, rfl, trivial⟩
    rintro _ _ I4 ⟨a5, cap5, rfl, rfl, hs5, hI4⟩
    skip
    refine tri_inBlock ?_
    refine tT (tR (tM rfl rfl ?_))
    refine tU rfl rfl (by omega) (by omega) rfl ?_
    refine tA rfl rfl (tN (tT ?_))
    skip
    have hk2 := hK (i + 1, a5, cap5, I4) ⟨by simp only; omega, by simp only; omega, by simp only [es]; exact hs5, fun _ h => hI4 (hI3 h)⟩ (by simp only; omega)
    simp only [es] at hk2
    refine tri_sub ?_ hk2
    exact ⟨rfl, rfl, rfl, rfl, rfl, rfl, trivial⟩
   ·refine tri_exit ?_
    refine tri_then_exit ?_
    refine tri_then_exit ?_
    refine tri_inBlock_hit rfl ?_
    rw [← fin (by omega)] at hs4
    refine tri_cutEnd _ ⟨a4, cap4, rfl, ?_, hs4, hI3⟩ ⟨rfl, rfl, rfl, rfl, trivial⟩
    rw [fin (by omega)]
  ·refine tri_guard_skip rfl rfl rfl rfl (tri_guard_skip rfl rfl rfl rfl ?_)
   refine tri_v (opv_pick_f rfl rfl) rfl ?_
   refine tN (tT ?_)
   refine tri_cond_false rfl ?_
   refine tri_exit ?_
   refine tri_then_exit ?_
   refine tri_then_exit ?_
   refine tri_inBlock_hit rfl ?_
   rw [← fin (by omega)] at hs4
   refine tri_cutEnd _ ⟨a4, cap4, rfl, ?_, hs4, hI3⟩ ⟨rfl, rfl, rfl, rfl, trivial⟩
   rw [fin (by omega)]
 rintro _ _ I3 ⟨a4, cap4, rfl, rfl, hs4, hI3⟩
 skip
 refine tT (tS (tR ?_))
 refine tri_v (opv_fieldAddr rfl rfl) rfl ?_
 refine tri_v (opv_load1 rfl rfl rfl) rfl ?_
 refine tU rfl rfl (by omega) (by omega) rfl ?_
 refine tri_v (opv_fieldAddr rfl rfl) rfl ?_
 refine tri_g (opg_store rfl rfl rfl rfl rfl rfl) rfl ?_
 rintro _ _ _ ⟨rfl, rfl⟩
 refine tN (tT (tS (tR ?_)))
 refine tri_v (opv_loadA rfl rfl rfl) rfl ?_
 refine tM rfl rfl (tM rfl rfl ?_)
 have hg := RL.foldN_good (rm := rm) (by omega) (by omega) (nodes.take 10) _ (RL.store0_good9 (by omega) (by omega))
 have hset3 := (hset.mono hI2).mono hI3
 skip
 refine tri_g (opg_call (xs := [_, _, _]) rfl (ref07_make (room := rm + 600) (lv := v) hs4 hg.len hg.mod.rng9 hset3 (by omega))) rfl ?_
 rintro _ _ I4 ⟨a5, cap5, rfl, hs5, rfl, hI4⟩
 refine tM rfl rfl ?_
 refine tri_v (opv_extract rfl rfl) rfl ?_
 refine tri_v (opv_extract rfl rfl) rfl ?_
 refine tri_v (opv_extract rfl rfl) rfl ?_
 refine tri_g opg_alloc rfl ?_
 rintro _ _ _ ⟨b16, rfl, rfl, rfl⟩
 refine tri_g (opg_store rfl rfl rfl rfl rfl rfl) rfl ?_
 rintro _ _ _ ⟨rfl, rfl⟩
 refine tA rfl rfl (tA rfl rfl (tN (tT (tS (tR ?_)))))
 refine tri_v (opv_loadA rfl rfl rfl) rfl ?_
 refine tM rfl rfl ?_
 refine tri_g (opg_store rfl rfl rfl rfl rfl rfl) rfl ?_
 rintro _ _ _ ⟨rfl, rfl⟩
 refine tA rfl rfl (tN (tT (tri_ret ?_)))
 refine tri_end A Suf.h rfl (.cons (rv_cellA rfl rfl rfl) (.cons (rv_tmp rfl) .nil)) ⟨a5, cap5, ?_, ?_, rfl, fun _ h => hI4 (hI3 (hI2 (hI1 h)))⟩
 ·rw [hfd]; rfl
 ·rw [hfd]; exact hs5
end Go.GL


set_option linter.unusedVariables false
namespace Go.GL
open Go.Proofs
attribute [local irreducible] wpList Code.wp Exit.then Exit.inBlock Ends Tri TriH OpV OpG FnC epf wpAnyH
theorem R6.right.kid {ns : List Node} {room : Int} (h : R6.right ns room) {n : Int} (hn : R6.inS ns n) {m : Nat} (hl : (R6.nd ns n).lv = ((m + 1 : Nat) : Int)) {q : Int} (hq : q ∈ (R6.nd ns n).kids) : R6.inS ns q ∧ q < n ∧ (R6.nd ns q).lv = m := by
 have h0 := h.1.2.2.2.2.1
 have h1 := h.1.2.2.2.2.2
 obtain ⟨hn0, hn1⟩ := hn
 have h2 : 2 ≤ n.toNat := by
  rcases Nat.lt_or_ge n.toNat 2 with h3 | h3
  ·exfalso
   rcases (by omega : n.toNat = 0 ∨ n.toNat = 1) with e | e
   ·unfold R6.nd at hl; rw [e, h0] at hl; simp [R6.n0] at hl; omega
   ·unfold R6.nd at hl; rw [e, h1] at hl; simp [R6.n1] at hl; omega
  ·exact h3
 obtain ⟨k0, k1, k2, k3, _⟩ := h.2 n.toNat (by omega) h2
 have key : R6.kidOk ns n.toNat q (R6.nd ns n).lv := by
  unfold Node.kids at hq
  simp only [List.mem_cons, List.not_mem_nil, or_false] at hq
  rcases hq with rfl | rfl | rfl | rfl
  ·exact k0
  ·exact k1
  ·exact k2
  ·exact k3
 obtain ⟨g1, g2, g3⟩ := key
 exact ⟨⟨g1, by omega⟩, by omega, by omega⟩
def FlatSpec (lv : Nat) : Prop := ∀ (A : List Asrt) (I : List Chunk) (ns : List Node) (a : Option Addr) (cap : Nat) (room n cx cy : Int) (c : Cell) (r : List Cell), cx = c.x → cy = c.y → R6.right ns room → SlAt I a ns → R6.inS ns n → (R6.nd ns n).lv = lv →
 -1152921504606846976 ≤ c.x ∧ c.x + 2 ^ lv ≤ 1152921504606846976 ∧ -1152921504606846976 ≤ c.y ∧ c.y + 2 ^ lv ≤ 1152921504606846976 → R7.flat ns lv n c = r → r.length ≤ 100000000 →
 FnC Try.prog 56 [storeV a ns.length cap room, .int .i64 n, .agg [.int .i64 cx, .int .i64 cy].toArray].toArray A I (fun v A' I' => ∃ a' cap', v = .slice a' r.length cap' ∧ SlAt I' a' r ∧ A = A' ∧ I ⊆ I')
theorem R7.flat_dead {ns : List Node} {lv : Nat} {n : Int} {c : Cell} (h : (R6.nd ns n).pop = 0) : R7.flat ns lv n c = [] := by unfold R7.flat; rw [if_pos h]
theorem R7.flat_zero {ns : List Node} {n : Int} {c : Cell} (h : ¬ (R6.nd ns n).pop = 0) : R7.flat ns 0 n c = [c] := by unfold R7.flat; rw [if_neg h]
theorem R7.flat_succ {ns : List Node} {m : Nat} {n : Int} {c : Cell} (h : ¬ (R6.nd ns n).pop = 0) : R7.flat ns (m + 1) n c = R7.flat ns m (R6.nd ns n).k0 c ++ R7.flat ns m (R6.nd ns n).k1 ⟨c.x + 2 ^ m, c.y⟩ ++ R7.flat ns m (R6.nd ns n).k2 ⟨c.x, c.y + 2 ^ m⟩ ++ R7.flat ns m (R6.nd ns n).k3 ⟨c.x + 2 ^ m, c.y + 2 ^ m⟩ := by rw [R7.flat]; rw [if_neg h]
set_option maxHeartbeats 1000000 in
set_option maxRecDepth 100000 in
theorem ref07_flat_step (lv : Nat) (ih : ∀ m, m < lv → FlatSpec m) : FlatSpec lv := by
 intro A I ns a cap room n cx cy c r hcx hcy hr hs hn hlv hc hfl hlen
 subst hcx; subst hcy
 obtain ⟨hn0, hn1⟩ := hn
 have hmod := hr.modTo.mod.nd ⟨hn0, hn1⟩
 have hmod' : 0 ≤ (ns.getD n.toNat default).lv ∧ (ns.getD n.toNat default).lv ≤ 42 := ⟨hmod.1, hmod.2.1⟩
 skip
 refine fn_enter3 Try.func56 rfl Try.ntmps56 rfl fun w0 => ?_
 refine tS (tR ?_)
 refine tri_g (opg_box_agg rfl) rfl ?_
 rintro _ _ _ ⟨b3, rfl, rfl, rfl⟩
 refine tri_g (opg_box_agg rfl) rfl ?_
 rintro _ _ _ ⟨b5, rfl, rfl, rfl⟩
 refine tA rfl rfl (tN (tT (tS (tR ?_))))
 refine tri_v (opv_fieldAddr rfl rfl) rfl ?_
 refine tri_v (opv_load1 rfl rfl rfl) rfl ?_
 refine tM rfl rfl ?_
 refine tri_v (opv_indexAddrS rfl rfl (by omega) (by omega) (by assumption) rfl) rfl ?_
 refine tri_v (opv_loadEA rfl (by assumption) rfl (by omega) rfl rfl) rfl ?_
 refine tri_g opg_alloc rfl ?_
 rintro _ _ _ ⟨b7, rfl, rfl, rfl⟩
 refine tri_g (opg_store rfl rfl rfl rfl rfl rfl) rfl ?_
 rintro _ _ _ ⟨rfl, rfl⟩
 refine tN (tT (tS (tS (tR ?_))))
 refine tri_v (opv_fieldAddr rfl rfl) rfl ?_
 refine tri_v (opv_load1 rfl rfl rfl) rfl ?_
 refine tri_v (opv_eql rfl rfl) rfl ?_
 refine tN (tT ?_)
 refine tri_cond_dec rfl (fun h0 => ?_) (fun h0 => ?_)
 ·rw [R7.flat_dead h0] at hfl
  subst hfl
  refine tS (tR (tA rfl rfl (tN (tT (tri_ret (tri_then_ret ?_))))))
  refine tri_end A Suf.h rfl (.cons (rv_tmp rfl) .nil) ⟨none, 0, rfl, SlAt.nil, rfl, fun _ h => h⟩
 refine tri_skip (tT (tS (tS (tR ?_))))
 refine tri_v (opv_fieldAddr rfl rfl) rfl ?_
 refine tri_v (opv_load1 rfl rfl rfl) rfl ?_
 refine tri_v (opv_eql rfl rfl) rfl ?_
 refine tN (tT ?_)
 refine tri_cond_dec rfl (fun h1 => ?_) (fun h1 => ?_)
 ·have hl0 : lv = 0 := by
   have h2 : (R6.nd ns n).lv = 0 := h1
   omega
  subst hl0
  rw [R7.flat_zero h0] at hfl
  subst hfl
  refine tS (tR ?_)
  refine tri_v (opv_loadA rfl rfl rfl) rfl ?_
  refine tri_g (opg_buildSlice rfl rfl rfl rfl) rfl ?_
  rintro _ _ _ ⟨b23, rfl, rfl, rfl⟩
  refine tA rfl rfl (tN (tT (tri_ret (tri_then_ret ?_))))
  refine tri_freezeBoxS [c] rfl fun I' hI hs' => ?_
  refine tri_end A Suf.h rfl (.cons (rv_tmp rfl) .nil) ⟨_, 1, rfl, hs', rfl, hI⟩
 have hl0 : ¬ (R6.nd ns n).lv = 0 := h1
 obtain ⟨m, rfl⟩ : ∃ m, lv = m + 1 := ⟨lv - 1, by omega⟩
 rw [R7.flat_succ h0] at hfl
 have kid := fun q hq => hr.kid ⟨hn0, hn1⟩ hlv (q := q) hq
 obtain ⟨r0, hr0⟩ : ∃ r, R7.flat ns m (R6.nd ns n).k0 c = r := ⟨_, rfl⟩
 obtain ⟨r1, hr1⟩ : ∃ r, R7.flat ns m (R6.nd ns n).k1 ⟨c.x + 2 ^ m, c.y⟩ = r := ⟨_, rfl⟩
 obtain ⟨r2, hr2⟩ : ∃ r, R7.flat ns m (R6.nd ns n).k2 ⟨c.x, c.y + 2 ^ m⟩ = r := ⟨_, rfl⟩
 obtain ⟨r3, hr3⟩ : ∃ r, R7.flat ns m (R6.nd ns n).k3 ⟨c.x + 2 ^ m, c.y + 2 ^ m⟩ = r := ⟨_, rfl⟩
 rw [hr0, hr1, hr2, hr3] at hfl
 subst hfl
 simp only [List.length_append] at hlen
 have hpow : (2:Int) ^ (m + 1) = 2 ^ m * 2 := Int.pow_succ 2 m
 have hpos : (0:Int) < 2 ^ m := Int.pow_pos (by omega)
 rw [hpow] at hc
 obtain ⟨hc1, hc2, hc3, hc4⟩ := hc
 have e8 : (2:Int) ^ ((R6.nd ns n).lv - 1).toNat = 2 ^ m := by congr 1; omega
 skip
 refine tri_skip (tT (tS (tR ?_)))
 refine tri_v (opv_fieldAddr rfl rfl) rfl ?_
 refine tri_v (opv_load1 rfl rfl rfl) rfl ?_
 refine tri_v (opv_sub rfl rfl (w64 (by omega) (by omega))) rfl ?_
 refine tri_v (opv_shl1 rfl rfl (by omega) (by omega)) rfl ?_
 refine tA rfl rfl (tN (tT (tS (tR (tA rfl rfl (tN (tT ?_)))))))
 refine tS (tS (tR (tA rfl rfl (tN (tT (tri_block ?_))))))
 refine tri_sub (F' := [(3, pt b3 0), (5, pt b5 0), (7, pt b7 0), (8, .int .i64 (2 ^ m)), (9, .slice none 0 0), (10, .int .i64 (0 : Int))]) ⟨rfl, rfl, rfl, by rw [← e8]; rfl, rfl, rfl, trivial⟩ ?_
 refine tri_nilRow (E := 48) (sz := 2) ?_
 refine tri_rounds 5 ?_
 refine tri_round ?_
 refine tS (tS (tR (tM rfl rfl ?_)))
 refine tri_v (opv_lss rfl rfl) rfl ?_
 refine tN (tT ?_)
 refine tri_cond_is rfl (by decide) ?_
 skip
 refine tri_skip (tT (tS (tri_block ?_)))
 refine tri_draw [0, 1, 2, 3, 4, 5, 6, 7, 8, 9, 10, 11, 12, 13, 14, 15, 16, 17, 18, 19, 20, 21, 22, 23] rfl [_] rfl mixed ?_
 refine th_take rfl rfl (by kernel_rfl)  (opv_move rfl) ?_
 refine th_take rfl rfl (by kernel_rfl)  (opv_loadA rfl rfl rfl) ?_
 refine th_take rfl rfl (by kernel_rfl)  (opv_move rfl) ?_
 refine th_take rfl rfl (by kernel_rfl)  (opv_fieldAddr rfl rfl) ?_
 refine th_take rfl rfl (by kernel_rfl)  (opv_indexAddrA rfl rfl (by decide) (by decide)) ?_
 refine th_take rfl rfl (by kernel_rfl)  (opv_load1 rfl rfl rfl) ?_
 refine th_take rfl rfl (by kernel_rfl)  (opv_fieldAddr rfl rfl) ?_
 refine th_take rfl rfl (by kernel_rfl)  (opv_load1 rfl rfl rfl) ?_
 refine th_take rfl rfl (by kernel_rfl)  (opv_move rfl) ?_
 refine th_take rfl rfl (by kernel_rfl)  (opv_remE rfl rfl (by omega) (by omega)) ?_
 refine th_take rfl rfl (by kernel_rfl)  (opv_move rfl) ?_
 refine th_take rfl rfl (by kernel_rfl)  (opv_mul rfl rfl (w64 (by omega) (by omega))) ?_
 refine th_take rfl rfl (by kernel_rfl)  (opv_add rfl rfl (w64 (by omega) (by omega))) ?_
 refine th_take rfl rfl (by kernel_rfl)  (opv_fieldAddr rfl rfl) ?_
 refine th_take rfl rfl (by kernel_rfl)  (opv_load1 rfl rfl rfl) ?_
 refine th_take rfl rfl (by kernel_rfl)  (opv_move rfl) ?_
 refine th_take rfl rfl (by kernel_rfl)  (opv_quoE rfl rfl (by omega) (by omega) (by omega)) ?_
 refine th_take rfl rfl (by kernel_rfl)  (opv_move rfl) ?_
 refine th_take rfl rfl (by kernel_rfl)  (opv_mul rfl rfl (w64 (by omega) (by omega))) ?_
 refine th_take rfl rfl (by kernel_rfl)  (opv_add rfl rfl (w64 (by omega) (by omega))) ?_
 refine th_take rfl rfl (by kernel_rfl)  (opv_buildS rfl rfl) ?_
 refine th_one (by kernel_rfl) (step_m rfl rfl (opg_call (xs := [_, _, _]) rfl (ih m (by omega) _ _ _ _ _ room _ _ _ ⟨c.x, c.y⟩ r0 (by simp only; omega) (by simp only; omega) hr (hs) (kid _ (by simp [Node.kids, R6.nd])).1 (kid _ (by simp [Node.kids, R6.nd])).2.2 (by simp only; omega) hr0 (by omega))) ?_)
 rintro _ _ J1 ⟨a0, c0, rfl, hq0, rfl, hJ1⟩
 refine ⟨Suf.h, (by assumption), ?_⟩
 skip
 refine th_one (by kernel_rfl) (step_m rfl rfl (opg_appendS rfl rfl hq0 rfl rfl (by omega) rfl) ?_)
 rintro _ _ _ ⟨d0, e0, rfl, rfl, rfl⟩
 refine ⟨Suf.h, (by assumption), ?_⟩
 refine th_take rfl rfl (by kernel_rfl)  (opv_assign rfl) ?_
 refine th_done (by kernel_rfl) ?_
 refine tri_inBlock ?_
 refine tT (tR (tM rfl rfl ?_))
 refine tU rfl rfl (by omega) (by omega) rfl ?_
 refine tA rfl rfl (tN (tT ?_))
 refine tri_round ?_
 refine tS (tS (tR (tM rfl rfl ?_)))
 refine tri_v (opv_lss rfl rfl) rfl ?_
 refine tN (tT ?_)
 skip
 refine tri_cond_is rfl (by decide) ?_
 skip
 refine tri_skip (tT (tS (tri_block ?_)))
 refine tri_draw [0, 1, 2, 3, 4, 5, 6, 7, 8, 9, 10, 11, 12, 13, 14, 15, 16, 17, 18, 19, 20, 21, 22, 23] rfl [_] rfl mixed ?_
 refine th_take rfl rfl (by kernel_rfl)  (opv_move rfl) ?_
 refine th_take rfl rfl (by kernel_rfl)  (opv_loadA rfl rfl rfl) ?_
 refine th_take rfl rfl (by kernel_rfl)  (opv_move rfl) ?_
 refine th_take rfl rfl (by kernel_rfl)  (opv_fieldAddr rfl rfl) ?_
 refine th_take rfl rfl (by kernel_rfl)  (opv_indexAddrA rfl rfl (by decide) (by decide)) ?_
 refine th_take rfl rfl (by kernel_rfl)  (opv_load1 rfl rfl rfl) ?_
 refine th_take rfl rfl (by kernel_rfl)  (opv_fieldAddr rfl rfl) ?_
 refine th_take rfl rfl (by kernel_rfl)  (opv_load1 rfl rfl rfl) ?_
 refine th_take rfl rfl (by kernel_rfl)  (opv_move rfl) ?_
 refine th_take rfl rfl (by kernel_rfl)  (opv_remE rfl rfl (by omega) (by omega)) ?_
 refine th_take rfl rfl (by kernel_rfl)  (opv_move rfl) ?_
 refine th_take rfl rfl (by kernel_rfl)  (opv_mul rfl rfl (w64 (by omega) (by omega))) ?_
 refine th_take rfl rfl (by kernel_rfl)  (opv_add rfl rfl (w64 (by omega) (by omega))) ?_
 refine th_take rfl rfl (by kernel_rfl)  (opv_fieldAddr rfl rfl) ?_
 refine th_take rfl rfl (by kernel_rfl)  (opv_load1 rfl rfl rfl) ?_
 refine th_take rfl rfl (by kernel_rfl)  (opv_move rfl) ?_
 refine th_take rfl rfl (by kernel_rfl)  (opv_quoE rfl rfl (by omega) (by omega) (by omega)) ?_
 refine th_take rfl rfl (by kernel_rfl)  (opv_move rfl) ?_
 refine th_take rfl rfl (by kernel_rfl)  (opv_mul rfl rfl (w64 (by omega) (by omega))) ?_
 refine th_take rfl rfl (by kernel_rfl)  (opv_add rfl rfl (w64 (by omega) (by omega))) ?_
 refine th_take rfl rfl (by kernel_rfl)  (opv_buildS rfl rfl) ?_
 refine th_one (by kernel_rfl) (step_m rfl rfl (opg_call (xs := [_, _, _]) rfl (ih m (by omega) _ _ _ _ _ room _ _ _ ⟨c.x + 2 ^ m, c.y⟩ r1 (by simp only; omega) (by simp only; omega) hr (hs.mono hJ1) (kid _ (by simp [Node.kids, R6.nd])).1 (kid _ (by simp [Node.kids, R6.nd])).2.2 (by simp only; omega) hr1 (by omega))) ?_)
 rintro _ _ J2 ⟨a1, c1, rfl, hq1, rfl, hJ2⟩
 refine ⟨Suf.h, (by assumption), ?_⟩
 skip
 refine th_one (by kernel_rfl) (step_m rfl rfl (opg_appendS rfl rfl hq1 rfl rfl (by omega) rfl) ?_)
 rintro _ _ _ ⟨d1, e1, rfl, rfl, rfl⟩
 refine ⟨Suf.h, (by assumption), ?_⟩
 refine th_take rfl rfl (by kernel_rfl)  (opv_assign rfl) ?_
 refine th_done (by kernel_rfl) ?_
 refine tri_inBlock ?_
 refine tT (tR (tM rfl rfl ?_))
 refine tU rfl rfl (by omega) (by omega) rfl ?_
 refine tA rfl rfl (tN (tT ?_))
 refine tri_round ?_
 refine tS (tS (tR (tM rfl rfl ?_)))
 refine tri_v (opv_lss rfl rfl) rfl ?_
 refine tN (tT ?_)
 skip
 refine tri_cond_is rfl (by decide) ?_
 skip
 refine tri_skip (tT (tS (tri_block ?_)))
 refine tri_draw [0, 1, 2, 3, 4, 5, 6, 7, 8, 9, 10, 11, 12, 13, 14, 15, 16, 17, 18, 19, 20, 21, 22, 23] rfl [_] rfl mixed ?_
 refine th_take rfl rfl (by kernel_rfl)  (opv_move rfl) ?_
 refine th_take rfl rfl (by kernel_rfl)  (opv_loadA rfl rfl rfl) ?_
 refine th_take rfl rfl (by kernel_rfl)  (opv_move rfl) ?_
 refine th_take rfl rfl (by kernel_rfl)  (opv_fieldAddr rfl rfl) ?_
 refine th_take rfl rfl (by kernel_rfl)  (opv_indexAddrA rfl rfl (by decide) (by decide)) ?_
 refine th_take rfl rfl (by kernel_rfl)  (opv_load1 rfl rfl rfl) ?_
 refine th_take rfl rfl (by kernel_rfl)  (opv_fieldAddr rfl rfl) ?_
 refine th_take rfl rfl (by kernel_rfl)  (opv_load1 rfl rfl rfl) ?_
 refine th_take rfl rfl (by kernel_rfl)  (opv_move rfl) ?_
 refine th_take rfl rfl (by kernel_rfl)  (opv_remE rfl rfl (by omega) (by omega)) ?_
 refine th_take rfl rfl (by kernel_rfl)  (opv_move rfl) ?_
 refine th_take rfl rfl (by kernel_rfl)  (opv_mul rfl rfl (w64 (by omega) (by omega))) ?_
 refine th_take rfl rfl (by kernel_rfl)  (opv_add rfl rfl (w64 (by omega) (by omega))) ?_
 refine th_take rfl rfl (by kernel_rfl)  (opv_fieldAddr rfl rfl) ?_
 refine th_take rfl rfl (by kernel_rfl)  (opv_load1 rfl rfl rfl) ?_
 refine th_take rfl rfl (by kernel_rfl)  (opv_move rfl) ?_
 refine th_take rfl rfl (by kernel_rfl)  (opv_quoE rfl rfl (by omega) (by omega) (by omega)) ?_
 refine th_take rfl rfl (by kernel_rfl)  (opv_move rfl) ?_
 refine th_take rfl rfl (by kernel_rfl)  (opv_mul rfl rfl (w64 (by omega) (by omega))) ?_
 refine th_take rfl rfl (by kernel_rfl)  (opv_add rfl rfl (w64 (by omega) (by omega))) ?_
 refine th_take rfl rfl (by kernel_rfl)  (opv_buildS rfl rfl) ?_
 refine th_one (by kernel_rfl) (step_m rfl rfl (opg_call (xs := [_, _, _]) rfl (ih m (by omega) _ _ _ _ _ room _ _ _ ⟨c.x, c.y + 2 ^ m⟩ r2 (by simp only; omega) (by simp only; omega) hr ((hs.mono hJ1).mono hJ2) (kid _ (by simp [Node.kids, R6.nd])).1 (kid _ (by simp [Node.kids, R6.nd])).2.2 (by simp only; omega) hr2 (by omega))) ?_)
 rintro _ _ J3 ⟨a2, c2, rfl, hq2, rfl, hJ3⟩
 refine ⟨Suf.h, (by assumption), ?_⟩
 skip
 refine th_one (by kernel_rfl) (step_m rfl rfl (opg_appendS rfl rfl hq2 rfl rfl (by omega) rfl) ?_)
 rintro _ _ _ ⟨d2, e2, rfl, rfl, rfl⟩
 refine ⟨Suf.h, (by assumption), ?_⟩
 refine th_take rfl rfl (by kernel_rfl)  (opv_assign rfl) ?_
 refine th_done (by kernel_rfl) ?_
 refine tri_inBlock ?_
 refine tT (tR (tM rfl rfl ?_))
 refine tU rfl rfl (by omega) (by omega) rfl ?_
 refine tA rfl rfl (tN (tT ?_))
 refine tri_round ?_
 refine tS (tS (tR (tM rfl rfl ?_)))
 refine tri_v (opv_lss rfl rfl) rfl ?_
 refine tN (tT ?_)
 skip
 refine tri_cond_is rfl (by decide) ?_
 skip
 refine tri_skip (tT (tS (tri_block ?_)))
 refine tri_draw [0, 1, 2, 3, 4, 5, 6, 7, 8, 9, 10, 11, 12, 13, 14, 15, 16, 17, 18, 19, 20, 21, 22, 23] rfl [_] rfl mixed ?_
 refine th_take rfl rfl (by kernel_rfl)  (opv_move rfl) ?_
 refine th_take rfl rfl (by kernel_rfl)  (opv_loadA rfl rfl rfl) ?_
 refine th_take rfl rfl (by kernel_rfl)  (opv_move rfl) ?_
 refine th_take rfl rfl (by kernel_rfl)  (opv_fieldAddr rfl rfl) ?_
 refine th_take rfl rfl (by kernel_rfl)  (opv_indexAddrA rfl rfl (by decide) (by decide)) ?_
 refine th_take rfl rfl (by kernel_rfl)  (opv_load1 rfl rfl rfl) ?_
 refine th_take rfl rfl (by kernel_rfl)  (opv_fieldAddr rfl rfl) ?_
 refine th_take rfl rfl (by kernel_rfl)  (opv_load1 rfl rfl rfl) ?_
 refine th_take rfl rfl (by kernel_rfl)  (opv_move rfl) ?_
 refine th_take rfl rfl (by kernel_rfl)  (opv_remE rfl rfl (by omega) (by omega)) ?_
 refine th_take rfl rfl (by kernel_rfl)  (opv_move rfl) ?_
 refine th_take rfl rfl (by kernel_rfl)  (opv_mul rfl rfl (w64 (by omega) (by omega))) ?_
 refine th_take rfl rfl (by kernel_rfl)  (opv_add rfl rfl (w64 (by omega) (by omega))) ?_
 refine th_take rfl rfl (by kernel_rfl)  (opv_fieldAddr rfl rfl) ?_
 refine th_take rfl rfl (by kernel_rfl)  (opv_load1 rfl rfl rfl) ?_
 refine th_take rfl rfl (by kernel_rfl)  (opv_move rfl) ?_
 refine th_take rfl rfl (by kernel_rfl)  (opv_quoE rfl rfl (by omega) (by omega) (by omega)) ?_
 refine th_take rfl rfl (by kernel_rfl)  (opv_move rfl) ?_
 refine th_take rfl rfl (by kernel_rfl)  (opv_mul rfl rfl (w64 (by omega) (by omega))) ?_
 refine th_take rfl rfl (by kernel_rfl)  (opv_add rfl rfl (w64 (by omega) (by omega))) ?_
 refine th_take rfl rfl (by kernel_rfl)  (opv_buildS rfl rfl) ?_
 refine th_one (by kernel_rfl) (step_m rfl rfl (opg_call (xs := [_, _, _]) rfl (ih m (by omega) _ _ _ _ _ room _ _ _ ⟨c.x + 2 ^ m, c.y + 2 ^ m⟩ r3 (by simp only; omega) (by simp only; omega) hr (((hs.mono hJ1).mono hJ2).mono hJ3) (kid _ (by simp [Node.kids, R6.nd])).1 (kid _ (by simp [Node.kids, R6.nd])).2.2 (by simp only; omega) hr3 (by omega))) ?_)
 rintro _ _ J4 ⟨a3, c3, rfl, hq3, rfl, hJ4⟩
 refine ⟨Suf.h, (by assumption), ?_⟩
 skip
 refine th_one (by kernel_rfl) (step_m rfl rfl (opg_appendS rfl rfl hq3 rfl rfl (by omega) rfl) ?_)
 rintro _ _ _ ⟨d3, e3, rfl, rfl, rfl⟩
 refine ⟨Suf.h, (by assumption), ?_⟩
 refine th_take rfl rfl (by kernel_rfl)  (opv_assign rfl) ?_
 refine th_done (by kernel_rfl) ?_
 refine tri_inBlock ?_
 refine tT (tR (tM rfl rfl ?_))
 refine tU rfl rfl (by omega) (by omega) rfl ?_
 refine tA rfl rfl (tN (tT ?_))
 refine tri_round ?_
 refine tS (tS (tR (tM rfl rfl ?_)))
 refine tri_v (opv_lss rfl rfl) rfl ?_
 refine tN (tT ?_)
 refine tri_cond_not rfl (by decide) ?_
 refine tri_exit ?_
 refine tri_then_exit ?_
 refine tri_then_exit ?_
 refine tri_inBlock_hit rfl ?_
 refine tT (tS (tR (tM rfl rfl (tA rfl rfl (tN (tT (tri_ret ?_)))))))
 refine tri_rowEq (len' := (r0 ++ r1 ++ r2 ++ r3).length) (cells' := encs (r0 ++ r1 ++ r2 ++ r3)) (by simp only [List.length_append, Nat.zero_add]) (by rw [encs_append, encs_append, encs_append]; rfl) ?_
 refine tri_freezeRow rfl fun I' hI hs' => ?_
 refine tri_end A Suf.h rfl (.cons (rv_tmp rfl) .nil) ⟨d3, e3, ?_, hs', rfl, fun _ h => hI (hJ4 (hJ3 (hJ2 (hJ1 h))))⟩
 simp only [List.length_append, Nat.zero_add]; rfl
theorem ref07_flat (lv : Nat) : FlatSpec lv := by
 induction lv using Nat.strongRecOn with
 | ind lv ih => exact ref07_flat_step lv ih
set_option maxRecDepth 100000 in
theorem ref07_of {A : List Asrt} {I : List Chunk} {ns : List Node} {a : Option Addr} {cap : Nat} {room n : Int} (hr : R6.right ns room) (hs : SlAt I a ns) (hn : R6.inS ns n) (hl1 : 1 ≤ (R6.nd ns n).lv) (hlen : (R7.of ns n).length ≤ 100000000) :
  FnC Try.prog 23 [storeV a ns.length cap room, .int .i64 n].toArray A I (fun v A' I' => ∃ a' cap', v = .slice a' (R7.of ns n).length cap' ∧ SlAt I' a' (R7.of ns n) ∧ A = A' ∧ I ⊆ I') := by
 have hmod := hr.modTo.mod.nd hn
 have hmod' : 1 ≤ (ns.getD n.toNat default).lv ∧ (ns.getD n.toNat default).lv ≤ 42 := ⟨hl1, hmod.2.1⟩
 have hsd := R7.side_bd (lv := (ns.getD n.toNat default).lv) hmod'.2
 have hsd2 : (2:Int) ^ ((ns.getD n.toNat default).lv).toNat = 2 * R7.side (ns.getD n.toNat default).lv := by
  unfold R7.side
  obtain ⟨k, hk⟩ : ∃ k : Nat, (ns.getD n.toNat default).lv = k + 1 := ⟨((ns.getD n.toNat default).lv - 1).toNat, by omega⟩
  rw [hk]
  have e1 : ((k:Int) + 1).toNat = k + 1 := by omega
  have e2 : ((k:Int) + 1 - 1).toNat = k := by omega
  rw [e1, e2, Int.pow_succ]; omega
 have hn0 := hn.1
 have hn1 := hn.2
 have hsd' := hsd
 unfold R7.side at hsd'
 refine fn_enter2 Try.func23 rfl Try.ntmps23 rfl fun w0 => ?_
 refine tS (tR ?_)
 refine tri_g (opg_box_agg rfl) rfl ?_
 rintro _ _ _ ⟨b2, rfl, rfl, rfl⟩
 refine tA rfl rfl (tN (tT (tS (tR ?_))))
 refine tri_v (opv_fieldAddr rfl rfl) rfl ?_
 refine tri_v (opv_load1 rfl rfl rfl) rfl ?_
 refine tM rfl rfl ?_
 refine tri_v (opv_indexAddrS rfl rfl (by omega) (by omega) (by assumption) rfl) rfl ?_
 refine tri_v (opv_fieldAddrE rfl (by assumption) (by omega) rfl) rfl ?_
 refine tri_v (opv_loadE1 rfl (by assumption) rfl (by omega) rfl rfl) rfl ?_
 refine tri_v (opv_sub rfl rfl (w64 (by omega) (by omega))) rfl ?_
 refine tri_v (opv_shl1 rfl rfl (by omega) (by omega)) rfl ?_
 refine tA rfl rfl (tN (tT (tS (tR ?_))))
 refine tri_v (opv_loadA rfl rfl rfl) rfl ?_
 refine tM rfl rfl (tM rfl rfl ?_)
 refine tri_v (opv_negE rfl (by omega) (by omega)) rfl ?_
 refine tM rfl rfl ?_
 refine tri_v (opv_negE rfl (by omega) (by omega)) rfl ?_
 refine tri_v (opv_buildS rfl rfl) rfl ?_
 refine tri_g (opg_call (xs := [_, _, _]) rfl (ref07_flat (R6.nd ns n).lv.toNat _ _ _ _ _ room _ _ _ ⟨-R7.side (R6.nd ns n).lv, -R7.side (R6.nd ns n).lv⟩ (R7.of ns n) rfl rfl hr hs hn (by unfold R6.nd; omega) (by show _ ∧ -R7.side (ns.getD n.toNat default).lv + 2 ^ ((ns.getD n.toNat default).lv).toNat ≤ _ ∧ _ ∧ -R7.side (ns.getD n.toNat default).lv + 2 ^ ((ns.getD n.toNat default).lv).toNat ≤ _; rw [hsd2]; simp only [R6.nd]; omega) rfl hlen)) rfl ?_
 rintro _ _ J ⟨a1, c1, rfl, hq, rfl, hJ⟩
 refine tA rfl rfl (tN (tT (tri_ret ?_)))
 refine tri_end A Suf.h rfl (.cons (rv_tmp rfl) .nil) ⟨a1, c1, rfl, hq, rfl, hJ⟩
end Go.GL


set_option linter.unusedVariables false
namespace Go.GL
open Go.Proofs
attribute [local irreducible] wpList Code.wp Exit.then Exit.inBlock Ends Tri TriH OpV OpG FnC epf wpAnyH
theorem clone_nodes {A : List Asrt} {I : List Chunk} {ns : List Node} {a : Option Addr} {cap : Nat} (hs : SlAt I a ns) (hn : ns.length ≤ 1000000000) (h0 : 0 < ns.length) :
  FnC Try.prog 99 [.slice a ns.length cap].toArray A I (fun v A' I' => ∃ a' cap', v = .slice a' ns.length cap' ∧ A' = Row a' cap' ns.length 35 6 (encs ns) :: A ∧ I = I') := by
 have hsome := hs.some h0
 have hnone : a.isNone = false := by cases a <;> simp_all
 skip
 refine fn_enter1 Try.func99 rfl Try.ntmps99 rfl fun w0 => ?_
 refine tS (tR (tA rfl rfl (tN (tT (tS (tS (tR ?_)))))))
 refine tM rfl rfl ?_
 refine tri_v (opv_eqlNil rfl rfl) rfl ?_
 refine tN (tT ?_)
 refine tri_cond_false (congrArg some (congrArg Value.bool hnone)) ?_
 refine tri_skip (tT (tS (tR ?_)))
 refine tri_g (opg_buildSlice rfl rfl rfl rfl) rfl ?_
 rintro _ _ _ ⟨b5, rfl, rfl, rfl⟩
 refine tM rfl rfl ?_
 refine tri_boxRow (k := 0) (sz := 6) rfl ?_
 refine tri_g (opg_appendS rfl rfl hs rfl rfl (by omega) rfl) rfl ?_
 rintro _ _ _ ⟨a2, cap2, rfl, rfl, rfl⟩
 refine tA rfl rfl (tN (tT (tri_ret ?_)))
 refine tri_rowEq (len' := ns.length) (cells' := encs ns) (by omega) rfl ?_
 refine tri_end _ (⟨[], rfl⟩) rfl (.cons (rv_tmp rfl) .nil) ⟨a2, cap2, ?_, rfl, rfl⟩
 rw [Nat.zero_add]; rfl
set_option maxHeartbeats 1000000 in
set_option maxRecDepth 100000 in
theorem node_parent {A : List Asrt} {I : List Chunk} {ns : List Node} {a : Option Addr} {cap bx : Nat} {room q0 q1 q2 q3 : Int} {mv : Value} (hn : ns.length ≤ 1000000000) (hm : R6.Mod ns) :
  FnC Try.prog 96 [pt bx 0, int4V q0 q1 q2 q3].toArray (Box bx [.slice a ns.length cap, .int .i64 room, mv] 99 :: Row a cap ns.length 35 6 (encs ns) :: A) I (fun v A' I' => (∃ z ok, v = .tuple [nodeV z, .bool ok].toArray ∧ (ok = true ↔ R6.fit4 ns q0 q1 q2 q3) ∧ (ok = true → z = R6.mk4 ns q0 q1 q2 q3)) ∧ A' = (Box bx [.slice a ns.length cap, .int .i64 room, mv] 99 :: Row a cap ns.length 35 6 (encs ns) :: A) ∧ I = I') := by
 have bad : ∀ z, ¬ R6.fit4 ns q0 q1 q2 q3 → ∃ z' ok, Value.tuple [nodeV z, .bool false].toArray = .tuple [nodeV z', .bool ok].toArray ∧ (ok = true ↔ R6.fit4 ns q0 q1 q2 q3) ∧ (ok = true → z' = R6.mk4 ns q0 q1 q2 q3) :=
  fun z h => ⟨z, false, rfl, ⟨fun h2 => absurd h2 (by decide), fun h2 => absurd h2 h⟩, fun h2 => absurd h2 (by decide)⟩
 skip
 refine fn_enter2 Try.func96 rfl Try.ntmps96 rfl fun w0 => ?_
 refine tS (tR ?_)
 refine tri_g (opg_box_agg rfl) rfl ?_
 rintro _ _ _ ⟨b3, rfl, rfl, rfl⟩
 refine tri_g opg_alloc rfl ?_
 rintro _ _ _ ⟨b4, rfl, rfl, rfl⟩
 refine tA rfl rfl (tN (tT (tS (tS (tR ?_)))))
 refine tri_v (opv_loadA rfl rfl rfl) rfl ?_
 refine tM rfl rfl (tN (tT (tri_block ?_)))
 refine tri_rounds 5 ?_
 refine tri_round ?_
 refine tS (tR ?_)
 refine tri_v (opv_lss rfl rfl) rfl ?_
 refine tN (tT (tS ?_))
 refine tri_cond_is rfl (by decide) ?_
 refine tri_skip (tT (tS (tri_block (tS (tR (tM rfl rfl ?_))))))
 refine tri_v (opv_index rfl rfl (by decide) (by decide) rfl rfl) rfl ?_
 refine tA rfl rfl (tA rfl rfl (tN (tT (tS (tS (tR (tM rfl rfl ?_)))))))
 refine tri_v (opv_lss rfl rfl) rfl ?_
 refine tM rfl rfl ?_
 refine tri_split rfl rfl (fun h0a => ?_) (fun h0a => ?_)
 ·refine tri_guard_skip rfl rfl rfl rfl (tri_guard_skip rfl rfl rfl rfl (tri_guard_skip rfl rfl rfl rfl (tri_guard_skip rfl rfl rfl rfl (tri_guard_skip rfl rfl rfl rfl (tri_guard_skip rfl rfl rfl rfl (tri_guard_skip rfl rfl rfl rfl (tri_guard_skip rfl rfl rfl rfl ?_)))))))
  refine tri_v (opv_pick_t rfl rfl) rfl ?_
  refine tN (tT ?_)
  refine tri_cond_true rfl ?_
  refine tS (tR ?_)
  refine tri_v (opv_loadA rfl rfl rfl) rfl ?_
  refine tri_g (opg_store rfl rfl rfl rfl rfl rfl) rfl ?_
  rintro _ _ _ ⟨rfl, rfl⟩
  refine tA rfl rfl (tN (tT (tri_ret (tri_then_ret ?_))))
  refine tri_inBlock_ret ?_
  refine tri_then_ret (tri_then_ret ?_)
  refine tri_inBlock_ret ?_
  refine tri_then_ret ?_
  refine tri_end _ (⟨[_, _], rfl⟩) rfl (.cons (rv_cellA rfl rfl rfl) (.cons (rv_tmp rfl) .nil)) ⟨bad ⟨_, _, _, _, _, _⟩ ?_, rfl, rfl⟩
  unfold R6.fit4 R6.inS; omega
 refine tri_guard_run rfl rfl rfl (tM rfl rfl (tri_guard_run rfl rfl rfl (tM rfl rfl (tri_guard_run rfl rfl rfl ?_))))
 refine tri_v (opv_nilCheck rfl) rfl ?_
 refine tri_guard_run rfl rfl rfl ?_
 refine tri_v (opv_fieldAddr rfl rfl) rfl ?_
 refine tri_guard_run rfl rfl rfl ?_
 refine tri_v (opv_fieldAddr rfl rfl) rfl ?_
 refine tri_guard_run rfl rfl rfl ?_
 refine tri_v (opv_load1 rfl rfl rfl) rfl ?_
 refine tri_guard_run rfl rfl rfl ?_
 refine tri_v (opv_len rfl) rfl ?_
 refine tri_guard_run rfl rfl rfl ?_
 refine tri_v (opv_geq rfl rfl) rfl ?_
 refine tri_v (opv_pick_f rfl rfl) rfl ?_
 refine tN (tT ?_)
 refine tri_cond_dec rfl (fun h0b => ?_) (fun h0b => ?_)
 ·refine tS (tR ?_)
  refine tri_v (opv_loadA rfl rfl rfl) rfl ?_
  refine tri_g (opg_store rfl rfl rfl rfl rfl rfl) rfl ?_
  rintro _ _ _ ⟨rfl, rfl⟩
  refine tA rfl rfl (tN (tT (tri_ret (tri_then_ret ?_))))
  refine tri_inBlock_ret ?_
  refine tri_then_ret (tri_then_ret ?_)
  refine tri_inBlock_ret ?_
  refine tri_then_ret ?_
  refine tri_end _ (⟨[_, _], rfl⟩) rfl (.cons (rv_cellA rfl rfl rfl) (.cons (rv_tmp rfl) .nil)) ⟨bad ⟨_, _, _, _, _, _⟩ ?_, rfl, rfl⟩
  unfold R6.fit4 R6.inS; omega
 have b0 := hm.at h0a h0b
 refine tri_skip (tT (tS (tR (tM rfl rfl ?_))))
 refine tri_v (opv_nilCheck rfl) rfl ?_
 refine tri_v (opv_fieldAddr rfl rfl) rfl ?_
 refine tri_v (opv_fieldAddr rfl rfl) rfl ?_
 refine tri_v (opv_load1 rfl rfl rfl) rfl ?_
 refine tM rfl rfl ?_
 refine tri_v (opv_indexAddrR rfl rfl (by omega) (by omega)) rfl ?_
 refine tri_v (opv_loadRXA rfl rfl (by omega) rfl rfl rfl) rfl ?_
 refine tri_g opg_alloc rfl ?_
 rintro _ _ _ ⟨b8, rfl, rfl, rfl⟩
 refine tri_g (opg_store rfl rfl rfl rfl rfl rfl) rfl ?_
 rintro _ _ _ ⟨rfl, rfl⟩
 refine tN (tT (tS (tS (tR (tM rfl rfl ?_)))))
 refine tri_v (opv_gtr rfl rfl) rfl ?_
 refine tM rfl rfl ?_
 refine tri_false rfl rfl (by decide) ?_
 refine tri_guard_skip rfl rfl rfl rfl (tri_guard_skip rfl rfl rfl rfl (tri_guard_skip rfl rfl rfl rfl (tri_guard_skip rfl rfl rfl rfl (tri_guard_skip rfl rfl rfl rfl (tri_guard_skip rfl rfl rfl rfl ?_)))))
 refine tri_v (opv_pick_f rfl rfl) rfl ?_
 refine tN (tT ?_)
 refine tri_cond_false rfl ?_
 refine tri_skip (tT (tS (tR ?_)))
 refine tri_v (opv_fieldAddr rfl rfl) rfl ?_
 refine tri_v (opv_load1 rfl rfl rfl) rfl ?_
 refine tU rfl rfl (by omega) (by omega) rfl ?_
 refine tri_v (opv_fieldAddr rfl rfl) rfl ?_
 refine tri_g (opg_store rfl rfl rfl rfl rfl rfl) rfl ?_
 rintro _ _ _ ⟨rfl, rfl⟩
 refine tN (tT (tR ?_))
 refine tri_v (opv_fieldAddr rfl rfl) rfl ?_
 refine tri_v (opv_load1 rfl rfl rfl) rfl ?_
 refine tri_v (opv_fieldAddr rfl rfl) rfl ?_
 refine tri_v (opv_load1 rfl rfl rfl) rfl ?_
 refine tU rfl rfl (by omega) (by omega) rfl ?_
 refine tri_v (opv_min2 rfl rfl) rfl ?_
 refine tri_v (opv_fieldAddr rfl rfl) rfl ?_
 refine tri_g (opg_store rfl rfl rfl rfl rfl rfl) rfl ?_
 rintro _ _ _ ⟨rfl, rfl⟩
 refine tN ?_
 refine tri_inBlock ?_
 refine tT (tR ?_)
 refine tU rfl rfl (by omega) (by omega) rfl ?_
 refine tM rfl rfl (tN (tT ?_))
 refine tri_round ?_
 refine tS (tR ?_)
 refine tri_v (opv_lss rfl rfl) rfl ?_
 refine tN (tT (tS ?_))
 have e0 := R6.mn_bd (x := 0 + (ns.getD q0.toNat default).pop) (by omega)
 refine tri_drop ?_
 skip
 refine tri_cond_is rfl (by decide) ?_
 refine tri_skip (tT (tS (tri_block (tS (tR (tM rfl rfl ?_))))))
 refine tri_v (opv_index rfl rfl (by decide) (by decide) rfl rfl) rfl ?_
 refine tA rfl rfl (tA rfl rfl (tN (tT (tS (tS (tR (tM rfl rfl ?_)))))))
 refine tri_v (opv_lss rfl rfl) rfl ?_
 refine tM rfl rfl ?_
 refine tri_split rfl rfl (fun h1a => ?_) (fun h1a => ?_)
 ·refine tri_guard_skip rfl rfl rfl rfl (tri_guard_skip rfl rfl rfl rfl (tri_guard_skip rfl rfl rfl rfl (tri_guard_skip rfl rfl rfl rfl (tri_guard_skip rfl rfl rfl rfl (tri_guard_skip rfl rfl rfl rfl (tri_guard_skip rfl rfl rfl rfl (tri_guard_skip rfl rfl rfl rfl ?_)))))))
  refine tri_v (opv_pick_t rfl rfl) rfl ?_
  refine tN (tT ?_)
  refine tri_cond_true rfl ?_
  refine tS (tR ?_)
  refine tri_v (opv_loadA rfl rfl rfl) rfl ?_
  refine tri_g (opg_store rfl rfl rfl rfl rfl rfl) rfl ?_
  rintro _ _ _ ⟨rfl, rfl⟩
  refine tA rfl rfl (tN (tT (tri_ret (tri_then_ret ?_))))
  refine tri_inBlock_ret ?_
  refine tri_then_ret (tri_then_ret ?_)
  refine tri_inBlock_ret ?_
  refine tri_then_ret ?_
  refine tri_end _ (⟨[_, _], rfl⟩) rfl (.cons (rv_cellA rfl rfl rfl) (.cons (rv_tmp rfl) .nil)) ⟨bad ⟨_, _, _, _, _, _⟩ ?_, rfl, rfl⟩
  unfold R6.fit4 R6.inS; omega
 refine tri_guard_run rfl rfl rfl (tM rfl rfl (tri_guard_run rfl rfl rfl (tM rfl rfl (tri_guard_run rfl rfl rfl ?_))))
 refine tri_v (opv_nilCheck rfl) rfl ?_
 refine tri_guard_run rfl rfl rfl ?_
 refine tri_v (opv_fieldAddr rfl rfl) rfl ?_
 refine tri_guard_run rfl rfl rfl ?_
 refine tri_v (opv_fieldAddr rfl rfl) rfl ?_
 refine tri_guard_run rfl rfl rfl ?_
 refine tri_v (opv_load1 rfl rfl rfl) rfl ?_
 refine tri_guard_run rfl rfl rfl ?_
 refine tri_v (opv_len rfl) rfl ?_
 refine tri_guard_run rfl rfl rfl ?_
 refine tri_v (opv_geq rfl rfl) rfl ?_
 refine tri_v (opv_pick_f rfl rfl) rfl ?_
 refine tN (tT ?_)
 refine tri_cond_dec rfl (fun h1b => ?_) (fun h1b => ?_)
 ·refine tS (tR ?_)
  refine tri_v (opv_loadA rfl rfl rfl) rfl ?_
  refine tri_g (opg_store rfl rfl rfl rfl rfl rfl) rfl ?_
  rintro _ _ _ ⟨rfl, rfl⟩
  refine tA rfl rfl (tN (tT (tri_ret (tri_then_ret ?_))))
  refine tri_inBlock_ret ?_
  refine tri_then_ret (tri_then_ret ?_)
  refine tri_inBlock_ret ?_
  refine tri_then_ret ?_
  refine tri_end _ (⟨[_, _], rfl⟩) rfl (.cons (rv_cellA rfl rfl rfl) (.cons (rv_tmp rfl) .nil)) ⟨bad ⟨_, _, _, _, _, _⟩ ?_, rfl, rfl⟩
  unfold R6.fit4 R6.inS; omega
 have b1 := hm.at h1a h1b
 refine tri_skip (tT (tS (tR (tM rfl rfl ?_))))
 refine tri_v (opv_nilCheck rfl) rfl ?_
 refine tri_v (opv_fieldAddr rfl rfl) rfl ?_
 refine tri_v (opv_fieldAddr rfl rfl) rfl ?_
 refine tri_v (opv_load1 rfl rfl rfl) rfl ?_
 refine tM rfl rfl ?_
 refine tri_v (opv_indexAddrR rfl rfl (by omega) (by omega)) rfl ?_
 refine tri_v (opv_loadRXA rfl rfl (by omega) rfl rfl rfl) rfl ?_
 refine tri_g opg_alloc rfl ?_
 rintro _ _ _ ⟨b8, rfl, rfl, rfl⟩
 refine tri_g (opg_store rfl rfl rfl rfl rfl rfl) rfl ?_
 rintro _ _ _ ⟨rfl, rfl⟩
 refine tN (tT (tS (tS (tR (tM rfl rfl ?_)))))
 refine tri_v (opv_gtr rfl rfl) rfl ?_
 refine tM rfl rfl ?_
 refine tri_true rfl rfl (by decide) ?_
 refine tri_guard_run rfl rfl rfl ?_
 refine tri_v (opv_fieldAddr rfl rfl) rfl ?_
 refine tri_guard_run rfl rfl rfl ?_
 refine tri_v (opv_load1 rfl rfl rfl) rfl ?_
 refine tri_guard_run rfl rfl rfl ?_
 refine tri_v (opv_fieldAddr rfl rfl) rfl ?_
 refine tri_guard_run rfl rfl rfl ?_
 refine tri_v (opv_load1 rfl rfl rfl) rfl ?_
 refine tri_guard_run rfl rfl rfl ?_
 refine tri_v (opv_sub rfl rfl (w64 (by omega) (by omega))) rfl ?_
 refine tri_guard_run rfl rfl rfl ?_
 refine tri_v (opv_neq rfl rfl) rfl ?_
 refine tri_v (opv_pick_t rfl rfl) rfl ?_
 refine tN (tT ?_)
 refine tri_cond_dec rfl (fun h1c => ?_) (fun h1c => ?_)
 ·refine tS (tR ?_)
  refine tri_v (opv_loadA rfl rfl rfl) rfl ?_
  refine tri_g (opg_store rfl rfl rfl rfl rfl rfl) rfl ?_
  rintro _ _ _ ⟨rfl, rfl⟩
  refine tA rfl rfl (tN (tT (tri_ret (tri_then_ret ?_))))
  refine tri_inBlock_ret ?_
  refine tri_then_ret (tri_then_ret ?_)
  refine tri_inBlock_ret ?_
  refine tri_then_ret ?_
  refine tri_end _ (⟨[_, _, _], rfl⟩) rfl (.cons (rv_cellA rfl rfl rfl) (.cons (rv_tmp rfl) .nil)) ⟨bad ⟨_, _, _, _, _, _⟩ ?_, rfl, rfl⟩
  unfold R6.fit4 R6.nd R6.inS; omega
 refine tri_skip (tT (tS (tR ?_)))
 refine tri_v (opv_fieldAddr rfl rfl) rfl ?_
 refine tri_v (opv_load1 rfl rfl rfl) rfl ?_
 refine tU rfl rfl (by omega) (by omega) rfl ?_
 refine tri_v (opv_fieldAddr rfl rfl) rfl ?_
 refine tri_g (opg_store rfl rfl rfl rfl rfl rfl) rfl ?_
 rintro _ _ _ ⟨rfl, rfl⟩
 refine tN (tT (tR ?_))
 refine tri_v (opv_fieldAddr rfl rfl) rfl ?_
 refine tri_v (opv_load1 rfl rfl rfl) rfl ?_
 refine tri_v (opv_fieldAddr rfl rfl) rfl ?_
 refine tri_v (opv_load1 rfl rfl rfl) rfl ?_
 refine tU rfl rfl (by omega) (by omega) rfl ?_
 refine tri_v (opv_min2 rfl rfl) rfl ?_
 refine tri_v (opv_fieldAddr rfl rfl) rfl ?_
 refine tri_g (opg_store rfl rfl rfl rfl rfl rfl) rfl ?_
 rintro _ _ _ ⟨rfl, rfl⟩
 refine tN ?_
 refine tri_inBlock ?_
 refine tT (tR ?_)
 refine tU rfl rfl (by omega) (by omega) rfl ?_
 refine tM rfl rfl (tN (tT ?_))
 refine tri_round ?_
 refine tS (tR ?_)
 refine tri_v (opv_lss rfl rfl) rfl ?_
 refine tN (tT (tS ?_))
 have e1 := R6.mn_bd (x := (if 4611686018427387903 < 0 + (ns.getD q0.toNat default).pop then 4611686018427387903 else 0 + (ns.getD q0.toNat default).pop) + (ns.getD q1.toNat default).pop) (by omega)
 refine tri_drop ?_
 skip
 refine tri_cond_is rfl (by decide) ?_
 refine tri_skip (tT (tS (tri_block (tS (tR (tM rfl rfl ?_))))))
 refine tri_v (opv_index rfl rfl (by decide) (by decide) rfl rfl) rfl ?_
 refine tA rfl rfl (tA rfl rfl (tN (tT (tS (tS (tR (tM rfl rfl ?_)))))))
 refine tri_v (opv_lss rfl rfl) rfl ?_
 refine tM rfl rfl ?_
 refine tri_split rfl rfl (fun h2a => ?_) (fun h2a => ?_)
 ·refine tri_guard_skip rfl rfl rfl rfl (tri_guard_skip rfl rfl rfl rfl (tri_guard_skip rfl rfl rfl rfl (tri_guard_skip rfl rfl rfl rfl (tri_guard_skip rfl rfl rfl rfl (tri_guard_skip rfl rfl rfl rfl (tri_guard_skip rfl rfl rfl rfl (tri_guard_skip rfl rfl rfl rfl ?_)))))))
  refine tri_v (opv_pick_t rfl rfl) rfl ?_
  refine tN (tT ?_)
  refine tri_cond_true rfl ?_
  refine tS (tR ?_)
  refine tri_v (opv_loadA rfl rfl rfl) rfl ?_
  refine tri_g (opg_store rfl rfl rfl rfl rfl rfl) rfl ?_
  rintro _ _ _ ⟨rfl, rfl⟩
  refine tA rfl rfl (tN (tT (tri_ret (tri_then_ret ?_))))
  refine tri_inBlock_ret ?_
  refine tri_then_ret (tri_then_ret ?_)
  refine tri_inBlock_ret ?_
  refine tri_then_ret ?_
  refine tri_end _ (⟨[_, _], rfl⟩) rfl (.cons (rv_cellA rfl rfl rfl) (.cons (rv_tmp rfl) .nil)) ⟨bad ⟨_, _, _, _, _, _⟩ ?_, rfl, rfl⟩
  unfold R6.fit4 R6.inS; omega
 refine tri_guard_run rfl rfl rfl (tM rfl rfl (tri_guard_run rfl rfl rfl (tM rfl rfl (tri_guard_run rfl rfl rfl ?_))))
 refine tri_v (opv_nilCheck rfl) rfl ?_
 refine tri_guard_run rfl rfl rfl ?_
 refine tri_v (opv_fieldAddr rfl rfl) rfl ?_
 refine tri_guard_run rfl rfl rfl ?_
 refine tri_v (opv_fieldAddr rfl rfl) rfl ?_
 refine tri_guard_run rfl rfl rfl ?_
 refine tri_v (opv_load1 rfl rfl rfl) rfl ?_
 refine tri_guard_run rfl rfl rfl ?_
 refine tri_v (opv_len rfl) rfl ?_
 refine tri_guard_run rfl rfl rfl ?_
 refine tri_v (opv_geq rfl rfl) rfl ?_
 refine tri_v (opv_pick_f rfl rfl) rfl ?_
 refine tN (tT ?_)
 refine tri_cond_dec rfl (fun h2b => ?_) (fun h2b => ?_)
 ·refine tS (tR ?_)
  refine tri_v (opv_loadA rfl rfl rfl) rfl ?_
  refine tri_g (opg_store rfl rfl rfl rfl rfl rfl) rfl ?_
  rintro _ _ _ ⟨rfl, rfl⟩
  refine tA rfl rfl (tN (tT (tri_ret (tri_then_ret ?_))))
  refine tri_inBlock_ret ?_
  refine tri_then_ret (tri_then_ret ?_)
  refine tri_inBlock_ret ?_
  refine tri_then_ret ?_
  refine tri_end _ (⟨[_, _], rfl⟩) rfl (.cons (rv_cellA rfl rfl rfl) (.cons (rv_tmp rfl) .nil)) ⟨bad ⟨_, _, _, _, _, _⟩ ?_, rfl, rfl⟩
  unfold R6.fit4 R6.inS; omega
 have b2 := hm.at h2a h2b
 refine tri_skip (tT (tS (tR (tM rfl rfl ?_))))
 refine tri_v (opv_nilCheck rfl) rfl ?_
 refine tri_v (opv_fieldAddr rfl rfl) rfl ?_
 refine tri_v (opv_fieldAddr rfl rfl) rfl ?_
 refine tri_v (opv_load1 rfl rfl rfl) rfl ?_
 refine tM rfl rfl ?_
 refine tri_v (opv_indexAddrR rfl rfl (by omega) (by omega)) rfl ?_
 refine tri_v (opv_loadRXA rfl rfl (by omega) rfl rfl rfl) rfl ?_
 refine tri_g opg_alloc rfl ?_
 rintro _ _ _ ⟨b8, rfl, rfl, rfl⟩
 refine tri_g (opg_store rfl rfl rfl rfl rfl rfl) rfl ?_
 rintro _ _ _ ⟨rfl, rfl⟩
 refine tN (tT (tS (tS (tR (tM rfl rfl ?_)))))
 refine tri_v (opv_gtr rfl rfl) rfl ?_
 refine tM rfl rfl ?_
 refine tri_true rfl rfl (by decide) ?_
 refine tri_guard_run rfl rfl rfl ?_
 refine tri_v (opv_fieldAddr rfl rfl) rfl ?_
 refine tri_guard_run rfl rfl rfl ?_
 refine tri_v (opv_load1 rfl rfl rfl) rfl ?_
 refine tri_guard_run rfl rfl rfl ?_
 refine tri_v (opv_fieldAddr rfl rfl) rfl ?_
 refine tri_guard_run rfl rfl rfl ?_
 refine tri_v (opv_load1 rfl rfl rfl) rfl ?_
 refine tri_guard_run rfl rfl rfl ?_
 refine tri_v (opv_sub rfl rfl (w64 (by omega) (by omega))) rfl ?_
 refine tri_guard_run rfl rfl rfl ?_
 refine tri_v (opv_neq rfl rfl) rfl ?_
 refine tri_v (opv_pick_t rfl rfl) rfl ?_
 refine tN (tT ?_)
 refine tri_cond_dec rfl (fun h2c => ?_) (fun h2c => ?_)
 ·refine tS (tR ?_)
  refine tri_v (opv_loadA rfl rfl rfl) rfl ?_
  refine tri_g (opg_store rfl rfl rfl rfl rfl rfl) rfl ?_
  rintro _ _ _ ⟨rfl, rfl⟩
  refine tA rfl rfl (tN (tT (tri_ret (tri_then_ret ?_))))
  refine tri_inBlock_ret ?_
  refine tri_then_ret (tri_then_ret ?_)
  refine tri_inBlock_ret ?_
  refine tri_then_ret ?_
  refine tri_end _ (⟨[_, _, _], rfl⟩) rfl (.cons (rv_cellA rfl rfl rfl) (.cons (rv_tmp rfl) .nil)) ⟨bad ⟨_, _, _, _, _, _⟩ ?_, rfl, rfl⟩
  unfold R6.fit4 R6.nd R6.inS; omega
 refine tri_skip (tT (tS (tR ?_)))
 refine tri_v (opv_fieldAddr rfl rfl) rfl ?_
 refine tri_v (opv_load1 rfl rfl rfl) rfl ?_
 refine tU rfl rfl (by omega) (by omega) rfl ?_
 refine tri_v (opv_fieldAddr rfl rfl) rfl ?_
 refine tri_g (opg_store rfl rfl rfl rfl rfl rfl) rfl ?_
 rintro _ _ _ ⟨rfl, rfl⟩
 refine tN (tT (tR ?_))
 refine tri_v (opv_fieldAddr rfl rfl) rfl ?_
 refine tri_v (opv_load1 rfl rfl rfl) rfl ?_
 refine tri_v (opv_fieldAddr rfl rfl) rfl ?_
 refine tri_v (opv_load1 rfl rfl rfl) rfl ?_
 refine tU rfl rfl (by omega) (by omega) rfl ?_
 refine tri_v (opv_min2 rfl rfl) rfl ?_
 refine tri_v (opv_fieldAddr rfl rfl) rfl ?_
 refine tri_g (opg_store rfl rfl rfl rfl rfl rfl) rfl ?_
 rintro _ _ _ ⟨rfl, rfl⟩
 refine tN ?_
 refine tri_inBlock ?_
 refine tT (tR ?_)
 refine tU rfl rfl (by omega) (by omega) rfl ?_
 refine tM rfl rfl (tN (tT ?_))
 refine tri_round ?_
 refine tS (tR ?_)
 refine tri_v (opv_lss rfl rfl) rfl ?_
 refine tN (tT (tS ?_))
 have e2 := R6.mn_bd (x := (if 4611686018427387903 < (if 4611686018427387903 < 0 + (ns.getD q0.toNat default).pop then 4611686018427387903 else 0 + (ns.getD q0.toNat default).pop) + (ns.getD q1.toNat default).pop then 4611686018427387903 else (if 4611686018427387903 < 0 + (ns.getD q0.toNat default).pop then 4611686018427387903 else 0 + (ns.getD q0.toNat default).pop) + (ns.getD q1.toNat default).pop) + (ns.getD q2.toNat default).pop) (by omega)
 refine tri_drop ?_
 skip
 refine tri_cond_is rfl (by decide) ?_
 refine tri_skip (tT (tS (tri_block (tS (tR (tM rfl rfl ?_))))))
 refine tri_v (opv_index rfl rfl (by decide) (by decide) rfl rfl) rfl ?_
 refine tA rfl rfl (tA rfl rfl (tN (tT (tS (tS (tR (tM rfl rfl ?_)))))))
 refine tri_v (opv_lss rfl rfl) rfl ?_
 refine tM rfl rfl ?_
 refine tri_split rfl rfl (fun h3a => ?_) (fun h3a => ?_)
 ·refine tri_guard_skip rfl rfl rfl rfl (tri_guard_skip rfl rfl rfl rfl (tri_guard_skip rfl rfl rfl rfl (tri_guard_skip rfl rfl rfl rfl (tri_guard_skip rfl rfl rfl rfl (tri_guard_skip rfl rfl rfl rfl (tri_guard_skip rfl rfl rfl rfl (tri_guard_skip rfl rfl rfl rfl ?_)))))))
  refine tri_v (opv_pick_t rfl rfl) rfl ?_
  refine tN (tT ?_)
  refine tri_cond_true rfl ?_
  refine tS (tR ?_)
  refine tri_v (opv_loadA rfl rfl rfl) rfl ?_
  refine tri_g (opg_store rfl rfl rfl rfl rfl rfl) rfl ?_
  rintro _ _ _ ⟨rfl, rfl⟩
  refine tA rfl rfl (tN (tT (tri_ret (tri_then_ret ?_))))
  refine tri_inBlock_ret ?_
  refine tri_then_ret (tri_then_ret ?_)
  refine tri_inBlock_ret ?_
  refine tri_then_ret ?_
  refine tri_end _ (⟨[_, _], rfl⟩) rfl (.cons (rv_cellA rfl rfl rfl) (.cons (rv_tmp rfl) .nil)) ⟨bad ⟨_, _, _, _, _, _⟩ ?_, rfl, rfl⟩
  unfold R6.fit4 R6.inS; omega
 refine tri_guard_run rfl rfl rfl (tM rfl rfl (tri_guard_run rfl rfl rfl (tM rfl rfl (tri_guard_run rfl rfl rfl ?_))))
 refine tri_v (opv_nilCheck rfl) rfl ?_
 refine tri_guard_run rfl rfl rfl ?_
 refine tri_v (opv_fieldAddr rfl rfl) rfl ?_
 refine tri_guard_run rfl rfl rfl ?_
 refine tri_v (opv_fieldAddr rfl rfl) rfl ?_
 refine tri_guard_run rfl rfl rfl ?_
 refine tri_v (opv_load1 rfl rfl rfl) rfl ?_
 refine tri_guard_run rfl rfl rfl ?_
 refine tri_v (opv_len rfl) rfl ?_
 refine tri_guard_run rfl rfl rfl ?_
 refine tri_v (opv_geq rfl rfl) rfl ?_
 refine tri_v (opv_pick_f rfl rfl) rfl ?_
 refine tN (tT ?_)
 refine tri_cond_dec rfl (fun h3b => ?_) (fun h3b => ?_)
 ·refine tS (tR ?_)
  refine tri_v (opv_loadA rfl rfl rfl) rfl ?_
  refine tri_g (opg_store rfl rfl rfl rfl rfl rfl) rfl ?_
  rintro _ _ _ ⟨rfl, rfl⟩
  refine tA rfl rfl (tN (tT (tri_ret (tri_then_ret ?_))))
  refine tri_inBlock_ret ?_
  refine tri_then_ret (tri_then_ret ?_)
  refine tri_inBlock_ret ?_
  refine tri_then_ret ?_
  refine tri_end _ (⟨[_, _], rfl⟩) rfl (.cons (rv_cellA rfl rfl rfl) (.cons (rv_tmp rfl) .nil)) ⟨bad ⟨_, _, _, _, _, _⟩ ?_, rfl, rfl⟩
  unfold R6.fit4 R6.inS; omega
 have b3 := hm.at h3a h3b
 refine tri_skip (tT (tS (tR (tM rfl rfl ?_))))
 refine tri_v (opv_nilCheck rfl) rfl ?_
 refine tri_v (opv_fieldAddr rfl rfl) rfl ?_
 refine tri_v (opv_fieldAddr rfl rfl) rfl ?_
 refine tri_v (opv_load1 rfl rfl rfl) rfl ?_
 refine tM rfl rfl ?_
 refine tri_v (opv_indexAddrR rfl rfl (by omega) (by omega)) rfl ?_
 refine tri_v (opv_loadRXA rfl rfl (by omega) rfl rfl rfl) rfl ?_
 refine tri_g opg_alloc rfl ?_
 rintro _ _ _ ⟨b8, rfl, rfl, rfl⟩
 refine tri_g (opg_store rfl rfl rfl rfl rfl rfl) rfl ?_
 rintro _ _ _ ⟨rfl, rfl⟩
 refine tN (tT (tS (tS (tR (tM rfl rfl ?_)))))
 refine tri_v (opv_gtr rfl rfl) rfl ?_
 refine tM rfl rfl ?_
 refine tri_true rfl rfl (by decide) ?_
 refine tri_guard_run rfl rfl rfl ?_
 refine tri_v (opv_fieldAddr rfl rfl) rfl ?_
 refine tri_guard_run rfl rfl rfl ?_
 refine tri_v (opv_load1 rfl rfl rfl) rfl ?_
 refine tri_guard_run rfl rfl rfl ?_
 refine tri_v (opv_fieldAddr rfl rfl) rfl ?_
 refine tri_guard_run rfl rfl rfl ?_
 refine tri_v (opv_load1 rfl rfl rfl) rfl ?_
 refine tri_guard_run rfl rfl rfl ?_
 refine tri_v (opv_sub rfl rfl (w64 (by omega) (by omega))) rfl ?_
 refine tri_guard_run rfl rfl rfl ?_
 refine tri_v (opv_neq rfl rfl) rfl ?_
 refine tri_v (opv_pick_t rfl rfl) rfl ?_
 refine tN (tT ?_)
 refine tri_cond_dec rfl (fun h3c => ?_) (fun h3c => ?_)
 ·refine tS (tR ?_)
  refine tri_v (opv_loadA rfl rfl rfl) rfl ?_
  refine tri_g (opg_store rfl rfl rfl rfl rfl rfl) rfl ?_
  rintro _ _ _ ⟨rfl, rfl⟩
  refine tA rfl rfl (tN (tT (tri_ret (tri_then_ret ?_))))
  refine tri_inBlock_ret ?_
  refine tri_then_ret (tri_then_ret ?_)
  refine tri_inBlock_ret ?_
  refine tri_then_ret ?_
  refine tri_end _ (⟨[_, _, _], rfl⟩) rfl (.cons (rv_cellA rfl rfl rfl) (.cons (rv_tmp rfl) .nil)) ⟨bad ⟨_, _, _, _, _, _⟩ ?_, rfl, rfl⟩
  unfold R6.fit4 R6.nd R6.inS; omega
 refine tri_skip (tT (tS (tR ?_)))
 refine tri_v (opv_fieldAddr rfl rfl) rfl ?_
 refine tri_v (opv_load1 rfl rfl rfl) rfl ?_
 refine tU rfl rfl (by omega) (by omega) rfl ?_
 refine tri_v (opv_fieldAddr rfl rfl) rfl ?_
 refine tri_g (opg_store rfl rfl rfl rfl rfl rfl) rfl ?_
 rintro _ _ _ ⟨rfl, rfl⟩
 refine tN (tT (tR ?_))
 refine tri_v (opv_fieldAddr rfl rfl) rfl ?_
 refine tri_v (opv_load1 rfl rfl rfl) rfl ?_
 refine tri_v (opv_fieldAddr rfl rfl) rfl ?_
 refine tri_v (opv_load1 rfl rfl rfl) rfl ?_
 refine tU rfl rfl (by omega) (by omega) rfl ?_
 refine tri_v (opv_min2 rfl rfl) rfl ?_
 refine tri_v (opv_fieldAddr rfl rfl) rfl ?_
 refine tri_g (opg_store rfl rfl rfl rfl rfl rfl) rfl ?_
 rintro _ _ _ ⟨rfl, rfl⟩
 refine tN ?_
 refine tri_inBlock ?_
 refine tT (tR ?_)
 refine tU rfl rfl (by omega) (by omega) rfl ?_
 refine tM rfl rfl (tN (tT ?_))
 refine tri_round ?_
 refine tS (tR ?_)
 refine tri_v (opv_lss rfl rfl) rfl ?_
 refine tN (tT (tS ?_))
 refine tri_drop ?_
 skip
 refine tri_cond_not rfl (by decide) ?_
 refine tri_exit ?_
 refine tri_then_exit ?_
 refine tri_then_exit ?_
 refine tri_inBlock_hit rfl ?_
 refine tT (tS (tR ?_))
 refine tri_v (opv_loadA rfl rfl rfl) rfl ?_
 refine tri_v (opv_fieldAddr rfl rfl) rfl ?_
 refine tri_g (opg_store rfl rfl rfl rfl rfl rfl) rfl ?_
 rintro _ _ _ ⟨rfl, rfl⟩
 refine tN (tT (tS (tR ?_)))
 refine tri_v (opv_loadA rfl rfl rfl) rfl ?_
 refine tri_v (opv_fieldAddr rfl rfl) rfl ?_
 refine tri_v (opv_load1 rfl rfl rfl) rfl ?_
 refine tri_v (opv_leq rfl rfl) rfl ?_
 refine tri_g (opg_store rfl rfl rfl rfl rfl rfl) rfl ?_
 rintro _ _ _ ⟨rfl, rfl⟩
 refine tA rfl rfl (tN (tT (tri_ret ?_)))
 refine tri_end _ (⟨[_, _], rfl⟩) rfl (.cons (rv_cellA rfl rfl rfl) (.cons (rv_tmp rfl) .nil)) ⟨⟨⟨_, _, _, _, _, _⟩, _, rfl, ?_, fun h => ?_⟩, rfl, rfl⟩
 ·rw [decide_eq_true_iff]
  unfold R6.fit4 R6.nd R6.inS
  omega
 ·unfold R6.mk4 R6.nd
  rw [Node.mk.injEq]
  exact ⟨by omega, rfl, rfl, rfl, rfl, rfl⟩
end Go.GL


set_option linter.unusedVariables false
namespace Go.GL
open Go.Proofs
attribute [local irreducible] wpList Code.wp Exit.then Exit.inBlock Ends Tri TriH OpV OpG FnC epf wpAnyH
theorem key4 (q0 q1 q2 q3 : Int) : int4V q0 q1 q2 q3 = mkv Try.prog 33 [q0, q1, q2, q3] := by kernel_rfl
theorem zeroInt (w : World) : (zeroValue 3).run Try.prog w = .ok (.int .i64 0) w := by kernel_rfl
theorem keyAt : intAt Try.prog 9 33 = some 4 := by kernel_rfl
/-- The index, as it lies in the heap. -/
abbrev IxA (bx mb : Nat) (a : Option Addr) (cap : Nat) (ns : List Node) (room : Int) (es : KVs) (A : List Asrt) : List Asrt :=
 Box bx [.slice a ns.length cap, .int .i64 room, .map (some mb)] 99 :: Row a cap ns.length 35 6 (encs ns) :: MapA Try.prog 33 mb es :: A
set_option maxHeartbeats 1000000 in
set_option maxRecDepth 100000 in
theorem node_put {A : List Asrt} {I : List Chunk} {ns : List Node} {a : Option Addr} {cap bx mb : Nat} {room q0 q1 q2 q3 : Int} {es : KVs} (hg : R6.Good ns room) (h2 : 2 ≤ ns.length) (hi : Idx ns es) :
  FnC Try.prog 87 [pt bx 0, int4V q0 q1 q2 q3].toArray (IxA bx mb a cap ns room es A) I (fun v A' I' => ∃ a' cap' es', v = .tuple [.int .i64 (R6.put ns room q0 q1 q2 q3).2.1, .int .i64 (R6.put ns room q0 q1 q2 q3).2.2].toArray ∧ A' = IxA bx mb a' cap' (R6.put ns room q0 q1 q2 q3).1 room es' A ∧ Idx (R6.put ns room q0 q1 q2 q3).1 es' ∧ I = I') := by
 have hn := hg.len
 have hmf := hi [q0, q1, q2, q3]
 skip
 refine fn_enter2 Try.func87 rfl Try.ntmps87 rfl fun w0 => ?_
 refine tS (tR ?_)
 refine tri_g (opg_box_agg rfl) rfl ?_
 rintro _ _ _ ⟨b3, rfl, rfl, rfl⟩
 refine tA rfl rfl (tA rfl rfl (tN (tT (tS ?_))))
 refine tri_perm (A := ?a1_0 :: ?a1_1 :: ?a1_2 :: ?T1) (B := ?a1_1 :: ?a1_2 :: ?a1_0 :: ?T1) (by exact permL [1, 2, 0] [?a1_0, ?a1_1, ?a1_2] ?T1 (by decide) rfl) ?_
 refine tR (tM rfl rfl ?_)
 refine tri_v (opv_loadA rfl rfl rfl) rfl ?_
 refine tri_g (opg_call (xs := [_, _]) rfl (node_parent hn hg.mod)) rfl ?_
 rintro _ _ _ ⟨⟨z, ok, rfl, hok, hz⟩, rfl, rfl⟩
 refine tM rfl rfl ?_
 refine tri_v (opv_extract rfl rfl) rfl ?_
 refine tri_v (opv_extract rfl rfl) rfl ?_
 refine tri_g opg_alloc rfl ?_
 rintro _ _ _ ⟨b6, rfl, rfl, rfl⟩
 refine tri_g (opg_store rfl rfl rfl rfl rfl rfl) rfl ?_
 rintro _ _ _ ⟨rfl, rfl⟩
 refine tA rfl rfl (tN (tT (tS (tS (tR (tM rfl rfl ?_))))))
 refine tri_v (opv_not rfl) rfl ?_
 refine tN (tT ?_)
 refine tri_cond rfl (fun h => ?_) (fun h => ?_)
 ·have hf : ¬ R6.fit4 ns q0 q1 q2 q3 := fun hf => by
   rw [hok.2 hf] at h; cases h
  rw [show R6.put ns room q0 q1 q2 q3 = (ns, 0, 1) from if_neg hf]
  refine tS (tR (tA rfl rfl (tA rfl rfl (tN (tT (tri_ret (tri_then_ret ?_)))))))
  refine tri_perm (A := ?a2_0 :: ?a2_1 :: ?a2_2 :: ?a2_3 :: ?a2_4 :: ?T2) (B := ?a2_0 :: ?a2_3 :: ?a2_1 :: ?a2_2 :: ?a2_4 :: ?T2) (by exact permL [0, 3, 1, 2, 4] [?a2_0, ?a2_1, ?a2_2, ?a2_3, ?a2_4] ?T2 (by decide) rfl) ?_
  refine tri_end _ (⟨[_, _], rfl⟩) rfl (.cons (rv_tmp rfl) (.cons (rv_tmp rfl) .nil)) ⟨a, cap, es, rfl, rfl, hi, rfl⟩
 have hok1 : ok = true := by cases ok <;> simp_all
 have hf := hok.1 hok1
 have hz' := hz hok1
 subst hz'
 have hput : R6.put ns room q0 q1 q2 q3 = if 0 ≤ R6.at_ ns [q0, q1, q2, q3] then (ns, R6.at_ ns [q0, q1, q2, q3], 0) else if room ≤ ns.length then (ns, 0, 40) else (ns ++ [R6.mk4 ns q0 q1 q2 q3], ns.length, 0) := if_pos hf
 refine tri_skip (tT (tS (tS ?_)))
 refine tri_draw [0, 1, 2, 3, 4, 5, 6, 7, 8, 9, 10] rfl [] rfl mixed ?_
 refine th_take rfl rfl (by kernel_rfl)  (opv_move rfl) ?_
 refine th_take rfl rfl (by kernel_rfl)  (opv_nilCheck rfl) ?_
 refine th_take rfl rfl (by kernel_rfl)  (opv_fieldAddr rfl rfl) ?_
 refine th_take rfl rfl (by kernel_rfl)  (opv_load1 rfl rfl rfl) ?_
 refine th_take rfl rfl (by kernel_rfl)  (opv_loadA rfl rfl rfl) ?_
 refine th_take rfl rfl (by kernel_rfl)  (opv_lookup2 (P := Try.prog) (ks := [q0, q1, q2, q3]) zeroInt rfl rfl (key4 q0 q1 q2 q3) keyAt rfl) ?_
 refine th_take rfl rfl (by kernel_rfl)  (opv_move rfl) ?_
 refine th_take rfl rfl (by kernel_rfl)  (opv_extract rfl rfl) ?_
 refine th_take rfl rfl (by kernel_rfl)  (opv_extract rfl rfl) ?_
 refine th_take rfl rfl (by kernel_rfl)  (opv_assign rfl) ?_
 refine th_take rfl rfl (by kernel_rfl)  (opv_assign rfl) ?_
 refine th_done (by kernel_rfl) ?_
 refine tT (tS (tR (tM rfl rfl (tN (tT ?_)))))
 by_cases hat : 0 ≤ R6.at_ ns [q0, q1, q2, q3]
 ·rw [if_pos hat] at hmf hput
  rw [hput]
  refine tri_cond_true (congrArg (fun o => some (Value.bool (Option.isSome o))) hmf) ?_
  refine tS (tR (tM rfl rfl (tA rfl rfl (tA rfl rfl (tN (tT (tri_ret ?_)))))))
  refine tri_then_ret ?_
  refine tri_perm (A := ?a3_0 :: ?a3_1 :: ?a3_2 :: ?a3_3 :: ?a3_4 :: ?T3) (B := ?a3_0 :: ?a3_3 :: ?a3_1 :: ?a3_2 :: ?a3_4 :: ?T3) (by exact permL [0, 3, 1, 2, 4] [?a3_0, ?a3_1, ?a3_2, ?a3_3, ?a3_4] ?T3 (by decide) rfl) ?_
  refine tri_end _ (⟨[_, _], rfl⟩) rfl (.cons (rv_tmp rfl) (.cons (rv_tmp rfl) .nil)) ⟨a, cap, es, ?_, rfl, hi, rfl⟩
  rw [hmf]; rfl
 rw [if_neg hat] at hmf hput
 skip
 refine tri_cond_false (congrArg (fun o => some (Value.bool (Option.isSome o))) hmf) ?_
 refine tri_skip (tT (tS (tS ?_)))
 refine tri_draw [0, 1, 2, 3, 4, 5, 6, 7, 8, 9, 10, 11] rfl [] rfl mixed ?_
 refine th_take rfl rfl (by kernel_rfl)  (opv_move rfl) ?_
 refine th_take rfl rfl (by kernel_rfl)  (opv_nilCheck rfl) ?_
 refine th_take rfl rfl (by kernel_rfl)  (opv_fieldAddr rfl rfl) ?_
 refine th_take rfl rfl (by kernel_rfl)  (opv_fieldAddr rfl rfl) ?_
 refine th_take rfl rfl (by kernel_rfl)  (opv_load1 rfl rfl rfl) ?_
 refine th_take rfl rfl (by kernel_rfl)  (opv_len rfl) ?_
 refine th_take rfl rfl (by kernel_rfl)  (opv_move rfl) ?_
 refine th_take rfl rfl (by kernel_rfl)  (opv_nilCheck rfl) ?_
 refine th_take rfl rfl (by kernel_rfl)  (opv_fieldAddr rfl rfl) ?_
 refine th_take rfl rfl (by kernel_rfl)  (opv_fieldAddr rfl rfl) ?_
 refine th_take rfl rfl (by kernel_rfl)  (opv_load1 rfl rfl rfl) ?_
 refine th_take rfl rfl (by kernel_rfl)  (opv_geq rfl rfl) ?_
 refine th_done (by kernel_rfl) ?_
 refine tT ?_
 refine tri_cond_dec rfl (fun h7 => ?_) (fun h7 => ?_)
 ·rw [if_pos h7] at hput
  rw [hput]
  refine tS (tR (tA rfl rfl (tA rfl rfl (tN (tT (tri_ret (tri_then_ret ?_)))))))
  refine tri_perm (A := ?a4_0 :: ?a4_1 :: ?a4_2 :: ?a4_3 :: ?a4_4 :: ?T4) (B := ?a4_0 :: ?a4_3 :: ?a4_1 :: ?a4_2 :: ?a4_4 :: ?T4) (by exact permL [0, 3, 1, 2, 4] [?a4_0, ?a4_1, ?a4_2, ?a4_3, ?a4_4] ?T4 (by decide) rfl) ?_
  refine tri_end _ (⟨[_, _], rfl⟩) rfl (.cons (rv_tmp rfl) (.cons (rv_tmp rfl) .nil)) ⟨a, cap, es, rfl, rfl, hi, rfl⟩
 rw [if_neg h7] at hput
 rw [hput]
 skip
 refine tri_skip (tT (tS (tR (tM rfl rfl ?_))))
 refine tri_v (opv_nilCheck rfl) rfl ?_
 refine tri_v (opv_fieldAddr rfl rfl) rfl ?_
 refine tri_v (opv_fieldAddr rfl rfl) rfl ?_
 refine tri_v (opv_load1 rfl rfl rfl) rfl ?_
 refine tri_v (opv_len rfl) rfl ?_
 refine tA rfl rfl (tN (tT (tS ?_)))
 refine tri_perm (A := ?a5_0 :: ?a5_1 :: ?a5_2 :: ?a5_3 :: ?a5_4 :: ?T5) (B := ?a5_4 :: ?a5_0 :: ?a5_1 :: ?a5_2 :: ?a5_3 :: ?T5) (by exact permL [4, 0, 1, 2, 3] [?a5_0, ?a5_1, ?a5_2, ?a5_3, ?a5_4] ?T5 (by decide) rfl) ?_
 skip
 skip
 refine tri_draw [0, 1, 2, 3, 4, 5, 6] rfl [_] rfl mixed ?_
 refine th_take rfl rfl (by kernel_rfl)  (opv_move rfl) ?_
 refine th_take rfl rfl (by kernel_rfl)  (opv_nilCheck rfl) ?_
 refine th_take rfl rfl (by kernel_rfl)  (opv_fieldAddr rfl rfl) ?_
 refine th_take rfl rfl (by kernel_rfl)  (opv_load1 rfl rfl rfl) ?_
 refine th_take rfl rfl (by kernel_rfl)  (opv_loadA rfl rfl rfl) ?_
 refine th_take rfl rfl (by kernel_rfl)  (opv_move rfl) ?_
 refine th_one (by kernel_rfl) (step_m rfl rfl (opg_mapUpdate (P := Try.prog) (ks := [q0, q1, q2, q3]) rfl rfl rfl (key4 q0 q1 q2 q3) keyAt rfl) ?_)
 rintro _ _ _ ⟨rfl, rfl⟩
 refine ⟨Suf.h, (fun _ h => h), ?_⟩
 refine th_done (by kernel_rfl) ?_
 refine tT (tS ?_)
 refine tri_perm (A := ?a6_0 :: ?a6_1 :: ?a6_2 :: ?a6_3 :: ?a6_4 :: ?T6) (B := ?a6_2 :: ?a6_3 :: ?a6_0 :: ?a6_1 :: ?a6_4 :: ?T6) (by exact permL [2, 3, 0, 1, 4] [?a6_0, ?a6_1, ?a6_2, ?a6_3, ?a6_4] ?T6 (by decide) rfl) ?_
 skip
 refine tri_draw [0, 1, 2, 3, 4, 6, 5, 7, 8, 9, 10, 11, 12] rfl [_, _] rfl mixed ?_
 refine th_take rfl rfl (by kernel_rfl)  (opv_move rfl) ?_
 refine th_take rfl rfl (by kernel_rfl)  (opv_move rfl) ?_
 refine th_take rfl rfl (by kernel_rfl)  (opv_nilCheck rfl) ?_
 refine th_take rfl rfl (by kernel_rfl)  (opv_fieldAddr rfl rfl) ?_
 refine th_take rfl rfl (by kernel_rfl)  (opv_fieldAddr rfl rfl) ?_
 refine th_take rfl rfl (by kernel_rfl)  (opv_loadA rfl rfl rfl) ?_
 refine th_two (j := 7) [5, 8, 9, 10, 11, 12] (by kernel_rfl) rfl ?_ ?_
 ·refine (step_m rfl rfl (OpV.toG (opv_load1 rfl rfl rfl)) ?_)
  rintro _ _ _ ⟨rfl, rfl, rfl⟩
  refine ⟨Suf.h, (fun _ h => h), ?_⟩
  refine th_one (by kernel_rfl) (step_m rfl rfl (opg_buildSlice rfl rfl rfl rfl) ?_)
  rintro _ _ _ ⟨b61, rfl, rfl, rfl⟩
  refine ⟨Suf.h, (fun _ h => h), ?_⟩
  refine th_one (by kernel_rfl) (step_m rfl rfl (opg_appendB rfl rfl rfl rfl (by omega) rfl) ?_)
  rintro _ _ _ ⟨a3, cap3, rfl, rfl, rfl⟩
  refine ⟨Suf.h, (fun _ h => h), ?_⟩
  refine th_take rfl rfl (by kernel_rfl)  (opv_nilCheck rfl) ?_
  refine th_take rfl rfl (by kernel_rfl)  (opv_fieldAddr rfl rfl) ?_
  refine th_take rfl rfl (by kernel_rfl)  (opv_fieldAddr rfl rfl) ?_
  refine th_one (by kernel_rfl) (step_m rfl rfl (opg_store rfl rfl rfl rfl rfl rfl) ?_)
  rintro _ _ _ ⟨rfl, rfl⟩
  refine ⟨Suf.h, (fun _ h => h), ?_⟩
  refine th_done (by kernel_rfl) ?_
  refine tT (tS (tR (tM rfl rfl (tA rfl rfl (tA rfl rfl (tN (tT ?_)))))))
  refine tri_ret ?_
  refine tri_perm (A := ?a7_0 :: ?a7_1 :: ?a7_2 :: ?a7_3 :: ?a7_4 :: ?a7_5 :: ?T7) (B := ?a7_2 :: ?a7_0 :: ?a7_1 :: ?a7_3 :: ?a7_4 :: ?a7_5 :: ?T7) (by exact permL [2, 0, 1, 3, 4, 5] [?a7_0, ?a7_1, ?a7_2, ?a7_3, ?a7_4, ?a7_5] ?T7 (by decide) rfl) ?_
  have hix := hi.snoc h2 (R6.mk4 ns q0 q1 q2 q3) hat
  have hl : (ns ++ [R6.mk4 ns q0 q1 q2 q3]).length = ns.length + 1 := by simp
  refine tri_rowEq (len' := (ns ++ [R6.mk4 ns q0 q1 q2 q3]).length) (cells' := encs (ns ++ [R6.mk4 ns q0 q1 q2 q3])) hl.symm (by rw [encs_append]; rfl) ?_
  rw [← hl]
  refine tri_perm (A := ?a8_0 :: ?a8_1 :: ?a8_2 :: ?a8_3 :: ?a8_4 :: ?a8_5 :: ?T8) (B := ?a8_1 :: ?a8_4 :: ?a8_5 :: ?a8_2 :: ?a8_0 :: ?a8_3 :: ?T8) (by exact permL [1, 4, 5, 2, 0, 3] [?a8_0, ?a8_1, ?a8_2, ?a8_3, ?a8_4, ?a8_5] ?T8 (by decide) rfl) ?_
  refine tri_end (IxA bx mb a3 cap3 (ns ++ [R6.mk4 ns q0 q1 q2 q3]) room (mset es [q0, q1, q2, q3] (.int .i64 ns.length)) A) Suf.h rfl (.cons (rv_tmp rfl) (.cons (rv_tmp rfl) .nil)) ⟨a3, cap3, _, rfl, rfl, hix, rfl⟩
 ·refine (step_m rfl rfl (opg_buildSlice rfl rfl rfl rfl) ?_)
  rintro _ _ _ ⟨b61, rfl, rfl, rfl⟩
  refine ⟨Suf.h, (fun _ h => h), ?_⟩
  refine th_one (by kernel_rfl) (step_m rfl rfl (OpV.toG (opv_load1 rfl rfl rfl)) ?_)
  rintro _ _ _ ⟨rfl, rfl, rfl⟩
  refine ⟨Suf.h, (fun _ h => h), ?_⟩
  refine th_one (by kernel_rfl) (step_m rfl rfl (opg_appendB rfl rfl rfl rfl (by omega) rfl) ?_)
  rintro _ _ _ ⟨a3, cap3, rfl, rfl, rfl⟩
  refine ⟨Suf.h, (fun _ h => h), ?_⟩
  refine th_take rfl rfl (by kernel_rfl)  (opv_nilCheck rfl) ?_
  refine th_take rfl rfl (by kernel_rfl)  (opv_fieldAddr rfl rfl) ?_
  refine th_take rfl rfl (by kernel_rfl)  (opv_fieldAddr rfl rfl) ?_
  refine th_one (by kernel_rfl) (step_m rfl rfl (opg_store rfl rfl rfl rfl rfl rfl) ?_)
  rintro _ _ _ ⟨rfl, rfl⟩
  refine ⟨Suf.h, (fun _ h => h), ?_⟩
  refine th_done (by kernel_rfl) ?_
  refine tT (tS (tR (tM rfl rfl (tA rfl rfl (tA rfl rfl (tN (tT ?_)))))))
  refine tri_ret ?_
  refine tri_perm (A := ?a9_0 :: ?a9_1 :: ?a9_2 :: ?a9_3 :: ?a9_4 :: ?a9_5 :: ?T9) (B := ?a9_2 :: ?a9_0 :: ?a9_1 :: ?a9_3 :: ?a9_4 :: ?a9_5 :: ?T9) (by exact permL [2, 0, 1, 3, 4, 5] [?a9_0, ?a9_1, ?a9_2, ?a9_3, ?a9_4, ?a9_5] ?T9 (by decide) rfl) ?_
  have hix := hi.snoc h2 (R6.mk4 ns q0 q1 q2 q3) hat
  have hl : (ns ++ [R6.mk4 ns q0 q1 q2 q3]).length = ns.length + 1 := by simp
  refine tri_rowEq (len' := (ns ++ [R6.mk4 ns q0 q1 q2 q3]).length) (cells' := encs (ns ++ [R6.mk4 ns q0 q1 q2 q3])) hl.symm (by rw [encs_append]; rfl) ?_
  rw [← hl]
  refine tri_perm (A := ?a10_0 :: ?a10_1 :: ?a10_2 :: ?a10_3 :: ?a10_4 :: ?a10_5 :: ?T10) (B := ?a10_1 :: ?a10_4 :: ?a10_5 :: ?a10_2 :: ?a10_0 :: ?a10_3 :: ?T10) (by exact permL [1, 4, 5, 2, 0, 3] [?a10_0, ?a10_1, ?a10_2, ?a10_3, ?a10_4, ?a10_5] ?T10 (by decide) rfl) ?_
  refine tri_end (IxA bx mb a3 cap3 (ns ++ [R6.mk4 ns q0 q1 q2 q3]) room (mset es [q0, q1, q2, q3] (.int .i64 ns.length)) A) Suf.h rfl (.cons (rv_tmp rfl) (.cons (rv_tmp rfl) .nil)) ⟨a3, cap3, _, rfl, rfl, hix, rfl⟩
end Go.GL


set_option linter.unusedVariables false
namespace Go.GL
open Go.Proofs
attribute [local irreducible] wpList Code.wp Exit.then Exit.inBlock Ends Tri TriH OpV OpG FnC epf wpAnyH
/-- What node.Of tells. -/
def OfR (ns : List Node) (room : Int) (A : List Asrt) (I : List Chunk) : Value → List Asrt → List Chunk → Prop := fun v A' I' =>
 (R6.right ns room ∧ ∃ bx mb a' cap' es, v = .tuple [pt bx 0, .bool true].toArray ∧ A' = IxA bx mb a' cap' ns room es A ∧ Idx ns es ∧ I = I') ∨ (¬ R6.right ns room ∧ v = .tuple [.pointer none, .bool false].toArray ∧ A = A' ∧ I = I')
set_option maxHeartbeats 1000000 in
set_option maxRecDepth 100000 in
theorem node_of {A : List Asrt} {I : List Chunk} {ns : List Node} {a : Option Addr} {cap : Nat} {room : Int} (hs : StA I a cap ns) (hn : ns.length ≤ 1000000000) :
  FnC Try.prog 95 [storeV a ns.length cap room].toArray A I (OfR ns room A I) := by
 have hsl := hs.sl
 skip
 refine fn_enter1 Try.func95 rfl Try.ntmps95 rfl fun w0 => ?_
 refine tS (tR ?_)
 refine tri_g (opg_box_agg rfl) rfl ?_
 rintro _ _ _ ⟨b1, rfl, rfl, rfl⟩
 refine tA rfl rfl (tA rfl rfl (tN (tT (tS (tR ?_)))))
 refine tri_v (opv_fieldAddr rfl rfl) rfl ?_
 refine tri_v (opv_load1 rfl rfl rfl) rfl ?_
 refine tri_v (opv_len rfl) rfl ?_
 refine tA rfl rfl (tN (tT (tS (tS (tR ?_)))))
 refine tri_v (opv_fieldAddr rfl rfl) rfl ?_
 refine tri_v (opv_load1 rfl rfl rfl) rfl ?_
 refine tri_v (opv_lss rfl rfl) rfl ?_
 refine tM rfl rfl ?_
 refine tri_split rfl rfl (fun h1 => ?_) (fun h1 => ?_)
 ·refine tri_guard_skip rfl rfl rfl rfl (tri_guard_skip rfl rfl rfl rfl (tri_guard_skip rfl rfl rfl rfl ?_))
  refine tri_v (opv_pick_t rfl rfl) rfl ?_
  refine tM rfl rfl (tri_guard_skip rfl rfl rfl rfl (tri_guard_skip rfl rfl rfl rfl ?_))
  refine tri_v (opv_pick_t rfl rfl) rfl ?_
  refine tM rfl rfl (tri_guard_skip rfl rfl rfl rfl (tri_guard_skip rfl rfl rfl rfl (tri_guard_skip rfl rfl rfl rfl (tri_guard_skip rfl rfl rfl rfl ?_))))
  refine tri_v (opv_pick_t rfl rfl) rfl ?_
  refine tM rfl rfl (tri_guard_skip rfl rfl rfl rfl (tri_guard_skip rfl rfl rfl rfl (tri_guard_skip rfl rfl rfl rfl (tri_guard_skip rfl rfl rfl rfl (tri_guard_skip rfl rfl rfl rfl (tri_guard_skip rfl rfl rfl rfl ?_))))))
  refine tri_v (opv_pick_t rfl rfl) rfl ?_
  refine tM rfl rfl (tri_guard_skip rfl rfl rfl rfl (tri_guard_skip rfl rfl rfl rfl (tri_guard_skip rfl rfl rfl rfl (tri_guard_skip rfl rfl rfl rfl (tri_guard_skip rfl rfl rfl rfl (tri_guard_skip rfl rfl rfl rfl ?_))))))
  refine tri_v (opv_pick_t rfl rfl) rfl ?_
  refine tN (tT ?_)
  refine tri_cond_true rfl ?_
  refine tS (tR (tA rfl rfl (tA rfl rfl (tN (tT (tri_ret (tri_then_ret ?_)))))))
  refine tri_end A Suf.h rfl (.cons (rv_tmp rfl) (.cons (rv_tmp rfl) .nil)) (.inr ⟨fun hf => ?_, rfl, rfl, rfl⟩)
  have := hf.1.1; omega
 refine tri_guard_run rfl rfl rfl ?_
 refine tri_v (opv_fieldAddr rfl rfl) rfl ?_
 refine tri_guard_run rfl rfl rfl ?_
 refine tri_v (opv_load1 rfl rfl rfl) rfl ?_
 refine tri_guard_run rfl rfl rfl ?_
 refine tri_v (opv_gtr rfl rfl) rfl ?_
 refine tri_v (opv_pick_f rfl rfl) rfl ?_
 refine tM rfl rfl ?_
 refine tri_split rfl rfl (fun h2 => ?_) (fun h2 => ?_)
 ·refine tri_guard_skip rfl rfl rfl rfl (tri_guard_skip rfl rfl rfl rfl ?_)
  refine tri_v (opv_pick_t rfl rfl) rfl ?_
  refine tM rfl rfl (tri_guard_skip rfl rfl rfl rfl (tri_guard_skip rfl rfl rfl rfl (tri_guard_skip rfl rfl rfl rfl (tri_guard_skip rfl rfl rfl rfl ?_))))
  refine tri_v (opv_pick_t rfl rfl) rfl ?_
  refine tM rfl rfl (tri_guard_skip rfl rfl rfl rfl (tri_guard_skip rfl rfl rfl rfl (tri_guard_skip rfl rfl rfl rfl (tri_guard_skip rfl rfl rfl rfl (tri_guard_skip rfl rfl rfl rfl (tri_guard_skip rfl rfl rfl rfl ?_))))))
  refine tri_v (opv_pick_t rfl rfl) rfl ?_
  refine tM rfl rfl (tri_guard_skip rfl rfl rfl rfl (tri_guard_skip rfl rfl rfl rfl (tri_guard_skip rfl rfl rfl rfl (tri_guard_skip rfl rfl rfl rfl (tri_guard_skip rfl rfl rfl rfl (tri_guard_skip rfl rfl rfl rfl ?_))))))
  refine tri_v (opv_pick_t rfl rfl) rfl ?_
  refine tN (tT ?_)
  refine tri_cond_true rfl ?_
  refine tS (tR (tA rfl rfl (tA rfl rfl (tN (tT (tri_ret (tri_then_ret ?_)))))))
  refine tri_end A Suf.h rfl (.cons (rv_tmp rfl) (.cons (rv_tmp rfl) .nil)) (.inr ⟨fun hf => ?_, rfl, rfl, rfl⟩)
  have := hf.1.2.1; omega
 refine tri_guard_run rfl rfl rfl (tM rfl rfl (tri_guard_run rfl rfl rfl ?_))
 refine tri_v (opv_lss rfl rfl) rfl ?_
 refine tri_v (opv_pick_f rfl rfl) rfl ?_
 refine tM rfl rfl ?_
 refine tri_split rfl rfl (fun h3 => ?_) (fun h3 => ?_)
 ·refine tri_guard_skip rfl rfl rfl rfl (tri_guard_skip rfl rfl rfl rfl (tri_guard_skip rfl rfl rfl rfl (tri_guard_skip rfl rfl rfl rfl ?_)))
  refine tri_v (opv_pick_t rfl rfl) rfl ?_
  refine tM rfl rfl (tri_guard_skip rfl rfl rfl rfl (tri_guard_skip rfl rfl rfl rfl (tri_guard_skip rfl rfl rfl rfl (tri_guard_skip rfl rfl rfl rfl (tri_guard_skip rfl rfl rfl rfl (tri_guard_skip rfl rfl rfl rfl ?_))))))
  refine tri_v (opv_pick_t rfl rfl) rfl ?_
  refine tM rfl rfl (tri_guard_skip rfl rfl rfl rfl (tri_guard_skip rfl rfl rfl rfl (tri_guard_skip rfl rfl rfl rfl (tri_guard_skip rfl rfl rfl rfl (tri_guard_skip rfl rfl rfl rfl (tri_guard_skip rfl rfl rfl rfl ?_))))))
  refine tri_v (opv_pick_t rfl rfl) rfl ?_
  refine tN (tT ?_)
  refine tri_cond_true rfl ?_
  refine tS (tR (tA rfl rfl (tA rfl rfl (tN (tT (tri_ret (tri_then_ret ?_)))))))
  refine tri_end A Suf.h rfl (.cons (rv_tmp rfl) (.cons (rv_tmp rfl) .nil)) (.inr ⟨fun hf => ?_, rfl, rfl, rfl⟩)
  have := hf.1.2.2.1; omega
 refine tri_guard_run rfl rfl rfl (tM rfl rfl (tri_guard_run rfl rfl rfl ?_))
 refine tri_v (opv_fieldAddr rfl rfl) rfl ?_
 refine tri_guard_run rfl rfl rfl ?_
 refine tri_v (opv_load1 rfl rfl rfl) rfl ?_
 refine tri_guard_run rfl rfl rfl ?_
 refine tri_v (opv_gtr rfl rfl) rfl ?_
 refine tri_v (opv_pick_f rfl rfl) rfl ?_
 refine tM rfl rfl ?_
 refine tri_split rfl rfl (fun h4 => ?_) (fun h4 => ?_)
 ·refine tri_guard_skip rfl rfl rfl rfl (tri_guard_skip rfl rfl rfl rfl (tri_guard_skip rfl rfl rfl rfl (tri_guard_skip rfl rfl rfl rfl (tri_guard_skip rfl rfl rfl rfl (tri_guard_skip rfl rfl rfl rfl ?_)))))
  refine tri_v (opv_pick_t rfl rfl) rfl ?_
  refine tM rfl rfl (tri_guard_skip rfl rfl rfl rfl (tri_guard_skip rfl rfl rfl rfl (tri_guard_skip rfl rfl rfl rfl (tri_guard_skip rfl rfl rfl rfl (tri_guard_skip rfl rfl rfl rfl (tri_guard_skip rfl rfl rfl rfl ?_))))))
  refine tri_v (opv_pick_t rfl rfl) rfl ?_
  refine tN (tT ?_)
  refine tri_cond_true rfl ?_
  refine tS (tR (tA rfl rfl (tA rfl rfl (tN (tT (tri_ret (tri_then_ret ?_)))))))
  refine tri_end A Suf.h rfl (.cons (rv_tmp rfl) (.cons (rv_tmp rfl) .nil)) (.inr ⟨fun hf => ?_, rfl, rfl, rfl⟩)
  have := hf.1.2.2.2.1; omega
 refine tri_guard_run rfl rfl rfl ?_
 refine tri_v (opv_fieldAddr rfl rfl) rfl ?_
 refine tri_guard_run rfl rfl rfl ?_
 refine tri_v (opv_load1 rfl rfl rfl) rfl ?_
 refine tri_guard_run rfl rfl rfl ?_
 refine tri_v (opv_indexAddrS rfl rfl (by omega) (by omega) (by assumption) rfl) rfl ?_
 refine tri_guard_run rfl rfl rfl ?_
 refine tri_v (opv_loadEA rfl (by assumption) rfl (by omega) rfl rfl) rfl ?_
 refine tri_guard_run rfl rfl rfl ?_
 refine tri_v (opv_buildS rfl rfl) rfl ?_
 refine tri_guard_run rfl rfl rfl ?_
 refine tri_v (opv_neqI rfl rfl rfl rfl rfl rfl) rfl ?_
 refine tri_v (opv_pick_f rfl rfl) rfl ?_
 refine tM rfl rfl ?_
 refine tri_split rfl rfl (fun h5 => ?_) (fun h5 => ?_)
 ·refine tri_guard_skip rfl rfl rfl rfl (tri_guard_skip rfl rfl rfl rfl (tri_guard_skip rfl rfl rfl rfl (tri_guard_skip rfl rfl rfl rfl (tri_guard_skip rfl rfl rfl rfl (tri_guard_skip rfl rfl rfl rfl ?_)))))
  refine tri_v (opv_pick_t rfl rfl) rfl ?_
  refine tN (tT ?_)
  refine tri_cond_true rfl ?_
  refine tS (tR (tA rfl rfl (tA rfl rfl (tN (tT (tri_ret (tri_then_ret ?_)))))))
  refine tri_end A Suf.h rfl (.cons (rv_tmp rfl) (.cons (rv_tmp rfl) .nil)) (.inr ⟨fun hf => ?_, rfl, rfl, rfl⟩)
  exact Node.ne_iff'.2 h5 hf.1.2.2.2.2.1
 refine tri_guard_run rfl rfl rfl ?_
 refine tri_v (opv_fieldAddr rfl rfl) rfl ?_
 refine tri_guard_run rfl rfl rfl ?_
 refine tri_v (opv_load1 rfl rfl rfl) rfl ?_
 refine tri_guard_run rfl rfl rfl ?_
 refine tri_v (opv_indexAddrS rfl rfl (by omega) (by omega) (by assumption) rfl) rfl ?_
 refine tri_guard_run rfl rfl rfl ?_
 refine tri_v (opv_loadEA rfl (by assumption) rfl (by omega) rfl rfl) rfl ?_
 refine tri_guard_run rfl rfl rfl ?_
 refine tri_v (opv_buildS rfl rfl) rfl ?_
 refine tri_guard_run rfl rfl rfl ?_
 refine tri_v (opv_neqI rfl rfl rfl rfl rfl rfl) rfl ?_
 refine tri_v (opv_pick_f rfl rfl) rfl ?_
 refine tN (tT ?_)
 refine tri_cond_dec rfl (fun h6 => ?_) (fun h6 => ?_)
 ·refine tS (tR (tA rfl rfl (tA rfl rfl (tN (tT (tri_ret (tri_then_ret ?_)))))))
  refine tri_end A Suf.h rfl (.cons (rv_tmp rfl) (.cons (rv_tmp rfl) .nil)) (.inr ⟨fun hf => ?_, rfl, rfl, rfl⟩)
  exact Node.ne_iff'.2 h6 hf.1.2.2.2.2.2
 skip
 have e0 : ns.getD 0 default = R6.n0 := Decidable.not_not.1 fun h => h5 (Node.ne_iff'.1 h)
 have e1 : ns.getD 1 default = R6.n1 := Decidable.not_not.1 fun h => h6 (Node.ne_iff'.1 h)
 have et : ns.take 2 = [R6.n0, R6.n1] := by
  rw [← e0, ← e1]
  apply List.ext_getElem
  ·rw [List.length_take]; simp; omega
  ·intro i h1 h2
   rw [List.length_take] at h1
   rcases (by omega : i = 0 ∨ i = 1) with rfl | rfl <;> simp <;> rw [List.getElem?_eq_getElem (by omega)] <;> simp
 have htl : (ns.take 2).length = 2 := by rw [et]; rfl
 refine tri_skip (tT (tS ?_))
 refine tri_cut (fun F' A' J => ∃ bx mb a1 c1, F' = [(1, pt b1 0), (5, pt bx 0)] ∧ A' = IxA bx mb a1 c1 (ns.take 2) room [] (Box b1 [.slice a ns.length cap, .int .i64 room] 26 :: A) ∧ I = J) ?_ ?_
 ·refine tri_draw [0, 1, 2, 4, 5, 3, 6, 7, 8, 9, 10] rfl [] rfl mixed ?_
  refine th_take rfl rfl (by kernel_rfl)  (opv_fieldAddr rfl rfl) ?_
  refine th_take rfl rfl (by kernel_rfl)  (opv_load1 rfl rfl rfl) ?_
  refine th_take rfl rfl (by kernel_rfl)  (opv_sliceHi rfl rfl (by omega) (by omega) hs rfl) ?_
  refine th_take rfl rfl (by kernel_rfl)  (opv_fieldAddr rfl rfl) ?_
  refine th_take rfl rfl (by kernel_rfl)  (opv_load1 rfl rfl rfl) ?_
  refine th_two (j := 7) [3, 6, 8, 9, 10] (by kernel_rfl) rfl ?_ ?_
  ·refine (step_m rfl rfl (opg_call (xs := [_]) rfl (clone_nodes (hsl.take 2) (by omega) (by omega))) ?_)
   rintro _ _ _ ⟨a1, c1, rfl, rfl, rfl⟩
   refine ⟨Suf.h, (fun _ h => h), ?_⟩
   refine th_take rfl rfl (by kernel_rfl)  (opv_buildS rfl rfl) ?_
   refine th_one (by kernel_rfl) (step_m rfl rfl opg_makeMap ?_)
   rintro _ _ _ ⟨b56, rfl, rfl, rfl⟩
   refine ⟨Suf.h, (fun _ h => h), ?_⟩
   refine th_take rfl rfl (by kernel_rfl)  (opv_buildS rfl rfl) ?_
   refine th_one (by kernel_rfl) (step_m rfl rfl (opg_box_agg rfl) ?_)
   rintro _ _ _ ⟨b58, rfl, rfl, rfl⟩
   refine ⟨Suf.h, (fun _ h => h), ?_⟩
   refine th_take rfl rfl (by kernel_rfl)  (opv_assign rfl) ?_
   refine th_done (by kernel_rfl) ?_
   refine tri_perm (A := ?a1_0 :: ?a1_1 :: ?a1_2 :: ?T1) (B := ?a1_0 :: ?a1_2 :: ?a1_1 :: ?T1) (by exact permL [0, 2, 1] [?a1_0, ?a1_1, ?a1_2] ?T1 (by decide) rfl) ?_
   exact tri_cutEnd _ ⟨b58, b56, a1, c1, rfl, rfl, rfl⟩ ⟨rfl, rfl, trivial⟩
  ·refine (step_m rfl rfl opg_makeMap ?_)
   rintro _ _ _ ⟨b56, rfl, rfl, rfl⟩
   refine ⟨Suf.h, (fun _ h => h), ?_⟩
   refine th_one (by kernel_rfl) (step_m rfl rfl (opg_call (xs := [_]) rfl (clone_nodes (hsl.take 2) (by omega) (by omega))) ?_)
   rintro _ _ _ ⟨a1, c1, rfl, rfl, rfl⟩
   refine ⟨Suf.h, (fun _ h => h), ?_⟩
   refine th_take rfl rfl (by kernel_rfl)  (opv_buildS rfl rfl) ?_
   refine th_take rfl rfl (by kernel_rfl)  (opv_buildS rfl rfl) ?_
   refine th_one (by kernel_rfl) (step_m rfl rfl (opg_box_agg rfl) ?_)
   rintro _ _ _ ⟨b58, rfl, rfl, rfl⟩
   refine ⟨Suf.h, (fun _ h => h), ?_⟩
   refine th_take rfl rfl (by kernel_rfl)  (opv_assign rfl) ?_
   refine th_done (by kernel_rfl) ?_
   exact tri_cutEnd _ ⟨b58, b56, a1, c1, rfl, rfl, rfl⟩ ⟨rfl, rfl, trivial⟩
 rintro _ _ _ ⟨bx, mb, a1, c1, rfl, rfl, rfl⟩
 skip
 refine tT (tS (tS (tR ?_)))
 refine tri_v (opv_fieldAddr rfl rfl) rfl ?_
 refine tri_v (opv_load1 rfl rfl rfl) rfl ?_
 refine tri_g (opg_sliceLo rfl rfl (by omega) (by omega) hs rfl rfl) rfl ?_
 rintro _ _ _ ⟨a5, rfl, hs5, rfl, rfl⟩
 have hs5' := hs5.sl
 have hdl : (ns.drop (2:Int).toNat).length = ns.length - 2 := by rw [List.length_drop]; rfl
 refine tri_v (opv_len rfl) rfl ?_
 refine tM rfl rfl (tN (tT (tri_block ?_)))
 have hix0 : Idx (ns.take (0 + 2)) [] := by rw [et]; exact Idx.start
 have hm0 : R6.ModTo ns (0 + 2) := fun j hj => by
  rcases (by omega : j = 0 ∨ j = 1) with rfl | rfl
  ·rw [e0]; decide
  ·rw [e1]; decide
 refine tri_sub (F' := [(1, pt b1 0), (5, pt bx 0), (61, .slice a5 (ns.drop (2:Int).toNat).length (cap - (2:Int).toNat)), (62, .int .i64 ((ns.drop (2:Int).toNat).length : Nat)), (63, .int .i64 (0 : Nat))]) ⟨rfl, rfl, rfl, rfl, rfl, trivial⟩ ?_
 refine loop_ind (G := Nat × Option Addr × Nat × KVs) (fun g => ns.length - g.1) (fun g => g.1 + 2 ≤ ns.length ∧ (∀ j, j < g.1 + 2 → 2 ≤ j → R6.fits ns j) ∧ R6.ModTo ns (g.1 + 2) ∧ Idx (ns.take (g.1 + 2)) g.2.2.2) (fun g => [(1, pt b1 0), (5, pt bx 0), (61, .slice a5 (ns.drop (2:Int).toNat).length (cap - (2:Int).toNat)), (62, .int .i64 ((ns.drop (2:Int).toNat).length : Nat)), (63, .int .i64 (g.1 : Nat))])
  (fun g => IxA bx mb g.2.1 g.2.2.1 (ns.take (g.1 + 2)) room g.2.2.2 (Box b1 [.slice a ns.length cap, .int .i64 room] 26 :: A)) (fun _ => I) ?_ (0, a1, c1, []) ⟨by simp only; omega, fun j h h' => absurd h (by simp only; omega), hm0, hix0⟩
 rintro ⟨i, ai, ci, es⟩ ⟨hi, hok, hmi, hix⟩ K hK
 simp only at hi hok hmi hix hK ⊢
 have htk : (ns.take (i + 2)).length = i + 2 := by rw [List.length_take]; omega
 skip
 refine tS (tR ?_)
 refine tri_v (opv_lss rfl rfl) rfl ?_
 refine tN (tT (tS ?_))
 refine tri_cond_dec rfl (fun h => ?_) (fun h => ?_)
 ·have hlt : i + 2 < ns.length := by omega
  have hy : (ns.drop (2:Int).toNat).getD i default = ns.getD (i + 2) default := by
   rw [List.getD_eq_getElem?_getD, List.getD_eq_getElem?_getD, List.getElem?_drop, show (2:Int).toNat + i = i + 2 by simp; omega]
  have hfi := R6.fits_iff (by omega) hlt hmi
  have htk1 : ns.take (i + 2 + 1) = ns.take (i + 2) ++ [ns.getD (i + 2) default] := by
   rw [List.take_succ_eq_append_getElem hlt]; simp [hlt]
  obtain ⟨y, hyd⟩ : ∃ y, y = (ns.drop (2:Int).toNat).getD i default := ⟨_, rfl⟩
  have hy2 : y = ns.getD (i + 2) default := hyd.trans hy
  rw [← hy2] at hfi htk1
  have hmf := hix y.kids
  refine tri_skip (tT (tS (tri_block (tS (tR (tM rfl rfl ?_))))))
  refine tri_v (opv_indexAddrSN rfl rfl (by omega) (by assumption) rfl) rfl ?_
  refine tri_v (opv_loadEA rfl (by assumption) rfl (by omega) rfl rfl) rfl ?_
  refine tri_g opg_alloc rfl ?_
  rintro _ _ _ ⟨b7, rfl, rfl, rfl⟩
  refine tA rfl rfl ?_
  refine tri_g (opg_store rfl rfl rfl rfl rfl rfl) rfl ?_
  rintro _ _ _ ⟨rfl, rfl⟩
  refine tN (tT (tS ?_))
  refine tri_sub (F' := [(1, pt b1 0), (5, pt bx 0), (6, .int .i64 (i : Nat)), (7, pt b7 0), (61, .slice a5 (ns.drop (2:Int).toNat).length (cap - (2:Int).toNat)), (62, .int .i64 ((ns.drop (2:Int).toNat).length : Nat)), (63, .int .i64 (i : Nat))]) ⟨rfl, rfl, rfl, rfl, rfl, rfl, rfl, trivial⟩ ?_
  rw [← hyd]
  refine tri_perm (A := ?a2_0 :: ?a2_1 :: ?a2_2 :: ?T2) (B := ?a2_1 :: ?a2_2 :: ?a2_0 :: ?T2) (by exact permL [1, 2, 0] [?a2_0, ?a2_1, ?a2_2] ?T2 (by decide) rfl) ?_
  refine tR (tM rfl rfl ?_)
  refine tri_v (opv_fieldAddr rfl rfl) rfl ?_
  refine tri_v (opv_loadA rfl rfl rfl) rfl ?_
  refine tri_g (opg_call (xs := [_, _]) rfl (node_parent (by omega) hmi.take)) rfl ?_
  rintro _ _ _ ⟨⟨z, ok, rfl, hok2, hz⟩, rfl, rfl⟩
  refine tM rfl rfl ?_
  refine tri_v (opv_extract rfl rfl) rfl ?_
  refine tri_v (opv_extract rfl rfl) rfl ?_
  refine tri_g opg_alloc rfl ?_
  rintro _ _ _ ⟨b8, rfl, rfl, rfl⟩
  refine tri_g (opg_store rfl rfl rfl rfl rfl rfl) rfl ?_
  rintro _ _ _ ⟨rfl, rfl⟩
  refine tA rfl rfl (tN (tT (tS (tS ?_))))
  refine tri_draw [0, 1, 2, 3, 4, 5, 6, 7, 8, 9, 10, 11] rfl [] rfl mixed ?_
  refine th_take rfl rfl (by kernel_rfl)  (opv_move rfl) ?_
  refine th_take rfl rfl (by kernel_rfl)  (opv_nilCheck rfl) ?_
  refine th_take rfl rfl (by kernel_rfl)  (opv_fieldAddr rfl rfl) ?_
  refine th_take rfl rfl (by kernel_rfl)  (opv_load1 rfl rfl rfl) ?_
  refine th_take rfl rfl (by kernel_rfl)  (opv_fieldAddr rfl rfl) ?_
  refine th_take rfl rfl (by kernel_rfl)  (opv_loadA rfl rfl rfl) ?_
  refine th_take rfl rfl (by kernel_rfl)  (opv_lookup2 (P := Try.prog) (ks := [y.k0, y.k1, y.k2, y.k3]) zeroInt rfl rfl (key4 y.k0 y.k1 y.k2 y.k3) keyAt rfl) ?_
  refine th_take rfl rfl (by kernel_rfl)  (opv_move rfl) ?_
  refine th_take rfl rfl (by kernel_rfl)  (opv_extract rfl rfl) ?_
  refine th_take rfl rfl (by kernel_rfl)  (opv_extract rfl rfl) ?_
  refine th_take rfl rfl (by kernel_rfl)  (opv_assign rfl) ?_
  refine th_take rfl rfl (by kernel_rfl)  (opv_assign rfl) ?_
  refine th_done (by kernel_rfl) ?_
  refine tT (tS (tR (tM rfl rfl (tM rfl rfl ?_))))
  refine tri_bool 86 rfl (fun g1 => ?_) (fun g1 => ?_)
  ·refine tri_guard_skip rfl rfl rfl rfl (tri_guard_skip rfl rfl rfl rfl ?_)
   refine tri_v (opv_pick_t rfl rfl) rfl ?_
   refine tM rfl rfl (tri_guard_skip rfl rfl rfl rfl (tri_guard_skip rfl rfl rfl rfl (tri_guard_skip rfl rfl rfl rfl ?_)))
   refine tri_v (opv_pick_t rfl rfl) rfl ?_
   refine tN (tT ?_)
   refine tri_cond_true rfl ?_
   refine tS (tR (tA rfl rfl (tA rfl rfl (tN (tT (tri_ret (tri_then_ret ?_)))))))
   refine tri_inBlock_ret ?_
   refine tri_then_ret (tri_then_ret ?_)
   refine tri_inBlock_ret ?_
   refine tri_then_ret ?_
   refine tri_end A Suf.h rfl (.cons (rv_tmp rfl) (.cons (rv_tmp rfl) .nil)) (.inr ⟨fun hf => ?_, rfl, rfl, rfl⟩)
   have h3 := (hfi.1 (hf.2 (i + 2) hlt (by omega))).1
   rw [if_neg h3] at hmf
   have g1' : (mfind es y.kids).isSome = true := g1
   rw [hmf] at g1'
   cases g1'
  refine tri_guard_run rfl rfl rfl (tM rfl rfl (tri_guard_run rfl rfl rfl ?_))
  refine tri_v (opv_not rfl) rfl ?_
  refine tri_v (opv_pick_f rfl rfl) rfl ?_
  refine tM rfl rfl ?_
  have hat : ¬ 0 ≤ R6.at_ (ns.take (i + 2)) y.kids := fun h3 => by
   rw [if_pos h3] at hmf
   have g1' : (mfind es y.kids).isSome = false := g1
   rw [hmf] at g1'
   cases g1'
  refine tri_bool 90 rfl (fun g2 => ?_) (fun g2 => ?_)
  ·refine tri_guard_skip rfl rfl rfl rfl (tri_guard_skip rfl rfl rfl rfl (tri_guard_skip rfl rfl rfl rfl ?_))
   refine tri_v (opv_pick_t rfl rfl) rfl ?_
   refine tN (tT ?_)
   refine tri_cond_true rfl ?_
   refine tS (tR (tA rfl rfl (tA rfl rfl (tN (tT (tri_ret (tri_then_ret ?_)))))))
   refine tri_inBlock_ret ?_
   refine tri_then_ret (tri_then_ret ?_)
   refine tri_inBlock_ret ?_
   refine tri_then_ret ?_
   refine tri_end A Suf.h rfl (.cons (rv_tmp rfl) (.cons (rv_tmp rfl) .nil)) (.inr ⟨fun hf => ?_, rfl, rfl, rfl⟩)
   have h3 := (hfi.1 (hf.2 (i + 2) hlt (by omega))).2.1
   rw [hok2.2 h3] at g2
   cases g2
  refine tri_guard_run rfl rfl rfl ?_
  refine tri_v (opv_loadA rfl rfl rfl) rfl ?_
  refine tri_guard_run rfl rfl rfl ?_
  refine tri_v (opv_loadA rfl rfl rfl) rfl ?_
  refine tri_guard_run rfl rfl rfl ?_
  refine tri_v (opv_neqI rfl rfl rfl rfl rfl rfl) rfl ?_
  refine tri_v (opv_pick_f rfl rfl) rfl ?_
  refine tN (tT ?_)
  have hok1 : ok = true := by cases ok <;> simp_all
  have hf4 := hok2.1 hok1
  have hz' := hz hok1
  refine tri_cond_dec rfl (fun g3 => ?_) (fun g3 => ?_)
  ·refine tS (tR (tA rfl rfl (tA rfl rfl (tN (tT (tri_ret (tri_then_ret ?_)))))))
   refine tri_inBlock_ret ?_
   refine tri_then_ret (tri_then_ret ?_)
   refine tri_inBlock_ret ?_
   refine tri_then_ret ?_
   refine tri_end A Suf.h rfl (.cons (rv_tmp rfl) (.cons (rv_tmp rfl) .nil)) (.inr ⟨fun hf => ?_, rfl, rfl, rfl⟩)
   have h3 := (hfi.1 (hf.2 (i + 2) hlt (by omega))).2.2
   exact Node.ne_iff'.2 g3 (hz'.trans h3)
  have hzy : z = y := Decidable.not_not.1 fun h => g3 (Node.ne_iff'.1 h)
  have hfit : R6.fits ns (i + 2) := hfi.2 ⟨hat, hf4, hz'.symm.trans hzy⟩
  have htk2 : ns.take (i + 1 + 2) = ns.take (i + 2) ++ [y] := htk1
  have hl3 : (ns.take (i + 1 + 2)).length = (ns.take (i + 2)).length + 1 := by rw [htk2]; simp
  have hok2' : ∀ j, j < i + 1 + 2 → 2 ≤ j → R6.fits ns j := fun j hj hj2 => by
   by_cases e : j = i + 2
   ·subst e; exact hfit
   ·exact hok j (by omega) hj2
  have hix2 : Idx (ns.take (i + 1 + 2)) (mset es [y.k0, y.k1, y.k2, y.k3] (.int .i64 ((i : Int) + 2))) := by
   have := hix.snoc (by omega) y hat
   rw [htk, ← htk2] at this
   exact this
  skip
  refine tri_skip (tT (tS ?_))
  refine tri_perm (A := ?a3_0 :: ?a3_1 :: ?a3_2 :: ?a3_3 :: ?a3_4 :: ?T3) (B := ?a3_4 :: ?a3_0 :: ?a3_1 :: ?a3_2 :: ?a3_3 :: ?T3) (by exact permL [4, 0, 1, 2, 3] [?a3_0, ?a3_1, ?a3_2, ?a3_3, ?a3_4] ?T3 (by decide) rfl) ?_
  skip
  refine tri_draw [0, 1, 2, 3, 4, 5, 6, 7, 8] rfl [_] rfl mixed ?_
  refine th_take rfl rfl (by kernel_rfl)  (opv_move rfl) ?_
  refine th_take rfl rfl (by kernel_rfl)  (opv_nilCheck rfl) ?_
  refine th_take rfl rfl (by kernel_rfl)  (opv_fieldAddr rfl rfl) ?_
  refine th_take rfl rfl (by kernel_rfl)  (opv_load1 rfl rfl rfl) ?_
  refine th_take rfl rfl (by kernel_rfl)  (opv_fieldAddr rfl rfl) ?_
  refine th_take rfl rfl (by kernel_rfl)  (opv_loadA rfl rfl rfl) ?_
  refine th_take rfl rfl (by kernel_rfl)  (opv_move rfl) ?_
  refine th_take rfl rfl (by kernel_rfl)  (opv_add rfl rfl (w64 (by omega) (by omega))) ?_
  refine th_one (by kernel_rfl) (step_m rfl rfl (opg_mapUpdate (P := Try.prog) (ks := [y.k0, y.k1, y.k2, y.k3]) rfl rfl rfl (key4 y.k0 y.k1 y.k2 y.k3) keyAt rfl) ?_)
  rintro _ _ _ ⟨rfl, rfl⟩
  refine ⟨Suf.h, (fun _ h => h), ?_⟩
  refine th_done (by kernel_rfl) ?_
  refine tT ?_
  refine tri_perm (A := ?a4_0 :: ?a4_1 :: ?a4_2 :: ?a4_3 :: ?a4_4 :: ?T4) (B := ?a4_2 :: ?a4_3 :: ?a4_0 :: ?a4_1 :: ?a4_4 :: ?T4) (by exact permL [2, 3, 0, 1, 4] [?a4_0, ?a4_1, ?a4_2, ?a4_3, ?a4_4] ?T4 (by decide) rfl) ?_
  skip
  refine tri_draw [0, 1, 2, 3, 4, 6, 5, 7, 8, 9, 10, 11, 12] rfl [_, _] rfl mixed ?_
  refine th_take rfl rfl (by kernel_rfl)  (opv_move rfl) ?_
  refine th_take rfl rfl (by kernel_rfl)  (opv_move rfl) ?_
  refine th_take rfl rfl (by kernel_rfl)  (opv_nilCheck rfl) ?_
  refine th_take rfl rfl (by kernel_rfl)  (opv_fieldAddr rfl rfl) ?_
  refine th_take rfl rfl (by kernel_rfl)  (opv_fieldAddr rfl rfl) ?_
  refine th_take rfl rfl (by kernel_rfl)  (opv_loadA rfl rfl rfl) ?_
  refine th_two (j := 7) [5, 8, 9, 10, 11, 12] (by kernel_rfl) rfl ?_ ?_
  ·refine (step_m rfl rfl (OpV.toG (opv_load1 rfl rfl rfl)) ?_)
   rintro _ _ _ ⟨rfl, rfl, rfl⟩
   refine ⟨Suf.h, (fun _ h => h), ?_⟩
   refine th_one (by kernel_rfl) (step_m rfl rfl (opg_buildSlice rfl rfl rfl rfl) ?_)
   rintro _ _ _ ⟨b110, rfl, rfl, rfl⟩
   refine ⟨Suf.h, (fun _ h => h), ?_⟩
   refine th_one (by kernel_rfl) (step_m rfl rfl (opg_appendB rfl rfl rfl rfl (by omega) rfl) ?_)
   rintro _ _ _ ⟨a3, c3, rfl, rfl, rfl⟩
   refine ⟨Suf.h, (fun _ h => h), ?_⟩
   refine th_take rfl rfl (by kernel_rfl)  (opv_nilCheck rfl) ?_
   refine th_take rfl rfl (by kernel_rfl)  (opv_fieldAddr rfl rfl) ?_
   refine th_take rfl rfl (by kernel_rfl)  (opv_fieldAddr rfl rfl) ?_
   refine th_one (by kernel_rfl) (step_m rfl rfl (opg_store rfl rfl rfl rfl rfl rfl) ?_)
   rintro _ _ _ ⟨rfl, rfl⟩
   refine ⟨Suf.h, (fun _ h => h), ?_⟩
   refine th_done (by kernel_rfl) ?_
   refine tri_inBlock ?_
   refine tT (tR ?_)
   refine tU rfl rfl (by omega) (by omega) rfl ?_
   refine tM rfl rfl (tN (tT ?_))
   refine tri_perm (A := ?a5_0 :: ?a5_1 :: ?a5_2 :: ?a5_3 :: ?a5_4 :: ?a5_5 :: ?T5) (B := ?a5_0 :: ?a5_4 :: ?a5_5 :: ?a5_2 :: ?a5_1 :: ?a5_3 :: ?T5) (by exact permL [0, 4, 5, 2, 1, 3] [?a5_0, ?a5_1, ?a5_2, ?a5_3, ?a5_4, ?a5_5] ?T5 (by decide) rfl) ?_
   refine tri_drop ?_
   refine tri_drop ?_
   refine tri_drop ?_
   refine tri_rowEq (len' := (ns.take (i + 1 + 2)).length) (cells' := encs (ns.take (i + 1 + 2))) hl3.symm (by rw [htk2, encs_append]; rfl) ?_
   rw [← hl3]
   refine tri_perm (A := ?a6_0 :: ?a6_1 :: ?a6_2 :: ?T6) (B := ?a6_1 :: ?a6_0 :: ?a6_2 :: ?T6) (by exact permL [1, 0, 2] [?a6_0, ?a6_1, ?a6_2] ?T6 (by decide) rfl) ?_
   refine tri_sub ?_ (hK (i + 1, a3, c3, mset es [y.k0, y.k1, y.k2, y.k3] (.int .i64 ((i : Int) + 2))) ⟨by simp only; omega, hok2', hmi.step hfit, hix2⟩ (by simp only; omega))
   exact ⟨rfl, rfl, rfl, rfl, rfl, trivial⟩
  ·refine (step_m rfl rfl (opg_buildSlice rfl rfl rfl rfl) ?_)
   rintro _ _ _ ⟨b110, rfl, rfl, rfl⟩
   refine ⟨Suf.h, (fun _ h => h), ?_⟩
   refine th_one (by kernel_rfl) (step_m rfl rfl (OpV.toG (opv_load1 rfl rfl rfl)) ?_)
   rintro _ _ _ ⟨rfl, rfl, rfl⟩
   refine ⟨Suf.h, (fun _ h => h), ?_⟩
   refine th_one (by kernel_rfl) (step_m rfl rfl (opg_appendB rfl rfl rfl rfl (by omega) rfl) ?_)
   rintro _ _ _ ⟨a3, c3, rfl, rfl, rfl⟩
   refine ⟨Suf.h, (fun _ h => h), ?_⟩
   refine th_take rfl rfl (by kernel_rfl)  (opv_nilCheck rfl) ?_
   refine th_take rfl rfl (by kernel_rfl)  (opv_fieldAddr rfl rfl) ?_
   refine th_take rfl rfl (by kernel_rfl)  (opv_fieldAddr rfl rfl) ?_
   refine th_one (by kernel_rfl) (step_m rfl rfl (opg_store rfl rfl rfl rfl rfl rfl) ?_)
   rintro _ _ _ ⟨rfl, rfl⟩
   refine ⟨Suf.h, (fun _ h => h), ?_⟩
   refine th_done (by kernel_rfl) ?_
   refine tri_inBlock ?_
   refine tT (tR ?_)
   refine tU rfl rfl (by omega) (by omega) rfl ?_
   refine tM rfl rfl (tN (tT ?_))
   refine tri_perm (A := ?a7_0 :: ?a7_1 :: ?a7_2 :: ?a7_3 :: ?a7_4 :: ?a7_5 :: ?T7) (B := ?a7_0 :: ?a7_4 :: ?a7_5 :: ?a7_2 :: ?a7_1 :: ?a7_3 :: ?T7) (by exact permL [0, 4, 5, 2, 1, 3] [?a7_0, ?a7_1, ?a7_2, ?a7_3, ?a7_4, ?a7_5] ?T7 (by decide) rfl) ?_
   refine tri_drop ?_
   refine tri_drop ?_
   refine tri_drop ?_
   refine tri_rowEq (len' := (ns.take (i + 1 + 2)).length) (cells' := encs (ns.take (i + 1 + 2))) hl3.symm (by rw [htk2, encs_append]; rfl) ?_
   rw [← hl3]
   refine tri_perm (A := ?a8_0 :: ?a8_1 :: ?a8_2 :: ?T8) (B := ?a8_1 :: ?a8_0 :: ?a8_2 :: ?T8) (by exact permL [1, 0, 2] [?a8_0, ?a8_1, ?a8_2] ?T8 (by decide) rfl) ?_
   refine tri_sub ?_ (hK (i + 1, a3, c3, mset es [y.k0, y.k1, y.k2, y.k3] (.int .i64 ((i : Int) + 2))) ⟨by simp only; omega, hok2', hmi.step hfit, hix2⟩ (by simp only; omega))
   exact ⟨rfl, rfl, rfl, rfl, rfl, trivial⟩
 ·have hi2 : i + 2 = ns.length := by omega
  have hr : R6.right ns room := ⟨⟨by omega, by omega, by omega, by omega, e0, e1⟩, fun j hj hj2 => hok j (by omega) hj2⟩
  have e : ns.take (i + 2) = ns := List.take_of_length_le (by omega)
  rw [e] at hix
  rw [e]
  refine tri_exit ?_
  refine tri_then_exit ?_
  refine tri_then_exit ?_
  refine tri_inBlock_hit rfl ?_
  refine tT (tS (tR (tM rfl rfl (tA rfl rfl (tA rfl rfl (tN (tT ?_)))))))
  refine tri_ret ?_
  refine tri_perm (A := ?a9_0 :: ?a9_1 :: ?a9_2 :: ?a9_3 :: ?T9) (B := ?a9_3 :: ?a9_0 :: ?a9_1 :: ?a9_2 :: ?T9) (by exact permL [3, 0, 1, 2] [?a9_0, ?a9_1, ?a9_2, ?a9_3] ?T9 (by decide) rfl) ?_
  refine tri_end (IxA bx mb ai ci ns room es A) Suf.h rfl (.cons (rv_tmp rfl) (.cons (rv_tmp rfl) .nil)) (.inl ⟨hr, bx, mb, ai, ci, es, rfl, rfl, hix, rfl⟩)
end Go.GL


set_option linter.unusedVariables false
namespace Go.GL
open Go.Proofs
attribute [local irreducible] wpList Code.wp Exit.then Exit.inBlock Ends Tri TriH OpV OpG FnC epf wpAnyH
variable {A : List Asrt} {I : List Chunk}
/-- Whose kids can be asked for. -/
def R8.Kid (ns : List Node) (n : Int) : Prop := R6.inS ns n ∧ R6.inS ns (R6.nd ns n).k0 ∧ R6.inS ns (R6.nd ns n).k1 ∧ R6.inS ns (R6.nd ns n).k2 ∧ R6.inS ns (R6.nd ns n).k3
theorem R6.right.kids {ns : List Node} {room n : Int} (h : R6.right ns room) (hn : R6.inS ns n) (hl : 1 ≤ (R6.nd ns n).lv) : R8.Kid ns n := by
 obtain ⟨m, hm⟩ : ∃ m : Nat, (R6.nd ns n).lv = ((m + 1 : Nat) : Int) := ⟨((R6.nd ns n).lv - 1).toNat, by omega⟩
 have k := fun q hq => (h.kid hn hm (q := q) hq).1
 exact ⟨hn, k _ (by simp [Node.kids]), k _ (by simp [Node.kids]), k _ (by simp [Node.kids]), k _ (by simp [Node.kids])⟩
end Go.GL


set_option linter.unusedVariables false
namespace Go.GL
open Go.Proofs
attribute [local irreducible] wpList Code.wp Exit.then Exit.inBlock Ends Tri TriH OpV OpG FnC epf wpAnyH
variable {A : List Asrt} {I : List Chunk}
set_option maxRecDepth 100000 in
theorem life_lives {alive : Bool} {k : Int} : FnC Try.prog 85 [.bool alive, .int .i64 k].toArray A I (fun v A' I' => v = .bool (R2.lives alive k) ∧ A = A' ∧ I = I') := by
 refine fn_enter2 Try.func85 rfl Try.ntmps85 rfl fun w0 => ?_
 refine tS (tR (tA rfl rfl (tN (tT (tS (tS (tR ?_)))))))
 refine tM rfl rfl (tN (tT (tri_block (tS (tR ?_)))))
 refine tri_v (opv_eql rfl rfl) rfl ?_
 refine tA rfl rfl (tN (tT ?_))
 refine tri_cond_dec rfl (fun h1 => ?_) (fun h1 => ?_)
 ·refine tS (tR (tM rfl rfl (tA rfl rfl (tN (tT (tri_ret ?_))))))
  refine tri_inBlock_ret ?_
  refine tri_then_ret ?_
  refine tri_end A Suf.h rfl (.cons (rv_tmp rfl) .nil) ⟨congrArg Value.bool ?_, rfl, rfl⟩
  have h3 : ¬ k = 3 := by omega
  simp [R2.lives, h1]
 ·refine tS (tR ?_)
  refine tri_v (opv_eql rfl rfl) rfl ?_
  refine tA rfl rfl (tN (tT ?_))
  refine tri_cond_dec rfl (fun h2 => ?_) (fun h2 => ?_)
  ·refine tS (tR (tA rfl rfl (tN (tT (tri_ret ?_)))))
   refine tri_inBlock_ret ?_
   refine tri_then_ret ?_
   refine tri_end A Suf.h rfl (.cons (rv_tmp rfl) .nil) ⟨congrArg Value.bool ?_, rfl, rfl⟩
   simp [R2.lives, h2]
  ·refine tri_skip ?_
   refine tri_inBlock ?_
   refine tT (tS (tR (tA rfl rfl (tN (tT (tri_ret ?_))))))
   refine tri_end A Suf.h rfl (.cons (rv_tmp rfl) .nil) ⟨congrArg Value.bool ?_, rfl, rfl⟩
   simp [R2.lives, h1, h2]
theorem R8.g_off (l : List Int) (i : Int) : l.getD (0 + i.toNat * 1) default = R8.g l i := by
 rw [Nat.zero_add, Nat.mul_one]; rfl
set_option maxRecDepth 100000 in
theorem base_square {l : List Int} {y x : Int} (hl : l.length = 16) (y0 : 0 ≤ y) (y1 : y ≤ 2) (x0 : 0 ≤ x) (x1 : x ≤ 2) :
  FnC Try.prog 92 [.agg (ints l).toArray, .int .i64 y, .int .i64 x].toArray A I (fun v A' I' => v = int4V (R8.g l (4 * y + x)) (R8.g l (4 * y + x + 1)) (R8.g l (4 * y + x + 4)) (R8.g l (4 * y + x + 5)) ∧ A = A' ∧ I = I') := by
 skip
 refine fn_enter3 Try.func92 rfl Try.ntmps92 rfl fun w0 => ?_
 refine tS (tR ?_)
 refine tri_g (opg_box_agg rfl) rfl ?_
 rintro _ _ _ ⟨b3, rfl, rfl, rfl⟩
 refine tri_g opg_alloc rfl ?_
 rintro _ _ _ ⟨b6, rfl, rfl, rfl⟩
 refine tN (tT (tS (tR (tM rfl rfl ?_))))
 refine tri_v (opv_mul rfl rfl (w64 (by omega) (by omega))) rfl ?_
 refine tM rfl rfl ?_
 refine tU rfl rfl (by omega) (by omega) rfl ?_
 refine tA rfl rfl (tN (tT (tS ?_)))
 skip
 refine tri_draw [0, 1, 2, 3, 4, 5, 6, 7, 8, 9, 10, 11, 12, 13, 14, 15, 16, 17] rfl [_] rfl mixed ?_
 refine th_take rfl rfl (by kernel_rfl)  (opv_move rfl) ?_
 refine th_take rfl rfl (by kernel_rfl)  (opv_indexAddrA rfl rfl (by omega) (by omega)) ?_
 refine th_take rfl rfl (by kernel_rfl)  (opv_loadIX rfl rfl (by omega)) ?_
 refine th_take rfl rfl (by kernel_rfl)  (opv_move rfl) ?_
 refine th_take rfl rfl (by kernel_rfl)  (opv_add rfl rfl (w64 (by omega) (by omega))) ?_
 refine th_take rfl rfl (by kernel_rfl)  (opv_indexAddrA rfl rfl (by omega) (by omega)) ?_
 refine th_take rfl rfl (by kernel_rfl)  (opv_loadIX rfl rfl (by omega)) ?_
 refine th_take rfl rfl (by kernel_rfl)  (opv_move rfl) ?_
 refine th_take rfl rfl (by kernel_rfl)  (opv_add rfl rfl (w64 (by omega) (by omega))) ?_
 refine th_take rfl rfl (by kernel_rfl)  (opv_indexAddrA rfl rfl (by omega) (by omega)) ?_
 refine th_take rfl rfl (by kernel_rfl)  (opv_loadIX rfl rfl (by omega)) ?_
 refine th_take rfl rfl (by kernel_rfl)  (opv_move rfl) ?_
 refine th_take rfl rfl (by kernel_rfl)  (opv_add rfl rfl (w64 (by omega) (by omega))) ?_
 refine th_take rfl rfl (by kernel_rfl)  (opv_add rfl rfl (w64 (by omega) (by omega))) ?_
 refine th_take rfl rfl (by kernel_rfl)  (opv_indexAddrA rfl rfl (by omega) (by omega)) ?_
 refine th_take rfl rfl (by kernel_rfl)  (opv_loadIX rfl rfl (by omega)) ?_
 refine th_take rfl rfl (by kernel_rfl)  (opv_buildA rfl rfl) ?_
 refine th_one (by kernel_rfl) (step_m rfl rfl (opg_store rfl rfl rfl rfl rfl rfl) ?_)
 rintro _ _ _ ⟨rfl, rfl⟩
 refine ⟨Suf.h, (fun _ h => h), ?_⟩
 refine th_done (by kernel_rfl) ?_
 refine tT (tri_ret ?_)
 refine tri_end A Suf.h rfl (.cons (rv_cellA rfl rfl rfl) .nil) ⟨?_, rfl, rfl⟩
 simp only [R8.g_off, retV]
 rw [show y * 4 = 4 * y by omega, show 4 * y + x + 4 + 1 = 4 * y + x + 5 by omega]
def R8.ar (l : List Int) (i : Int) : Int := 0 + (R8.g l (i + -4 - 1) + R8.g l (i + -4) + R8.g l (i + -4 + 1)) + (R8.g l (i + 0 - 1) + R8.g l (i + 0) + R8.g l (i + 0 + 1)) + (R8.g l (i + 4 - 1) + R8.g l (i + 4) + R8.g l (i + 4 + 1)) - R8.g l i
set_option maxHeartbeats 1000000 in
set_option maxRecDepth 100000 in
theorem base_around {l : List Int} {i : Int} (hl : l.length = 16) (hb : ∀ i, 0 ≤ R8.g l i ∧ R8.g l i ≤ 1) (i0 : 5 ≤ i) (i1 : i ≤ 10) :
  FnC Try.prog 86 [.agg (ints l).toArray, .int .i64 i].toArray A I (fun v A' I' => v = .int .i64 (R8.ar l i) ∧ A = A' ∧ I = I') := by
 have hb' : ∀ j : Int, 0 ≤ l.getD (0 + j.toNat * 1) default ∧ l.getD (0 + j.toNat * 1) default ≤ 1 := fun j => by rw [R8.g_off]; exact hb j
 skip
 refine fn_enter2 Try.func86 rfl Try.ntmps86 rfl fun w0 => ?_
 refine tS (tR ?_)
 refine tri_g (opg_box_agg rfl) rfl ?_
 rintro _ _ _ ⟨b2, rfl, rfl, rfl⟩
 refine tA rfl rfl (tN (tT (tS (tS (tR (tA rfl rfl (tN ?_)))))))
 refine tT (tri_block ?_)
 refine tri_rounds 4 ?_
 refine tri_round ?_
 refine tS (tS (tR (tM rfl rfl ?_)))
 refine tri_v (opv_leq rfl rfl) rfl ?_
 refine tN (tT ?_)
 refine tri_cond_is rfl (by decide) ?_
 have a0 := hb' (i + (-4) - 1)
 have b0 := hb' (i + (-4))
 have c0 := hb' (i + (-4) + 1)
 refine tri_skip (tT (tS (tri_block ?_)))
 refine tri_draw [0, 1, 2, 3, 4, 5, 6, 7, 8, 9, 10, 11, 12, 13, 14, 15, 16, 17, 18, 19, 20, 21] rfl [] rfl mixed ?_
 refine th_take rfl rfl (by kernel_rfl)  (opv_move rfl) ?_
 refine th_take rfl rfl (by kernel_rfl)  (opv_move rfl) ?_
 refine th_take rfl rfl (by kernel_rfl)  (opv_move rfl) ?_
 refine th_take rfl rfl (by kernel_rfl)  (opv_add rfl rfl (w64 (by omega) (by omega))) ?_
 refine th_take rfl rfl (by kernel_rfl)  (opv_sub rfl rfl (w64 (by omega) (by omega))) ?_
 refine th_take rfl rfl (by kernel_rfl)  (opv_indexAddrA rfl rfl (by omega) (by omega)) ?_
 refine th_take rfl rfl (by kernel_rfl)  (opv_loadIX rfl rfl (by omega)) ?_
 refine th_take rfl rfl (by kernel_rfl)  (opv_move rfl) ?_
 refine th_take rfl rfl (by kernel_rfl)  (opv_move rfl) ?_
 refine th_take rfl rfl (by kernel_rfl)  (opv_add rfl rfl (w64 (by omega) (by omega))) ?_
 refine th_take rfl rfl (by kernel_rfl)  (opv_indexAddrA rfl rfl (by omega) (by omega)) ?_
 refine th_take rfl rfl (by kernel_rfl)  (opv_loadIX rfl rfl (by omega)) ?_
 refine th_take rfl rfl (by kernel_rfl)  (opv_add rfl rfl (w64 (by omega) (by omega))) ?_
 refine th_take rfl rfl (by kernel_rfl)  (opv_move rfl) ?_
 refine th_take rfl rfl (by kernel_rfl)  (opv_move rfl) ?_
 refine th_take rfl rfl (by kernel_rfl)  (opv_add rfl rfl (w64 (by omega) (by omega))) ?_
 refine th_take rfl rfl (by kernel_rfl)  (opv_add rfl rfl (w64 (by omega) (by omega))) ?_
 refine th_take rfl rfl (by kernel_rfl)  (opv_indexAddrA rfl rfl (by omega) (by omega)) ?_
 refine th_take rfl rfl (by kernel_rfl)  (opv_loadIX rfl rfl (by omega)) ?_
 refine th_take rfl rfl (by kernel_rfl)  (opv_add rfl rfl (w64 (by omega) (by omega))) ?_
 refine th_take rfl rfl (by kernel_rfl)  (opv_add rfl rfl (w64 (by omega) (by omega))) ?_
 refine th_take rfl rfl (by kernel_rfl)  (opv_assign rfl) ?_
 refine th_done (by kernel_rfl) ?_
 refine tri_inBlock ?_
 refine tT (tR (tM rfl rfl ?_))
 refine tU rfl rfl (by omega) (by omega) rfl ?_
 refine tA rfl rfl (tN (tT ?_))
 refine tri_round ?_
 refine tS (tS (tR (tM rfl rfl ?_)))
 refine tri_v (opv_leq rfl rfl) rfl ?_
 refine tN (tT ?_)
 skip
 refine tri_cond_is rfl (by decide) ?_
 have a4 := hb' (i + (-4 + 4) - 1)
 have b4 := hb' (i + (-4 + 4))
 have c4 := hb' (i + (-4 + 4) + 1)
 refine tri_skip (tT (tS (tri_block ?_)))
 refine tri_draw [0, 1, 2, 3, 4, 5, 6, 7, 8, 9, 10, 11, 12, 13, 14, 15, 16, 17, 18, 19, 20, 21] rfl [] rfl mixed ?_
 refine th_take rfl rfl (by kernel_rfl)  (opv_move rfl) ?_
 refine th_take rfl rfl (by kernel_rfl)  (opv_move rfl) ?_
 refine th_take rfl rfl (by kernel_rfl)  (opv_move rfl) ?_
 refine th_take rfl rfl (by kernel_rfl)  (opv_add rfl rfl (w64 (by omega) (by omega))) ?_
 refine th_take rfl rfl (by kernel_rfl)  (opv_sub rfl rfl (w64 (by omega) (by omega))) ?_
 refine th_take rfl rfl (by kernel_rfl)  (opv_indexAddrA rfl rfl (by omega) (by omega)) ?_
 refine th_take rfl rfl (by kernel_rfl)  (opv_loadIX rfl rfl (by omega)) ?_
 refine th_take rfl rfl (by kernel_rfl)  (opv_move rfl) ?_
 refine th_take rfl rfl (by kernel_rfl)  (opv_move rfl) ?_
 refine th_take rfl rfl (by kernel_rfl)  (opv_add rfl rfl (w64 (by omega) (by omega))) ?_
 refine th_take rfl rfl (by kernel_rfl)  (opv_indexAddrA rfl rfl (by omega) (by omega)) ?_
 refine th_take rfl rfl (by kernel_rfl)  (opv_loadIX rfl rfl (by omega)) ?_
 refine th_take rfl rfl (by kernel_rfl)  (opv_add rfl rfl (w64 (by omega) (by omega))) ?_
 refine th_take rfl rfl (by kernel_rfl)  (opv_move rfl) ?_
 refine th_take rfl rfl (by kernel_rfl)  (opv_move rfl) ?_
 refine th_take rfl rfl (by kernel_rfl)  (opv_add rfl rfl (w64 (by omega) (by omega))) ?_
 refine th_take rfl rfl (by kernel_rfl)  (opv_add rfl rfl (w64 (by omega) (by omega))) ?_
 refine th_take rfl rfl (by kernel_rfl)  (opv_indexAddrA rfl rfl (by omega) (by omega)) ?_
 refine th_take rfl rfl (by kernel_rfl)  (opv_loadIX rfl rfl (by omega)) ?_
 refine th_take rfl rfl (by kernel_rfl)  (opv_add rfl rfl (w64 (by omega) (by omega))) ?_
 refine th_take rfl rfl (by kernel_rfl)  (opv_add rfl rfl (w64 (by omega) (by omega))) ?_
 refine th_take rfl rfl (by kernel_rfl)  (opv_assign rfl) ?_
 refine th_done (by kernel_rfl) ?_
 refine tri_inBlock ?_
 refine tT (tR (tM rfl rfl ?_))
 refine tU rfl rfl (by omega) (by omega) rfl ?_
 refine tA rfl rfl (tN (tT ?_))
 refine tri_round ?_
 refine tS (tS (tR (tM rfl rfl ?_)))
 refine tri_v (opv_leq rfl rfl) rfl ?_
 refine tN (tT ?_)
 skip
 refine tri_cond_is rfl (by decide) ?_
 have a8 := hb' (i + (-4 + 4 + 4) - 1)
 have b8 := hb' (i + (-4 + 4 + 4))
 have c8 := hb' (i + (-4 + 4 + 4) + 1)
 refine tri_skip (tT (tS (tri_block ?_)))
 refine tri_draw [0, 1, 2, 3, 4, 5, 6, 7, 8, 9, 10, 11, 12, 13, 14, 15, 16, 17, 18, 19, 20, 21] rfl [] rfl mixed ?_
 refine th_take rfl rfl (by kernel_rfl)  (opv_move rfl) ?_
 refine th_take rfl rfl (by kernel_rfl)  (opv_move rfl) ?_
 refine th_take rfl rfl (by kernel_rfl)  (opv_move rfl) ?_
 refine th_take rfl rfl (by kernel_rfl)  (opv_add rfl rfl (w64 (by omega) (by omega))) ?_
 refine th_take rfl rfl (by kernel_rfl)  (opv_sub rfl rfl (w64 (by omega) (by omega))) ?_
 refine th_take rfl rfl (by kernel_rfl)  (opv_indexAddrA rfl rfl (by omega) (by omega)) ?_
 refine th_take rfl rfl (by kernel_rfl)  (opv_loadIX rfl rfl (by omega)) ?_
 refine th_take rfl rfl (by kernel_rfl)  (opv_move rfl) ?_
 refine th_take rfl rfl (by kernel_rfl)  (opv_move rfl) ?_
 refine th_take rfl rfl (by kernel_rfl)  (opv_add rfl rfl (w64 (by omega) (by omega))) ?_
 refine th_take rfl rfl (by kernel_rfl)  (opv_indexAddrA rfl rfl (by omega) (by omega)) ?_
 refine th_take rfl rfl (by kernel_rfl)  (opv_loadIX rfl rfl (by omega)) ?_
 refine th_take rfl rfl (by kernel_rfl)  (opv_add rfl rfl (w64 (by omega) (by omega))) ?_
 refine th_take rfl rfl (by kernel_rfl)  (opv_move rfl) ?_
 refine th_take rfl rfl (by kernel_rfl)  (opv_move rfl) ?_
 refine th_take rfl rfl (by kernel_rfl)  (opv_add rfl rfl (w64 (by omega) (by omega))) ?_
 refine th_take rfl rfl (by kernel_rfl)  (opv_add rfl rfl (w64 (by omega) (by omega))) ?_
 refine th_take rfl rfl (by kernel_rfl)  (opv_indexAddrA rfl rfl (by omega) (by omega)) ?_
 refine th_take rfl rfl (by kernel_rfl)  (opv_loadIX rfl rfl (by omega)) ?_
 refine th_take rfl rfl (by kernel_rfl)  (opv_add rfl rfl (w64 (by omega) (by omega))) ?_
 refine th_take rfl rfl (by kernel_rfl)  (opv_add rfl rfl (w64 (by omega) (by omega))) ?_
 refine th_take rfl rfl (by kernel_rfl)  (opv_assign rfl) ?_
 refine th_done (by kernel_rfl) ?_
 refine tri_inBlock ?_
 refine tT (tR (tM rfl rfl ?_))
 refine tU rfl rfl (by omega) (by omega) rfl ?_
 refine tA rfl rfl (tN (tT ?_))
 refine tri_round ?_
 refine tS (tS (tR (tM rfl rfl ?_)))
 refine tri_v (opv_leq rfl rfl) rfl ?_
 refine tN (tT ?_)
 refine tri_cond_not rfl (by decide) ?_
 have d0 := hb' i
 refine tri_exit ?_
 refine tri_then_exit ?_
 refine tri_then_exit ?_
 refine tri_inBlock_hit rfl ?_
 refine tT (tS (tR (tM rfl rfl (tM rfl rfl ?_))))
 refine tri_v (opv_indexAddrA rfl rfl (by omega) (by omega)) rfl ?_
 refine tri_v (opv_loadIX rfl rfl (by omega)) rfl ?_
 refine tri_v (opv_sub rfl rfl (w64 (by omega) (by omega))) rfl ?_
 refine tA rfl rfl (tN (tT (tri_ret ?_)))
 refine tri_end A Suf.h rfl (.cons (rv_tmp rfl) .nil) ⟨?_, rfl, rfl⟩
 simp only [R8.g_off, retV]
 rfl
end Go.GL


set_option linter.unusedVariables false
namespace Go.GL
open Go.Proofs
attribute [local irreducible] wpList Code.wp Exit.then Exit.inBlock Ends Tri TriH OpV OpG FnC epf wpAnyH
variable {A : List Asrt} {I : List Chunk}
theorem R8.s16_len (ns : List Node) (n : Int) : (R8.s16 ns n).length = 16 := rfl
end Go.GL


set_option linter.unusedVariables false
namespace Go.GL
open Go.Proofs
attribute [local irreducible] wpList Code.wp Exit.then Exit.inBlock Ends Tri TriH OpV OpG FnC epf wpAnyH
variable {A : List Asrt} {I : List Chunk}
theorem R6.right.low {ns : List Node} {room : Int} (h : R6.right ns room) {q : Int} (hq : R6.inS ns q) (hl : (R6.nd ns q).lv = 0) : 0 ≤ q ∧ q ≤ 1 := by
 obtain ⟨q0, q1⟩ := hq
 rcases Nat.lt_or_ge q.toNat 2 with h2 | h2
 ·omega
 ·have := (h.2 q.toNat (by omega) h2).2.2.2.2.1
  have hl' : (ns.getD q.toNat default).lv = 0 := hl
  omega
theorem R6.right.bits {ns : List Node} {room n : Int} (h : R6.right ns room) (hn : R6.inS ns n) (hl : (R6.nd ns n).lv = 2) (i : Int) : 0 ≤ R8.g (R8.s16 ns n) i ∧ R8.g (R8.s16 ns n) i ≤ 1 := by
 have key : ∀ q ∈ R8.s16 ns n, 0 ≤ q ∧ q ≤ 1 := by
  intro q hq
  have k1 := fun q hq => h.kid hn (m := 1) hl (q := q) hq
  have k2 : ∀ p, p ∈ (R6.nd ns n).kids → ∀ q, q ∈ (R6.nd ns p).kids → 0 ≤ q ∧ q ≤ 1 := fun p hp q hq => by
   obtain ⟨g1, _, g3⟩ := k1 p hp
   obtain ⟨f1, _, f3⟩ := h.kid g1 (m := 0) g3 hq
   exact h.low f1 f3
  simp only [R8.s16, List.mem_cons, List.not_mem_nil, or_false] at hq
  have a := k2 _ (by simp [Node.kids] : (R6.nd ns n).k0 ∈ (R6.nd ns n).kids)
  have b := k2 _ (by simp [Node.kids] : (R6.nd ns n).k1 ∈ (R6.nd ns n).kids)
  have c := k2 _ (by simp [Node.kids] : (R6.nd ns n).k2 ∈ (R6.nd ns n).kids)
  have d := k2 _ (by simp [Node.kids] : (R6.nd ns n).k3 ∈ (R6.nd ns n).kids)
  simp only [Node.kids, List.mem_cons, List.not_mem_nil, or_false] at a b c d
  rcases hq with e | e | e | e | e | e | e | e | e | e | e | e | e | e | e | e <;> subst e <;> first | exact a _ (by simp) | exact b _ (by simp) | exact c _ (by simp) | exact d _ (by simp)
 unfold R8.g
 rcases Nat.lt_or_ge i.toNat (R8.s16 ns n).length with h2 | h2
 ·have := key (R8.s16 ns n)[i.toNat] (List.getElem_mem h2)
  simpa [h2] using this
 ·rw [List.getD_eq_getElem?_getD, List.getElem?_eq_none h2]
  decide
theorem ref06_putSq {ns : List Node} {a : Option Addr} {cap : Nat} {room q0 q1 q2 q3 : Int} {p : List Node × Int × Int} (hs : StA I a cap ns) (hg : R6.Good ns room) (he : R6.put ns room q0 q1 q2 q3 = p) :
  FnC Try.prog 66 [storeV a ns.length cap room, int4V q0 q1 q2 q3].toArray A I (StoreR p room A I) := by
 subst he
 exact ref06_put hs hg.len hg.mod
theorem R8.all_eq {ns : List Node} {room n : Int} {p0 p1 p2 p3 p4 p5 p6 p7 p8 : List Node × Int × Int} (e0 : R8.putSq ns room (R8.s16 ns n) 0 0 = p0) (e1 : R8.putSq p0.1 room (R8.s16 ns n) 0 1 = p1) (e2 : R8.putSq p1.1 room (R8.s16 ns n) 0 2 = p2) (e3 : R8.putSq p2.1 room (R8.s16 ns n) 1 0 = p3) (e4 : R8.putSq p3.1 room (R8.s16 ns n) 1 1 = p4) (e5 : R8.putSq p4.1 room (R8.s16 ns n) 1 2 = p5) (e6 : R8.putSq p5.1 room (R8.s16 ns n) 2 0 = p6) (e7 : R8.putSq p6.1 room (R8.s16 ns n) 2 1 = p7) (e8 : R8.putSq p7.1 room (R8.s16 ns n) 2 2 = p8) :
  R8.all ns room n = if p0.2.2 ≠ 0 then (ns, R8.z9, p0.2.2) else if p1.2.2 ≠ 0 then (ns, R8.z9, p1.2.2) else if p2.2.2 ≠ 0 then (ns, R8.z9, p2.2.2) else if p3.2.2 ≠ 0 then (ns, R8.z9, p3.2.2) else if p4.2.2 ≠ 0 then (ns, R8.z9, p4.2.2) else if p5.2.2 ≠ 0 then (ns, R8.z9, p5.2.2) else if p6.2.2 ≠ 0 then (ns, R8.z9, p6.2.2) else if p7.2.2 ≠ 0 then (ns, R8.z9, p7.2.2) else if p8.2.2 ≠ 0 then (ns, R8.z9, p8.2.2) else (p8.1, [p0.2.1, p1.2.1, p2.2.1, p3.2.1, p4.2.1, p5.2.1, p6.2.1, p7.2.1, p8.2.1], 0) := by
 subst e8; subst e7; subst e6; subst e5; subst e4; subst e3; subst e2; subst e1; subst e0
 rfl
end Go.GL


set_option linter.unusedVariables false
namespace Go.GL
open Go.Proofs
attribute [local irreducible] wpList Code.wp Exit.then Exit.inBlock Ends Tri TriH OpV OpG FnC epf wpAnyH
variable {A : List Asrt} {I : List Chunk}
set_option maxHeartbeats 2000000 in
set_option maxRecDepth 100000 in
theorem base_sixteen {ns : List Node} {a : Option Addr} {cap bx : Nat} {room n : Int} {mv : Value} (hk : R8.Kid ns n) :
  FnC Try.prog 84 [.agg [pt bx 0].toArray, .int .i64 n].toArray (Box bx [.slice a ns.length cap, .int .i64 room, mv] 99 :: Row a cap ns.length 35 6 (encs ns) :: A) I (fun v A' I' => v = .agg (ints (R8.s16 ns n)).toArray ∧ A' = (Box bx [.slice a ns.length cap, .int .i64 room, mv] 99 :: Row a cap ns.length 35 6 (encs ns) :: A) ∧ I = I') := by
 obtain ⟨⟨hn0, hn1⟩, ⟨ha0, ha1⟩, ⟨hb0, hb1⟩, ⟨hc0, hc1⟩, ⟨hd0, hd1⟩⟩ := hk
 unfold R6.nd at ha0 ha1 hb0 hb1 hc0 hc1 hd0 hd1
 skip
 refine fn_enter2 Try.func84 rfl Try.ntmps84 rfl fun w0 => ?_
 refine tS (tR ?_)
 refine tri_g (opg_box_agg rfl) rfl ?_
 rintro _ _ _ ⟨b2, rfl, rfl, rfl⟩
 refine tri_g opg_alloc rfl ?_
 rintro _ _ _ ⟨b4, rfl, rfl, rfl⟩
 refine tN (tT (tS (tS (tR ?_))))
 refine tri_v (opv_fieldAddr rfl rfl) rfl ?_
 refine tri_v (opv_load1 rfl rfl rfl) rfl ?_
 refine tri_v (opv_nilCheck rfl) rfl ?_
 refine tri_v (opv_fieldAddr rfl rfl) rfl ?_
 refine tri_v (opv_fieldAddr rfl rfl) rfl ?_
 refine tri_v (opv_load1 rfl rfl rfl) rfl ?_
 refine tM rfl rfl ?_
 refine tri_v (opv_indexAddrR rfl rfl (by omega) (by omega)) rfl ?_
 refine tri_v (opv_fieldAddrR rfl (by omega) rfl) rfl ?_
 refine tri_v (opv_loadRXA rfl rfl (by omega) rfl rfl rfl) rfl ?_
 refine tM rfl rfl (tN (tT (tri_block ?_)))
 refine tri_rounds 5 ?_
 refine tri_round ?_
 refine tS (tR ?_)
 refine tri_v (opv_lss rfl rfl) rfl ?_
 refine tN (tT (tS ?_))
 refine tri_cond_is rfl (by decide) ?_
 refine tri_skip (tT (tS (tri_block (tS (tR (tM rfl rfl ?_))))))
 refine tri_v (opv_index rfl rfl (by decide) (by decide) rfl rfl) rfl ?_
 refine tA rfl rfl (tA rfl rfl (tN (tT (tS (tR ?_)))))
 refine tri_v (opv_fieldAddr rfl rfl) rfl ?_
 refine tri_v (opv_load1 rfl rfl rfl) rfl ?_
 refine tri_v (opv_nilCheck rfl) rfl ?_
 refine tri_v (opv_fieldAddr rfl rfl) rfl ?_
 refine tri_v (opv_fieldAddr rfl rfl) rfl ?_
 refine tri_v (opv_load1 rfl rfl rfl) rfl ?_
 refine tM rfl rfl ?_
 refine tri_v (opv_indexAddrR rfl rfl (by omega) (by omega)) rfl ?_
 refine tri_v (opv_fieldAddrR rfl (by omega) rfl) rfl ?_
 refine tri_v (opv_loadRXA rfl rfl (by omega) rfl rfl rfl) rfl ?_
 refine tM rfl rfl (tN (tT (tri_block ?_)))
 refine tri_rounds 5 ?_
 refine tri_round ?_
 refine tS (tR ?_)
 refine tri_v (opv_lss rfl rfl) rfl ?_
 refine tN (tT (tS ?_))
 refine tri_cond_is rfl (by decide) ?_
 refine tri_skip (tT (tS (tri_block (tS (tR (tM rfl rfl ?_))))))
 refine tri_v (opv_index rfl rfl (by decide) (by decide) rfl rfl) rfl ?_
 refine tA rfl rfl (tA rfl rfl (tN (tT (tR (tM rfl rfl ?_)))))
 refine tri_v (opv_quoE rfl rfl (by omega) (by omega) (by omega)) rfl ?_
 refine tri_v (opv_mul rfl rfl (w64 (by omega) (by omega))) rfl ?_
 refine tM rfl rfl ?_
 refine tri_v (opv_quoE rfl rfl (by omega) (by omega) (by omega)) rfl ?_
 refine tU rfl rfl (by omega) (by omega) rfl ?_
 refine tri_v (opv_mul rfl rfl (w64 (by omega) (by omega))) rfl ?_
 refine tM rfl rfl ?_
 refine tri_v (opv_remE rfl rfl (by omega) (by omega)) rfl ?_
 refine tri_v (opv_mul rfl rfl (w64 (by omega) (by omega))) rfl ?_
 refine tU rfl rfl (by omega) (by omega) rfl ?_
 refine tM rfl rfl ?_
 refine tri_v (opv_remE rfl rfl (by omega) (by omega)) rfl ?_
 refine tU rfl rfl (by omega) (by omega) rfl ?_
 refine tM rfl rfl ?_
 refine tri_v (opv_indexAddrA rfl rfl (by decide) (by decide)) rfl ?_
 refine tri_g (opg_store rfl rfl rfl rfl rfl rfl) rfl ?_
 rintro _ _ _ ⟨rfl, rfl⟩
 refine tN ?_
 refine tri_inBlock ?_
 refine tT (tR ?_)
 refine tU rfl rfl (by omega) (by omega) rfl ?_
 refine tM rfl rfl (tN (tT ?_))
 refine tri_round ?_
 refine tS (tR ?_)
 refine tri_v (opv_lss rfl rfl) rfl ?_
 refine tN (tT (tS ?_))
 skip
 refine tri_cond_is rfl (by decide) ?_
 refine tri_skip (tT (tS (tri_block (tS (tR (tM rfl rfl ?_))))))
 refine tri_v (opv_index rfl rfl (by decide) (by decide) rfl rfl) rfl ?_
 refine tA rfl rfl (tA rfl rfl (tN (tT (tR (tM rfl rfl ?_)))))
 refine tri_v (opv_quoE rfl rfl (by omega) (by omega) (by omega)) rfl ?_
 refine tri_v (opv_mul rfl rfl (w64 (by omega) (by omega))) rfl ?_
 refine tM rfl rfl ?_
 refine tri_v (opv_quoE rfl rfl (by omega) (by omega) (by omega)) rfl ?_
 refine tU rfl rfl (by omega) (by omega) rfl ?_
 refine tri_v (opv_mul rfl rfl (w64 (by omega) (by omega))) rfl ?_
 refine tM rfl rfl ?_
 refine tri_v (opv_remE rfl rfl (by omega) (by omega)) rfl ?_
 refine tri_v (opv_mul rfl rfl (w64 (by omega) (by omega))) rfl ?_
 refine tU rfl rfl (by omega) (by omega) rfl ?_
 refine tM rfl rfl ?_
 refine tri_v (opv_remE rfl rfl (by omega) (by omega)) rfl ?_
 refine tU rfl rfl (by omega) (by omega) rfl ?_
 refine tM rfl rfl ?_
 refine tri_v (opv_indexAddrA rfl rfl (by decide) (by decide)) rfl ?_
 refine tri_g (opg_store rfl rfl rfl rfl rfl rfl) rfl ?_
 rintro _ _ _ ⟨rfl, rfl⟩
 refine tN ?_
 refine tri_inBlock ?_
 refine tT (tR ?_)
 refine tU rfl rfl (by omega) (by omega) rfl ?_
 refine tM rfl rfl (tN (tT ?_))
 refine tri_round ?_
 refine tS (tR ?_)
 refine tri_v (opv_lss rfl rfl) rfl ?_
 refine tN (tT (tS ?_))
 skip
 refine tri_cond_is rfl (by decide) ?_
 refine tri_skip (tT (tS (tri_block (tS (tR (tM rfl rfl ?_))))))
 refine tri_v (opv_index rfl rfl (by decide) (by decide) rfl rfl) rfl ?_
 refine tA rfl rfl (tA rfl rfl (tN (tT (tR (tM rfl rfl ?_)))))
 refine tri_v (opv_quoE rfl rfl (by omega) (by omega) (by omega)) rfl ?_
 refine tri_v (opv_mul rfl rfl (w64 (by omega) (by omega))) rfl ?_
 refine tM rfl rfl ?_
 refine tri_v (opv_quoE rfl rfl (by omega) (by omega) (by omega)) rfl ?_
 refine tU rfl rfl (by omega) (by omega) rfl ?_
 refine tri_v (opv_mul rfl rfl (w64 (by omega) (by omega))) rfl ?_
 refine tM rfl rfl ?_
 refine tri_v (opv_remE rfl rfl (by omega) (by omega)) rfl ?_
 refine tri_v (opv_mul rfl rfl (w64 (by omega) (by omega))) rfl ?_
 refine tU rfl rfl (by omega) (by omega) rfl ?_
 refine tM rfl rfl ?_
 refine tri_v (opv_remE rfl rfl (by omega) (by omega)) rfl ?_
 refine tU rfl rfl (by omega) (by omega) rfl ?_
 refine tM rfl rfl ?_
 refine tri_v (opv_indexAddrA rfl rfl (by decide) (by decide)) rfl ?_
 refine tri_g (opg_store rfl rfl rfl rfl rfl rfl) rfl ?_
 rintro _ _ _ ⟨rfl, rfl⟩
 refine tN ?_
 refine tri_inBlock ?_
 refine tT (tR ?_)
 refine tU rfl rfl (by omega) (by omega) rfl ?_
 refine tM rfl rfl (tN (tT ?_))
 refine tri_round ?_
 refine tS (tR ?_)
 refine tri_v (opv_lss rfl rfl) rfl ?_
 refine tN (tT (tS ?_))
 skip
 refine tri_cond_is rfl (by decide) ?_
 refine tri_skip (tT (tS (tri_block (tS (tR (tM rfl rfl ?_))))))
 refine tri_v (opv_index rfl rfl (by decide) (by decide) rfl rfl) rfl ?_
 refine tA rfl rfl (tA rfl rfl (tN (tT (tR (tM rfl rfl ?_)))))
 refine tri_v (opv_quoE rfl rfl (by omega) (by omega) (by omega)) rfl ?_
 refine tri_v (opv_mul rfl rfl (w64 (by omega) (by omega))) rfl ?_
 refine tM rfl rfl ?_
 refine tri_v (opv_quoE rfl rfl (by omega) (by omega) (by omega)) rfl ?_
 refine tU rfl rfl (by omega) (by omega) rfl ?_
 refine tri_v (opv_mul rfl rfl (w64 (by omega) (by omega))) rfl ?_
 refine tM rfl rfl ?_
 refine tri_v (opv_remE rfl rfl (by omega) (by omega)) rfl ?_
 refine tri_v (opv_mul rfl rfl (w64 (by omega) (by omega))) rfl ?_
 refine tU rfl rfl (by omega) (by omega) rfl ?_
 refine tM rfl rfl ?_
 refine tri_v (opv_remE rfl rfl (by omega) (by omega)) rfl ?_
 refine tU rfl rfl (by omega) (by omega) rfl ?_
 refine tM rfl rfl ?_
 refine tri_v (opv_indexAddrA rfl rfl (by decide) (by decide)) rfl ?_
 refine tri_g (opg_store rfl rfl rfl rfl rfl rfl) rfl ?_
 rintro _ _ _ ⟨rfl, rfl⟩
 refine tN ?_
 refine tri_inBlock ?_
 refine tT (tR ?_)
 refine tU rfl rfl (by omega) (by omega) rfl ?_
 refine tM rfl rfl (tN (tT ?_))
 refine tri_round ?_
 refine tS (tR ?_)
 refine tri_v (opv_lss rfl rfl) rfl ?_
 refine tN (tT (tS ?_))
 refine tri_cond_not rfl (by decide) ?_
 refine tri_exit ?_
 refine tri_then_exit ?_
 refine tri_then_exit ?_
 refine tri_inBlock_hit rfl ?_
 refine tri_inBlock ?_
 refine tT (tR ?_)
 refine tU rfl rfl (by omega) (by omega) rfl ?_
 refine tM rfl rfl (tN (tT ?_))
 refine tri_round ?_
 refine tS (tR ?_)
 refine tri_v (opv_lss rfl rfl) rfl ?_
 refine tN (tT (tS ?_))
 refine tri_cond_is rfl (by decide) ?_
 refine tri_skip (tT (tS (tri_block (tS (tR (tM rfl rfl ?_))))))
 refine tri_v (opv_index rfl rfl (by decide) (by decide) rfl rfl) rfl ?_
 refine tA rfl rfl (tA rfl rfl (tN (tT (tS (tR ?_)))))
 refine tri_v (opv_fieldAddr rfl rfl) rfl ?_
 refine tri_v (opv_load1 rfl rfl rfl) rfl ?_
 refine tri_v (opv_nilCheck rfl) rfl ?_
 refine tri_v (opv_fieldAddr rfl rfl) rfl ?_
 refine tri_v (opv_fieldAddr rfl rfl) rfl ?_
 refine tri_v (opv_load1 rfl rfl rfl) rfl ?_
 refine tM rfl rfl ?_
 refine tri_v (opv_indexAddrR rfl rfl (by omega) (by omega)) rfl ?_
 refine tri_v (opv_fieldAddrR rfl (by omega) rfl) rfl ?_
 refine tri_v (opv_loadRXA rfl rfl (by omega) rfl rfl rfl) rfl ?_
 refine tM rfl rfl (tN (tT (tri_block ?_)))
 refine tri_rounds 5 ?_
 refine tri_round ?_
 refine tS (tR ?_)
 refine tri_v (opv_lss rfl rfl) rfl ?_
 refine tN (tT (tS ?_))
 refine tri_cond_is rfl (by decide) ?_
 refine tri_skip (tT (tS (tri_block (tS (tR (tM rfl rfl ?_))))))
 refine tri_v (opv_index rfl rfl (by decide) (by decide) rfl rfl) rfl ?_
 refine tA rfl rfl (tA rfl rfl (tN (tT (tR (tM rfl rfl ?_)))))
 refine tri_v (opv_quoE rfl rfl (by omega) (by omega) (by omega)) rfl ?_
 refine tri_v (opv_mul rfl rfl (w64 (by omega) (by omega))) rfl ?_
 refine tM rfl rfl ?_
 refine tri_v (opv_quoE rfl rfl (by omega) (by omega) (by omega)) rfl ?_
 refine tU rfl rfl (by omega) (by omega) rfl ?_
 refine tri_v (opv_mul rfl rfl (w64 (by omega) (by omega))) rfl ?_
 refine tM rfl rfl ?_
 refine tri_v (opv_remE rfl rfl (by omega) (by omega)) rfl ?_
 refine tri_v (opv_mul rfl rfl (w64 (by omega) (by omega))) rfl ?_
 refine tU rfl rfl (by omega) (by omega) rfl ?_
 refine tM rfl rfl ?_
 refine tri_v (opv_remE rfl rfl (by omega) (by omega)) rfl ?_
 refine tU rfl rfl (by omega) (by omega) rfl ?_
 refine tM rfl rfl ?_
 refine tri_v (opv_indexAddrA rfl rfl (by decide) (by decide)) rfl ?_
 refine tri_g (opg_store rfl rfl rfl rfl rfl rfl) rfl ?_
 rintro _ _ _ ⟨rfl, rfl⟩
 refine tN ?_
 refine tri_inBlock ?_
 refine tT (tR ?_)
 refine tU rfl rfl (by omega) (by omega) rfl ?_
 refine tM rfl rfl (tN (tT ?_))
 refine tri_round ?_
 refine tS (tR ?_)
 refine tri_v (opv_lss rfl rfl) rfl ?_
 refine tN (tT (tS ?_))
 skip
 refine tri_cond_is rfl (by decide) ?_
 refine tri_skip (tT (tS (tri_block (tS (tR (tM rfl rfl ?_))))))
 refine tri_v (opv_index rfl rfl (by decide) (by decide) rfl rfl) rfl ?_
 refine tA rfl rfl (tA rfl rfl (tN (tT (tR (tM rfl rfl ?_)))))
 refine tri_v (opv_quoE rfl rfl (by omega) (by omega) (by omega)) rfl ?_
 refine tri_v (opv_mul rfl rfl (w64 (by omega) (by omega))) rfl ?_
 refine tM rfl rfl ?_
 refine tri_v (opv_quoE rfl rfl (by omega) (by omega) (by omega)) rfl ?_
 refine tU rfl rfl (by omega) (by omega) rfl ?_
 refine tri_v (opv_mul rfl rfl (w64 (by omega) (by omega))) rfl ?_
 refine tM rfl rfl ?_
 refine tri_v (opv_remE rfl rfl (by omega) (by omega)) rfl ?_
 refine tri_v (opv_mul rfl rfl (w64 (by omega) (by omega))) rfl ?_
 refine tU rfl rfl (by omega) (by omega) rfl ?_
 refine tM rfl rfl ?_
 refine tri_v (opv_remE rfl rfl (by omega) (by omega)) rfl ?_
 refine tU rfl rfl (by omega) (by omega) rfl ?_
 refine tM rfl rfl ?_
 refine tri_v (opv_indexAddrA rfl rfl (by decide) (by decide)) rfl ?_
 refine tri_g (opg_store rfl rfl rfl rfl rfl rfl) rfl ?_
 rintro _ _ _ ⟨rfl, rfl⟩
 refine tN ?_
 refine tri_inBlock ?_
 refine tT (tR ?_)
 refine tU rfl rfl (by omega) (by omega) rfl ?_
 refine tM rfl rfl (tN (tT ?_))
 refine tri_round ?_
 refine tS (tR ?_)
 refine tri_v (opv_lss rfl rfl) rfl ?_
 refine tN (tT (tS ?_))
 skip
 refine tri_cond_is rfl (by decide) ?_
 refine tri_skip (tT (tS (tri_block (tS (tR (tM rfl rfl ?_))))))
 refine tri_v (opv_index rfl rfl (by decide) (by decide) rfl rfl) rfl ?_
 refine tA rfl rfl (tA rfl rfl (tN (tT (tR (tM rfl rfl ?_)))))
 refine tri_v (opv_quoE rfl rfl (by omega) (by omega) (by omega)) rfl ?_
 refine tri_v (opv_mul rfl rfl (w64 (by omega) (by omega))) rfl ?_
 refine tM rfl rfl ?_
 refine tri_v (opv_quoE rfl rfl (by omega) (by omega) (by omega)) rfl ?_
 refine tU rfl rfl (by omega) (by omega) rfl ?_
 refine tri_v (opv_mul rfl rfl (w64 (by omega) (by omega))) rfl ?_
 refine tM rfl rfl ?_
 refine tri_v (opv_remE rfl rfl (by omega) (by omega)) rfl ?_
 refine tri_v (opv_mul rfl rfl (w64 (by omega) (by omega))) rfl ?_
 refine tU rfl rfl (by omega) (by omega) rfl ?_
 refine tM rfl rfl ?_
 refine tri_v (opv_remE rfl rfl (by omega) (by omega)) rfl ?_
 refine tU rfl rfl (by omega) (by omega) rfl ?_
 refine tM rfl rfl ?_
 refine tri_v (opv_indexAddrA rfl rfl (by decide) (by decide)) rfl ?_
 refine tri_g (opg_store rfl rfl rfl rfl rfl rfl) rfl ?_
 rintro _ _ _ ⟨rfl, rfl⟩
 refine tN ?_
 refine tri_inBlock ?_
 refine tT (tR ?_)
 refine tU rfl rfl (by omega) (by omega) rfl ?_
 refine tM rfl rfl (tN (tT ?_))
 refine tri_round ?_
 refine tS (tR ?_)
 refine tri_v (opv_lss rfl rfl) rfl ?_
 refine tN (tT (tS ?_))
 skip
 refine tri_cond_is rfl (by decide) ?_
 refine tri_skip (tT (tS (tri_block (tS (tR (tM rfl rfl ?_))))))
 refine tri_v (opv_index rfl rfl (by decide) (by decide) rfl rfl) rfl ?_
 refine tA rfl rfl (tA rfl rfl (tN (tT (tR (tM rfl rfl ?_)))))
 refine tri_v (opv_quoE rfl rfl (by omega) (by omega) (by omega)) rfl ?_
 refine tri_v (opv_mul rfl rfl (w64 (by omega) (by omega))) rfl ?_
 refine tM rfl rfl ?_
 refine tri_v (opv_quoE rfl rfl (by omega) (by omega) (by omega)) rfl ?_
 refine tU rfl rfl (by omega) (by omega) rfl ?_
 refine tri_v (opv_mul rfl rfl (w64 (by omega) (by omega))) rfl ?_
 refine tM rfl rfl ?_
 refine tri_v (opv_remE rfl rfl (by omega) (by omega)) rfl ?_
 refine tri_v (opv_mul rfl rfl (w64 (by omega) (by omega))) rfl ?_
 refine tU rfl rfl (by omega) (by omega) rfl ?_
 refine tM rfl rfl ?_
 refine tri_v (opv_remE rfl rfl (by omega) (by omega)) rfl ?_
 refine tU rfl rfl (by omega) (by omega) rfl ?_
 refine tM rfl rfl ?_
 refine tri_v (opv_indexAddrA rfl rfl (by decide) (by decide)) rfl ?_
 refine tri_g (opg_store rfl rfl rfl rfl rfl rfl) rfl ?_
 rintro _ _ _ ⟨rfl, rfl⟩
 refine tN ?_
 refine tri_inBlock ?_
 refine tT (tR ?_)
 refine tU rfl rfl (by omega) (by omega) rfl ?_
 refine tM rfl rfl (tN (tT ?_))
 refine tri_round ?_
 refine tS (tR ?_)
 refine tri_v (opv_lss rfl rfl) rfl ?_
 refine tN (tT (tS ?_))
 refine tri_cond_not rfl (by decide) ?_
 refine tri_exit ?_
 refine tri_then_exit ?_
 refine tri_then_exit ?_
 refine tri_inBlock_hit rfl ?_
 refine tri_inBlock ?_
 refine tT (tR ?_)
 refine tU rfl rfl (by omega) (by omega) rfl ?_
 refine tM rfl rfl (tN (tT ?_))
 refine tri_round ?_
 refine tS (tR ?_)
 refine tri_v (opv_lss rfl rfl) rfl ?_
 refine tN (tT (tS ?_))
 refine tri_cond_is rfl (by decide) ?_
 refine tri_skip (tT (tS (tri_block (tS (tR (tM rfl rfl ?_))))))
 refine tri_v (opv_index rfl rfl (by decide) (by decide) rfl rfl) rfl ?_
 refine tA rfl rfl (tA rfl rfl (tN (tT (tS (tR ?_)))))
 refine tri_v (opv_fieldAddr rfl rfl) rfl ?_
 refine tri_v (opv_load1 rfl rfl rfl) rfl ?_
 refine tri_v (opv_nilCheck rfl) rfl ?_
 refine tri_v (opv_fieldAddr rfl rfl) rfl ?_
 refine tri_v (opv_fieldAddr rfl rfl) rfl ?_
 refine tri_v (opv_load1 rfl rfl rfl) rfl ?_
 refine tM rfl rfl ?_
 refine tri_v (opv_indexAddrR rfl rfl (by omega) (by omega)) rfl ?_
 refine tri_v (opv_fieldAddrR rfl (by omega) rfl) rfl ?_
 refine tri_v (opv_loadRXA rfl rfl (by omega) rfl rfl rfl) rfl ?_
 refine tM rfl rfl (tN (tT (tri_block ?_)))
 refine tri_rounds 5 ?_
 refine tri_round ?_
 refine tS (tR ?_)
 refine tri_v (opv_lss rfl rfl) rfl ?_
 refine tN (tT (tS ?_))
 refine tri_cond_is rfl (by decide) ?_
 refine tri_skip (tT (tS (tri_block (tS (tR (tM rfl rfl ?_))))))
 refine tri_v (opv_index rfl rfl (by decide) (by decide) rfl rfl) rfl ?_
 refine tA rfl rfl (tA rfl rfl (tN (tT (tR (tM rfl rfl ?_)))))
 refine tri_v (opv_quoE rfl rfl (by omega) (by omega) (by omega)) rfl ?_
 refine tri_v (opv_mul rfl rfl (w64 (by omega) (by omega))) rfl ?_
 refine tM rfl rfl ?_
 refine tri_v (opv_quoE rfl rfl (by omega) (by omega) (by omega)) rfl ?_
 refine tU rfl rfl (by omega) (by omega) rfl ?_
 refine tri_v (opv_mul rfl rfl (w64 (by omega) (by omega))) rfl ?_
 refine tM rfl rfl ?_
 refine tri_v (opv_remE rfl rfl (by omega) (by omega)) rfl ?_
 refine tri_v (opv_mul rfl rfl (w64 (by omega) (by omega))) rfl ?_
 refine tU rfl rfl (by omega) (by omega) rfl ?_
 refine tM rfl rfl ?_
 refine tri_v (opv_remE rfl rfl (by omega) (by omega)) rfl ?_
 refine tU rfl rfl (by omega) (by omega) rfl ?_
 refine tM rfl rfl ?_
 refine tri_v (opv_indexAddrA rfl rfl (by decide) (by decide)) rfl ?_
 refine tri_g (opg_store rfl rfl rfl rfl rfl rfl) rfl ?_
 rintro _ _ _ ⟨rfl, rfl⟩
 refine tN ?_
 refine tri_inBlock ?_
 refine tT (tR ?_)
 refine tU rfl rfl (by omega) (by omega) rfl ?_
 refine tM rfl rfl (tN (tT ?_))
 refine tri_round ?_
 refine tS (tR ?_)
 refine tri_v (opv_lss rfl rfl) rfl ?_
 refine tN (tT (tS ?_))
 skip
 refine tri_cond_is rfl (by decide) ?_
 refine tri_skip (tT (tS (tri_block (tS (tR (tM rfl rfl ?_))))))
 refine tri_v (opv_index rfl rfl (by decide) (by decide) rfl rfl) rfl ?_
 refine tA rfl rfl (tA rfl rfl (tN (tT (tR (tM rfl rfl ?_)))))
 refine tri_v (opv_quoE rfl rfl (by omega) (by omega) (by omega)) rfl ?_
 refine tri_v (opv_mul rfl rfl (w64 (by omega) (by omega))) rfl ?_
 refine tM rfl rfl ?_
 refine tri_v (opv_quoE rfl rfl (by omega) (by omega) (by omega)) rfl ?_
 refine tU rfl rfl (by omega) (by omega) rfl ?_
 refine tri_v (opv_mul rfl rfl (w64 (by omega) (by omega))) rfl ?_
 refine tM rfl rfl ?_
 refine tri_v (opv_remE rfl rfl (by omega) (by omega)) rfl ?_
 refine tri_v (opv_mul rfl rfl (w64 (by omega) (by omega))) rfl ?_
 refine tU rfl rfl (by omega) (by omega) rfl ?_
 refine tM rfl rfl ?_
 refine tri_v (opv_remE rfl rfl (by omega) (by omega)) rfl ?_
 refine tU rfl rfl (by omega) (by omega) rfl ?_
 refine tM rfl rfl ?_
 refine tri_v (opv_indexAddrA rfl rfl (by decide) (by decide)) rfl ?_
 refine tri_g (opg_store rfl rfl rfl rfl rfl rfl) rfl ?_
 rintro _ _ _ ⟨rfl, rfl⟩
 refine tN ?_
 refine tri_inBlock ?_
 refine tT (tR ?_)
 refine tU rfl rfl (by omega) (by omega) rfl ?_
 refine tM rfl rfl (tN (tT ?_))
 refine tri_round ?_
 refine tS (tR ?_)
 refine tri_v (opv_lss rfl rfl) rfl ?_
 refine tN (tT (tS ?_))
 skip
 refine tri_cond_is rfl (by decide) ?_
 refine tri_skip (tT (tS (tri_block (tS (tR (tM rfl rfl ?_))))))
 refine tri_v (opv_index rfl rfl (by decide) (by decide) rfl rfl) rfl ?_
 refine tA rfl rfl (tA rfl rfl (tN (tT (tR (tM rfl rfl ?_)))))
 refine tri_v (opv_quoE rfl rfl (by omega) (by omega) (by omega)) rfl ?_
 refine tri_v (opv_mul rfl rfl (w64 (by omega) (by omega))) rfl ?_
 refine tM rfl rfl ?_
 refine tri_v (opv_quoE rfl rfl (by omega) (by omega) (by omega)) rfl ?_
 refine tU rfl rfl (by omega) (by omega) rfl ?_
 refine tri_v (opv_mul rfl rfl (w64 (by omega) (by omega))) rfl ?_
 refine tM rfl rfl ?_
 refine tri_v (opv_remE rfl rfl (by omega) (by omega)) rfl ?_
 refine tri_v (opv_mul rfl rfl (w64 (by omega) (by omega))) rfl ?_
 refine tU rfl rfl (by omega) (by omega) rfl ?_
 refine tM rfl rfl ?_
 refine tri_v (opv_remE rfl rfl (by omega) (by omega)) rfl ?_
 refine tU rfl rfl (by omega) (by omega) rfl ?_
 refine tM rfl rfl ?_
 refine tri_v (opv_indexAddrA rfl rfl (by decide) (by decide)) rfl ?_
 refine tri_g (opg_store rfl rfl rfl rfl rfl rfl) rfl ?_
 rintro _ _ _ ⟨rfl, rfl⟩
 refine tN ?_
 refine tri_inBlock ?_
 refine tT (tR ?_)
 refine tU rfl rfl (by omega) (by omega) rfl ?_
 refine tM rfl rfl (tN (tT ?_))
 refine tri_round ?_
 refine tS (tR ?_)
 refine tri_v (opv_lss rfl rfl) rfl ?_
 refine tN (tT (tS ?_))
 skip
 refine tri_cond_is rfl (by decide) ?_
 refine tri_skip (tT (tS (tri_block (tS (tR (tM rfl rfl ?_))))))
 refine tri_v (opv_index rfl rfl (by decide) (by decide) rfl rfl) rfl ?_
 refine tA rfl rfl (tA rfl rfl (tN (tT (tR (tM rfl rfl ?_)))))
 refine tri_v (opv_quoE rfl rfl (by omega) (by omega) (by omega)) rfl ?_
 refine tri_v (opv_mul rfl rfl (w64 (by omega) (by omega))) rfl ?_
 refine tM rfl rfl ?_
 refine tri_v (opv_quoE rfl rfl (by omega) (by omega) (by omega)) rfl ?_
 refine tU rfl rfl (by omega) (by omega) rfl ?_
 refine tri_v (opv_mul rfl rfl (w64 (by omega) (by omega))) rfl ?_
 refine tM rfl rfl ?_
 refine tri_v (opv_remE rfl rfl (by omega) (by omega)) rfl ?_
 refine tri_v (opv_mul rfl rfl (w64 (by omega) (by omega))) rfl ?_
 refine tU rfl rfl (by omega) (by omega) rfl ?_
 refine tM rfl rfl ?_
 refine tri_v (opv_remE rfl rfl (by omega) (by omega)) rfl ?_
 refine tU rfl rfl (by omega) (by omega) rfl ?_
 refine tM rfl rfl ?_
 refine tri_v (opv_indexAddrA rfl rfl (by decide) (by decide)) rfl ?_
 refine tri_g (opg_store rfl rfl rfl rfl rfl rfl) rfl ?_
 rintro _ _ _ ⟨rfl, rfl⟩
 refine tN ?_
 refine tri_inBlock ?_
 refine tT (tR ?_)
 refine tU rfl rfl (by omega) (by omega) rfl ?_
 refine tM rfl rfl (tN (tT ?_))
 refine tri_round ?_
 refine tS (tR ?_)
 refine tri_v (opv_lss rfl rfl) rfl ?_
 refine tN (tT (tS ?_))
 refine tri_cond_not rfl (by decide) ?_
 refine tri_exit ?_
 refine tri_then_exit ?_
 refine tri_then_exit ?_
 refine tri_inBlock_hit rfl ?_
 refine tri_inBlock ?_
 refine tT (tR ?_)
 refine tU rfl rfl (by omega) (by omega) rfl ?_
 refine tM rfl rfl (tN (tT ?_))
 refine tri_round ?_
 refine tS (tR ?_)
 refine tri_v (opv_lss rfl rfl) rfl ?_
 refine tN (tT (tS ?_))
 refine tri_cond_is rfl (by decide) ?_
 refine tri_skip (tT (tS (tri_block (tS (tR (tM rfl rfl ?_))))))
 refine tri_v (opv_index rfl rfl (by decide) (by decide) rfl rfl) rfl ?_
 refine tA rfl rfl (tA rfl rfl (tN (tT (tS (tR ?_)))))
 refine tri_v (opv_fieldAddr rfl rfl) rfl ?_
 refine tri_v (opv_load1 rfl rfl rfl) rfl ?_
 refine tri_v (opv_nilCheck rfl) rfl ?_
 refine tri_v (opv_fieldAddr rfl rfl) rfl ?_
 refine tri_v (opv_fieldAddr rfl rfl) rfl ?_
 refine tri_v (opv_load1 rfl rfl rfl) rfl ?_
 refine tM rfl rfl ?_
 refine tri_v (opv_indexAddrR rfl rfl (by omega) (by omega)) rfl ?_
 refine tri_v (opv_fieldAddrR rfl (by omega) rfl) rfl ?_
 refine tri_v (opv_loadRXA rfl rfl (by omega) rfl rfl rfl) rfl ?_
 refine tM rfl rfl (tN (tT (tri_block ?_)))
 refine tri_rounds 5 ?_
 refine tri_round ?_
 refine tS (tR ?_)
 refine tri_v (opv_lss rfl rfl) rfl ?_
 refine tN (tT (tS ?_))
 refine tri_cond_is rfl (by decide) ?_
 refine tri_skip (tT (tS (tri_block (tS (tR (tM rfl rfl ?_))))))
 refine tri_v (opv_index rfl rfl (by decide) (by decide) rfl rfl) rfl ?_
 refine tA rfl rfl (tA rfl rfl (tN (tT (tR (tM rfl rfl ?_)))))
 refine tri_v (opv_quoE rfl rfl (by omega) (by omega) (by omega)) rfl ?_
 refine tri_v (opv_mul rfl rfl (w64 (by omega) (by omega))) rfl ?_
 refine tM rfl rfl ?_
 refine tri_v (opv_quoE rfl rfl (by omega) (by omega) (by omega)) rfl ?_
 refine tU rfl rfl (by omega) (by omega) rfl ?_
 refine tri_v (opv_mul rfl rfl (w64 (by omega) (by omega))) rfl ?_
 refine tM rfl rfl ?_
 refine tri_v (opv_remE rfl rfl (by omega) (by omega)) rfl ?_
 refine tri_v (opv_mul rfl rfl (w64 (by omega) (by omega))) rfl ?_
 refine tU rfl rfl (by omega) (by omega) rfl ?_
 refine tM rfl rfl ?_
 refine tri_v (opv_remE rfl rfl (by omega) (by omega)) rfl ?_
 refine tU rfl rfl (by omega) (by omega) rfl ?_
 refine tM rfl rfl ?_
 refine tri_v (opv_indexAddrA rfl rfl (by decide) (by decide)) rfl ?_
 refine tri_g (opg_store rfl rfl rfl rfl rfl rfl) rfl ?_
 rintro _ _ _ ⟨rfl, rfl⟩
 refine tN ?_
 refine tri_inBlock ?_
 refine tT (tR ?_)
 refine tU rfl rfl (by omega) (by omega) rfl ?_
 refine tM rfl rfl (tN (tT ?_))
 refine tri_round ?_
 refine tS (tR ?_)
 refine tri_v (opv_lss rfl rfl) rfl ?_
 refine tN (tT (tS ?_))
 skip
 refine tri_cond_is rfl (by decide) ?_
 refine tri_skip (tT (tS (tri_block (tS (tR (tM rfl rfl ?_))))))
 refine tri_v (opv_index rfl rfl (by decide) (by decide) rfl rfl) rfl ?_
 refine tA rfl rfl (tA rfl rfl (tN (tT (tR (tM rfl rfl ?_)))))
 refine tri_v (opv_quoE rfl rfl (by omega) (by omega) (by omega)) rfl ?_
 refine tri_v (opv_mul rfl rfl (w64 (by omega) (by omega))) rfl ?_
 refine tM rfl rfl ?_
 refine tri_v (opv_quoE rfl rfl (by omega) (by omega) (by omega)) rfl ?_
 refine tU rfl rfl (by omega) (by omega) rfl ?_
 refine tri_v (opv_mul rfl rfl (w64 (by omega) (by omega))) rfl ?_
 refine tM rfl rfl ?_
 refine tri_v (opv_remE rfl rfl (by omega) (by omega)) rfl ?_
 refine tri_v (opv_mul rfl rfl (w64 (by omega) (by omega))) rfl ?_
 refine tU rfl rfl (by omega) (by omega) rfl ?_
 refine tM rfl rfl ?_
 refine tri_v (opv_remE rfl rfl (by omega) (by omega)) rfl ?_
 refine tU rfl rfl (by omega) (by omega) rfl ?_
 refine tM rfl rfl ?_
 refine tri_v (opv_indexAddrA rfl rfl (by decide) (by decide)) rfl ?_
 refine tri_g (opg_store rfl rfl rfl rfl rfl rfl) rfl ?_
 rintro _ _ _ ⟨rfl, rfl⟩
 refine tN ?_
 refine tri_inBlock ?_
 refine tT (tR ?_)
 refine tU rfl rfl (by omega) (by omega) rfl ?_
 refine tM rfl rfl (tN (tT ?_))
 refine tri_round ?_
 refine tS (tR ?_)
 refine tri_v (opv_lss rfl rfl) rfl ?_
 refine tN (tT (tS ?_))
 skip
 refine tri_cond_is rfl (by decide) ?_
 refine tri_skip (tT (tS (tri_block (tS (tR (tM rfl rfl ?_))))))
 refine tri_v (opv_index rfl rfl (by decide) (by decide) rfl rfl) rfl ?_
 refine tA rfl rfl (tA rfl rfl (tN (tT (tR (tM rfl rfl ?_)))))
 refine tri_v (opv_quoE rfl rfl (by omega) (by omega) (by omega)) rfl ?_
 refine tri_v (opv_mul rfl rfl (w64 (by omega) (by omega))) rfl ?_
 refine tM rfl rfl ?_
 refine tri_v (opv_quoE rfl rfl (by omega) (by omega) (by omega)) rfl ?_
 refine tU rfl rfl (by omega) (by omega) rfl ?_
 refine tri_v (opv_mul rfl rfl (w64 (by omega) (by omega))) rfl ?_
 refine tM rfl rfl ?_
 refine tri_v (opv_remE rfl rfl (by omega) (by omega)) rfl ?_
 refine tri_v (opv_mul rfl rfl (w64 (by omega) (by omega))) rfl ?_
 refine tU rfl rfl (by omega) (by omega) rfl ?_
 refine tM rfl rfl ?_
 refine tri_v (opv_remE rfl rfl (by omega) (by omega)) rfl ?_
 refine tU rfl rfl (by omega) (by omega) rfl ?_
 refine tM rfl rfl ?_
 refine tri_v (opv_indexAddrA rfl rfl (by decide) (by decide)) rfl ?_
 refine tri_g (opg_store rfl rfl rfl rfl rfl rfl) rfl ?_
 rintro _ _ _ ⟨rfl, rfl⟩
 refine tN ?_
 refine tri_inBlock ?_
 refine tT (tR ?_)
 refine tU rfl rfl (by omega) (by omega) rfl ?_
 refine tM rfl rfl (tN (tT ?_))
 refine tri_round ?_
 refine tS (tR ?_)
 refine tri_v (opv_lss rfl rfl) rfl ?_
 refine tN (tT (tS ?_))
 skip
 refine tri_cond_is rfl (by decide) ?_
 refine tri_skip (tT (tS (tri_block (tS (tR (tM rfl rfl ?_))))))
 refine tri_v (opv_index rfl rfl (by decide) (by decide) rfl rfl) rfl ?_
 refine tA rfl rfl (tA rfl rfl (tN (tT (tR (tM rfl rfl ?_)))))
 refine tri_v (opv_quoE rfl rfl (by omega) (by omega) (by omega)) rfl ?_
 refine tri_v (opv_mul rfl rfl (w64 (by omega) (by omega))) rfl ?_
 refine tM rfl rfl ?_
 refine tri_v (opv_quoE rfl rfl (by omega) (by omega) (by omega)) rfl ?_
 refine tU rfl rfl (by omega) (by omega) rfl ?_
 refine tri_v (opv_mul rfl rfl (w64 (by omega) (by omega))) rfl ?_
 refine tM rfl rfl ?_
 refine tri_v (opv_remE rfl rfl (by omega) (by omega)) rfl ?_
 refine tri_v (opv_mul rfl rfl (w64 (by omega) (by omega))) rfl ?_
 refine tU rfl rfl (by omega) (by omega) rfl ?_
 refine tM rfl rfl ?_
 refine tri_v (opv_remE rfl rfl (by omega) (by omega)) rfl ?_
 refine tU rfl rfl (by omega) (by omega) rfl ?_
 refine tM rfl rfl ?_
 refine tri_v (opv_indexAddrA rfl rfl (by decide) (by decide)) rfl ?_
 refine tri_g (opg_store rfl rfl rfl rfl rfl rfl) rfl ?_
 rintro _ _ _ ⟨rfl, rfl⟩
 refine tN ?_
 refine tri_inBlock ?_
 refine tT (tR ?_)
 refine tU rfl rfl (by omega) (by omega) rfl ?_
 refine tM rfl rfl (tN (tT ?_))
 refine tri_round ?_
 refine tS (tR ?_)
 refine tri_v (opv_lss rfl rfl) rfl ?_
 refine tN (tT (tS ?_))
 refine tri_cond_not rfl (by decide) ?_
 refine tri_exit ?_
 refine tri_then_exit ?_
 refine tri_then_exit ?_
 refine tri_inBlock_hit rfl ?_
 refine tri_inBlock ?_
 refine tT (tR ?_)
 refine tU rfl rfl (by omega) (by omega) rfl ?_
 refine tM rfl rfl (tN (tT ?_))
 refine tri_round ?_
 refine tS (tR ?_)
 refine tri_v (opv_lss rfl rfl) rfl ?_
 refine tN (tT (tS ?_))
 refine tri_cond_not rfl (by decide) ?_
 refine tri_exit ?_
 refine tri_then_exit ?_
 refine tri_then_exit ?_
 refine tri_inBlock_hit rfl ?_
 refine tT (tS (tR ?_))
 refine tri_v (opv_loadA rfl rfl rfl) rfl ?_
 refine tri_g (opg_store rfl rfl rfl rfl rfl rfl) rfl ?_
 rintro _ _ _ ⟨rfl, rfl⟩
 refine tN (tT (tri_ret ?_))
 refine tri_end _ (⟨[_, _], rfl⟩) rfl (.cons (rv_cellA rfl rfl rfl) .nil) ⟨rfl, rfl, rfl⟩
end Go.GL


set_option linter.unusedVariables false
namespace Go.GL
open Go.Proofs
attribute [local irreducible] wpList Code.wp Exit.then Exit.inBlock Ends Tri TriH OpV OpG FnC epf wpAnyH
variable {A : List Asrt} {I : List Chunk}
/-- What a function on an index tells and leaves behind. -/
def IxR (bx mb : Nat) (r : List Node × Int × Int) (room : Int) (A : List Asrt) (I : List Chunk) : Value → List Asrt → List Chunk → Prop :=
 fun v A' I' => ∃ a' cap' es', v = .tuple [.int .i64 r.2.1, .int .i64 r.2.2].toArray ∧ A' = IxA bx mb a' cap' r.1 room es' A ∧ Idx r.1 es' ∧ I = I'
theorem node_putR {A : List Asrt} {I : List Chunk} {ns : List Node} {a : Option Addr} {cap bx mb : Nat} {room q0 q1 q2 q3 : Int} {es : KVs} {r : List Node × Int × Int} (hg : R6.Good ns room) (h2 : 2 ≤ ns.length) (hi : Idx ns es) (hr : R6.put ns room q0 q1 q2 q3 = r) :
  FnC Try.prog 87 [pt bx 0, int4V q0 q1 q2 q3].toArray (IxA bx mb a cap ns room es A) I (IxR bx mb r room A I) := by
 subst hr
 exact node_put hg h2 hi
theorem R6.put_len {ns : List Node} {room q0 q1 q2 q3 : Int} (h : 2 ≤ ns.length) : 2 ≤ (R6.put ns room q0 q1 q2 q3).1.length := by
 unfold R6.put
 split
 ·split
  ·exact h
  ·split
   ·exact h
   ·simp only [List.length_append]; omega
 ·exact h
set_option maxHeartbeats 2000000 in
set_option maxRecDepth 100000 in
theorem index_empty {ns : List Node} {a : Option Addr} {cap bx mb lv : Nat} {room : Int} {es : KVs} (hlv : lv ≤ 1000000) (hg : R6.Good ns room) (h2 : 2 ≤ ns.length) (hi : Idx ns es) :
  FnC Try.prog 98 [pt bx 0, .int .i64 (lv : Nat)].toArray (IxA bx mb a cap ns room es A) I (IxR bx mb (R7.empty ns room lv) room A I) := by
 skip
 refine fn_enter2 Try.func98 rfl Try.ntmps98 rfl fun w0 => ?_
 refine tS (tR (tA rfl rfl (tA rfl rfl (tN (tT (tS (tS ?_)))))))
 refine tR (tM rfl rfl (tM rfl rfl (tN (tT (tri_block ?_)))))
 refine tri_sub (F' := [(0, pt bx 0), (4, .int .i64 0), (6, .int .i64 (lv : Nat)), (7, .int .i64 (0 : Nat))]) ⟨rfl, rfl, rfl, rfl, trivial⟩ ?_
 refine loop_ind (G := Nat × List Node × Int × Option Addr × Nat × KVs) (fun g => lv - g.1) (fun g => g.1 ≤ lv ∧ R6.Good g.2.1 room ∧ 2 ≤ g.2.1.length ∧ Idx g.2.1 g.2.2.2.2.2 ∧ R7.empty ns room lv = R7.emptyF room (lv - g.1) g.2.1 g.2.2.1) (fun g => [(0, pt bx 0), (4, .int .i64 g.2.2.1), (6, .int .i64 (lv : Nat)), (7, .int .i64 (g.1 : Nat))]) (fun g => IxA bx mb g.2.2.2.1 g.2.2.2.2.1 g.2.1 room g.2.2.2.2.2 A) (fun _ => I) ?_ (0, ns, 0, a, cap, es) ⟨by simp, hg, h2, hi, rfl⟩
 rintro ⟨i, ns1, n1, a1, c1, es1⟩ ⟨hi1, hg1, hl1, hx1, he⟩ K hK
 simp only at hi1 hg1 hl1 hx1 he hK ⊢
 skip
 refine tS (tR ?_)
 refine tri_v (opv_lss rfl rfl) rfl ?_
 refine tN (tT (tS ?_))
 refine tri_cond_dec rfl (fun h => ?_) (fun h => ?_)
 ·have hlt : i < lv := by omega
  rw [show lv - i = (lv - (i + 1)) + 1 by omega] at he
  unfold R7.emptyF at he
  obtain ⟨r, hr⟩ : ∃ r, R6.put ns1 room n1 n1 n1 n1 = r := ⟨_, rfl⟩
  rw [hr] at he
  refine tri_skip (tT (tS (tri_block (tS (tR (tM rfl rfl (tM rfl rfl ?_)))))))
  refine tM rfl rfl (tM rfl rfl (tM rfl rfl ?_))
  refine tri_v (by first | exact opv_buildS rfl rfl | exact opv_buildA rfl rfl) rfl ?_
  refine tri_g (opg_call (xs := [_, _]) rfl (node_putR hg1 hl1 hx1 hr)) rfl ?_
  rintro _ _ _ ⟨a2, c2, es2, rfl, rfl, hi2, rfl⟩
  refine tM rfl rfl ?_
  refine tri_v (opv_extract rfl rfl) rfl ?_
  refine tri_v (opv_extract rfl rfl) rfl ?_
  refine tA rfl rfl (tA rfl rfl (tN (tT (tS (tR (tM rfl rfl ?_))))))
  refine tri_v (by first | exact opv_neq rfl rfl | exact opv_neqI rfl rfl rfl rfl rfl rfl | exact opv_neqB rfl rfl) rfl ?_
  refine tN (tT ?_)
  refine tri_cond_dec rfl (fun x => ?_) (fun x => ?_)
  ·rw [if_pos x] at he
   have e1 : r.1 = ns1 := by
    rw [← hr] at x ⊢
    unfold R6.put at x ⊢
    split
    ·split
     ·rfl
     ·split
      ·rfl
      ·rename_i p q s
       rw [if_pos p, if_neg q, if_neg s] at x
       exact absurd rfl x
    ·rfl
   refine tS (tR (tM rfl rfl (tA rfl rfl (tA rfl rfl (tN (tT (tri_ret ?_)))))))
   refine tri_inBlock_ret ?_
   refine tri_then_ret (tri_then_ret ?_)
   refine tri_inBlock_ret ?_
   refine tri_then_ret ?_
   rw [e1] at hi2
   rw [e1]
   refine tri_end _ (by first | exact ⟨[], rfl⟩ | exact ⟨[_], rfl⟩ | exact ⟨[_, _], rfl⟩ | exact ⟨[_, _, _], rfl⟩ | exact ⟨[_, _, _, _], rfl⟩ | exact ⟨[_, _, _, _, _], rfl⟩ | exact ⟨[_, _, _, _, _, _], rfl⟩ | exact ⟨[_, _, _, _, _, _, _], rfl⟩ | exact ⟨[_, _, _, _, _, _, _, _], rfl⟩) rfl (.cons (rv_tmp rfl) (.cons (rv_tmp rfl) .nil)) ⟨a2, c2, es2, by rw [he]; rfl, by rw [he], by rw [he]; exact hi2, rfl⟩
  ·rw [if_neg x] at he
   refine tri_skip ?_
   refine tri_inBlock ?_
   refine tT (tR ?_)
   refine tri_v (by first | exact opv_add rfl rfl (w64 (by omega) (by omega))) rfl ?_
   refine tM rfl rfl (tN (tT ?_))
   refine tri_sub ?_ (hK (i + 1, r.1, r.2.1, a2, c2, es2) ⟨by simp only; omega, by rw [← hr]; exact hg1.put .., by rw [← hr]; exact R6.put_len hl1, hi2, he⟩ (by simp only; omega))
   exact ⟨rfl, rfl, rfl, rfl, trivial⟩
 ·have hle : i = lv := by omega
  subst hle
  rw [Nat.sub_self] at he
  unfold R7.emptyF at he
  refine tri_exit ?_
  refine tri_then_exit ?_
  refine tri_then_exit ?_
  refine tri_inBlock_hit rfl ?_
  refine tT (tS (tR (tM rfl rfl (tA rfl rfl (tA rfl rfl (tN (tT ?_)))))))
  refine tri_ret ?_
  refine tri_end _ (by first | exact ⟨[], rfl⟩ | exact ⟨[_], rfl⟩ | exact ⟨[_, _], rfl⟩ | exact ⟨[_, _, _], rfl⟩ | exact ⟨[_, _, _, _], rfl⟩ | exact ⟨[_, _, _, _, _], rfl⟩ | exact ⟨[_, _, _, _, _, _], rfl⟩ | exact ⟨[_, _, _, _, _, _, _], rfl⟩ | exact ⟨[_, _, _, _, _, _, _, _], rfl⟩) rfl (.cons (rv_tmp rfl) (.cons (rv_tmp rfl) .nil)) ⟨a1, c1, es1, by rw [he]; rfl, by rw [he], by rw [he]; exact hx1, rfl⟩
end Go.GL


set_option linter.unusedVariables false
namespace Go.GL
open Go.Proofs
attribute [local irreducible] wpList Code.wp Exit.then Exit.inBlock Ends Tri TriH OpV OpG FnC epf wpAnyH
variable {A : List Asrt} {I : List Chunk}
set_option maxRecDepth 100000 in
theorem maker_centre {ns : List Node} {a : Option Addr} {cap bx mb : Nat} {room n : Int} {es : KVs} (hg : R6.Good ns room) (h2 : 2 ≤ ns.length) (hi : Idx ns es) (hk : R8.Kid ns n) :
  FnC Try.prog 73 [.agg [pt bx 0].toArray, .int .i64 n].toArray (IxA bx mb a cap ns room es A) I (IxR bx mb (R8.putSq ns room (R8.s16 ns n) 1 1) room A I) := by
 skip
 refine fn_enter2 Try.func73 rfl Try.ntmps73 rfl fun w0 => ?_
 refine tS (tR ?_)
 first | refine tri_g (opg_box_agg rfl) rfl ?_ | refine tri_g (opg_box1 rfl rfl) rfl ?_
 rintro _ _ _ ⟨b2, rfl, rfl, rfl⟩
 refine tA rfl rfl (tA rfl rfl (tN (tT (tS ?_))))
 refine tri_perm (A := ?a1_0 :: ?a1_1 :: ?a1_2 :: ?a1_3 :: ?T1) (B := ?a1_1 :: ?a1_2 :: ?a1_3 :: ?a1_0 :: ?T1) (by exact permL [1, 2, 3, 0] [?a1_0, ?a1_1, ?a1_2, ?a1_3] ?T1 (by decide) rfl) ?_
 skip
 refine tri_draw [0, 1, 2, 3, 4, 5, 6, 7, 8, 9, 10] rfl [_, _, _] rfl mixed ?_
 refine th_take rfl rfl (by kernel_rfl)  (by first | exact opv_fieldAddr rfl rfl | exact opv_fieldAddrE rfl (by assumption) (by omega) rfl | exact opv_fieldAddrR rfl (by omega) rfl | exact opv_fieldAddrP rfl rfl rfl) ?_
 refine th_take rfl rfl (by kernel_rfl)  (by first | exact opv_load1 rfl rfl rfl | exact opv_loadA rfl rfl rfl | exact opv_loadE1 rfl (by assumption) rfl (by omega) rfl rfl | exact opv_loadEA rfl (by assumption) rfl (by omega) rfl rfl | exact opv_loadRX1 rfl rfl (by omega) rfl rfl | exact opv_loadRXA rfl rfl (by omega) rfl rfl rfl | exact opv_loadIX rfl rfl (by omega) | exact opv_loadR1 rfl rfl rfl | exact opv_loadRA rfl rfl rfl rfl) ?_
 refine th_take rfl rfl (by kernel_rfl)  (by first | exact opv_load1 rfl rfl rfl | exact opv_loadA rfl rfl rfl | exact opv_loadE1 rfl (by assumption) rfl (by omega) rfl rfl | exact opv_loadEA rfl (by assumption) rfl (by omega) rfl rfl | exact opv_loadRX1 rfl rfl (by omega) rfl rfl | exact opv_loadRXA rfl rfl (by omega) rfl rfl rfl | exact opv_loadIX rfl rfl (by omega) | exact opv_loadR1 rfl rfl rfl | exact opv_loadRA rfl rfl rfl rfl) ?_
 refine th_take rfl rfl (by kernel_rfl)  (opv_move rfl) ?_
 refine th_one (by kernel_rfl) (step_m rfl rfl (opg_call (xs := [_, _]) rfl (base_sixteen hk)) ?_)
 rintro _ _ _ ⟨rfl, rfl, rfl⟩
 refine ⟨Suf.h, (by first | exact fun _ h => h | assumption | exact fun _ h => (by assumption : _ ⊆ _) ((by assumption : _ ⊆ _) h)), ?_⟩
 skip
 refine th_one (by kernel_rfl) (step_m rfl rfl (opg_call (xs := [_, _, _]) rfl (base_square (R8.s16_len ns n) (by omega) (by omega) (by omega) (by omega))) ?_)
 rintro _ _ _ ⟨rfl, rfl, rfl⟩
 refine ⟨Suf.h, (by first | exact fun _ h => h | assumption | exact fun _ h => (by assumption : _ ⊆ _) ((by assumption : _ ⊆ _) h)), ?_⟩
 skip
 refine th_one (by kernel_rfl) (step_m rfl rfl (opg_call (xs := [_, _]) rfl (node_putR (r := R8.putSq ns room (R8.s16 ns n) 1 1) hg h2 hi rfl)) ?_)
 rintro _ _ _ ⟨a1, c1, es1, rfl, rfl, hi1, rfl⟩
 refine ⟨Suf.h, (by first | exact fun _ h => h | assumption | exact fun _ h => (by assumption : _ ⊆ _) ((by assumption : _ ⊆ _) h)), ?_⟩
 refine th_take rfl rfl (by kernel_rfl)  (opv_extract rfl rfl) ?_
 refine th_take rfl rfl (by kernel_rfl)  (opv_extract rfl rfl) ?_
 refine th_take rfl rfl (by kernel_rfl)  (opv_assign rfl) ?_
 refine th_take rfl rfl (by kernel_rfl)  (opv_assign rfl) ?_
 refine th_done (by kernel_rfl) ?_
 refine tT (tri_ret ?_)
 refine tri_perm (A := ?a2_0 :: ?a2_1 :: ?a2_2 :: ?a2_3 :: ?T2) (B := ?a2_3 :: ?a2_0 :: ?a2_1 :: ?a2_2 :: ?T2) (by exact permL [3, 0, 1, 2] [?a2_0, ?a2_1, ?a2_2, ?a2_3] ?T2 (by decide) rfl) ?_
 refine tri_end (IxA bx mb a1 c1 (R8.putSq ns room (R8.s16 ns n) 1 1).1 room es1 A) Suf.h rfl (.cons (rv_tmp rfl) (.cons (rv_tmp rfl) .nil)) ⟨a1, c1, es1, rfl, rfl, hi1, rfl⟩
theorem R8.ar_eq (l : List Int) : R8.ar l 5 = R8.about l 1 1 9 ∧ R8.ar l 6 = R8.about l 1 2 9 ∧ R8.ar l 9 = R8.about l 2 1 9 ∧ R8.ar l 10 = R8.about l 2 2 9 := by
 refine ⟨?_, ?_, ?_, ?_⟩ <;> simp [R8.about, R8.ar] <;> omega
theorem R8.bit_ar (l : List Int) : R8.bit l 1 1 = (if R2.lives (decide (R8.g l 5 = 1)) (R8.ar l 5) = true then 1 else 0) ∧ R8.bit l 1 2 = (if R2.lives (decide (R8.g l 6 = 1)) (R8.ar l 6) = true then 1 else 0) ∧ R8.bit l 2 1 = (if R2.lives (decide (R8.g l 9 = 1)) (R8.ar l 9) = true then 1 else 0) ∧ R8.bit l 2 2 = (if R2.lives (decide (R8.g l 10 = 1)) (R8.ar l 10) = true then 1 else 0) := by
 obtain ⟨h1, h2, h3, h4⟩ := R8.ar_eq l
 rw [h1, h2, h3, h4]
 exact ⟨rfl, rfl, rfl, rfl⟩
set_option maxHeartbeats 2000000 in
set_option maxRecDepth 100000 in
theorem maker_step {ns : List Node} {a : Option Addr} {cap bx mb : Nat} {room n : Int} {es : KVs} (hg : R6.Good ns room) (h2 : 2 ≤ ns.length) (hi : Idx ns es) (hk : R8.Kid ns n) (hb : ∀ i, 0 ≤ R8.g (R8.s16 ns n) i ∧ R8.g (R8.s16 ns n) i ≤ 1) :
  FnC Try.prog 68 [.agg [pt bx 0].toArray, .int .i64 n].toArray (IxA bx mb a cap ns room es A) I (IxR bx mb (R8.one ns room n) room A I) := by
 have hlen := R8.s16_len ns n
 obtain ⟨hb0, hb1, hb2, hb3⟩ := R8.bit_ar (R8.s16 ns n)
 skip
 refine fn_enter2 Try.func68 rfl Try.ntmps68 rfl fun w0 => ?_
 refine tS (tR ?_)
 first | refine tri_g (opg_box_agg rfl) rfl ?_ | refine tri_g (opg_box1 rfl rfl) rfl ?_
 rintro _ _ _ ⟨b2, rfl, rfl, rfl⟩
 refine tA rfl rfl (tA rfl rfl (tN (tT (tS ?_))))
 refine tri_perm (A := ?a3_0 :: ?a3_1 :: ?a3_2 :: ?T3) (B := ?a3_1 :: ?a3_2 :: ?a3_0 :: ?T3) (by exact permL [1, 2, 0] [?a3_0, ?a3_1, ?a3_2] ?T3 (by decide) rfl) ?_
 refine tR ?_
 refine tri_v (by first | exact opv_load1 rfl rfl rfl | exact opv_loadA rfl rfl rfl | exact opv_loadE1 rfl (by assumption) rfl (by omega) rfl rfl | exact opv_loadEA rfl (by assumption) rfl (by omega) rfl rfl | exact opv_loadRX1 rfl rfl (by omega) rfl rfl | exact opv_loadRXA rfl rfl (by omega) rfl rfl rfl | exact opv_loadIX rfl rfl (by omega) | exact opv_loadR1 rfl rfl rfl | exact opv_loadRA rfl rfl rfl rfl) rfl ?_
 refine tM rfl rfl ?_
 refine tri_g (opg_call (xs := [_, _]) rfl (base_sixteen hk)) rfl ?_
 rintro _ _ _ ⟨rfl, rfl, rfl⟩
 refine tri_g opg_alloc rfl ?_
 rintro _ _ _ ⟨b6, rfl, rfl, rfl⟩
 refine tri_g (opg_store rfl rfl rfl rfl rfl rfl) rfl ?_
 rintro _ _ _ ⟨rfl, rfl⟩
 refine tN (tT (tS (tR ?_)))
 refine tri_g opg_alloc rfl ?_
 rintro _ _ _ ⟨b7, rfl, rfl, rfl⟩
 refine tN (tT (tS (tS (tR (tM rfl rfl (tN (tT ?_)))))))
 refine tri_block ?_
 refine tri_rounds 5 ?_
 refine tri_round ?_
 refine tS (tR ?_)
 refine tri_v (opv_lss rfl rfl) rfl ?_
 refine tN (tT (tS ?_))
 refine tri_cond_is rfl ((by decide)) ?_
 refine tri_skip (tT (tS (tri_block (tS (tR (tM rfl rfl (tA rfl rfl ?_)))))))
 refine tN (tT (tS (tR (tM rfl rfl ?_))))
 refine tri_v (by first | exact opv_quoE rfl rfl (by omega) (by omega) (by omega) | exact opv_quo rfl rfl (by omega) (w64 (by omega) (by omega))) rfl ?_
 refine tri_v (by first | exact opv_add rfl rfl (w64 (by omega) (by omega))) rfl ?_
 refine tri_v (by first | exact opv_mul rfl rfl (w64 (by omega) (by omega)) | exact opv_mul rfl rfl (by assumption)) rfl ?_
 refine tri_v (by first | exact opv_add rfl rfl (w64 (by omega) (by omega))) rfl ?_
 refine tM rfl rfl ?_
 refine tri_v (by first | exact opv_remE rfl rfl (by omega) (by omega) | exact opv_rem rfl rfl (by omega) rfl) rfl ?_
 refine tri_v (by first | exact opv_add rfl rfl (w64 (by omega) (by omega))) rfl ?_
 refine tA rfl rfl (tN (tT (tS ?_)))
 refine tri_draw [0, 1, 2, 3, 4, 5, 6, 7] rfl [] rfl mixed ?_
 refine th_take rfl rfl (by kernel_rfl)  (opv_move rfl) ?_
 refine th_take rfl rfl (by kernel_rfl)  (by first | exact opv_indexAddrA rfl rfl (by first | decide | omega) (by first | decide | omega) | exact opv_indexAddrSN rfl rfl (by omega) (by assumption) rfl | exact opv_indexAddrS rfl rfl (by omega) (by omega) (by assumption) rfl | exact opv_indexAddrE rfl (by assumption) (by omega) rfl (by first | decide | omega) (by first | decide | omega) | exact opv_indexAddrRN rfl rfl (by omega) | exact opv_indexAddrR rfl rfl (by omega) (by omega) | exact opv_indexAddrRA rfl (by omega) rfl (by first | decide | omega) (by first | decide | omega) | exact opv_indexAddrSP rfl rfl (by omega) (by omega) | exact opv_indexAddrSN rfl rfl (by omega) (by assumption) (by omega) | exact opv_indexAddrS rfl rfl (by omega) (by omega) (by assumption) (by omega)) ?_
 refine th_take rfl rfl (by kernel_rfl)  (by first | exact opv_load1 rfl rfl rfl | exact opv_loadA rfl rfl rfl | exact opv_loadE1 rfl (by assumption) rfl (by omega) rfl rfl | exact opv_loadEA rfl (by assumption) rfl (by omega) rfl rfl | exact opv_loadRX1 rfl rfl (by omega) rfl rfl | exact opv_loadRXA rfl rfl (by omega) rfl rfl rfl | exact opv_loadIX rfl rfl (by omega) | exact opv_loadR1 rfl rfl rfl | exact opv_loadRA rfl rfl rfl rfl) ?_
 refine th_take rfl rfl (by kernel_rfl)  (by first | exact opv_eql rfl rfl | exact opv_eqlI rfl rfl rfl rfl rfl rfl | exact opv_eqlB rfl rfl | exact opv_eqlNil rfl rfl) ?_
 refine th_take rfl rfl (by kernel_rfl)  (by first | exact opv_load1 rfl rfl rfl | exact opv_loadA rfl rfl rfl | exact opv_loadE1 rfl (by assumption) rfl (by omega) rfl rfl | exact opv_loadEA rfl (by assumption) rfl (by omega) rfl rfl | exact opv_loadRX1 rfl rfl (by omega) rfl rfl | exact opv_loadRXA rfl rfl (by omega) rfl rfl rfl | exact opv_loadIX rfl rfl (by omega) | exact opv_loadR1 rfl rfl rfl | exact opv_loadRA rfl rfl rfl rfl) ?_
 refine th_take rfl rfl (by kernel_rfl)  (opv_move rfl) ?_
 refine th_one (by kernel_rfl) (step_m rfl rfl (opg_call (xs := [_, _]) rfl (base_around (i := 5) hlen hb (by omega) (by omega))) ?_)
 rintro _ _ _ ⟨rfl, rfl, rfl⟩
 refine ⟨Suf.h, (by first | exact fun _ h => h | assumption | exact fun _ h => (by assumption : _ ⊆ _) ((by assumption : _ ⊆ _) h)), ?_⟩
 skip
 refine th_one (by kernel_rfl) (step_m rfl rfl (opg_call (xs := [_, _]) rfl (life_lives)) ?_)
 rintro _ _ _ ⟨rfl, rfl, rfl⟩
 refine ⟨Suf.h, (by first | exact fun _ h => h | assumption | exact fun _ h => (by assumption : _ ⊆ _) ((by assumption : _ ⊆ _) h)), ?_⟩
 refine th_done (by kernel_rfl) ?_
 refine tT ?_
 refine tri_cut (fun F' A' J => F' = [(1, .int .i64 n), (2, pt b2 0), (6, pt b6 0), (7, pt b7 0), (8, .int .i64 0), (13, .int .i64 0)] ∧ A' = Box b7 [.int .i64 (R8.bit (R8.s16 ns n) 1 1), .int .i64 (0), .int .i64 (0), .int .i64 (0)] 33 :: Box b6 (ints (R8.s16 ns n)) 114 :: Box bx [.slice a ns.length cap, .int .i64 room, .map (some mb)] 99 :: Row a cap ns.length 35 6 (encs ns) :: Box b2 [pt bx 0] 93 :: MapA Try.prog 33 mb es :: A ∧ I = J) ?_ ?_
 ·refine tri_cond rfl (fun hv => ?_) (fun hv => ?_)
  ·refine tR (tM rfl rfl ?_)
   refine tri_v (by first | exact opv_indexAddrA rfl rfl (by first | decide | omega) (by first | decide | omega) | exact opv_indexAddrSN rfl rfl (by omega) (by assumption) rfl | exact opv_indexAddrS rfl rfl (by omega) (by omega) (by assumption) rfl | exact opv_indexAddrE rfl (by assumption) (by omega) rfl (by first | decide | omega) (by first | decide | omega) | exact opv_indexAddrRN rfl rfl (by omega) | exact opv_indexAddrR rfl rfl (by omega) (by omega) | exact opv_indexAddrRA rfl (by omega) rfl (by first | decide | omega) (by first | decide | omega) | exact opv_indexAddrSP rfl rfl (by omega) (by omega) | exact opv_indexAddrSN rfl rfl (by omega) (by assumption) (by omega) | exact opv_indexAddrS rfl rfl (by omega) (by omega) (by assumption) (by omega)) rfl ?_
   refine tri_g (opg_store rfl rfl rfl rfl rfl rfl) rfl ?_
   rintro _ _ _ ⟨rfl, rfl⟩
   refine tN ?_
   have hv' : R2.lives (decide (R8.g (R8.s16 ns n) 5 = 1)) (R8.ar (R8.s16 ns n) 5) = true := hv
   exact tri_cutEnd _ ⟨rfl, by rw [hb0, if_pos hv'] <;> rfl, rfl⟩ ⟨rfl, rfl, rfl, rfl, rfl, rfl, trivial⟩
  ·refine tri_skip ?_
   have hv' : ¬ R2.lives (decide (R8.g (R8.s16 ns n) 5 = 1)) (R8.ar (R8.s16 ns n) 5) = true := fun h => Bool.false_ne_true (hv.symm.trans h)
   exact tri_cutEnd _ ⟨rfl, by rw [hb0, if_neg hv'] <;> rfl, rfl⟩ ⟨rfl, rfl, rfl, rfl, rfl, rfl, trivial⟩
 rintro _ _ _ ⟨rfl, rfl, rfl⟩
 skip
 refine tri_inBlock ?_
 refine tT (tR ?_)
 refine tri_v (by first | exact opv_add rfl rfl (w64 (by omega) (by omega))) rfl ?_
 refine tM rfl rfl (tN (tT ?_))
 refine tri_round ?_
 refine tS (tR ?_)
 refine tri_v (opv_lss rfl rfl) rfl ?_
 refine tN (tT (tS ?_))
 skip
 refine tri_cond_is rfl ((by decide)) ?_
 refine tri_skip (tT (tS (tri_block (tS (tR (tM rfl rfl (tA rfl rfl ?_)))))))
 refine tN (tT (tS (tR (tM rfl rfl ?_))))
 refine tri_v (by first | exact opv_quoE rfl rfl (by omega) (by omega) (by omega) | exact opv_quo rfl rfl (by omega) (w64 (by omega) (by omega))) rfl ?_
 refine tri_v (by first | exact opv_add rfl rfl (w64 (by omega) (by omega))) rfl ?_
 refine tri_v (by first | exact opv_mul rfl rfl (w64 (by omega) (by omega)) | exact opv_mul rfl rfl (by assumption)) rfl ?_
 refine tri_v (by first | exact opv_add rfl rfl (w64 (by omega) (by omega))) rfl ?_
 refine tM rfl rfl ?_
 refine tri_v (by first | exact opv_remE rfl rfl (by omega) (by omega) | exact opv_rem rfl rfl (by omega) rfl) rfl ?_
 refine tri_v (by first | exact opv_add rfl rfl (w64 (by omega) (by omega))) rfl ?_
 refine tA rfl rfl (tN (tT (tS ?_)))
 refine tri_draw [0, 1, 2, 3, 4, 5, 6, 7] rfl [] rfl mixed ?_
 refine th_take rfl rfl (by kernel_rfl)  (opv_move rfl) ?_
 refine th_take rfl rfl (by kernel_rfl)  (by first | exact opv_indexAddrA rfl rfl (by first | decide | omega) (by first | decide | omega) | exact opv_indexAddrSN rfl rfl (by omega) (by assumption) rfl | exact opv_indexAddrS rfl rfl (by omega) (by omega) (by assumption) rfl | exact opv_indexAddrE rfl (by assumption) (by omega) rfl (by first | decide | omega) (by first | decide | omega) | exact opv_indexAddrRN rfl rfl (by omega) | exact opv_indexAddrR rfl rfl (by omega) (by omega) | exact opv_indexAddrRA rfl (by omega) rfl (by first | decide | omega) (by first | decide | omega) | exact opv_indexAddrSP rfl rfl (by omega) (by omega) | exact opv_indexAddrSN rfl rfl (by omega) (by assumption) (by omega) | exact opv_indexAddrS rfl rfl (by omega) (by omega) (by assumption) (by omega)) ?_
 refine th_take rfl rfl (by kernel_rfl)  (by first | exact opv_load1 rfl rfl rfl | exact opv_loadA rfl rfl rfl | exact opv_loadE1 rfl (by assumption) rfl (by omega) rfl rfl | exact opv_loadEA rfl (by assumption) rfl (by omega) rfl rfl | exact opv_loadRX1 rfl rfl (by omega) rfl rfl | exact opv_loadRXA rfl rfl (by omega) rfl rfl rfl | exact opv_loadIX rfl rfl (by omega) | exact opv_loadR1 rfl rfl rfl | exact opv_loadRA rfl rfl rfl rfl) ?_
 refine th_take rfl rfl (by kernel_rfl)  (by first | exact opv_eql rfl rfl | exact opv_eqlI rfl rfl rfl rfl rfl rfl | exact opv_eqlB rfl rfl | exact opv_eqlNil rfl rfl) ?_
 refine th_take rfl rfl (by kernel_rfl)  (by first | exact opv_load1 rfl rfl rfl | exact opv_loadA rfl rfl rfl | exact opv_loadE1 rfl (by assumption) rfl (by omega) rfl rfl | exact opv_loadEA rfl (by assumption) rfl (by omega) rfl rfl | exact opv_loadRX1 rfl rfl (by omega) rfl rfl | exact opv_loadRXA rfl rfl (by omega) rfl rfl rfl | exact opv_loadIX rfl rfl (by omega) | exact opv_loadR1 rfl rfl rfl | exact opv_loadRA rfl rfl rfl rfl) ?_
 refine th_take rfl rfl (by kernel_rfl)  (opv_move rfl) ?_
 refine th_one (by kernel_rfl) (step_m rfl rfl (opg_call (xs := [_, _]) rfl (base_around (i := 6) hlen hb (by omega) (by omega))) ?_)
 rintro _ _ _ ⟨rfl, rfl, rfl⟩
 refine ⟨Suf.h, (by first | exact fun _ h => h | assumption | exact fun _ h => (by assumption : _ ⊆ _) ((by assumption : _ ⊆ _) h)), ?_⟩
 skip
 refine th_one (by kernel_rfl) (step_m rfl rfl (opg_call (xs := [_, _]) rfl (life_lives)) ?_)
 rintro _ _ _ ⟨rfl, rfl, rfl⟩
 refine ⟨Suf.h, (by first | exact fun _ h => h | assumption | exact fun _ h => (by assumption : _ ⊆ _) ((by assumption : _ ⊆ _) h)), ?_⟩
 refine th_done (by kernel_rfl) ?_
 refine tT ?_
 refine tri_cut (fun F' A' J => F' = [(1, .int .i64 n), (2, pt b2 0), (6, pt b6 0), (7, pt b7 0), (8, .int .i64 1), (13, .int .i64 1)] ∧ A' = Box b7 [.int .i64 (R8.bit (R8.s16 ns n) 1 1), .int .i64 (R8.bit (R8.s16 ns n) 1 2), .int .i64 (0), .int .i64 (0)] 33 :: Box b6 (ints (R8.s16 ns n)) 114 :: Box bx [.slice a ns.length cap, .int .i64 room, .map (some mb)] 99 :: Row a cap ns.length 35 6 (encs ns) :: Box b2 [pt bx 0] 93 :: MapA Try.prog 33 mb es :: A ∧ I = J) ?_ ?_
 ·refine tri_cond rfl (fun hv => ?_) (fun hv => ?_)
  ·refine tR (tM rfl rfl ?_)
   refine tri_v (by first | exact opv_indexAddrA rfl rfl (by first | decide | omega) (by first | decide | omega) | exact opv_indexAddrSN rfl rfl (by omega) (by assumption) rfl | exact opv_indexAddrS rfl rfl (by omega) (by omega) (by assumption) rfl | exact opv_indexAddrE rfl (by assumption) (by omega) rfl (by first | decide | omega) (by first | decide | omega) | exact opv_indexAddrRN rfl rfl (by omega) | exact opv_indexAddrR rfl rfl (by omega) (by omega) | exact opv_indexAddrRA rfl (by omega) rfl (by first | decide | omega) (by first | decide | omega) | exact opv_indexAddrSP rfl rfl (by omega) (by omega) | exact opv_indexAddrSN rfl rfl (by omega) (by assumption) (by omega) | exact opv_indexAddrS rfl rfl (by omega) (by omega) (by assumption) (by omega)) rfl ?_
   refine tri_g (opg_store rfl rfl rfl rfl rfl rfl) rfl ?_
   rintro _ _ _ ⟨rfl, rfl⟩
   refine tN ?_
   have hv' : R2.lives (decide (R8.g (R8.s16 ns n) 6 = 1)) (R8.ar (R8.s16 ns n) 6) = true := hv
   exact tri_cutEnd _ ⟨rfl, by rw [hb1, if_pos hv'] <;> rfl, rfl⟩ ⟨rfl, rfl, rfl, rfl, rfl, rfl, trivial⟩
  ·refine tri_skip ?_
   have hv' : ¬ R2.lives (decide (R8.g (R8.s16 ns n) 6 = 1)) (R8.ar (R8.s16 ns n) 6) = true := fun h => Bool.false_ne_true (hv.symm.trans h)
   exact tri_cutEnd _ ⟨rfl, by rw [hb1, if_neg hv'] <;> rfl, rfl⟩ ⟨rfl, rfl, rfl, rfl, rfl, rfl, trivial⟩
 rintro _ _ _ ⟨rfl, rfl, rfl⟩
 skip
 refine tri_inBlock ?_
 refine tT (tR ?_)
 refine tri_v (by first | exact opv_add rfl rfl (w64 (by omega) (by omega))) rfl ?_
 refine tM rfl rfl (tN (tT ?_))
 refine tri_round ?_
 refine tS (tR ?_)
 refine tri_v (opv_lss rfl rfl) rfl ?_
 refine tN (tT (tS ?_))
 skip
 refine tri_cond_is rfl ((by decide)) ?_
 refine tri_skip (tT (tS (tri_block (tS (tR (tM rfl rfl (tA rfl rfl ?_)))))))
 refine tN (tT (tS (tR (tM rfl rfl ?_))))
 refine tri_v (by first | exact opv_quoE rfl rfl (by omega) (by omega) (by omega) | exact opv_quo rfl rfl (by omega) (w64 (by omega) (by omega))) rfl ?_
 refine tri_v (by first | exact opv_add rfl rfl (w64 (by omega) (by omega))) rfl ?_
 refine tri_v (by first | exact opv_mul rfl rfl (w64 (by omega) (by omega)) | exact opv_mul rfl rfl (by assumption)) rfl ?_
 refine tri_v (by first | exact opv_add rfl rfl (w64 (by omega) (by omega))) rfl ?_
 refine tM rfl rfl ?_
 refine tri_v (by first | exact opv_remE rfl rfl (by omega) (by omega) | exact opv_rem rfl rfl (by omega) rfl) rfl ?_
 refine tri_v (by first | exact opv_add rfl rfl (w64 (by omega) (by omega))) rfl ?_
 refine tA rfl rfl (tN (tT (tS ?_)))
 refine tri_draw [0, 1, 2, 3, 4, 5, 6, 7] rfl [] rfl mixed ?_
 refine th_take rfl rfl (by kernel_rfl)  (opv_move rfl) ?_
 refine th_take rfl rfl (by kernel_rfl)  (by first | exact opv_indexAddrA rfl rfl (by first | decide | omega) (by first | decide | omega) | exact opv_indexAddrSN rfl rfl (by omega) (by assumption) rfl | exact opv_indexAddrS rfl rfl (by omega) (by omega) (by assumption) rfl | exact opv_indexAddrE rfl (by assumption) (by omega) rfl (by first | decide | omega) (by first | decide | omega) | exact opv_indexAddrRN rfl rfl (by omega) | exact opv_indexAddrR rfl rfl (by omega) (by omega) | exact opv_indexAddrRA rfl (by omega) rfl (by first | decide | omega) (by first | decide | omega) | exact opv_indexAddrSP rfl rfl (by omega) (by omega) | exact opv_indexAddrSN rfl rfl (by omega) (by assumption) (by omega) | exact opv_indexAddrS rfl rfl (by omega) (by omega) (by assumption) (by omega)) ?_
 refine th_take rfl rfl (by kernel_rfl)  (by first | exact opv_load1 rfl rfl rfl | exact opv_loadA rfl rfl rfl | exact opv_loadE1 rfl (by assumption) rfl (by omega) rfl rfl | exact opv_loadEA rfl (by assumption) rfl (by omega) rfl rfl | exact opv_loadRX1 rfl rfl (by omega) rfl rfl | exact opv_loadRXA rfl rfl (by omega) rfl rfl rfl | exact opv_loadIX rfl rfl (by omega) | exact opv_loadR1 rfl rfl rfl | exact opv_loadRA rfl rfl rfl rfl) ?_
 refine th_take rfl rfl (by kernel_rfl)  (by first | exact opv_eql rfl rfl | exact opv_eqlI rfl rfl rfl rfl rfl rfl | exact opv_eqlB rfl rfl | exact opv_eqlNil rfl rfl) ?_
 refine th_take rfl rfl (by kernel_rfl)  (by first | exact opv_load1 rfl rfl rfl | exact opv_loadA rfl rfl rfl | exact opv_loadE1 rfl (by assumption) rfl (by omega) rfl rfl | exact opv_loadEA rfl (by assumption) rfl (by omega) rfl rfl | exact opv_loadRX1 rfl rfl (by omega) rfl rfl | exact opv_loadRXA rfl rfl (by omega) rfl rfl rfl | exact opv_loadIX rfl rfl (by omega) | exact opv_loadR1 rfl rfl rfl | exact opv_loadRA rfl rfl rfl rfl) ?_
 refine th_take rfl rfl (by kernel_rfl)  (opv_move rfl) ?_
 refine th_one (by kernel_rfl) (step_m rfl rfl (opg_call (xs := [_, _]) rfl (base_around (i := 9) hlen hb (by omega) (by omega))) ?_)
 rintro _ _ _ ⟨rfl, rfl, rfl⟩
 refine ⟨Suf.h, (by first | exact fun _ h => h | assumption | exact fun _ h => (by assumption : _ ⊆ _) ((by assumption : _ ⊆ _) h)), ?_⟩
 skip
 refine th_one (by kernel_rfl) (step_m rfl rfl (opg_call (xs := [_, _]) rfl (life_lives)) ?_)
 rintro _ _ _ ⟨rfl, rfl, rfl⟩
 refine ⟨Suf.h, (by first | exact fun _ h => h | assumption | exact fun _ h => (by assumption : _ ⊆ _) ((by assumption : _ ⊆ _) h)), ?_⟩
 refine th_done (by kernel_rfl) ?_
 refine tT ?_
 refine tri_cut (fun F' A' J => F' = [(1, .int .i64 n), (2, pt b2 0), (6, pt b6 0), (7, pt b7 0), (8, .int .i64 2), (13, .int .i64 2)] ∧ A' = Box b7 [.int .i64 (R8.bit (R8.s16 ns n) 1 1), .int .i64 (R8.bit (R8.s16 ns n) 1 2), .int .i64 (R8.bit (R8.s16 ns n) 2 1), .int .i64 (0)] 33 :: Box b6 (ints (R8.s16 ns n)) 114 :: Box bx [.slice a ns.length cap, .int .i64 room, .map (some mb)] 99 :: Row a cap ns.length 35 6 (encs ns) :: Box b2 [pt bx 0] 93 :: MapA Try.prog 33 mb es :: A ∧ I = J) ?_ ?_
 ·refine tri_cond rfl (fun hv => ?_) (fun hv => ?_)
  ·refine tR (tM rfl rfl ?_)
   refine tri_v (by first | exact opv_indexAddrA rfl rfl (by first | decide | omega) (by first | decide | omega) | exact opv_indexAddrSN rfl rfl (by omega) (by assumption) rfl | exact opv_indexAddrS rfl rfl (by omega) (by omega) (by assumption) rfl | exact opv_indexAddrE rfl (by assumption) (by omega) rfl (by first | decide | omega) (by first | decide | omega) | exact opv_indexAddrRN rfl rfl (by omega) | exact opv_indexAddrR rfl rfl (by omega) (by omega) | exact opv_indexAddrRA rfl (by omega) rfl (by first | decide | omega) (by first | decide | omega) | exact opv_indexAddrSP rfl rfl (by omega) (by omega) | exact opv_indexAddrSN rfl rfl (by omega) (by assumption) (by omega) | exact opv_indexAddrS rfl rfl (by omega) (by omega) (by assumption) (by omega)) rfl ?_
   refine tri_g (opg_store rfl rfl rfl rfl rfl rfl) rfl ?_
   rintro _ _ _ ⟨rfl, rfl⟩
   refine tN ?_
   have hv' : R2.lives (decide (R8.g (R8.s16 ns n) 9 = 1)) (R8.ar (R8.s16 ns n) 9) = true := hv
   exact tri_cutEnd _ ⟨rfl, by rw [hb2, if_pos hv'] <;> rfl, rfl⟩ ⟨rfl, rfl, rfl, rfl, rfl, rfl, trivial⟩
  ·refine tri_skip ?_
   have hv' : ¬ R2.lives (decide (R8.g (R8.s16 ns n) 9 = 1)) (R8.ar (R8.s16 ns n) 9) = true := fun h => Bool.false_ne_true (hv.symm.trans h)
   exact tri_cutEnd _ ⟨rfl, by rw [hb2, if_neg hv'] <;> rfl, rfl⟩ ⟨rfl, rfl, rfl, rfl, rfl, rfl, trivial⟩
 rintro _ _ _ ⟨rfl, rfl, rfl⟩
 skip
 refine tri_inBlock ?_
 refine tT (tR ?_)
 refine tri_v (by first | exact opv_add rfl rfl (w64 (by omega) (by omega))) rfl ?_
 refine tM rfl rfl (tN (tT ?_))
 refine tri_round ?_
 refine tS (tR ?_)
 refine tri_v (opv_lss rfl rfl) rfl ?_
 refine tN (tT (tS ?_))
 skip
 refine tri_cond_is rfl ((by decide)) ?_
 refine tri_skip (tT (tS (tri_block (tS (tR (tM rfl rfl (tA rfl rfl ?_)))))))
 refine tN (tT (tS (tR (tM rfl rfl ?_))))
 refine tri_v (by first | exact opv_quoE rfl rfl (by omega) (by omega) (by omega) | exact opv_quo rfl rfl (by omega) (w64 (by omega) (by omega))) rfl ?_
 refine tri_v (by first | exact opv_add rfl rfl (w64 (by omega) (by omega))) rfl ?_
 refine tri_v (by first | exact opv_mul rfl rfl (w64 (by omega) (by omega)) | exact opv_mul rfl rfl (by assumption)) rfl ?_
 refine tri_v (by first | exact opv_add rfl rfl (w64 (by omega) (by omega))) rfl ?_
 refine tM rfl rfl ?_
 refine tri_v (by first | exact opv_remE rfl rfl (by omega) (by omega) | exact opv_rem rfl rfl (by omega) rfl) rfl ?_
 refine tri_v (by first | exact opv_add rfl rfl (w64 (by omega) (by omega))) rfl ?_
 refine tA rfl rfl (tN (tT (tS ?_)))
 refine tri_draw [0, 1, 2, 3, 4, 5, 6, 7] rfl [] rfl mixed ?_
 refine th_take rfl rfl (by kernel_rfl)  (opv_move rfl) ?_
 refine th_take rfl rfl (by kernel_rfl)  (by first | exact opv_indexAddrA rfl rfl (by first | decide | omega) (by first | decide | omega) | exact opv_indexAddrSN rfl rfl (by omega) (by assumption) rfl | exact opv_indexAddrS rfl rfl (by omega) (by omega) (by assumption) rfl | exact opv_indexAddrE rfl (by assumption) (by omega) rfl (by first | decide | omega) (by first | decide | omega) | exact opv_indexAddrRN rfl rfl (by omega) | exact opv_indexAddrR rfl rfl (by omega) (by omega) | exact opv_indexAddrRA rfl (by omega) rfl (by first | decide | omega) (by first | decide | omega) | exact opv_indexAddrSP rfl rfl (by omega) (by omega) | exact opv_indexAddrSN rfl rfl (by omega) (by assumption) (by omega) | exact opv_indexAddrS rfl rfl (by omega) (by omega) (by assumption) (by omega)) ?_
 refine th_take rfl rfl (by kernel_rfl)  (by first | exact opv_load1 rfl rfl rfl | exact opv_loadA rfl rfl rfl | exact opv_loadE1 rfl (by assumption) rfl (by omega) rfl rfl | exact opv_loadEA rfl (by assumption) rfl (by omega) rfl rfl | exact opv_loadRX1 rfl rfl (by omega) rfl rfl | exact opv_loadRXA rfl rfl (by omega) rfl rfl rfl | exact opv_loadIX rfl rfl (by omega) | exact opv_loadR1 rfl rfl rfl | exact opv_loadRA rfl rfl rfl rfl) ?_
 refine th_take rfl rfl (by kernel_rfl)  (by first | exact opv_eql rfl rfl | exact opv_eqlI rfl rfl rfl rfl rfl rfl | exact opv_eqlB rfl rfl | exact opv_eqlNil rfl rfl) ?_
 refine th_take rfl rfl (by kernel_rfl)  (by first | exact opv_load1 rfl rfl rfl | exact opv_loadA rfl rfl rfl | exact opv_loadE1 rfl (by assumption) rfl (by omega) rfl rfl | exact opv_loadEA rfl (by assumption) rfl (by omega) rfl rfl | exact opv_loadRX1 rfl rfl (by omega) rfl rfl | exact opv_loadRXA rfl rfl (by omega) rfl rfl rfl | exact opv_loadIX rfl rfl (by omega) | exact opv_loadR1 rfl rfl rfl | exact opv_loadRA rfl rfl rfl rfl) ?_
 refine th_take rfl rfl (by kernel_rfl)  (opv_move rfl) ?_
 refine th_one (by kernel_rfl) (step_m rfl rfl (opg_call (xs := [_, _]) rfl (base_around (i := 10) hlen hb (by omega) (by omega))) ?_)
 rintro _ _ _ ⟨rfl, rfl, rfl⟩
 refine ⟨Suf.h, (by first | exact fun _ h => h | assumption | exact fun _ h => (by assumption : _ ⊆ _) ((by assumption : _ ⊆ _) h)), ?_⟩
 skip
 refine th_one (by kernel_rfl) (step_m rfl rfl (opg_call (xs := [_, _]) rfl (life_lives)) ?_)
 rintro _ _ _ ⟨rfl, rfl, rfl⟩
 refine ⟨Suf.h, (by first | exact fun _ h => h | assumption | exact fun _ h => (by assumption : _ ⊆ _) ((by assumption : _ ⊆ _) h)), ?_⟩
 refine th_done (by kernel_rfl) ?_
 refine tT ?_
 refine tri_cut (fun F' A' J => F' = [(1, .int .i64 n), (2, pt b2 0), (6, pt b6 0), (7, pt b7 0), (8, .int .i64 3), (13, .int .i64 3)] ∧ A' = Box b7 [.int .i64 (R8.bit (R8.s16 ns n) 1 1), .int .i64 (R8.bit (R8.s16 ns n) 1 2), .int .i64 (R8.bit (R8.s16 ns n) 2 1), .int .i64 (R8.bit (R8.s16 ns n) 2 2)] 33 :: Box b6 (ints (R8.s16 ns n)) 114 :: Box bx [.slice a ns.length cap, .int .i64 room, .map (some mb)] 99 :: Row a cap ns.length 35 6 (encs ns) :: Box b2 [pt bx 0] 93 :: MapA Try.prog 33 mb es :: A ∧ I = J) ?_ ?_
 ·refine tri_cond rfl (fun hv => ?_) (fun hv => ?_)
  ·refine tR (tM rfl rfl ?_)
   refine tri_v (by first | exact opv_indexAddrA rfl rfl (by first | decide | omega) (by first | decide | omega) | exact opv_indexAddrSN rfl rfl (by omega) (by assumption) rfl | exact opv_indexAddrS rfl rfl (by omega) (by omega) (by assumption) rfl | exact opv_indexAddrE rfl (by assumption) (by omega) rfl (by first | decide | omega) (by first | decide | omega) | exact opv_indexAddrRN rfl rfl (by omega) | exact opv_indexAddrR rfl rfl (by omega) (by omega) | exact opv_indexAddrRA rfl (by omega) rfl (by first | decide | omega) (by first | decide | omega) | exact opv_indexAddrSP rfl rfl (by omega) (by omega) | exact opv_indexAddrSN rfl rfl (by omega) (by assumption) (by omega) | exact opv_indexAddrS rfl rfl (by omega) (by omega) (by assumption) (by omega)) rfl ?_
   refine tri_g (opg_store rfl rfl rfl rfl rfl rfl) rfl ?_
   rintro _ _ _ ⟨rfl, rfl⟩
   refine tN ?_
   have hv' : R2.lives (decide (R8.g (R8.s16 ns n) 10 = 1)) (R8.ar (R8.s16 ns n) 10) = true := hv
   exact tri_cutEnd _ ⟨rfl, by rw [hb3, if_pos hv'] <;> rfl, rfl⟩ ⟨rfl, rfl, rfl, rfl, rfl, rfl, trivial⟩
  ·refine tri_skip ?_
   have hv' : ¬ R2.lives (decide (R8.g (R8.s16 ns n) 10 = 1)) (R8.ar (R8.s16 ns n) 10) = true := fun h => Bool.false_ne_true (hv.symm.trans h)
   exact tri_cutEnd _ ⟨rfl, by rw [hb3, if_neg hv'] <;> rfl, rfl⟩ ⟨rfl, rfl, rfl, rfl, rfl, rfl, trivial⟩
 rintro _ _ _ ⟨rfl, rfl, rfl⟩
 skip
 refine tri_inBlock ?_
 refine tT (tR ?_)
 refine tri_v (by first | exact opv_add rfl rfl (w64 (by omega) (by omega))) rfl ?_
 refine tM rfl rfl (tN (tT ?_))
 refine tri_round ?_
 refine tS (tR ?_)
 refine tri_v (opv_lss rfl rfl) rfl ?_
 refine tN (tT (tS ?_))
 refine tri_cond_not rfl ((by decide)) ?_
 refine tri_exit ?_
 refine tri_then_exit ?_
 refine tri_then_exit ?_
 refine tri_inBlock_hit rfl ?_
 refine tT (tS ?_)
 refine tri_perm (A := ?a4_0 :: ?a4_1 :: ?a4_2 :: ?a4_3 :: ?a4_4 :: ?a4_5 :: ?T4) (B := ?a4_2 :: ?a4_3 :: ?a4_5 :: ?a4_0 :: ?a4_1 :: ?a4_4 :: ?T4) (by exact permL [2, 3, 5, 0, 1, 4] [?a4_0, ?a4_1, ?a4_2, ?a4_3, ?a4_4, ?a4_5] ?T4 (by decide) rfl) ?_
 refine tR ?_
 refine tri_v (by first | exact opv_fieldAddr rfl rfl | exact opv_fieldAddrE rfl (by assumption) (by omega) rfl | exact opv_fieldAddrR rfl (by omega) rfl | exact opv_fieldAddrP rfl rfl rfl) rfl ?_
 refine tri_v (by first | exact opv_load1 rfl rfl rfl | exact opv_loadA rfl rfl rfl | exact opv_loadE1 rfl (by assumption) rfl (by omega) rfl rfl | exact opv_loadEA rfl (by assumption) rfl (by omega) rfl rfl | exact opv_loadRX1 rfl rfl (by omega) rfl rfl | exact opv_loadRXA rfl rfl (by omega) rfl rfl rfl | exact opv_loadIX rfl rfl (by omega) | exact opv_loadR1 rfl rfl rfl | exact opv_loadRA rfl rfl rfl rfl) rfl ?_
 refine tri_v (by first | exact opv_load1 rfl rfl rfl | exact opv_loadA rfl rfl rfl | exact opv_loadE1 rfl (by assumption) rfl (by omega) rfl rfl | exact opv_loadEA rfl (by assumption) rfl (by omega) rfl rfl | exact opv_loadRX1 rfl rfl (by omega) rfl rfl | exact opv_loadRXA rfl rfl (by omega) rfl rfl rfl | exact opv_loadIX rfl rfl (by omega) | exact opv_loadR1 rfl rfl rfl | exact opv_loadRA rfl rfl rfl rfl) rfl ?_
 refine tri_g (opg_call (xs := [_, _]) rfl (node_putR (r := R8.one ns room n) hg h2 hi rfl)) rfl ?_
 rintro _ _ _ ⟨a1, c1, es1, rfl, rfl, hi1, rfl⟩
 refine tri_v (opv_extract rfl rfl) rfl ?_
 refine tri_v (opv_extract rfl rfl) rfl ?_
 refine tA rfl rfl (tA rfl rfl (tN (tT (tri_ret ?_))))
 refine tri_perm (A := ?a5_0 :: ?a5_1 :: ?a5_2 :: ?a5_3 :: ?a5_4 :: ?a5_5 :: ?T5) (B := ?a5_3 :: ?a5_4 :: ?a5_5 :: ?a5_0 :: ?a5_1 :: ?a5_2 :: ?T5) (by exact permL [3, 4, 5, 0, 1, 2] [?a5_0, ?a5_1, ?a5_2, ?a5_3, ?a5_4, ?a5_5] ?T5 (by decide) rfl) ?_
 refine tri_end (IxA bx mb a1 c1 (R8.one ns room n).1 room es1 A) Suf.h rfl (.cons (rv_tmp rfl) (.cons (rv_tmp rfl) .nil)) ⟨a1, c1, es1, rfl, rfl, hi1, rfl⟩
end Go.GL


set_option linter.unusedVariables false
namespace Go.GL
open Go.Proofs
attribute [local irreducible] wpList Code.wp Exit.then Exit.inBlock Ends Tri TriH OpV OpG FnC epf wpAnyH
def BaseOfR (ns : List Node) (room n lv : Int) (A : List Asrt) (I : List Chunk) : Value → List Asrt → List Chunk → Prop := fun v A' I' =>
 (R8.may ns room n lv ∧ ∃ bx mb a' cap' es, v = .tuple [.agg [pt bx 0].toArray, .bool true].toArray ∧ A' = IxA bx mb a' cap' ns room es A ∧ Idx ns es ∧ I = I') ∨ (¬ R8.may ns room n lv ∧ ∃ p, v = .tuple [.agg [.pointer p].toArray, .bool false].toArray ∧ A = A' ∧ I = I')
set_option maxHeartbeats 1000000 in
set_option maxRecDepth 100000 in
theorem base_of {A : List Asrt} {I : List Chunk} {ns : List Node} {a : Option Addr} {cap : Nat} {room n lv : Int} (hs : StA I a cap ns) (hn : ns.length ≤ 1000000000) :
  FnC Try.prog 83 [storeV a ns.length cap room, .int .i64 n, .int .i64 lv].toArray A I (BaseOfR ns room n lv A I) := by
 have hsl := hs.sl
 skip
 refine fn_enter3 Try.func83 rfl Try.ntmps83 rfl fun w0 => ?_
 refine tS (tR ?_)
 refine tri_g (opg_box_agg rfl) rfl ?_
 rintro _ _ _ ⟨b3, rfl, rfl, rfl⟩
 refine tri_g opg_alloc rfl ?_
 rintro _ _ _ ⟨b6, rfl, rfl, rfl⟩
 refine tA rfl rfl (tN (tT (tS (tR ?_))))
 refine tri_v (opv_loadA rfl rfl rfl) rfl ?_
 refine tri_g (opg_call (xs := [_]) rfl (node_of hs hn)) rfl ?_
 rintro v A1 I1 hR
 rcases hR with ⟨hr, bx, mb, a1, c1, es, rfl, rfl, hix, rfl⟩ | ⟨hr, rfl, rfl, rfl⟩
 ·refine tM rfl rfl ?_
  refine tri_v (opv_extract rfl rfl) rfl ?_
  refine tri_v (opv_extract rfl rfl) rfl ?_
  refine tA rfl rfl (tA rfl rfl (tN (tT (tS ?_))))
  refine tri_perm (A := ?a1_0 :: ?a1_1 :: ?a1_2 :: ?a1_3 :: ?T1) (B := ?a1_3 :: ?a1_0 :: ?a1_1 :: ?a1_2 :: ?T1) (by exact permL [3, 0, 1, 2] [?a1_0, ?a1_1, ?a1_2, ?a1_3] ?T1 (by decide) rfl) ?_
  skip
  refine tri_draw [0, 1, 2, 3, 4, 5, 6, 7, 8, 9, 10, 11, 12, 13, 14, 15, 16, 17, 18, 19, 20, 21, 22, 23, 24, 25] rfl [_] rfl mixed ?_
  refine th_take rfl rfl (by kernel_rfl)  (opv_move rfl) ?_
  refine th_take rfl rfl (by kernel_rfl)  (opv_buildS rfl rfl) ?_
  refine th_take rfl rfl (by kernel_rfl)  (opv_move rfl) ?_
  refine th_take rfl rfl (by kernel_rfl)  (opv_move rfl) ?_
  skip
  refine th_take_g rfl rfl rfl rfl rfl (by kernel_rfl)  (opv_move rfl) ?_
  refine th_take_g rfl rfl rfl rfl rfl (by kernel_rfl)  (opv_geq rfl rfl) ?_
  refine th_take rfl rfl (by kernel_rfl)  (opv_pick_t rfl rfl) ?_
  refine th_take rfl rfl (by kernel_rfl)  (opv_move rfl) ?_
  refine th_split rfl rfl rfl (fun h1 => ?_) (fun h1 => ?_)
  ·refine th_take_g rfl rfl rfl rfl rfl (by kernel_rfl)  (opv_move rfl) ?_
   refine th_take_g rfl rfl rfl rfl rfl (by kernel_rfl)  (opv_fieldAddr rfl rfl) ?_
   refine th_take_g rfl rfl rfl rfl rfl (by kernel_rfl)  (opv_load1 rfl rfl rfl) ?_
   refine th_take_g rfl rfl rfl rfl rfl (by kernel_rfl)  (opv_len rfl) ?_
   refine th_take_g rfl rfl rfl rfl rfl (by kernel_rfl)  (opv_lss rfl rfl) ?_
   refine th_take rfl rfl (by kernel_rfl)  (opv_pick_t rfl rfl) ?_
   refine th_take rfl rfl (by kernel_rfl)  (opv_move rfl) ?_
   refine th_split rfl rfl rfl (fun h2 => ?_) (fun h2 => ?_)
   ·refine th_take_g rfl rfl rfl rfl rfl (by kernel_rfl)  (opv_fieldAddr rfl rfl) ?_
    refine th_take_g rfl rfl rfl rfl rfl (by kernel_rfl)  (opv_load1 rfl rfl rfl) ?_
    refine th_take_g rfl rfl rfl rfl rfl (by kernel_rfl)  (opv_move rfl) ?_
    refine th_take_g rfl rfl rfl rfl rfl (by kernel_rfl)  (opv_indexAddrS rfl rfl (by omega) (by omega) (by assumption) rfl) ?_
    refine th_take_g rfl rfl rfl rfl rfl (by kernel_rfl)  (opv_fieldAddrE rfl (by assumption) (by omega) rfl) ?_
    refine th_take_g rfl rfl rfl rfl rfl (by kernel_rfl)  (opv_loadE1 rfl (by assumption) rfl (by omega) rfl rfl) ?_
    refine th_take_g rfl rfl rfl rfl rfl (by kernel_rfl)  (opv_move rfl) ?_
    refine th_take_g rfl rfl rfl rfl rfl (by kernel_rfl)  (opv_geq rfl rfl) ?_
    refine th_take rfl rfl (by kernel_rfl)  (opv_pick_t rfl rfl) ?_
    refine th_one (by kernel_rfl) (step_m rfl rfl (opg_store rfl rfl rfl rfl rfl rfl) ?_)
    rintro _ _ _ ⟨rfl, rfl⟩
    refine ⟨Suf.h, (fun _ h => h), ?_⟩
    refine th_take rfl rfl (by kernel_rfl)  (opv_assign rfl) ?_
    refine th_done (by kernel_rfl) ?_
    refine tT (tri_ret ?_)
    refine tri_perm (A := ?a2_0 :: ?a2_1 :: ?a2_2 :: ?a2_3 :: ?a2_4 :: ?T2) (B := ?a2_0 :: ?a2_4 :: ?a2_1 :: ?a2_2 :: ?a2_3 :: ?T2) (by exact permL [0, 4, 1, 2, 3] [?a2_0, ?a2_1, ?a2_2, ?a2_3, ?a2_4] ?T2 (by decide) rfl) ?_
    by_cases h3 : lv ≤ (ns.getD n.toNat default).lv
    ·rw [decide_eq_true h3]
     refine tri_end _ (⟨[_, _], rfl⟩) rfl (.cons (rv_cellA rfl rfl rfl) (.cons (rv_tmp rfl) .nil)) (.inl ⟨⟨hr, ⟨h1, h2⟩, h3⟩, bx, mb, a1, c1, es, rfl, rfl, hix, rfl⟩)
    ·rw [decide_eq_false h3]
     refine tri_end A Suf.h rfl (.cons (rv_cellA rfl rfl rfl) (.cons (rv_tmp rfl) .nil)) (.inr ⟨fun h => h3 h.2.2, _, rfl, rfl, rfl⟩)
   ·refine th_skip rfl rfl rfl rfl rfl (by kernel_rfl)  ?_
    refine th_skip rfl rfl rfl rfl rfl (by kernel_rfl)  ?_
    refine th_skip rfl rfl rfl rfl rfl (by kernel_rfl)  ?_
    refine th_skip rfl rfl rfl rfl rfl (by kernel_rfl)  ?_
    refine th_skip rfl rfl rfl rfl rfl (by kernel_rfl)  ?_
    refine th_skip rfl rfl rfl rfl rfl (by kernel_rfl)  ?_
    refine th_skip rfl rfl rfl rfl rfl (by kernel_rfl)  ?_
    refine th_skip rfl rfl rfl rfl rfl (by kernel_rfl)  ?_
    refine th_take rfl rfl (by kernel_rfl)  (opv_pick_f rfl rfl) ?_
    refine th_one (by kernel_rfl) (step_m rfl rfl (opg_store rfl rfl rfl rfl rfl rfl) ?_)
    rintro _ _ _ ⟨rfl, rfl⟩
    refine ⟨Suf.h, (fun _ h => h), ?_⟩
    refine th_take rfl rfl (by kernel_rfl)  (opv_assign rfl) ?_
    refine th_done (by kernel_rfl) ?_
    refine tT (tri_ret ?_)
    refine tri_end A Suf.h rfl (.cons (rv_cellA rfl rfl rfl) (.cons (rv_tmp rfl) .nil)) (.inr ⟨fun h => h2 h.2.1.2, _, rfl, rfl, rfl⟩)
  ·refine th_skip rfl rfl rfl rfl rfl (by kernel_rfl)  ?_
   refine th_skip rfl rfl rfl rfl rfl (by kernel_rfl)  ?_
   refine th_skip rfl rfl rfl rfl rfl (by kernel_rfl)  ?_
   refine th_skip rfl rfl rfl rfl rfl (by kernel_rfl)  ?_
   refine th_skip rfl rfl rfl rfl rfl (by kernel_rfl)  ?_
   refine th_take rfl rfl (by kernel_rfl)  (opv_pick_f rfl rfl) ?_
   refine th_take rfl rfl (by kernel_rfl)  (opv_move rfl) ?_
   refine th_skip rfl rfl rfl rfl rfl (by kernel_rfl)  ?_
   refine th_skip rfl rfl rfl rfl rfl (by kernel_rfl)  ?_
   refine th_skip rfl rfl rfl rfl rfl (by kernel_rfl)  ?_
   refine th_skip rfl rfl rfl rfl rfl (by kernel_rfl)  ?_
   refine th_skip rfl rfl rfl rfl rfl (by kernel_rfl)  ?_
   refine th_skip rfl rfl rfl rfl rfl (by kernel_rfl)  ?_
   refine th_skip rfl rfl rfl rfl rfl (by kernel_rfl)  ?_
   refine th_skip rfl rfl rfl rfl rfl (by kernel_rfl)  ?_
   refine th_take rfl rfl (by kernel_rfl)  (opv_pick_f rfl rfl) ?_
   refine th_one (by kernel_rfl) (step_m rfl rfl (opg_store rfl rfl rfl rfl rfl rfl) ?_)
   rintro _ _ _ ⟨rfl, rfl⟩
   refine ⟨Suf.h, (fun _ h => h), ?_⟩
   refine th_take rfl rfl (by kernel_rfl)  (opv_assign rfl) ?_
   refine th_done (by kernel_rfl) ?_
   refine tT (tri_ret ?_)
   refine tri_end A Suf.h rfl (.cons (rv_cellA rfl rfl rfl) (.cons (rv_tmp rfl) .nil)) (.inr ⟨fun h => h1 h.2.1.1, _, rfl, rfl, rfl⟩)
 ·refine tM rfl rfl ?_
  refine tri_v (opv_extract rfl rfl) rfl ?_
  refine tri_v (opv_extract rfl rfl) rfl ?_
  refine tA rfl rfl (tA rfl rfl (tN (tT (tS ?_))))
  skip
  refine tri_draw [0, 1, 2, 3, 4, 5, 6, 7, 8, 9, 10, 11, 12, 13, 14, 15, 16, 17, 18, 19, 20, 21, 22, 23, 24, 25] rfl [_] rfl mixed ?_
  refine th_take rfl rfl (by kernel_rfl)  (opv_move rfl) ?_
  refine th_take rfl rfl (by kernel_rfl)  (opv_buildS rfl rfl) ?_
  refine th_take rfl rfl (by kernel_rfl)  (opv_move rfl) ?_
  refine th_take rfl rfl (by kernel_rfl)  (opv_move rfl) ?_
  skip
  refine th_skip rfl rfl rfl rfl rfl (by kernel_rfl)  ?_
  refine th_skip rfl rfl rfl rfl rfl (by kernel_rfl)  ?_
  refine th_take rfl rfl (by kernel_rfl)  (opv_pick_f rfl rfl) ?_
  refine th_take rfl rfl (by kernel_rfl)  (opv_move rfl) ?_
  refine th_skip rfl rfl rfl rfl rfl (by kernel_rfl)  ?_
  refine th_skip rfl rfl rfl rfl rfl (by kernel_rfl)  ?_
  refine th_skip rfl rfl rfl rfl rfl (by kernel_rfl)  ?_
  refine th_skip rfl rfl rfl rfl rfl (by kernel_rfl)  ?_
  refine th_skip rfl rfl rfl rfl rfl (by kernel_rfl)  ?_
  refine th_take rfl rfl (by kernel_rfl)  (opv_pick_f rfl rfl) ?_
  refine th_take rfl rfl (by kernel_rfl)  (opv_move rfl) ?_
  refine th_skip rfl rfl rfl rfl rfl (by kernel_rfl)  ?_
  refine th_skip rfl rfl rfl rfl rfl (by kernel_rfl)  ?_
  refine th_skip rfl rfl rfl rfl rfl (by kernel_rfl)  ?_
  refine th_skip rfl rfl rfl rfl rfl (by kernel_rfl)  ?_
  refine th_skip rfl rfl rfl rfl rfl (by kernel_rfl)  ?_
  refine th_skip rfl rfl rfl rfl rfl (by kernel_rfl)  ?_
  refine th_skip rfl rfl rfl rfl rfl (by kernel_rfl)  ?_
  refine th_skip rfl rfl rfl rfl rfl (by kernel_rfl)  ?_
  refine th_take rfl rfl (by kernel_rfl)  (opv_pick_f rfl rfl) ?_
  refine th_one (by kernel_rfl) (step_m rfl rfl (opg_store rfl rfl rfl rfl rfl rfl) ?_)
  rintro _ _ _ ⟨rfl, rfl⟩
  refine ⟨Suf.h, (fun _ h => h), ?_⟩
  refine th_take rfl rfl (by kernel_rfl)  (opv_assign rfl) ?_
  refine th_done (by kernel_rfl) ?_
  refine tT (tri_ret ?_)
  refine tri_end A Suf.h rfl (.cons (rv_cellA rfl rfl rfl) (.cons (rv_tmp rfl) .nil)) (.inr ⟨fun h => hr h.1, _, rfl, rfl, rfl⟩)
end Go.GL

