/- Part 4: contracts of the functions that the law reaches: each answers as its model does. No condition beyond those that each theorem states. -/
import Derived.Test.YtcplhihffeociaaPart3
set_option linter.unusedVariables false
namespace Go.GL
open Go.Proofs
attribute [local irreducible] wpList Code.wp Exit.then Exit.inBlock Ends Tri TriH OpV OpG FnC epf wpAnyH
variable {A : List Asrt} {I : List Chunk}
theorem R6.right.low {ns : List Node} {room : Int} (h : R6.right ns room) {q : Int} (hq : R6.inS ns q) (hl : (R6.nd ns q).lv = 0) : 0 ≤ q ∧ q ≤ 1 := by
 obtain ⟨q0, q1⟩ := hq
 rcases Nat.lt_or_ge q.toNat 2 with h2 | h2
 ·omega
 ·have := (h.2 q.toNat (by omega) h2).2.2.2.2.1
  have hl' : (ns.getD q.toNat default).lv = 0 := hl
  omega
theorem R6.right.bits {ns : List Node} {room n : Int} (h : R6.right ns room) (hn : R6.inS ns n) (hl : (R6.nd ns n).lv = 2) (i : Int) : 0 ≤ R8.g (R8.s16 ns n) i ∧ R8.g (R8.s16 ns n) i ≤ 1 := by
 have key : ∀ q ∈ R8.s16 ns n, 0 ≤ q ∧ q ≤ 1 := by
  intro q hq
  have k1 := fun q hq => h.kidN hn (m := 1) hl (q := q) hq
  have k2 : ∀ p, p ∈ (R6.nd ns n).kids → ∀ q, q ∈ (R6.nd ns p).kids → 0 ≤ q ∧ q ≤ 1 := fun p hp q hq => by
   obtain ⟨g1, _, g3⟩ := k1 p hp
   obtain ⟨f1, _, f3⟩ := h.kidN g1 (m := 0) g3 hq
   exact h.low f1 f3
  simp only [R8.s16, List.mem_cons, List.not_mem_nil, or_false] at hq
  have a := k2 _ (by simp [Node.kids] : (R6.nd ns n).k0 ∈ (R6.nd ns n).kids)
  have b := k2 _ (by simp [Node.kids] : (R6.nd ns n).k1 ∈ (R6.nd ns n).kids)
  have c := k2 _ (by simp [Node.kids] : (R6.nd ns n).k2 ∈ (R6.nd ns n).kids)
  have d := k2 _ (by simp [Node.kids] : (R6.nd ns n).k3 ∈ (R6.nd ns n).kids)
  simp only [Node.kids, List.mem_cons, List.not_mem_nil, or_false] at a b c d
  rcases hq with e | e | e | e | e | e | e | e | e | e | e | e | e | e | e | e <;> subst e <;> first | exact a _ (by simp) | exact b _ (by simp) | exact c _ (by simp) | exact d _ (by simp)
 unfold R8.g
 rcases Nat.lt_or_ge i.toNat (R8.s16 ns n).length with h2 | h2
 ·have := key (R8.s16 ns n)[i.toNat] (List.getElem_mem h2)
  simpa [h2] using this
 ·rw [List.getD_eq_getElem?_getD, List.getElem?_eq_none h2]
  decide
theorem ref06_putSq {ns : List Node} {a : Option Addr} {cap : Nat} {room q0 q1 q2 q3 : Int} {p : List Node × Int × Int} (hs : StA I a cap ns) (hg : R6.Good ns room) (he : R6.put ns room q0 q1 q2 q3 = p) :
  FnC Try.prog 47 [storeV a ns.length cap room, int4V q0 q1 q2 q3].toArray A I (StoreR p room A I) := by
 subst he
 exact ref06_put hs hg.len hg.mod
theorem R8.all_eq {ns : List Node} {room n : Int} {p0 p1 p2 p3 p4 p5 p6 p7 p8 : List Node × Int × Int} (e0 : R8.putSq ns room (R8.s16 ns n) 0 0 = p0) (e1 : R8.putSq p0.1 room (R8.s16 ns n) 0 1 = p1) (e2 : R8.putSq p1.1 room (R8.s16 ns n) 0 2 = p2) (e3 : R8.putSq p2.1 room (R8.s16 ns n) 1 0 = p3) (e4 : R8.putSq p3.1 room (R8.s16 ns n) 1 1 = p4) (e5 : R8.putSq p4.1 room (R8.s16 ns n) 1 2 = p5) (e6 : R8.putSq p5.1 room (R8.s16 ns n) 2 0 = p6) (e7 : R8.putSq p6.1 room (R8.s16 ns n) 2 1 = p7) (e8 : R8.putSq p7.1 room (R8.s16 ns n) 2 2 = p8) :
  R8.all ns room n = if p0.2.2 ≠ 0 then (ns, R8.z9, p0.2.2) else if p1.2.2 ≠ 0 then (ns, R8.z9, p1.2.2) else if p2.2.2 ≠ 0 then (ns, R8.z9, p2.2.2) else if p3.2.2 ≠ 0 then (ns, R8.z9, p3.2.2) else if p4.2.2 ≠ 0 then (ns, R8.z9, p4.2.2) else if p5.2.2 ≠ 0 then (ns, R8.z9, p5.2.2) else if p6.2.2 ≠ 0 then (ns, R8.z9, p6.2.2) else if p7.2.2 ≠ 0 then (ns, R8.z9, p7.2.2) else if p8.2.2 ≠ 0 then (ns, R8.z9, p8.2.2) else (p8.1, [p0.2.1, p1.2.1, p2.2.1, p3.2.1, p4.2.1, p5.2.1, p6.2.1, p7.2.1, p8.2.1], 0) := by
 subst e8; subst e7; subst e6; subst e5; subst e4; subst e3; subst e2; subst e1; subst e0
 rfl
set_option maxHeartbeats 2000000 in
set_option maxRecDepth 100000 in
theorem ref08_all {ns : List Node} {a : Option Addr} {cap : Nat} {room n : Int} (hs : StA I a cap ns) (hg : R6.Good ns room) (hk : R8.Kid ns n) :
  FnC Try.prog 55 [storeV a ns.length cap room, .int .i64 n].toArray A I (Nine (R8.all ns room n) room A I) := by
 obtain ⟨p0, e0⟩ : ∃ p, R8.putSq ns room (R8.s16 ns n) 0 0 = p := ⟨_, rfl⟩
 obtain ⟨p1, e1⟩ : ∃ p, R8.putSq p0.1 room (R8.s16 ns n) 0 1 = p := ⟨_, rfl⟩
 obtain ⟨p2, e2⟩ : ∃ p, R8.putSq p1.1 room (R8.s16 ns n) 0 2 = p := ⟨_, rfl⟩
 obtain ⟨p3, e3⟩ : ∃ p, R8.putSq p2.1 room (R8.s16 ns n) 1 0 = p := ⟨_, rfl⟩
 obtain ⟨p4, e4⟩ : ∃ p, R8.putSq p3.1 room (R8.s16 ns n) 1 1 = p := ⟨_, rfl⟩
 obtain ⟨p5, e5⟩ : ∃ p, R8.putSq p4.1 room (R8.s16 ns n) 1 2 = p := ⟨_, rfl⟩
 obtain ⟨p6, e6⟩ : ∃ p, R8.putSq p5.1 room (R8.s16 ns n) 2 0 = p := ⟨_, rfl⟩
 obtain ⟨p7, e7⟩ : ∃ p, R8.putSq p6.1 room (R8.s16 ns n) 2 1 = p := ⟨_, rfl⟩
 obtain ⟨p8, e8⟩ : ∃ p, R8.putSq p7.1 room (R8.s16 ns n) 2 2 = p := ⟨_, rfl⟩
 rw [R8.all_eq e0 e1 e2 e3 e4 e5 e6 e7 e8]
 have g0 : R6.Good p0.1 room := e0 ▸ hg.put ..
 have g1 : R6.Good p1.1 room := e1 ▸ g0.put ..
 have g2 : R6.Good p2.1 room := e2 ▸ g1.put ..
 have g3 : R6.Good p3.1 room := e3 ▸ g2.put ..
 have g4 : R6.Good p4.1 room := e4 ▸ g3.put ..
 have g5 : R6.Good p5.1 room := e5 ▸ g4.put ..
 have g6 : R6.Good p6.1 room := e6 ▸ g5.put ..
 have g7 : R6.Good p7.1 room := e7 ▸ g6.put ..
 have g8 : R6.Good p8.1 room := e8 ▸ g7.put ..
 skip
 refine fn_enter2 Try.func55 rfl Try.ntmps55 rfl fun w0 => ?_
 refine tS (tR ?_)
 refine tri_g (opg_box_agg rfl) rfl ?_
 rintro _ _ _ ⟨b2, rfl, rfl, rfl⟩
 refine tri_g opg_alloc rfl ?_
 rintro _ _ _ ⟨b4, rfl, rfl, rfl⟩
 refine tri_g opg_alloc rfl ?_
 rintro _ _ _ ⟨b5, rfl, rfl, rfl⟩
 refine tA rfl rfl (tN (tT (tS (tR ?_))))
 refine yB rfl rfl ?_
 refine tM rfl rfl ?_
 refine tri_g (opg_call (xs := [_, _]) rfl (ref08_sixteen hs.sl hk)) rfl ?_
 rintro _ _ J0 ⟨a1, c1, rfl, hq1, rfl, hJ0⟩
 refine tA rfl rfl (tN (tT (tS (tR ?_))))
 refine tri_g opg_alloc rfl ?_
 rintro _ _ _ ⟨b8, rfl, rfl, rfl⟩
 refine tN (tT (tS (tR ?_)))
 refine yB rfl rfl ?_
 refine tri_g opg_alloc rfl ?_
 rintro _ _ _ ⟨b9, rfl, rfl, rfl⟩
 refine yG rfl rfl rfl rfl rfl rfl ?_
 rintro _ _ _ ⟨rfl, rfl⟩
 refine tN (tT (tS (tS (tR (tA rfl rfl (tN (tT ?_)))))))
 refine tri_block ?_
 refine tri_rounds 10 ?_
 refine tri_round (tS (tS (tR (tM rfl rfl (yC rfl rfl (tN (tT ?_)))))))
 refine tri_cond_is rfl (by decide) ?_
 refine tri_skip (tT (tS (tri_block (tS ?_))))
 refine tri_cut (fun F' A' J => ∃ b11 d f, F' = [(1, .int .i64 n), (2, pt b2 0), (4, pt b4 0), (5, pt b5 0), (7, .slice a1 (R8.s16 ns n).length c1), (8, pt b8 0), (9, pt b9 0), (10, .int .i64 0), (11, pt b11 0), (12, .int .i64 p0.2.1), (13, .int .i64 p0.2.2)] ∧ A' = Box b11 [.slice d p0.1.length f, .int .i64 room] 26 :: Box b9 [.slice a ns.length cap, .int .i64 room] 26 :: Box b8 [.int .i64 0, .int .i64 0, .int .i64 0, .int .i64 0, .int .i64 0, .int .i64 0, .int .i64 0, .int .i64 0, .int .i64 0] 80 :: Box b5 [.int .i64 0, .int .i64 0, .int .i64 0, .int .i64 0, .int .i64 0, .int .i64 0, .int .i64 0, .int .i64 0, .int .i64 0] 80 :: Box b4 [.slice none 0 0, .int .i64 0] 26 :: Box b2 [.slice a ns.length cap, .int .i64 room] 26 :: A ∧ StA J d f p0.1 ∧ J0 ⊆ J) ?_ ?_
 ·refine tri_draw [0, 1, 2, 3, 4, 5, 6, 7, 8, 9, 10, 11, 12, 13, 14, 15] rfl [] rfl mixed ?_
  refine th_take rfl rfl (by kernel_rfl)  (opv_loadA rfl rfl rfl) ?_
  refine yM rfl rfl (yM rfl rfl ?_)
  refine th_take rfl rfl (by kernel_rfl)  (opv_quoE rfl rfl (by omega) (by omega) (by omega)) ?_
  refine yM rfl rfl ?_
  refine th_take rfl rfl (by kernel_rfl)  (opv_remE rfl rfl (by omega) (by omega)) ?_
  refine th_two (j := 12) [6, 7, 8, 9, 10, 11, 13, 14, 15] (by kernel_rfl) rfl ?_ ?_
  ·refine (step_m rfl rfl (opg_call (xs := [_, _, _]) rfl (ref08_square hq1 rfl (by omega) (by omega) (by omega) (by omega))) ?_)
   rintro _ _ _ ⟨rfl, rfl, rfl⟩
   refine ⟨Suf.h, (fun _ h => h), ?_⟩
   skip
   refine th_two (j := 12) [7, 8, 9, 10, 11, 13, 14, 15] (by kernel_rfl) rfl ?_ ?_
   ·refine (step_m rfl rfl (opg_call (xs := [_, _]) rfl (ref06_putSq (hs.mono hJ0) hg e0)) ?_)
    rintro _ _ J1 ⟨d0, f0, rfl, hd0, rfl, hJ1⟩
    refine ⟨Suf.h, hJ1, ?_⟩
    refine yM rfl rfl (yE rfl rfl rfl (yE rfl rfl rfl (yE rfl rfl rfl ?_)))
    refine th_one (by kernel_rfl) (step_m rfl rfl opg_alloc ?_)
    rintro _ _ _ ⟨b11, rfl, rfl, rfl⟩
    refine ⟨Suf.h, (by assumption), ?_⟩
    refine th_one (by kernel_rfl) (step_m rfl rfl (opg_store rfl rfl rfl rfl rfl rfl) ?_)
    rintro _ _ _ ⟨rfl, rfl⟩
    refine ⟨Suf.h, (by assumption), ?_⟩
    refine yA rfl rfl (yA rfl rfl (yD ?_))
    exact tri_cutEnd _ ⟨b11, d0, f0, rfl, rfl, hd0, hJ1⟩ ⟨rfl, rfl, rfl, rfl, rfl, rfl, rfl, rfl, rfl, rfl, rfl, trivial⟩
   ·refine (step_m rfl rfl opg_alloc ?_)
    rintro _ _ _ ⟨b11, rfl, rfl, rfl⟩
    refine ⟨Suf.h, (fun _ h => h), ?_⟩
    refine th_one (by kernel_rfl) (step_m rfl rfl (opg_call (xs := [_, _]) rfl (ref06_putSq (hs.mono hJ0) hg e0)) ?_)
    rintro _ _ J1 ⟨d0, f0, rfl, hd0, rfl, hJ1⟩
    refine ⟨Suf.h, hJ1, ?_⟩
    refine yM rfl rfl (yE rfl rfl rfl (yE rfl rfl rfl (yE rfl rfl rfl ?_)))
    refine th_one (by kernel_rfl) (step_m rfl rfl (opg_store rfl rfl rfl rfl rfl rfl) ?_)
    rintro _ _ _ ⟨rfl, rfl⟩
    refine ⟨Suf.h, (by assumption), ?_⟩
    refine yA rfl rfl (yA rfl rfl (yD ?_))
    exact tri_cutEnd _ ⟨b11, d0, f0, rfl, rfl, hd0, hJ1⟩ ⟨rfl, rfl, rfl, rfl, rfl, rfl, rfl, rfl, rfl, rfl, rfl, trivial⟩
  ·refine (step_m rfl rfl opg_alloc ?_)
   rintro _ _ _ ⟨b11, rfl, rfl, rfl⟩
   refine ⟨Suf.h, (fun _ h => h), ?_⟩
   refine th_one (by kernel_rfl) (step_m rfl rfl (opg_call (xs := [_, _, _]) rfl (ref08_square hq1 rfl (by omega) (by omega) (by omega) (by omega))) ?_)
   rintro _ _ _ ⟨rfl, rfl, rfl⟩
   refine ⟨Suf.h, (fun _ h => h), ?_⟩
   skip
   refine th_one (by kernel_rfl) (step_m rfl rfl (opg_call (xs := [_, _]) rfl (ref06_putSq (hs.mono hJ0) hg e0)) ?_)
   rintro _ _ J1 ⟨d0, f0, rfl, hd0, rfl, hJ1⟩
   refine ⟨Suf.h, hJ1, ?_⟩
   refine yM rfl rfl (yE rfl rfl rfl (yE rfl rfl rfl (yE rfl rfl rfl ?_)))
   refine th_one (by kernel_rfl) (step_m rfl rfl (opg_store rfl rfl rfl rfl rfl rfl) ?_)
   rintro _ _ _ ⟨rfl, rfl⟩
   refine ⟨Suf.h, (by assumption), ?_⟩
   refine yA rfl rfl (yA rfl rfl (yD ?_))
   exact tri_cutEnd _ ⟨b11, d0, f0, rfl, rfl, hd0, hJ1⟩ ⟨rfl, rfl, rfl, rfl, rfl, rfl, rfl, rfl, rfl, rfl, rfl, trivial⟩
 rintro _ _ J1 ⟨b11, d0, f0, rfl, rfl, hd0, hJ1⟩
 skip
 refine tT (tS (tS (tR (tM rfl rfl ?_))))
 refine tri_v (opv_neq rfl rfl) rfl ?_
 refine tN (tT ?_)
 refine tri_cond_dec rfl (fun x0 => ?_) (fun x0 => ?_)
 ·rw [if_pos x0]
  refine tS (tR ?_)
  refine yB rfl rfl ?_
  refine tri_v (opv_buildA rfl rfl) rfl ?_
  refine tM rfl rfl ?_
  refine yG rfl rfl rfl rfl rfl rfl ?_
  rintro _ _ _ ⟨rfl, rfl⟩
  refine yG rfl rfl rfl rfl rfl rfl ?_
  rintro _ _ _ ⟨rfl, rfl⟩
  refine tA rfl rfl (tN (tT (tri_ret (tri_then_ret (tri_inBlock_ret (tri_then_ret (tri_then_ret ?_)))))))
  refine tri_inBlock_ret (tri_then_ret ?_)
  refine tri_end A Suf.h rfl (.cons (rv_cellA rfl rfl rfl) (.cons (rv_cellA rfl rfl rfl) (.cons (rv_tmp rfl) .nil))) ?_
  exact ⟨a, cap, _, _, _, _, _, _, _, _, _, rfl, rfl, hs.mono (fun _ h => hJ1 (hJ0 (h))), rfl, (fun _ h => hJ1 (hJ0 (h)))⟩
 skip
 refine tri_skip (tT (tS (tR ?_)))
 refine yB rfl rfl ?_
 refine yG rfl rfl rfl rfl rfl rfl ?_
 rintro _ _ _ ⟨rfl, rfl⟩
 refine tN (tT (tR (tM rfl rfl (tM rfl rfl ?_))))
 refine tri_v (opv_indexAddrA rfl rfl (by decide) (by decide)) rfl ?_
 refine yG rfl rfl rfl rfl rfl rfl ?_
 rintro _ _ _ ⟨rfl, rfl⟩
 refine tN (tri_inBlock (tT ?_))
 refine tri_drop ?_
 refine tR (tM rfl rfl ?_)
 refine yU rfl rfl ?_
 refine tA rfl rfl (tN (tT (tri_round (tS (tS (tR (tM rfl rfl ?_)))))))
 refine yC rfl rfl (tN (tT ?_))
 refine tri_cond_is rfl (by decide) ?_
 refine tri_skip (tT (tS (tri_block (tS ?_))))
 refine tri_cut (fun F' A' J => ∃ b11 d f, F' = [(1, .int .i64 n), (2, pt b2 0), (4, pt b4 0), (5, pt b5 0), (7, .slice a1 (R8.s16 ns n).length c1), (8, pt b8 0), (9, pt b9 0), (10, .int .i64 1), (11, pt b11 0), (12, .int .i64 p1.2.1), (13, .int .i64 p1.2.2)] ∧ A' = Box b11 [.slice d p1.1.length f, .int .i64 room] 26 :: Box b9 [.slice d0 p0.1.length f0, .int .i64 room] 26 :: Box b8 [.int .i64 p0.2.1, .int .i64 0, .int .i64 0, .int .i64 0, .int .i64 0, .int .i64 0, .int .i64 0, .int .i64 0, .int .i64 0] 80 :: Box b5 [.int .i64 0, .int .i64 0, .int .i64 0, .int .i64 0, .int .i64 0, .int .i64 0, .int .i64 0, .int .i64 0, .int .i64 0] 80 :: Box b4 [.slice none 0 0, .int .i64 0] 26 :: Box b2 [.slice a ns.length cap, .int .i64 room] 26 :: A ∧ StA J d f p1.1 ∧ J1 ⊆ J) ?_ ?_
 ·refine tri_draw [0, 1, 2, 3, 4, 5, 6, 7, 8, 9, 10, 11, 12, 13, 14, 15] rfl [] rfl mixed ?_
  refine th_take rfl rfl (by kernel_rfl)  (opv_loadA rfl rfl rfl) ?_
  refine yM rfl rfl (yM rfl rfl ?_)
  refine th_take rfl rfl (by kernel_rfl)  (opv_quoE rfl rfl (by omega) (by omega) (by omega)) ?_
  refine yM rfl rfl ?_
  refine th_take rfl rfl (by kernel_rfl)  (opv_remE rfl rfl (by omega) (by omega)) ?_
  refine th_two (j := 12) [6, 7, 8, 9, 10, 11, 13, 14, 15] (by kernel_rfl) rfl ?_ ?_
  ·refine (step_m rfl rfl (opg_call (xs := [_, _, _]) rfl (ref08_square (hq1.mono (fun _ h => hJ1 (h))) rfl (by omega) (by omega) (by omega) (by omega))) ?_)
   rintro _ _ _ ⟨rfl, rfl, rfl⟩
   refine ⟨Suf.h, (fun _ h => h), ?_⟩
   skip
   refine th_two (j := 12) [7, 8, 9, 10, 11, 13, 14, 15] (by kernel_rfl) rfl ?_ ?_
   ·refine (step_m rfl rfl (opg_call (xs := [_, _]) rfl (ref06_putSq hd0 g0 e1)) ?_)
    rintro _ _ J2 ⟨d1, f1, rfl, hd1, rfl, hJ2⟩
    refine ⟨Suf.h, hJ2, ?_⟩
    refine yM rfl rfl (yE rfl rfl rfl (yE rfl rfl rfl (yE rfl rfl rfl ?_)))
    refine th_one (by kernel_rfl) (step_m rfl rfl opg_alloc ?_)
    rintro _ _ _ ⟨b11, rfl, rfl, rfl⟩
    refine ⟨Suf.h, (by assumption), ?_⟩
    refine th_one (by kernel_rfl) (step_m rfl rfl (opg_store rfl rfl rfl rfl rfl rfl) ?_)
    rintro _ _ _ ⟨rfl, rfl⟩
    refine ⟨Suf.h, (by assumption), ?_⟩
    refine yA rfl rfl (yA rfl rfl (yD ?_))
    exact tri_cutEnd _ ⟨b11, d1, f1, rfl, rfl, hd1, hJ2⟩ ⟨rfl, rfl, rfl, rfl, rfl, rfl, rfl, rfl, rfl, rfl, rfl, trivial⟩
   ·refine (step_m rfl rfl opg_alloc ?_)
    rintro _ _ _ ⟨b11, rfl, rfl, rfl⟩
    refine ⟨Suf.h, (fun _ h => h), ?_⟩
    refine th_one (by kernel_rfl) (step_m rfl rfl (opg_call (xs := [_, _]) rfl (ref06_putSq hd0 g0 e1)) ?_)
    rintro _ _ J2 ⟨d1, f1, rfl, hd1, rfl, hJ2⟩
    refine ⟨Suf.h, hJ2, ?_⟩
    refine yM rfl rfl (yE rfl rfl rfl (yE rfl rfl rfl (yE rfl rfl rfl ?_)))
    refine th_one (by kernel_rfl) (step_m rfl rfl (opg_store rfl rfl rfl rfl rfl rfl) ?_)
    rintro _ _ _ ⟨rfl, rfl⟩
    refine ⟨Suf.h, (by assumption), ?_⟩
    refine yA rfl rfl (yA rfl rfl (yD ?_))
    exact tri_cutEnd _ ⟨b11, d1, f1, rfl, rfl, hd1, hJ2⟩ ⟨rfl, rfl, rfl, rfl, rfl, rfl, rfl, rfl, rfl, rfl, rfl, trivial⟩
  ·refine (step_m rfl rfl opg_alloc ?_)
   rintro _ _ _ ⟨b11, rfl, rfl, rfl⟩
   refine ⟨Suf.h, (fun _ h => h), ?_⟩
   refine th_one (by kernel_rfl) (step_m rfl rfl (opg_call (xs := [_, _, _]) rfl (ref08_square (hq1.mono (fun _ h => hJ1 (h))) rfl (by omega) (by omega) (by omega) (by omega))) ?_)
   rintro _ _ _ ⟨rfl, rfl, rfl⟩
   refine ⟨Suf.h, (fun _ h => h), ?_⟩
   skip
   refine th_one (by kernel_rfl) (step_m rfl rfl (opg_call (xs := [_, _]) rfl (ref06_putSq hd0 g0 e1)) ?_)
   rintro _ _ J2 ⟨d1, f1, rfl, hd1, rfl, hJ2⟩
   refine ⟨Suf.h, hJ2, ?_⟩
   refine yM rfl rfl (yE rfl rfl rfl (yE rfl rfl rfl (yE rfl rfl rfl ?_)))
   refine th_one (by kernel_rfl) (step_m rfl rfl (opg_store rfl rfl rfl rfl rfl rfl) ?_)
   rintro _ _ _ ⟨rfl, rfl⟩
   refine ⟨Suf.h, (by assumption), ?_⟩
   refine yA rfl rfl (yA rfl rfl (yD ?_))
   exact tri_cutEnd _ ⟨b11, d1, f1, rfl, rfl, hd1, hJ2⟩ ⟨rfl, rfl, rfl, rfl, rfl, rfl, rfl, rfl, rfl, rfl, rfl, trivial⟩
 rintro _ _ J2 ⟨b11, d1, f1, rfl, rfl, hd1, hJ2⟩
 skip
 refine tT (tS (tS (tR (tM rfl rfl ?_))))
 refine tri_v (opv_neq rfl rfl) rfl ?_
 refine tN (tT ?_)
 refine tri_cond_dec rfl (fun x1 => ?_) (fun x1 => ?_)
 ·rw [if_neg x0, if_pos x1]
  refine tS (tR ?_)
  refine yB rfl rfl ?_
  refine tri_v (opv_buildA rfl rfl) rfl ?_
  refine tM rfl rfl ?_
  refine yG rfl rfl rfl rfl rfl rfl ?_
  rintro _ _ _ ⟨rfl, rfl⟩
  refine yG rfl rfl rfl rfl rfl rfl ?_
  rintro _ _ _ ⟨rfl, rfl⟩
  refine tA rfl rfl (tN (tT (tri_ret (tri_then_ret (tri_inBlock_ret (tri_then_ret (tri_then_ret ?_)))))))
  refine tri_inBlock_ret (tri_then_ret ?_)
  refine tri_end A Suf.h rfl (.cons (rv_cellA rfl rfl rfl) (.cons (rv_cellA rfl rfl rfl) (.cons (rv_tmp rfl) .nil))) ?_
  exact ⟨a, cap, _, _, _, _, _, _, _, _, _, rfl, rfl, hs.mono (fun _ h => hJ2 (hJ1 (hJ0 (h)))), rfl, (fun _ h => hJ2 (hJ1 (hJ0 (h))))⟩
 skip
 refine tri_skip (tT (tS (tR ?_)))
 refine yB rfl rfl ?_
 refine yG rfl rfl rfl rfl rfl rfl ?_
 rintro _ _ _ ⟨rfl, rfl⟩
 refine tN (tT (tR (tM rfl rfl (tM rfl rfl ?_))))
 refine tri_v (opv_indexAddrA rfl rfl (by decide) (by decide)) rfl ?_
 refine yG rfl rfl rfl rfl rfl rfl ?_
 rintro _ _ _ ⟨rfl, rfl⟩
 refine tN (tri_inBlock (tT ?_))
 refine tri_drop ?_
 refine tR (tM rfl rfl ?_)
 refine yU rfl rfl ?_
 refine tA rfl rfl (tN (tT (tri_round (tS (tS (tR (tM rfl rfl ?_)))))))
 refine yC rfl rfl (tN (tT ?_))
 refine tri_cond_is rfl (by decide) ?_
 refine tri_skip (tT (tS (tri_block (tS ?_))))
 refine tri_cut (fun F' A' J => ∃ b11 d f, F' = [(1, .int .i64 n), (2, pt b2 0), (4, pt b4 0), (5, pt b5 0), (7, .slice a1 (R8.s16 ns n).length c1), (8, pt b8 0), (9, pt b9 0), (10, .int .i64 2), (11, pt b11 0), (12, .int .i64 p2.2.1), (13, .int .i64 p2.2.2)] ∧ A' = Box b11 [.slice d p2.1.length f, .int .i64 room] 26 :: Box b9 [.slice d1 p1.1.length f1, .int .i64 room] 26 :: Box b8 [.int .i64 p0.2.1, .int .i64 p1.2.1, .int .i64 0, .int .i64 0, .int .i64 0, .int .i64 0, .int .i64 0, .int .i64 0, .int .i64 0] 80 :: Box b5 [.int .i64 0, .int .i64 0, .int .i64 0, .int .i64 0, .int .i64 0, .int .i64 0, .int .i64 0, .int .i64 0, .int .i64 0] 80 :: Box b4 [.slice none 0 0, .int .i64 0] 26 :: Box b2 [.slice a ns.length cap, .int .i64 room] 26 :: A ∧ StA J d f p2.1 ∧ J2 ⊆ J) ?_ ?_
 ·refine tri_draw [0, 1, 2, 3, 4, 5, 6, 7, 8, 9, 10, 11, 12, 13, 14, 15] rfl [] rfl mixed ?_
  refine th_take rfl rfl (by kernel_rfl)  (opv_loadA rfl rfl rfl) ?_
  refine yM rfl rfl (yM rfl rfl ?_)
  refine th_take rfl rfl (by kernel_rfl)  (opv_quoE rfl rfl (by omega) (by omega) (by omega)) ?_
  refine yM rfl rfl ?_
  refine th_take rfl rfl (by kernel_rfl)  (opv_remE rfl rfl (by omega) (by omega)) ?_
  refine th_two (j := 12) [6, 7, 8, 9, 10, 11, 13, 14, 15] (by kernel_rfl) rfl ?_ ?_
  ·refine (step_m rfl rfl (opg_call (xs := [_, _, _]) rfl (ref08_square (hq1.mono (fun _ h => hJ2 (hJ1 (h)))) rfl (by omega) (by omega) (by omega) (by omega))) ?_)
   rintro _ _ _ ⟨rfl, rfl, rfl⟩
   refine ⟨Suf.h, (fun _ h => h), ?_⟩
   skip
   refine th_two (j := 12) [7, 8, 9, 10, 11, 13, 14, 15] (by kernel_rfl) rfl ?_ ?_
   ·refine (step_m rfl rfl (opg_call (xs := [_, _]) rfl (ref06_putSq hd1 g1 e2)) ?_)
    rintro _ _ J3 ⟨d2, f2, rfl, hd2, rfl, hJ3⟩
    refine ⟨Suf.h, hJ3, ?_⟩
    refine yM rfl rfl (yE rfl rfl rfl (yE rfl rfl rfl (yE rfl rfl rfl ?_)))
    refine th_one (by kernel_rfl) (step_m rfl rfl opg_alloc ?_)
    rintro _ _ _ ⟨b11, rfl, rfl, rfl⟩
    refine ⟨Suf.h, (by assumption), ?_⟩
    refine th_one (by kernel_rfl) (step_m rfl rfl (opg_store rfl rfl rfl rfl rfl rfl) ?_)
    rintro _ _ _ ⟨rfl, rfl⟩
    refine ⟨Suf.h, (by assumption), ?_⟩
    refine yA rfl rfl (yA rfl rfl (yD ?_))
    exact tri_cutEnd _ ⟨b11, d2, f2, rfl, rfl, hd2, hJ3⟩ ⟨rfl, rfl, rfl, rfl, rfl, rfl, rfl, rfl, rfl, rfl, rfl, trivial⟩
   ·refine (step_m rfl rfl opg_alloc ?_)
    rintro _ _ _ ⟨b11, rfl, rfl, rfl⟩
    refine ⟨Suf.h, (fun _ h => h), ?_⟩
    refine th_one (by kernel_rfl) (step_m rfl rfl (opg_call (xs := [_, _]) rfl (ref06_putSq hd1 g1 e2)) ?_)
    rintro _ _ J3 ⟨d2, f2, rfl, hd2, rfl, hJ3⟩
    refine ⟨Suf.h, hJ3, ?_⟩
    refine yM rfl rfl (yE rfl rfl rfl (yE rfl rfl rfl (yE rfl rfl rfl ?_)))
    refine th_one (by kernel_rfl) (step_m rfl rfl (opg_store rfl rfl rfl rfl rfl rfl) ?_)
    rintro _ _ _ ⟨rfl, rfl⟩
    refine ⟨Suf.h, (by assumption), ?_⟩
    refine yA rfl rfl (yA rfl rfl (yD ?_))
    exact tri_cutEnd _ ⟨b11, d2, f2, rfl, rfl, hd2, hJ3⟩ ⟨rfl, rfl, rfl, rfl, rfl, rfl, rfl, rfl, rfl, rfl, rfl, trivial⟩
  ·refine (step_m rfl rfl opg_alloc ?_)
   rintro _ _ _ ⟨b11, rfl, rfl, rfl⟩
   refine ⟨Suf.h, (fun _ h => h), ?_⟩
   refine th_one (by kernel_rfl) (step_m rfl rfl (opg_call (xs := [_, _, _]) rfl (ref08_square (hq1.mono (fun _ h => hJ2 (hJ1 (h)))) rfl (by omega) (by omega) (by omega) (by omega))) ?_)
   rintro _ _ _ ⟨rfl, rfl, rfl⟩
   refine ⟨Suf.h, (fun _ h => h), ?_⟩
   skip
   refine th_one (by kernel_rfl) (step_m rfl rfl (opg_call (xs := [_, _]) rfl (ref06_putSq hd1 g1 e2)) ?_)
   rintro _ _ J3 ⟨d2, f2, rfl, hd2, rfl, hJ3⟩
   refine ⟨Suf.h, hJ3, ?_⟩
   refine yM rfl rfl (yE rfl rfl rfl (yE rfl rfl rfl (yE rfl rfl rfl ?_)))
   refine th_one (by kernel_rfl) (step_m rfl rfl (opg_store rfl rfl rfl rfl rfl rfl) ?_)
   rintro _ _ _ ⟨rfl, rfl⟩
   refine ⟨Suf.h, (by assumption), ?_⟩
   refine yA rfl rfl (yA rfl rfl (yD ?_))
   exact tri_cutEnd _ ⟨b11, d2, f2, rfl, rfl, hd2, hJ3⟩ ⟨rfl, rfl, rfl, rfl, rfl, rfl, rfl, rfl, rfl, rfl, rfl, trivial⟩
 rintro _ _ J3 ⟨b11, d2, f2, rfl, rfl, hd2, hJ3⟩
 skip
 refine tT (tS (tS (tR (tM rfl rfl ?_))))
 refine tri_v (opv_neq rfl rfl) rfl ?_
 refine tN (tT ?_)
 refine tri_cond_dec rfl (fun x2 => ?_) (fun x2 => ?_)
 ·rw [if_neg x0, if_neg x1, if_pos x2]
  refine tS (tR ?_)
  refine yB rfl rfl ?_
  refine tri_v (opv_buildA rfl rfl) rfl ?_
  refine tM rfl rfl ?_
  refine yG rfl rfl rfl rfl rfl rfl ?_
  rintro _ _ _ ⟨rfl, rfl⟩
  refine yG rfl rfl rfl rfl rfl rfl ?_
  rintro _ _ _ ⟨rfl, rfl⟩
  refine tA rfl rfl (tN (tT (tri_ret (tri_then_ret (tri_inBlock_ret (tri_then_ret (tri_then_ret ?_)))))))
  refine tri_inBlock_ret (tri_then_ret ?_)
  refine tri_end A Suf.h rfl (.cons (rv_cellA rfl rfl rfl) (.cons (rv_cellA rfl rfl rfl) (.cons (rv_tmp rfl) .nil))) ?_
  exact ⟨a, cap, _, _, _, _, _, _, _, _, _, rfl, rfl, hs.mono (fun _ h => hJ3 (hJ2 (hJ1 (hJ0 (h))))), rfl, (fun _ h => hJ3 (hJ2 (hJ1 (hJ0 (h)))))⟩
 skip
 refine tri_skip (tT (tS (tR ?_)))
 refine yB rfl rfl ?_
 refine yG rfl rfl rfl rfl rfl rfl ?_
 rintro _ _ _ ⟨rfl, rfl⟩
 refine tN (tT (tR (tM rfl rfl (tM rfl rfl ?_))))
 refine tri_v (opv_indexAddrA rfl rfl (by decide) (by decide)) rfl ?_
 refine yG rfl rfl rfl rfl rfl rfl ?_
 rintro _ _ _ ⟨rfl, rfl⟩
 refine tN (tri_inBlock (tT ?_))
 refine tri_drop ?_
 refine tR (tM rfl rfl ?_)
 refine yU rfl rfl ?_
 refine tA rfl rfl (tN (tT (tri_round (tS (tS (tR (tM rfl rfl ?_)))))))
 refine yC rfl rfl (tN (tT ?_))
 refine tri_cond_is rfl (by decide) ?_
 refine tri_skip (tT (tS (tri_block (tS ?_))))
 refine tri_cut (fun F' A' J => ∃ b11 d f, F' = [(1, .int .i64 n), (2, pt b2 0), (4, pt b4 0), (5, pt b5 0), (7, .slice a1 (R8.s16 ns n).length c1), (8, pt b8 0), (9, pt b9 0), (10, .int .i64 3), (11, pt b11 0), (12, .int .i64 p3.2.1), (13, .int .i64 p3.2.2)] ∧ A' = Box b11 [.slice d p3.1.length f, .int .i64 room] 26 :: Box b9 [.slice d2 p2.1.length f2, .int .i64 room] 26 :: Box b8 [.int .i64 p0.2.1, .int .i64 p1.2.1, .int .i64 p2.2.1, .int .i64 0, .int .i64 0, .int .i64 0, .int .i64 0, .int .i64 0, .int .i64 0] 80 :: Box b5 [.int .i64 0, .int .i64 0, .int .i64 0, .int .i64 0, .int .i64 0, .int .i64 0, .int .i64 0, .int .i64 0, .int .i64 0] 80 :: Box b4 [.slice none 0 0, .int .i64 0] 26 :: Box b2 [.slice a ns.length cap, .int .i64 room] 26 :: A ∧ StA J d f p3.1 ∧ J3 ⊆ J) ?_ ?_
 ·refine tri_draw [0, 1, 2, 3, 4, 5, 6, 7, 8, 9, 10, 11, 12, 13, 14, 15] rfl [] rfl mixed ?_
  refine th_take rfl rfl (by kernel_rfl)  (opv_loadA rfl rfl rfl) ?_
  refine yM rfl rfl (yM rfl rfl ?_)
  refine th_take rfl rfl (by kernel_rfl)  (opv_quoE rfl rfl (by omega) (by omega) (by omega)) ?_
  refine yM rfl rfl ?_
  refine th_take rfl rfl (by kernel_rfl)  (opv_remE rfl rfl (by omega) (by omega)) ?_
  refine th_two (j := 12) [6, 7, 8, 9, 10, 11, 13, 14, 15] (by kernel_rfl) rfl ?_ ?_
  ·refine (step_m rfl rfl (opg_call (xs := [_, _, _]) rfl (ref08_square (hq1.mono (fun _ h => hJ3 (hJ2 (hJ1 (h))))) rfl (by omega) (by omega) (by omega) (by omega))) ?_)
   rintro _ _ _ ⟨rfl, rfl, rfl⟩
   refine ⟨Suf.h, (fun _ h => h), ?_⟩
   skip
   refine th_two (j := 12) [7, 8, 9, 10, 11, 13, 14, 15] (by kernel_rfl) rfl ?_ ?_
   ·refine (step_m rfl rfl (opg_call (xs := [_, _]) rfl (ref06_putSq hd2 g2 e3)) ?_)
    rintro _ _ J4 ⟨d3, f3, rfl, hd3, rfl, hJ4⟩
    refine ⟨Suf.h, hJ4, ?_⟩
    refine yM rfl rfl (yE rfl rfl rfl (yE rfl rfl rfl (yE rfl rfl rfl ?_)))
    refine th_one (by kernel_rfl) (step_m rfl rfl opg_alloc ?_)
    rintro _ _ _ ⟨b11, rfl, rfl, rfl⟩
    refine ⟨Suf.h, (by assumption), ?_⟩
    refine th_one (by kernel_rfl) (step_m rfl rfl (opg_store rfl rfl rfl rfl rfl rfl) ?_)
    rintro _ _ _ ⟨rfl, rfl⟩
    refine ⟨Suf.h, (by assumption), ?_⟩
    refine yA rfl rfl (yA rfl rfl (yD ?_))
    exact tri_cutEnd _ ⟨b11, d3, f3, rfl, rfl, hd3, hJ4⟩ ⟨rfl, rfl, rfl, rfl, rfl, rfl, rfl, rfl, rfl, rfl, rfl, trivial⟩
   ·refine (step_m rfl rfl opg_alloc ?_)
    rintro _ _ _ ⟨b11, rfl, rfl, rfl⟩
    refine ⟨Suf.h, (fun _ h => h), ?_⟩
    refine th_one (by kernel_rfl) (step_m rfl rfl (opg_call (xs := [_, _]) rfl (ref06_putSq hd2 g2 e3)) ?_)
    rintro _ _ J4 ⟨d3, f3, rfl, hd3, rfl, hJ4⟩
    refine ⟨Suf.h, hJ4, ?_⟩
    refine yM rfl rfl (yE rfl rfl rfl (yE rfl rfl rfl (yE rfl rfl rfl ?_)))
    refine th_one (by kernel_rfl) (step_m rfl rfl (opg_store rfl rfl rfl rfl rfl rfl) ?_)
    rintro _ _ _ ⟨rfl, rfl⟩
    refine ⟨Suf.h, (by assumption), ?_⟩
    refine yA rfl rfl (yA rfl rfl (yD ?_))
    exact tri_cutEnd _ ⟨b11, d3, f3, rfl, rfl, hd3, hJ4⟩ ⟨rfl, rfl, rfl, rfl, rfl, rfl, rfl, rfl, rfl, rfl, rfl, trivial⟩
  ·refine (step_m rfl rfl opg_alloc ?_)
   rintro _ _ _ ⟨b11, rfl, rfl, rfl⟩
   refine ⟨Suf.h, (fun _ h => h), ?_⟩
   refine th_one (by kernel_rfl) (step_m rfl rfl (opg_call (xs := [_, _, _]) rfl (ref08_square (hq1.mono (fun _ h => hJ3 (hJ2 (hJ1 (h))))) rfl (by omega) (by omega) (by omega) (by omega))) ?_)
   rintro _ _ _ ⟨rfl, rfl, rfl⟩
   refine ⟨Suf.h, (fun _ h => h), ?_⟩
   skip
   refine th_one (by kernel_rfl) (step_m rfl rfl (opg_call (xs := [_, _]) rfl (ref06_putSq hd2 g2 e3)) ?_)
   rintro _ _ J4 ⟨d3, f3, rfl, hd3, rfl, hJ4⟩
   refine ⟨Suf.h, hJ4, ?_⟩
   refine yM rfl rfl (yE rfl rfl rfl (yE rfl rfl rfl (yE rfl rfl rfl ?_)))
   refine th_one (by kernel_rfl) (step_m rfl rfl (opg_store rfl rfl rfl rfl rfl rfl) ?_)
   rintro _ _ _ ⟨rfl, rfl⟩
   refine ⟨Suf.h, (by assumption), ?_⟩
   refine yA rfl rfl (yA rfl rfl (yD ?_))
   exact tri_cutEnd _ ⟨b11, d3, f3, rfl, rfl, hd3, hJ4⟩ ⟨rfl, rfl, rfl, rfl, rfl, rfl, rfl, rfl, rfl, rfl, rfl, trivial⟩
 rintro _ _ J4 ⟨b11, d3, f3, rfl, rfl, hd3, hJ4⟩
 skip
 refine tT (tS (tS (tR (tM rfl rfl ?_))))
 refine tri_v (opv_neq rfl rfl) rfl ?_
 refine tN (tT ?_)
 refine tri_cond_dec rfl (fun x3 => ?_) (fun x3 => ?_)
 ·rw [if_neg x0, if_neg x1, if_neg x2, if_pos x3]
  refine tS (tR ?_)
  refine yB rfl rfl ?_
  refine tri_v (opv_buildA rfl rfl) rfl ?_
  refine tM rfl rfl ?_
  refine yG rfl rfl rfl rfl rfl rfl ?_
  rintro _ _ _ ⟨rfl, rfl⟩
  refine yG rfl rfl rfl rfl rfl rfl ?_
  rintro _ _ _ ⟨rfl, rfl⟩
  refine tA rfl rfl (tN (tT (tri_ret (tri_then_ret (tri_inBlock_ret (tri_then_ret (tri_then_ret ?_)))))))
  refine tri_inBlock_ret (tri_then_ret ?_)
  refine tri_end A Suf.h rfl (.cons (rv_cellA rfl rfl rfl) (.cons (rv_cellA rfl rfl rfl) (.cons (rv_tmp rfl) .nil))) ?_
  exact ⟨a, cap, _, _, _, _, _, _, _, _, _, rfl, rfl, hs.mono (fun _ h => hJ4 (hJ3 (hJ2 (hJ1 (hJ0 (h)))))), rfl, (fun _ h => hJ4 (hJ3 (hJ2 (hJ1 (hJ0 (h))))))⟩
 skip
 refine tri_skip (tT (tS (tR ?_)))
 refine yB rfl rfl ?_
 refine yG rfl rfl rfl rfl rfl rfl ?_
 rintro _ _ _ ⟨rfl, rfl⟩
 refine tN (tT (tR (tM rfl rfl (tM rfl rfl ?_))))
 refine tri_v (opv_indexAddrA rfl rfl (by decide) (by decide)) rfl ?_
 refine yG rfl rfl rfl rfl rfl rfl ?_
 rintro _ _ _ ⟨rfl, rfl⟩
 refine tN (tri_inBlock (tT ?_))
 refine tri_drop ?_
 refine tR (tM rfl rfl ?_)
 refine yU rfl rfl ?_
 refine tA rfl rfl (tN (tT (tri_round (tS (tS (tR (tM rfl rfl ?_)))))))
 refine yC rfl rfl (tN (tT ?_))
 refine tri_cond_is rfl (by decide) ?_
 refine tri_skip (tT (tS (tri_block (tS ?_))))
 refine tri_cut (fun F' A' J => ∃ b11 d f, F' = [(1, .int .i64 n), (2, pt b2 0), (4, pt b4 0), (5, pt b5 0), (7, .slice a1 (R8.s16 ns n).length c1), (8, pt b8 0), (9, pt b9 0), (10, .int .i64 4), (11, pt b11 0), (12, .int .i64 p4.2.1), (13, .int .i64 p4.2.2)] ∧ A' = Box b11 [.slice d p4.1.length f, .int .i64 room] 26 :: Box b9 [.slice d3 p3.1.length f3, .int .i64 room] 26 :: Box b8 [.int .i64 p0.2.1, .int .i64 p1.2.1, .int .i64 p2.2.1, .int .i64 p3.2.1, .int .i64 0, .int .i64 0, .int .i64 0, .int .i64 0, .int .i64 0] 80 :: Box b5 [.int .i64 0, .int .i64 0, .int .i64 0, .int .i64 0, .int .i64 0, .int .i64 0, .int .i64 0, .int .i64 0, .int .i64 0] 80 :: Box b4 [.slice none 0 0, .int .i64 0] 26 :: Box b2 [.slice a ns.length cap, .int .i64 room] 26 :: A ∧ StA J d f p4.1 ∧ J4 ⊆ J) ?_ ?_
 ·refine tri_draw [0, 1, 2, 3, 4, 5, 6, 7, 8, 9, 10, 11, 12, 13, 14, 15] rfl [] rfl mixed ?_
  refine th_take rfl rfl (by kernel_rfl)  (opv_loadA rfl rfl rfl) ?_
  refine yM rfl rfl (yM rfl rfl ?_)
  refine th_take rfl rfl (by kernel_rfl)  (opv_quoE rfl rfl (by omega) (by omega) (by omega)) ?_
  refine yM rfl rfl ?_
  refine th_take rfl rfl (by kernel_rfl)  (opv_remE rfl rfl (by omega) (by omega)) ?_
  refine th_two (j := 12) [6, 7, 8, 9, 10, 11, 13, 14, 15] (by kernel_rfl) rfl ?_ ?_
  ·refine (step_m rfl rfl (opg_call (xs := [_, _, _]) rfl (ref08_square (hq1.mono (fun _ h => hJ4 (hJ3 (hJ2 (hJ1 (h)))))) rfl (by omega) (by omega) (by omega) (by omega))) ?_)
   rintro _ _ _ ⟨rfl, rfl, rfl⟩
   refine ⟨Suf.h, (fun _ h => h), ?_⟩
   skip
   refine th_two (j := 12) [7, 8, 9, 10, 11, 13, 14, 15] (by kernel_rfl) rfl ?_ ?_
   ·refine (step_m rfl rfl (opg_call (xs := [_, _]) rfl (ref06_putSq hd3 g3 e4)) ?_)
    rintro _ _ J5 ⟨d4, f4, rfl, hd4, rfl, hJ5⟩
    refine ⟨Suf.h, hJ5, ?_⟩
    refine yM rfl rfl (yE rfl rfl rfl (yE rfl rfl rfl (yE rfl rfl rfl ?_)))
    refine th_one (by kernel_rfl) (step_m rfl rfl opg_alloc ?_)
    rintro _ _ _ ⟨b11, rfl, rfl, rfl⟩
    refine ⟨Suf.h, (by assumption), ?_⟩
    refine th_one (by kernel_rfl) (step_m rfl rfl (opg_store rfl rfl rfl rfl rfl rfl) ?_)
    rintro _ _ _ ⟨rfl, rfl⟩
    refine ⟨Suf.h, (by assumption), ?_⟩
    refine yA rfl rfl (yA rfl rfl (yD ?_))
    exact tri_cutEnd _ ⟨b11, d4, f4, rfl, rfl, hd4, hJ5⟩ ⟨rfl, rfl, rfl, rfl, rfl, rfl, rfl, rfl, rfl, rfl, rfl, trivial⟩
   ·refine (step_m rfl rfl opg_alloc ?_)
    rintro _ _ _ ⟨b11, rfl, rfl, rfl⟩
    refine ⟨Suf.h, (fun _ h => h), ?_⟩
    refine th_one (by kernel_rfl) (step_m rfl rfl (opg_call (xs := [_, _]) rfl (ref06_putSq hd3 g3 e4)) ?_)
    rintro _ _ J5 ⟨d4, f4, rfl, hd4, rfl, hJ5⟩
    refine ⟨Suf.h, hJ5, ?_⟩
    refine yM rfl rfl (yE rfl rfl rfl (yE rfl rfl rfl (yE rfl rfl rfl ?_)))
    refine th_one (by kernel_rfl) (step_m rfl rfl (opg_store rfl rfl rfl rfl rfl rfl) ?_)
    rintro _ _ _ ⟨rfl, rfl⟩
    refine ⟨Suf.h, (by assumption), ?_⟩
    refine yA rfl rfl (yA rfl rfl (yD ?_))
    exact tri_cutEnd _ ⟨b11, d4, f4, rfl, rfl, hd4, hJ5⟩ ⟨rfl, rfl, rfl, rfl, rfl, rfl, rfl, rfl, rfl, rfl, rfl, trivial⟩
  ·refine (step_m rfl rfl opg_alloc ?_)
   rintro _ _ _ ⟨b11, rfl, rfl, rfl⟩
   refine ⟨Suf.h, (fun _ h => h), ?_⟩
   refine th_one (by kernel_rfl) (step_m rfl rfl (opg_call (xs := [_, _, _]) rfl (ref08_square (hq1.mono (fun _ h => hJ4 (hJ3 (hJ2 (hJ1 (h)))))) rfl (by omega) (by omega) (by omega) (by omega))) ?_)
   rintro _ _ _ ⟨rfl, rfl, rfl⟩
   refine ⟨Suf.h, (fun _ h => h), ?_⟩
   skip
   refine th_one (by kernel_rfl) (step_m rfl rfl (opg_call (xs := [_, _]) rfl (ref06_putSq hd3 g3 e4)) ?_)
   rintro _ _ J5 ⟨d4, f4, rfl, hd4, rfl, hJ5⟩
   refine ⟨Suf.h, hJ5, ?_⟩
   refine yM rfl rfl (yE rfl rfl rfl (yE rfl rfl rfl (yE rfl rfl rfl ?_)))
   refine th_one (by kernel_rfl) (step_m rfl rfl (opg_store rfl rfl rfl rfl rfl rfl) ?_)
   rintro _ _ _ ⟨rfl, rfl⟩
   refine ⟨Suf.h, (by assumption), ?_⟩
   refine yA rfl rfl (yA rfl rfl (yD ?_))
   exact tri_cutEnd _ ⟨b11, d4, f4, rfl, rfl, hd4, hJ5⟩ ⟨rfl, rfl, rfl, rfl, rfl, rfl, rfl, rfl, rfl, rfl, rfl, trivial⟩
 rintro _ _ J5 ⟨b11, d4, f4, rfl, rfl, hd4, hJ5⟩
 skip
 refine tT (tS (tS (tR (tM rfl rfl ?_))))
 refine tri_v (opv_neq rfl rfl) rfl ?_
 refine tN (tT ?_)
 refine tri_cond_dec rfl (fun x4 => ?_) (fun x4 => ?_)
 ·rw [if_neg x0, if_neg x1, if_neg x2, if_neg x3, if_pos x4]
  refine tS (tR ?_)
  refine yB rfl rfl ?_
  refine tri_v (opv_buildA rfl rfl) rfl ?_
  refine tM rfl rfl ?_
  refine yG rfl rfl rfl rfl rfl rfl ?_
  rintro _ _ _ ⟨rfl, rfl⟩
  refine yG rfl rfl rfl rfl rfl rfl ?_
  rintro _ _ _ ⟨rfl, rfl⟩
  refine tA rfl rfl (tN (tT (tri_ret (tri_then_ret (tri_inBlock_ret (tri_then_ret (tri_then_ret ?_)))))))
  refine tri_inBlock_ret (tri_then_ret ?_)
  refine tri_end A Suf.h rfl (.cons (rv_cellA rfl rfl rfl) (.cons (rv_cellA rfl rfl rfl) (.cons (rv_tmp rfl) .nil))) ?_
  exact ⟨a, cap, _, _, _, _, _, _, _, _, _, rfl, rfl, hs.mono (fun _ h => hJ5 (hJ4 (hJ3 (hJ2 (hJ1 (hJ0 (h))))))), rfl, (fun _ h => hJ5 (hJ4 (hJ3 (hJ2 (hJ1 (hJ0 (h)))))))⟩
 skip
 refine tri_skip (tT (tS (tR ?_)))
 refine yB rfl rfl ?_
 refine yG rfl rfl rfl rfl rfl rfl ?_
 rintro _ _ _ ⟨rfl, rfl⟩
 refine tN (tT (tR (tM rfl rfl (tM rfl rfl ?_))))
 refine tri_v (opv_indexAddrA rfl rfl (by decide) (by decide)) rfl ?_
 refine yG rfl rfl rfl rfl rfl rfl ?_
 rintro _ _ _ ⟨rfl, rfl⟩
 refine tN (tri_inBlock (tT ?_))
 refine tri_drop ?_
 refine tR (tM rfl rfl ?_)
 refine yU rfl rfl ?_
 refine tA rfl rfl (tN (tT (tri_round (tS (tS (tR (tM rfl rfl ?_)))))))
 refine yC rfl rfl (tN (tT ?_))
 refine tri_cond_is rfl (by decide) ?_
 refine tri_skip (tT (tS (tri_block (tS ?_))))
 refine tri_cut (fun F' A' J => ∃ b11 d f, F' = [(1, .int .i64 n), (2, pt b2 0), (4, pt b4 0), (5, pt b5 0), (7, .slice a1 (R8.s16 ns n).length c1), (8, pt b8 0), (9, pt b9 0), (10, .int .i64 5), (11, pt b11 0), (12, .int .i64 p5.2.1), (13, .int .i64 p5.2.2)] ∧ A' = Box b11 [.slice d p5.1.length f, .int .i64 room] 26 :: Box b9 [.slice d4 p4.1.length f4, .int .i64 room] 26 :: Box b8 [.int .i64 p0.2.1, .int .i64 p1.2.1, .int .i64 p2.2.1, .int .i64 p3.2.1, .int .i64 p4.2.1, .int .i64 0, .int .i64 0, .int .i64 0, .int .i64 0] 80 :: Box b5 [.int .i64 0, .int .i64 0, .int .i64 0, .int .i64 0, .int .i64 0, .int .i64 0, .int .i64 0, .int .i64 0, .int .i64 0] 80 :: Box b4 [.slice none 0 0, .int .i64 0] 26 :: Box b2 [.slice a ns.length cap, .int .i64 room] 26 :: A ∧ StA J d f p5.1 ∧ J5 ⊆ J) ?_ ?_
 ·refine tri_draw [0, 1, 2, 3, 4, 5, 6, 7, 8, 9, 10, 11, 12, 13, 14, 15] rfl [] rfl mixed ?_
  refine th_take rfl rfl (by kernel_rfl)  (opv_loadA rfl rfl rfl) ?_
  refine yM rfl rfl (yM rfl rfl ?_)
  refine th_take rfl rfl (by kernel_rfl)  (opv_quoE rfl rfl (by omega) (by omega) (by omega)) ?_
  refine yM rfl rfl ?_
  refine th_take rfl rfl (by kernel_rfl)  (opv_remE rfl rfl (by omega) (by omega)) ?_
  refine th_two (j := 12) [6, 7, 8, 9, 10, 11, 13, 14, 15] (by kernel_rfl) rfl ?_ ?_
  ·refine (step_m rfl rfl (opg_call (xs := [_, _, _]) rfl (ref08_square (hq1.mono (fun _ h => hJ5 (hJ4 (hJ3 (hJ2 (hJ1 (h))))))) rfl (by omega) (by omega) (by omega) (by omega))) ?_)
   rintro _ _ _ ⟨rfl, rfl, rfl⟩
   refine ⟨Suf.h, (fun _ h => h), ?_⟩
   skip
   refine th_two (j := 12) [7, 8, 9, 10, 11, 13, 14, 15] (by kernel_rfl) rfl ?_ ?_
   ·refine (step_m rfl rfl (opg_call (xs := [_, _]) rfl (ref06_putSq hd4 g4 e5)) ?_)
    rintro _ _ J6 ⟨d5, f5, rfl, hd5, rfl, hJ6⟩
    refine ⟨Suf.h, hJ6, ?_⟩
    refine yM rfl rfl (yE rfl rfl rfl (yE rfl rfl rfl (yE rfl rfl rfl ?_)))
    refine th_one (by kernel_rfl) (step_m rfl rfl opg_alloc ?_)
    rintro _ _ _ ⟨b11, rfl, rfl, rfl⟩
    refine ⟨Suf.h, (by assumption), ?_⟩
    refine th_one (by kernel_rfl) (step_m rfl rfl (opg_store rfl rfl rfl rfl rfl rfl) ?_)
    rintro _ _ _ ⟨rfl, rfl⟩
    refine ⟨Suf.h, (by assumption), ?_⟩
    refine yA rfl rfl (yA rfl rfl (yD ?_))
    exact tri_cutEnd _ ⟨b11, d5, f5, rfl, rfl, hd5, hJ6⟩ ⟨rfl, rfl, rfl, rfl, rfl, rfl, rfl, rfl, rfl, rfl, rfl, trivial⟩
   ·refine (step_m rfl rfl opg_alloc ?_)
    rintro _ _ _ ⟨b11, rfl, rfl, rfl⟩
    refine ⟨Suf.h, (fun _ h => h), ?_⟩
    refine th_one (by kernel_rfl) (step_m rfl rfl (opg_call (xs := [_, _]) rfl (ref06_putSq hd4 g4 e5)) ?_)
    rintro _ _ J6 ⟨d5, f5, rfl, hd5, rfl, hJ6⟩
    refine ⟨Suf.h, hJ6, ?_⟩
    refine yM rfl rfl (yE rfl rfl rfl (yE rfl rfl rfl (yE rfl rfl rfl ?_)))
    refine th_one (by kernel_rfl) (step_m rfl rfl (opg_store rfl rfl rfl rfl rfl rfl) ?_)
    rintro _ _ _ ⟨rfl, rfl⟩
    refine ⟨Suf.h, (by assumption), ?_⟩
    refine yA rfl rfl (yA rfl rfl (yD ?_))
    exact tri_cutEnd _ ⟨b11, d5, f5, rfl, rfl, hd5, hJ6⟩ ⟨rfl, rfl, rfl, rfl, rfl, rfl, rfl, rfl, rfl, rfl, rfl, trivial⟩
  ·refine (step_m rfl rfl opg_alloc ?_)
   rintro _ _ _ ⟨b11, rfl, rfl, rfl⟩
   refine ⟨Suf.h, (fun _ h => h), ?_⟩
   refine th_one (by kernel_rfl) (step_m rfl rfl (opg_call (xs := [_, _, _]) rfl (ref08_square (hq1.mono (fun _ h => hJ5 (hJ4 (hJ3 (hJ2 (hJ1 (h))))))) rfl (by omega) (by omega) (by omega) (by omega))) ?_)
   rintro _ _ _ ⟨rfl, rfl, rfl⟩
   refine ⟨Suf.h, (fun _ h => h), ?_⟩
   skip
   refine th_one (by kernel_rfl) (step_m rfl rfl (opg_call (xs := [_, _]) rfl (ref06_putSq hd4 g4 e5)) ?_)
   rintro _ _ J6 ⟨d5, f5, rfl, hd5, rfl, hJ6⟩
   refine ⟨Suf.h, hJ6, ?_⟩
   refine yM rfl rfl (yE rfl rfl rfl (yE rfl rfl rfl (yE rfl rfl rfl ?_)))
   refine th_one (by kernel_rfl) (step_m rfl rfl (opg_store rfl rfl rfl rfl rfl rfl) ?_)
   rintro _ _ _ ⟨rfl, rfl⟩
   refine ⟨Suf.h, (by assumption), ?_⟩
   refine yA rfl rfl (yA rfl rfl (yD ?_))
   exact tri_cutEnd _ ⟨b11, d5, f5, rfl, rfl, hd5, hJ6⟩ ⟨rfl, rfl, rfl, rfl, rfl, rfl, rfl, rfl, rfl, rfl, rfl, trivial⟩
 rintro _ _ J6 ⟨b11, d5, f5, rfl, rfl, hd5, hJ6⟩
 skip
 refine tT (tS (tS (tR (tM rfl rfl ?_))))
 refine tri_v (opv_neq rfl rfl) rfl ?_
 refine tN (tT ?_)
 refine tri_cond_dec rfl (fun x5 => ?_) (fun x5 => ?_)
 ·rw [if_neg x0, if_neg x1, if_neg x2, if_neg x3, if_neg x4, if_pos x5]
  refine tS (tR ?_)
  refine yB rfl rfl ?_
  refine tri_v (opv_buildA rfl rfl) rfl ?_
  refine tM rfl rfl ?_
  refine yG rfl rfl rfl rfl rfl rfl ?_
  rintro _ _ _ ⟨rfl, rfl⟩
  refine yG rfl rfl rfl rfl rfl rfl ?_
  rintro _ _ _ ⟨rfl, rfl⟩
  refine tA rfl rfl (tN (tT (tri_ret (tri_then_ret (tri_inBlock_ret (tri_then_ret (tri_then_ret ?_)))))))
  refine tri_inBlock_ret (tri_then_ret ?_)
  refine tri_end A Suf.h rfl (.cons (rv_cellA rfl rfl rfl) (.cons (rv_cellA rfl rfl rfl) (.cons (rv_tmp rfl) .nil))) ?_
  exact ⟨a, cap, _, _, _, _, _, _, _, _, _, rfl, rfl, hs.mono (fun _ h => hJ6 (hJ5 (hJ4 (hJ3 (hJ2 (hJ1 (hJ0 (h)))))))), rfl, (fun _ h => hJ6 (hJ5 (hJ4 (hJ3 (hJ2 (hJ1 (hJ0 (h))))))))⟩
 skip
 refine tri_skip (tT (tS (tR ?_)))
 refine yB rfl rfl ?_
 refine yG rfl rfl rfl rfl rfl rfl ?_
 rintro _ _ _ ⟨rfl, rfl⟩
 refine tN (tT (tR (tM rfl rfl (tM rfl rfl ?_))))
 refine tri_v (opv_indexAddrA rfl rfl (by decide) (by decide)) rfl ?_
 refine yG rfl rfl rfl rfl rfl rfl ?_
 rintro _ _ _ ⟨rfl, rfl⟩
 refine tN (tri_inBlock (tT ?_))
 refine tri_drop ?_
 refine tR (tM rfl rfl ?_)
 refine yU rfl rfl ?_
 refine tA rfl rfl (tN (tT (tri_round (tS (tS (tR (tM rfl rfl ?_)))))))
 refine yC rfl rfl (tN (tT ?_))
 refine tri_cond_is rfl (by decide) ?_
 refine tri_skip (tT (tS (tri_block (tS ?_))))
 refine tri_cut (fun F' A' J => ∃ b11 d f, F' = [(1, .int .i64 n), (2, pt b2 0), (4, pt b4 0), (5, pt b5 0), (7, .slice a1 (R8.s16 ns n).length c1), (8, pt b8 0), (9, pt b9 0), (10, .int .i64 6), (11, pt b11 0), (12, .int .i64 p6.2.1), (13, .int .i64 p6.2.2)] ∧ A' = Box b11 [.slice d p6.1.length f, .int .i64 room] 26 :: Box b9 [.slice d5 p5.1.length f5, .int .i64 room] 26 :: Box b8 [.int .i64 p0.2.1, .int .i64 p1.2.1, .int .i64 p2.2.1, .int .i64 p3.2.1, .int .i64 p4.2.1, .int .i64 p5.2.1, .int .i64 0, .int .i64 0, .int .i64 0] 80 :: Box b5 [.int .i64 0, .int .i64 0, .int .i64 0, .int .i64 0, .int .i64 0, .int .i64 0, .int .i64 0, .int .i64 0, .int .i64 0] 80 :: Box b4 [.slice none 0 0, .int .i64 0] 26 :: Box b2 [.slice a ns.length cap, .int .i64 room] 26 :: A ∧ StA J d f p6.1 ∧ J6 ⊆ J) ?_ ?_
 ·refine tri_draw [0, 1, 2, 3, 4, 5, 6, 7, 8, 9, 10, 11, 12, 13, 14, 15] rfl [] rfl mixed ?_
  refine th_take rfl rfl (by kernel_rfl)  (opv_loadA rfl rfl rfl) ?_
  refine yM rfl rfl (yM rfl rfl ?_)
  refine th_take rfl rfl (by kernel_rfl)  (opv_quoE rfl rfl (by omega) (by omega) (by omega)) ?_
  refine yM rfl rfl ?_
  refine th_take rfl rfl (by kernel_rfl)  (opv_remE rfl rfl (by omega) (by omega)) ?_
  refine th_two (j := 12) [6, 7, 8, 9, 10, 11, 13, 14, 15] (by kernel_rfl) rfl ?_ ?_
  ·refine (step_m rfl rfl (opg_call (xs := [_, _, _]) rfl (ref08_square (hq1.mono (fun _ h => hJ6 (hJ5 (hJ4 (hJ3 (hJ2 (hJ1 (h)))))))) rfl (by omega) (by omega) (by omega) (by omega))) ?_)
   rintro _ _ _ ⟨rfl, rfl, rfl⟩
   refine ⟨Suf.h, (fun _ h => h), ?_⟩
   skip
   refine th_two (j := 12) [7, 8, 9, 10, 11, 13, 14, 15] (by kernel_rfl) rfl ?_ ?_
   ·refine (step_m rfl rfl (opg_call (xs := [_, _]) rfl (ref06_putSq hd5 g5 e6)) ?_)
    rintro _ _ J7 ⟨d6, f6, rfl, hd6, rfl, hJ7⟩
    refine ⟨Suf.h, hJ7, ?_⟩
    refine yM rfl rfl (yE rfl rfl rfl (yE rfl rfl rfl (yE rfl rfl rfl ?_)))
    refine th_one (by kernel_rfl) (step_m rfl rfl opg_alloc ?_)
    rintro _ _ _ ⟨b11, rfl, rfl, rfl⟩
    refine ⟨Suf.h, (by assumption), ?_⟩
    refine th_one (by kernel_rfl) (step_m rfl rfl (opg_store rfl rfl rfl rfl rfl rfl) ?_)
    rintro _ _ _ ⟨rfl, rfl⟩
    refine ⟨Suf.h, (by assumption), ?_⟩
    refine yA rfl rfl (yA rfl rfl (yD ?_))
    exact tri_cutEnd _ ⟨b11, d6, f6, rfl, rfl, hd6, hJ7⟩ ⟨rfl, rfl, rfl, rfl, rfl, rfl, rfl, rfl, rfl, rfl, rfl, trivial⟩
   ·refine (step_m rfl rfl opg_alloc ?_)
    rintro _ _ _ ⟨b11, rfl, rfl, rfl⟩
    refine ⟨Suf.h, (fun _ h => h), ?_⟩
    refine th_one (by kernel_rfl) (step_m rfl rfl (opg_call (xs := [_, _]) rfl (ref06_putSq hd5 g5 e6)) ?_)
    rintro _ _ J7 ⟨d6, f6, rfl, hd6, rfl, hJ7⟩
    refine ⟨Suf.h, hJ7, ?_⟩
    refine yM rfl rfl (yE rfl rfl rfl (yE rfl rfl rfl (yE rfl rfl rfl ?_)))
    refine th_one (by kernel_rfl) (step_m rfl rfl (opg_store rfl rfl rfl rfl rfl rfl) ?_)
    rintro _ _ _ ⟨rfl, rfl⟩
    refine ⟨Suf.h, (by assumption), ?_⟩
    refine yA rfl rfl (yA rfl rfl (yD ?_))
    exact tri_cutEnd _ ⟨b11, d6, f6, rfl, rfl, hd6, hJ7⟩ ⟨rfl, rfl, rfl, rfl, rfl, rfl, rfl, rfl, rfl, rfl, rfl, trivial⟩
  ·refine (step_m rfl rfl opg_alloc ?_)
   rintro _ _ _ ⟨b11, rfl, rfl, rfl⟩
   refine ⟨Suf.h, (fun _ h => h), ?_⟩
   refine th_one (by kernel_rfl) (step_m rfl rfl (opg_call (xs := [_, _, _]) rfl (ref08_square (hq1.mono (fun _ h => hJ6 (hJ5 (hJ4 (hJ3 (hJ2 (hJ1 (h)))))))) rfl (by omega) (by omega) (by omega) (by omega))) ?_)
   rintro _ _ _ ⟨rfl, rfl, rfl⟩
   refine ⟨Suf.h, (fun _ h => h), ?_⟩
   skip
   refine th_one (by kernel_rfl) (step_m rfl rfl (opg_call (xs := [_, _]) rfl (ref06_putSq hd5 g5 e6)) ?_)
   rintro _ _ J7 ⟨d6, f6, rfl, hd6, rfl, hJ7⟩
   refine ⟨Suf.h, hJ7, ?_⟩
   refine yM rfl rfl (yE rfl rfl rfl (yE rfl rfl rfl (yE rfl rfl rfl ?_)))
   refine th_one (by kernel_rfl) (step_m rfl rfl (opg_store rfl rfl rfl rfl rfl rfl) ?_)
   rintro _ _ _ ⟨rfl, rfl⟩
   refine ⟨Suf.h, (by assumption), ?_⟩
   refine yA rfl rfl (yA rfl rfl (yD ?_))
   exact tri_cutEnd _ ⟨b11, d6, f6, rfl, rfl, hd6, hJ7⟩ ⟨rfl, rfl, rfl, rfl, rfl, rfl, rfl, rfl, rfl, rfl, rfl, trivial⟩
 rintro _ _ J7 ⟨b11, d6, f6, rfl, rfl, hd6, hJ7⟩
 skip
 refine tT (tS (tS (tR (tM rfl rfl ?_))))
 refine tri_v (opv_neq rfl rfl) rfl ?_
 refine tN (tT ?_)
 refine tri_cond_dec rfl (fun x6 => ?_) (fun x6 => ?_)
 ·rw [if_neg x0, if_neg x1, if_neg x2, if_neg x3, if_neg x4, if_neg x5, if_pos x6]
  refine tS (tR ?_)
  refine yB rfl rfl ?_
  refine tri_v (opv_buildA rfl rfl) rfl ?_
  refine tM rfl rfl ?_
  refine yG rfl rfl rfl rfl rfl rfl ?_
  rintro _ _ _ ⟨rfl, rfl⟩
  refine yG rfl rfl rfl rfl rfl rfl ?_
  rintro _ _ _ ⟨rfl, rfl⟩
  refine tA rfl rfl (tN (tT (tri_ret (tri_then_ret (tri_inBlock_ret (tri_then_ret (tri_then_ret ?_)))))))
  refine tri_inBlock_ret (tri_then_ret ?_)
  refine tri_end A Suf.h rfl (.cons (rv_cellA rfl rfl rfl) (.cons (rv_cellA rfl rfl rfl) (.cons (rv_tmp rfl) .nil))) ?_
  exact ⟨a, cap, _, _, _, _, _, _, _, _, _, rfl, rfl, hs.mono (fun _ h => hJ7 (hJ6 (hJ5 (hJ4 (hJ3 (hJ2 (hJ1 (hJ0 (h))))))))), rfl, (fun _ h => hJ7 (hJ6 (hJ5 (hJ4 (hJ3 (hJ2 (hJ1 (hJ0 (h)))))))))⟩
 skip
 refine tri_skip (tT (tS (tR ?_)))
 refine yB rfl rfl ?_
 refine yG rfl rfl rfl rfl rfl rfl ?_
 rintro _ _ _ ⟨rfl, rfl⟩
 refine tN (tT (tR (tM rfl rfl (tM rfl rfl ?_))))
 refine tri_v (opv_indexAddrA rfl rfl (by decide) (by decide)) rfl ?_
 refine yG rfl rfl rfl rfl rfl rfl ?_
 rintro _ _ _ ⟨rfl, rfl⟩
 refine tN (tri_inBlock (tT ?_))
 refine tri_drop ?_
 refine tR (tM rfl rfl ?_)
 refine yU rfl rfl ?_
 refine tA rfl rfl (tN (tT (tri_round (tS (tS (tR (tM rfl rfl ?_)))))))
 refine yC rfl rfl (tN (tT ?_))
 refine tri_cond_is rfl (by decide) ?_
 refine tri_skip (tT (tS (tri_block (tS ?_))))
 refine tri_cut (fun F' A' J => ∃ b11 d f, F' = [(1, .int .i64 n), (2, pt b2 0), (4, pt b4 0), (5, pt b5 0), (7, .slice a1 (R8.s16 ns n).length c1), (8, pt b8 0), (9, pt b9 0), (10, .int .i64 7), (11, pt b11 0), (12, .int .i64 p7.2.1), (13, .int .i64 p7.2.2)] ∧ A' = Box b11 [.slice d p7.1.length f, .int .i64 room] 26 :: Box b9 [.slice d6 p6.1.length f6, .int .i64 room] 26 :: Box b8 [.int .i64 p0.2.1, .int .i64 p1.2.1, .int .i64 p2.2.1, .int .i64 p3.2.1, .int .i64 p4.2.1, .int .i64 p5.2.1, .int .i64 p6.2.1, .int .i64 0, .int .i64 0] 80 :: Box b5 [.int .i64 0, .int .i64 0, .int .i64 0, .int .i64 0, .int .i64 0, .int .i64 0, .int .i64 0, .int .i64 0, .int .i64 0] 80 :: Box b4 [.slice none 0 0, .int .i64 0] 26 :: Box b2 [.slice a ns.length cap, .int .i64 room] 26 :: A ∧ StA J d f p7.1 ∧ J7 ⊆ J) ?_ ?_
 ·refine tri_draw [0, 1, 2, 3, 4, 5, 6, 7, 8, 9, 10, 11, 12, 13, 14, 15] rfl [] rfl mixed ?_
  refine th_take rfl rfl (by kernel_rfl)  (opv_loadA rfl rfl rfl) ?_
  refine yM rfl rfl (yM rfl rfl ?_)
  refine th_take rfl rfl (by kernel_rfl)  (opv_quoE rfl rfl (by omega) (by omega) (by omega)) ?_
  refine yM rfl rfl ?_
  refine th_take rfl rfl (by kernel_rfl)  (opv_remE rfl rfl (by omega) (by omega)) ?_
  refine th_two (j := 12) [6, 7, 8, 9, 10, 11, 13, 14, 15] (by kernel_rfl) rfl ?_ ?_
  ·refine (step_m rfl rfl (opg_call (xs := [_, _, _]) rfl (ref08_square (hq1.mono (fun _ h => hJ7 (hJ6 (hJ5 (hJ4 (hJ3 (hJ2 (hJ1 (h))))))))) rfl (by omega) (by omega) (by omega) (by omega))) ?_)
   rintro _ _ _ ⟨rfl, rfl, rfl⟩
   refine ⟨Suf.h, (fun _ h => h), ?_⟩
   skip
   refine th_two (j := 12) [7, 8, 9, 10, 11, 13, 14, 15] (by kernel_rfl) rfl ?_ ?_
   ·refine (step_m rfl rfl (opg_call (xs := [_, _]) rfl (ref06_putSq hd6 g6 e7)) ?_)
    rintro _ _ J8 ⟨d7, f7, rfl, hd7, rfl, hJ8⟩
    refine ⟨Suf.h, hJ8, ?_⟩
    refine yM rfl rfl (yE rfl rfl rfl (yE rfl rfl rfl (yE rfl rfl rfl ?_)))
    refine th_one (by kernel_rfl) (step_m rfl rfl opg_alloc ?_)
    rintro _ _ _ ⟨b11, rfl, rfl, rfl⟩
    refine ⟨Suf.h, (by assumption), ?_⟩
    refine th_one (by kernel_rfl) (step_m rfl rfl (opg_store rfl rfl rfl rfl rfl rfl) ?_)
    rintro _ _ _ ⟨rfl, rfl⟩
    refine ⟨Suf.h, (by assumption), ?_⟩
    refine yA rfl rfl (yA rfl rfl (yD ?_))
    exact tri_cutEnd _ ⟨b11, d7, f7, rfl, rfl, hd7, hJ8⟩ ⟨rfl, rfl, rfl, rfl, rfl, rfl, rfl, rfl, rfl, rfl, rfl, trivial⟩
   ·refine (step_m rfl rfl opg_alloc ?_)
    rintro _ _ _ ⟨b11, rfl, rfl, rfl⟩
    refine ⟨Suf.h, (fun _ h => h), ?_⟩
    refine th_one (by kernel_rfl) (step_m rfl rfl (opg_call (xs := [_, _]) rfl (ref06_putSq hd6 g6 e7)) ?_)
    rintro _ _ J8 ⟨d7, f7, rfl, hd7, rfl, hJ8⟩
    refine ⟨Suf.h, hJ8, ?_⟩
    refine yM rfl rfl (yE rfl rfl rfl (yE rfl rfl rfl (yE rfl rfl rfl ?_)))
    refine th_one (by kernel_rfl) (step_m rfl rfl (opg_store rfl rfl rfl rfl rfl rfl) ?_)
    rintro _ _ _ ⟨rfl, rfl⟩
    refine ⟨Suf.h, (by assumption), ?_⟩
    refine yA rfl rfl (yA rfl rfl (yD ?_))
    exact tri_cutEnd _ ⟨b11, d7, f7, rfl, rfl, hd7, hJ8⟩ ⟨rfl, rfl, rfl, rfl, rfl, rfl, rfl, rfl, rfl, rfl, rfl, trivial⟩
  ·refine (step_m rfl rfl opg_alloc ?_)
   rintro _ _ _ ⟨b11, rfl, rfl, rfl⟩
   refine ⟨Suf.h, (fun _ h => h), ?_⟩
   refine th_one (by kernel_rfl) (step_m rfl rfl (opg_call (xs := [_, _, _]) rfl (ref08_square (hq1.mono (fun _ h => hJ7 (hJ6 (hJ5 (hJ4 (hJ3 (hJ2 (hJ1 (h))))))))) rfl (by omega) (by omega) (by omega) (by omega))) ?_)
   rintro _ _ _ ⟨rfl, rfl, rfl⟩
   refine ⟨Suf.h, (fun _ h => h), ?_⟩
   skip
   refine th_one (by kernel_rfl) (step_m rfl rfl (opg_call (xs := [_, _]) rfl (ref06_putSq hd6 g6 e7)) ?_)
   rintro _ _ J8 ⟨d7, f7, rfl, hd7, rfl, hJ8⟩
   refine ⟨Suf.h, hJ8, ?_⟩
   refine yM rfl rfl (yE rfl rfl rfl (yE rfl rfl rfl (yE rfl rfl rfl ?_)))
   refine th_one (by kernel_rfl) (step_m rfl rfl (opg_store rfl rfl rfl rfl rfl rfl) ?_)
   rintro _ _ _ ⟨rfl, rfl⟩
   refine ⟨Suf.h, (by assumption), ?_⟩
   refine yA rfl rfl (yA rfl rfl (yD ?_))
   exact tri_cutEnd _ ⟨b11, d7, f7, rfl, rfl, hd7, hJ8⟩ ⟨rfl, rfl, rfl, rfl, rfl, rfl, rfl, rfl, rfl, rfl, rfl, trivial⟩
 rintro _ _ J8 ⟨b11, d7, f7, rfl, rfl, hd7, hJ8⟩
 skip
 refine tT (tS (tS (tR (tM rfl rfl ?_))))
 refine tri_v (opv_neq rfl rfl) rfl ?_
 refine tN (tT ?_)
 refine tri_cond_dec rfl (fun x7 => ?_) (fun x7 => ?_)
 ·rw [if_neg x0, if_neg x1, if_neg x2, if_neg x3, if_neg x4, if_neg x5, if_neg x6, if_pos x7]
  refine tS (tR ?_)
  refine yB rfl rfl ?_
  refine tri_v (opv_buildA rfl rfl) rfl ?_
  refine tM rfl rfl ?_
  refine yG rfl rfl rfl rfl rfl rfl ?_
  rintro _ _ _ ⟨rfl, rfl⟩
  refine yG rfl rfl rfl rfl rfl rfl ?_
  rintro _ _ _ ⟨rfl, rfl⟩
  refine tA rfl rfl (tN (tT (tri_ret (tri_then_ret (tri_inBlock_ret (tri_then_ret (tri_then_ret ?_)))))))
  refine tri_inBlock_ret (tri_then_ret ?_)
  refine tri_end A Suf.h rfl (.cons (rv_cellA rfl rfl rfl) (.cons (rv_cellA rfl rfl rfl) (.cons (rv_tmp rfl) .nil))) ?_
  exact ⟨a, cap, _, _, _, _, _, _, _, _, _, rfl, rfl, hs.mono (fun _ h => hJ8 (hJ7 (hJ6 (hJ5 (hJ4 (hJ3 (hJ2 (hJ1 (hJ0 (h)))))))))), rfl, (fun _ h => hJ8 (hJ7 (hJ6 (hJ5 (hJ4 (hJ3 (hJ2 (hJ1 (hJ0 (h))))))))))⟩
 skip
 refine tri_skip (tT (tS (tR ?_)))
 refine yB rfl rfl ?_
 refine yG rfl rfl rfl rfl rfl rfl ?_
 rintro _ _ _ ⟨rfl, rfl⟩
 refine tN (tT (tR (tM rfl rfl (tM rfl rfl ?_))))
 refine tri_v (opv_indexAddrA rfl rfl (by decide) (by decide)) rfl ?_
 refine yG rfl rfl rfl rfl rfl rfl ?_
 rintro _ _ _ ⟨rfl, rfl⟩
 refine tN (tri_inBlock (tT ?_))
 refine tri_drop ?_
 refine tR (tM rfl rfl ?_)
 refine yU rfl rfl ?_
 refine tA rfl rfl (tN (tT (tri_round (tS (tS (tR (tM rfl rfl ?_)))))))
 refine yC rfl rfl (tN (tT ?_))
 refine tri_cond_is rfl (by decide) ?_
 refine tri_skip (tT (tS (tri_block (tS ?_))))
 refine tri_cut (fun F' A' J => ∃ b11 d f, F' = [(1, .int .i64 n), (2, pt b2 0), (4, pt b4 0), (5, pt b5 0), (7, .slice a1 (R8.s16 ns n).length c1), (8, pt b8 0), (9, pt b9 0), (10, .int .i64 8), (11, pt b11 0), (12, .int .i64 p8.2.1), (13, .int .i64 p8.2.2)] ∧ A' = Box b11 [.slice d p8.1.length f, .int .i64 room] 26 :: Box b9 [.slice d7 p7.1.length f7, .int .i64 room] 26 :: Box b8 [.int .i64 p0.2.1, .int .i64 p1.2.1, .int .i64 p2.2.1, .int .i64 p3.2.1, .int .i64 p4.2.1, .int .i64 p5.2.1, .int .i64 p6.2.1, .int .i64 p7.2.1, .int .i64 0] 80 :: Box b5 [.int .i64 0, .int .i64 0, .int .i64 0, .int .i64 0, .int .i64 0, .int .i64 0, .int .i64 0, .int .i64 0, .int .i64 0] 80 :: Box b4 [.slice none 0 0, .int .i64 0] 26 :: Box b2 [.slice a ns.length cap, .int .i64 room] 26 :: A ∧ StA J d f p8.1 ∧ J8 ⊆ J) ?_ ?_
 ·refine tri_draw [0, 1, 2, 3, 4, 5, 6, 7, 8, 9, 10, 11, 12, 13, 14, 15] rfl [] rfl mixed ?_
  refine th_take rfl rfl (by kernel_rfl)  (opv_loadA rfl rfl rfl) ?_
  refine yM rfl rfl (yM rfl rfl ?_)
  refine th_take rfl rfl (by kernel_rfl)  (opv_quoE rfl rfl (by omega) (by omega) (by omega)) ?_
  refine yM rfl rfl ?_
  refine th_take rfl rfl (by kernel_rfl)  (opv_remE rfl rfl (by omega) (by omega)) ?_
  refine th_two (j := 12) [6, 7, 8, 9, 10, 11, 13, 14, 15] (by kernel_rfl) rfl ?_ ?_
  ·refine (step_m rfl rfl (opg_call (xs := [_, _, _]) rfl (ref08_square (hq1.mono (fun _ h => hJ8 (hJ7 (hJ6 (hJ5 (hJ4 (hJ3 (hJ2 (hJ1 (h)))))))))) rfl (by omega) (by omega) (by omega) (by omega))) ?_)
   rintro _ _ _ ⟨rfl, rfl, rfl⟩
   refine ⟨Suf.h, (fun _ h => h), ?_⟩
   skip
   refine th_two (j := 12) [7, 8, 9, 10, 11, 13, 14, 15] (by kernel_rfl) rfl ?_ ?_
   ·refine (step_m rfl rfl (opg_call (xs := [_, _]) rfl (ref06_putSq hd7 g7 e8)) ?_)
    rintro _ _ J9 ⟨d8, f8, rfl, hd8, rfl, hJ9⟩
    refine ⟨Suf.h, hJ9, ?_⟩
    refine yM rfl rfl (yE rfl rfl rfl (yE rfl rfl rfl (yE rfl rfl rfl ?_)))
    refine th_one (by kernel_rfl) (step_m rfl rfl opg_alloc ?_)
    rintro _ _ _ ⟨b11, rfl, rfl, rfl⟩
    refine ⟨Suf.h, (by assumption), ?_⟩
    refine th_one (by kernel_rfl) (step_m rfl rfl (opg_store rfl rfl rfl rfl rfl rfl) ?_)
    rintro _ _ _ ⟨rfl, rfl⟩
    refine ⟨Suf.h, (by assumption), ?_⟩
    refine yA rfl rfl (yA rfl rfl (yD ?_))
    exact tri_cutEnd _ ⟨b11, d8, f8, rfl, rfl, hd8, hJ9⟩ ⟨rfl, rfl, rfl, rfl, rfl, rfl, rfl, rfl, rfl, rfl, rfl, trivial⟩
   ·refine (step_m rfl rfl opg_alloc ?_)
    rintro _ _ _ ⟨b11, rfl, rfl, rfl⟩
    refine ⟨Suf.h, (fun _ h => h), ?_⟩
    refine th_one (by kernel_rfl) (step_m rfl rfl (opg_call (xs := [_, _]) rfl (ref06_putSq hd7 g7 e8)) ?_)
    rintro _ _ J9 ⟨d8, f8, rfl, hd8, rfl, hJ9⟩
    refine ⟨Suf.h, hJ9, ?_⟩
    refine yM rfl rfl (yE rfl rfl rfl (yE rfl rfl rfl (yE rfl rfl rfl ?_)))
    refine th_one (by kernel_rfl) (step_m rfl rfl (opg_store rfl rfl rfl rfl rfl rfl) ?_)
    rintro _ _ _ ⟨rfl, rfl⟩
    refine ⟨Suf.h, (by assumption), ?_⟩
    refine yA rfl rfl (yA rfl rfl (yD ?_))
    exact tri_cutEnd _ ⟨b11, d8, f8, rfl, rfl, hd8, hJ9⟩ ⟨rfl, rfl, rfl, rfl, rfl, rfl, rfl, rfl, rfl, rfl, rfl, trivial⟩
  ·refine (step_m rfl rfl opg_alloc ?_)
   rintro _ _ _ ⟨b11, rfl, rfl, rfl⟩
   refine ⟨Suf.h, (fun _ h => h), ?_⟩
   refine th_one (by kernel_rfl) (step_m rfl rfl (opg_call (xs := [_, _, _]) rfl (ref08_square (hq1.mono (fun _ h => hJ8 (hJ7 (hJ6 (hJ5 (hJ4 (hJ3 (hJ2 (hJ1 (h)))))))))) rfl (by omega) (by omega) (by omega) (by omega))) ?_)
   rintro _ _ _ ⟨rfl, rfl, rfl⟩
   refine ⟨Suf.h, (fun _ h => h), ?_⟩
   skip
   refine th_one (by kernel_rfl) (step_m rfl rfl (opg_call (xs := [_, _]) rfl (ref06_putSq hd7 g7 e8)) ?_)
   rintro _ _ J9 ⟨d8, f8, rfl, hd8, rfl, hJ9⟩
   refine ⟨Suf.h, hJ9, ?_⟩
   refine yM rfl rfl (yE rfl rfl rfl (yE rfl rfl rfl (yE rfl rfl rfl ?_)))
   refine th_one (by kernel_rfl) (step_m rfl rfl (opg_store rfl rfl rfl rfl rfl rfl) ?_)
   rintro _ _ _ ⟨rfl, rfl⟩
   refine ⟨Suf.h, (by assumption), ?_⟩
   refine yA rfl rfl (yA rfl rfl (yD ?_))
   exact tri_cutEnd _ ⟨b11, d8, f8, rfl, rfl, hd8, hJ9⟩ ⟨rfl, rfl, rfl, rfl, rfl, rfl, rfl, rfl, rfl, rfl, rfl, trivial⟩
 rintro _ _ J9 ⟨b11, d8, f8, rfl, rfl, hd8, hJ9⟩
 skip
 refine tT (tS (tS (tR (tM rfl rfl ?_))))
 refine tri_v (opv_neq rfl rfl) rfl ?_
 refine tN (tT ?_)
 refine tri_cond_dec rfl (fun x8 => ?_) (fun x8 => ?_)
 ·rw [if_neg x0, if_neg x1, if_neg x2, if_neg x3, if_neg x4, if_neg x5, if_neg x6, if_neg x7, if_pos x8]
  refine tS (tR ?_)
  refine yB rfl rfl ?_
  refine tri_v (opv_buildA rfl rfl) rfl ?_
  refine tM rfl rfl ?_
  refine yG rfl rfl rfl rfl rfl rfl ?_
  rintro _ _ _ ⟨rfl, rfl⟩
  refine yG rfl rfl rfl rfl rfl rfl ?_
  rintro _ _ _ ⟨rfl, rfl⟩
  refine tA rfl rfl (tN (tT (tri_ret (tri_then_ret (tri_inBlock_ret (tri_then_ret (tri_then_ret ?_)))))))
  refine tri_inBlock_ret (tri_then_ret ?_)
  refine tri_end A Suf.h rfl (.cons (rv_cellA rfl rfl rfl) (.cons (rv_cellA rfl rfl rfl) (.cons (rv_tmp rfl) .nil))) ?_
  exact ⟨a, cap, _, _, _, _, _, _, _, _, _, rfl, rfl, hs.mono (fun _ h => hJ9 (hJ8 (hJ7 (hJ6 (hJ5 (hJ4 (hJ3 (hJ2 (hJ1 (hJ0 (h))))))))))), rfl, (fun _ h => hJ9 (hJ8 (hJ7 (hJ6 (hJ5 (hJ4 (hJ3 (hJ2 (hJ1 (hJ0 (h)))))))))))⟩
 skip
 refine tri_skip (tT (tS (tR ?_)))
 refine yB rfl rfl ?_
 refine yG rfl rfl rfl rfl rfl rfl ?_
 rintro _ _ _ ⟨rfl, rfl⟩
 refine tN (tT (tR (tM rfl rfl (tM rfl rfl ?_))))
 refine tri_v (opv_indexAddrA rfl rfl (by decide) (by decide)) rfl ?_
 refine yG rfl rfl rfl rfl rfl rfl ?_
 rintro _ _ _ ⟨rfl, rfl⟩
 refine tN (tri_inBlock (tT ?_))
 refine tri_drop ?_
 rw [if_neg x0, if_neg x1, if_neg x2, if_neg x3, if_neg x4, if_neg x5, if_neg x6, if_neg x7, if_neg x8]
 refine tR (tM rfl rfl ?_)
 refine yU rfl rfl ?_
 refine tA rfl rfl (tN (tT (tri_round (tS (tS (tR (tM rfl rfl ?_)))))))
 refine yC rfl rfl (tN (tT ?_))
 refine tri_cond_not rfl (by decide) ?_
 refine tri_exit ?_
 refine tri_then_exit (tri_then_exit ?_)
 refine tri_inBlock_hit rfl ?_
 refine tT (tS ?_)
 refine tri_perm (A := ?a1_0 :: ?a1_1 :: ?a1_2 :: ?a1_3 :: ?T1) (B := ?a1_2 :: ?a1_3 :: ?a1_0 :: ?a1_1 :: ?T1) (by exact permL [2, 3, 0, 1] [?a1_0, ?a1_1, ?a1_2, ?a1_3] ?T1 (by decide) rfl) ?_
 skip
 refine tri_draw [0, 1, 2, 3, 4] rfl [_, _] rfl mixed ?_
 refine th_take rfl rfl (by kernel_rfl)  (opv_loadA rfl rfl rfl) ?_
 refine th_take rfl rfl (by kernel_rfl)  (opv_loadA rfl rfl rfl) ?_
 refine th_one (by kernel_rfl) (step_m rfl rfl (opg_store rfl rfl rfl rfl rfl rfl) ?_)
 rintro _ _ _ ⟨rfl, rfl⟩
 refine ⟨Suf.h, (fun _ h => h), ?_⟩
 refine th_one (by kernel_rfl) (step_m rfl rfl (opg_store rfl rfl rfl rfl rfl rfl) ?_)
 rintro _ _ _ ⟨rfl, rfl⟩
 refine ⟨Suf.h, (fun _ h => h), ?_⟩
 refine yA rfl rfl (yD (tT (tri_ret ?_)))
 refine tri_end A Suf.h rfl (.cons (rv_cellA rfl rfl rfl) (.cons (rv_cellA rfl rfl rfl) (.cons (rv_tmp rfl) .nil))) ?_
 exact ⟨d8, f8, _, _, _, _, _, _, _, _, _, rfl, rfl, hd8, rfl, (fun _ h => hJ9 (hJ8 (hJ7 (hJ6 (hJ5 (hJ4 (hJ3 (hJ2 (hJ1 (hJ0 h))))))))))⟩
end Go.GL


namespace Go.GL
open Go.Proofs
attribute [local irreducible] wpList Code.wp Exit.then Exit.inBlock Ends Tri TriH OpV OpG FnC epf wpAnyH
variable {A : List Asrt} {I : List Chunk}
set_option maxHeartbeats 2000000 in
set_option maxRecDepth 100000 in
theorem base_sixteen {ns : List Node} {a : Option Addr} {cap bx : Nat} {room n : Int} {mv : Value} (hk : R8.Kid ns n) :
  FnC Try.prog 89 [.agg [pt bx 0].toArray, .int .i64 n].toArray (Box bx [.slice a ns.length cap, .int .i64 room, mv] 87 :: Row a cap ns.length 43 6 (encs ns) :: A) I (fun v A' I' => v = .agg (ints (R8.s16 ns n)).toArray ∧ A' = (Box bx [.slice a ns.length cap, .int .i64 room, mv] 87 :: Row a cap ns.length 43 6 (encs ns) :: A) ∧ I = I') := by
 obtain ⟨⟨hn0, hn1⟩, ⟨ha0, ha1⟩, ⟨hb0, hb1⟩, ⟨hc0, hc1⟩, ⟨hd0, hd1⟩⟩ := hk
 unfold R6.nd at ha0 ha1 hb0 hb1 hc0 hc1 hd0 hd1
 skip
 refine fn_enter2 Try.func89 rfl Try.ntmps89 rfl fun w0 => ?_
 refine tS (tR ?_)
 refine tri_g (opg_box_agg rfl) rfl ?_
 rintro _ _ _ ⟨b2, rfl, rfl, rfl⟩
 refine tri_g opg_alloc rfl ?_
 rintro _ _ _ ⟨b4, rfl, rfl, rfl⟩
 refine tN (tT (tS (tS (tR (yF rfl ?_)))))
 refine yL rfl rfl ?_
 refine tri_v (opv_nilCheck rfl) rfl ?_
 refine yF rfl (yF rfl ?_)
 refine yL rfl rfl ?_
 refine tM rfl rfl ?_
 refine tri_v (opv_indexAddrR rfl rfl (by omega) (by omega)) rfl ?_
 refine tri_v (opv_fieldAddrR rfl (by omega) rfl) rfl ?_
 refine tri_v (opv_loadRXA rfl rfl (by omega) rfl rfl rfl) rfl ?_
 refine tM rfl rfl (tN (tT (tri_block ?_)))
 refine tri_rounds 5 ?_
 refine tri_round (tS (tR (yC rfl rfl (tN (tT (tS ?_))))))
 refine tri_cond_is rfl (by decide) ?_
 refine tri_skip (tT (tS (tri_block (tS (tR (tM rfl rfl ?_))))))
 refine tri_v (opv_index rfl rfl (by decide) (by decide) rfl rfl) rfl ?_
 refine tA rfl rfl (tA rfl rfl (tN (tT (tS (tR (yF rfl ?_))))))
 refine yL rfl rfl ?_
 refine tri_v (opv_nilCheck rfl) rfl ?_
 refine yF rfl (yF rfl ?_)
 refine yL rfl rfl ?_
 refine tM rfl rfl ?_
 refine tri_v (opv_indexAddrR rfl rfl (by omega) (by omega)) rfl ?_
 refine tri_v (opv_fieldAddrR rfl (by omega) rfl) rfl ?_
 refine tri_v (opv_loadRXA rfl rfl (by omega) rfl rfl rfl) rfl ?_
 refine tM rfl rfl (tN (tT (tri_block ?_)))
 refine tri_rounds 5 ?_
 refine tri_round (tS (tR (yC rfl rfl (tN (tT (tS ?_))))))
 refine tri_cond_is rfl (by decide) ?_
 refine tri_skip (tT (tS (tri_block (tS (tR (tM rfl rfl ?_))))))
 refine tri_v (opv_index rfl rfl (by decide) (by decide) rfl rfl) rfl ?_
 refine tA rfl rfl (tA rfl rfl (tN (tT (tR (tM rfl rfl ?_)))))
 refine tri_v (opv_quoE rfl rfl (by omega) (by omega) (by omega)) rfl ?_
 refine tri_v (opv_mul rfl rfl (w64 (by omega) (by omega))) rfl ?_
 refine tM rfl rfl ?_
 refine tri_v (opv_quoE rfl rfl (by omega) (by omega) (by omega)) rfl ?_
 refine yU rfl rfl ?_
 refine tri_v (opv_mul rfl rfl (w64 (by omega) (by omega))) rfl ?_
 refine tM rfl rfl ?_
 refine tri_v (opv_remE rfl rfl (by omega) (by omega)) rfl ?_
 refine tri_v (opv_mul rfl rfl (w64 (by omega) (by omega))) rfl ?_
 refine yU rfl rfl ?_
 refine tM rfl rfl ?_
 refine tri_v (opv_remE rfl rfl (by omega) (by omega)) rfl ?_
 refine yU rfl rfl ?_
 refine tM rfl rfl ?_
 refine tri_v (opv_indexAddrA rfl rfl (by decide) (by decide)) rfl ?_
 refine yG rfl rfl rfl rfl rfl rfl ?_
 rintro _ _ _ ⟨rfl, rfl⟩
 refine tN (tri_inBlock (tT (tR ?_)))
 refine yU rfl rfl ?_
 refine tM rfl rfl (tN (tT (tri_round (tS (tR (yC rfl rfl (tN ?_)))))))
 refine tT (tS ?_)
 skip
 refine tri_cond_is rfl (by decide) ?_
 refine tri_skip (tT (tS (tri_block (tS (tR (tM rfl rfl ?_))))))
 refine tri_v (opv_index rfl rfl (by decide) (by decide) rfl rfl) rfl ?_
 refine tA rfl rfl (tA rfl rfl (tN (tT (tR (tM rfl rfl ?_)))))
 refine tri_v (opv_quoE rfl rfl (by omega) (by omega) (by omega)) rfl ?_
 refine tri_v (opv_mul rfl rfl (w64 (by omega) (by omega))) rfl ?_
 refine tM rfl rfl ?_
 refine tri_v (opv_quoE rfl rfl (by omega) (by omega) (by omega)) rfl ?_
 refine yU rfl rfl ?_
 refine tri_v (opv_mul rfl rfl (w64 (by omega) (by omega))) rfl ?_
 refine tM rfl rfl ?_
 refine tri_v (opv_remE rfl rfl (by omega) (by omega)) rfl ?_
 refine tri_v (opv_mul rfl rfl (w64 (by omega) (by omega))) rfl ?_
 refine yU rfl rfl ?_
 refine tM rfl rfl ?_
 refine tri_v (opv_remE rfl rfl (by omega) (by omega)) rfl ?_
 refine yU rfl rfl ?_
 refine tM rfl rfl ?_
 refine tri_v (opv_indexAddrA rfl rfl (by decide) (by decide)) rfl ?_
 refine yG rfl rfl rfl rfl rfl rfl ?_
 rintro _ _ _ ⟨rfl, rfl⟩
 refine tN (tri_inBlock (tT (tR ?_)))
 refine yU rfl rfl ?_
 refine tM rfl rfl (tN (tT (tri_round (tS (tR (yC rfl rfl (tN ?_)))))))
 refine tT (tS ?_)
 skip
 refine tri_cond_is rfl (by decide) ?_
 refine tri_skip (tT (tS (tri_block (tS (tR (tM rfl rfl ?_))))))
 refine tri_v (opv_index rfl rfl (by decide) (by decide) rfl rfl) rfl ?_
 refine tA rfl rfl (tA rfl rfl (tN (tT (tR (tM rfl rfl ?_)))))
 refine tri_v (opv_quoE rfl rfl (by omega) (by omega) (by omega)) rfl ?_
 refine tri_v (opv_mul rfl rfl (w64 (by omega) (by omega))) rfl ?_
 refine tM rfl rfl ?_
 refine tri_v (opv_quoE rfl rfl (by omega) (by omega) (by omega)) rfl ?_
 refine yU rfl rfl ?_
 refine tri_v (opv_mul rfl rfl (w64 (by omega) (by omega))) rfl ?_
 refine tM rfl rfl ?_
 refine tri_v (opv_remE rfl rfl (by omega) (by omega)) rfl ?_
 refine tri_v (opv_mul rfl rfl (w64 (by omega) (by omega))) rfl ?_
 refine yU rfl rfl ?_
 refine tM rfl rfl ?_
 refine tri_v (opv_remE rfl rfl (by omega) (by omega)) rfl ?_
 refine yU rfl rfl ?_
 refine tM rfl rfl ?_
 refine tri_v (opv_indexAddrA rfl rfl (by decide) (by decide)) rfl ?_
 refine yG rfl rfl rfl rfl rfl rfl ?_
 rintro _ _ _ ⟨rfl, rfl⟩
 refine tN (tri_inBlock (tT (tR ?_)))
 refine yU rfl rfl ?_
 refine tM rfl rfl (tN (tT (tri_round (tS (tR (yC rfl rfl (tN ?_)))))))
 refine tT (tS ?_)
 skip
 refine tri_cond_is rfl (by decide) ?_
 refine tri_skip (tT (tS (tri_block (tS (tR (tM rfl rfl ?_))))))
 refine tri_v (opv_index rfl rfl (by decide) (by decide) rfl rfl) rfl ?_
 refine tA rfl rfl (tA rfl rfl (tN (tT (tR (tM rfl rfl ?_)))))
 refine tri_v (opv_quoE rfl rfl (by omega) (by omega) (by omega)) rfl ?_
 refine tri_v (opv_mul rfl rfl (w64 (by omega) (by omega))) rfl ?_
 refine tM rfl rfl ?_
 refine tri_v (opv_quoE rfl rfl (by omega) (by omega) (by omega)) rfl ?_
 refine yU rfl rfl ?_
 refine tri_v (opv_mul rfl rfl (w64 (by omega) (by omega))) rfl ?_
 refine tM rfl rfl ?_
 refine tri_v (opv_remE rfl rfl (by omega) (by omega)) rfl ?_
 refine tri_v (opv_mul rfl rfl (w64 (by omega) (by omega))) rfl ?_
 refine yU rfl rfl ?_
 refine tM rfl rfl ?_
 refine tri_v (opv_remE rfl rfl (by omega) (by omega)) rfl ?_
 refine yU rfl rfl ?_
 refine tM rfl rfl ?_
 refine tri_v (opv_indexAddrA rfl rfl (by decide) (by decide)) rfl ?_
 refine yG rfl rfl rfl rfl rfl rfl ?_
 rintro _ _ _ ⟨rfl, rfl⟩
 refine tN (tri_inBlock (tT (tR ?_)))
 refine yU rfl rfl ?_
 refine tM rfl rfl (tN (tT (tri_round (tS (tR (yC rfl rfl (tN ?_)))))))
 refine tT (tS ?_)
 refine tri_cond_not rfl (by decide) ?_
 refine tri_exit ?_
 refine tri_then_exit (tri_then_exit ?_)
 refine tri_inBlock_hit rfl ?_
 refine tri_inBlock (tT (tR ?_))
 refine yU rfl rfl ?_
 refine tM rfl rfl (tN (tT (tri_round (tS (tR (yC rfl rfl (tN ?_)))))))
 refine tT (tS ?_)
 refine tri_cond_is rfl (by decide) ?_
 refine tri_skip (tT (tS (tri_block (tS (tR (tM rfl rfl ?_))))))
 refine tri_v (opv_index rfl rfl (by decide) (by decide) rfl rfl) rfl ?_
 refine tA rfl rfl (tA rfl rfl (tN (tT (tS (tR (yF rfl ?_))))))
 refine yL rfl rfl ?_
 refine tri_v (opv_nilCheck rfl) rfl ?_
 refine yF rfl (yF rfl ?_)
 refine yL rfl rfl ?_
 refine tM rfl rfl ?_
 refine tri_v (opv_indexAddrR rfl rfl (by omega) (by omega)) rfl ?_
 refine tri_v (opv_fieldAddrR rfl (by omega) rfl) rfl ?_
 refine tri_v (opv_loadRXA rfl rfl (by omega) rfl rfl rfl) rfl ?_
 refine tM rfl rfl (tN (tT (tri_block ?_)))
 refine tri_rounds 5 ?_
 refine tri_round (tS (tR (yC rfl rfl (tN (tT (tS ?_))))))
 refine tri_cond_is rfl (by decide) ?_
 refine tri_skip (tT (tS (tri_block (tS (tR (tM rfl rfl ?_))))))
 refine tri_v (opv_index rfl rfl (by decide) (by decide) rfl rfl) rfl ?_
 refine tA rfl rfl (tA rfl rfl (tN (tT (tR (tM rfl rfl ?_)))))
 refine tri_v (opv_quoE rfl rfl (by omega) (by omega) (by omega)) rfl ?_
 refine tri_v (opv_mul rfl rfl (w64 (by omega) (by omega))) rfl ?_
 refine tM rfl rfl ?_
 refine tri_v (opv_quoE rfl rfl (by omega) (by omega) (by omega)) rfl ?_
 refine yU rfl rfl ?_
 refine tri_v (opv_mul rfl rfl (w64 (by omega) (by omega))) rfl ?_
 refine tM rfl rfl ?_
 refine tri_v (opv_remE rfl rfl (by omega) (by omega)) rfl ?_
 refine tri_v (opv_mul rfl rfl (w64 (by omega) (by omega))) rfl ?_
 refine yU rfl rfl ?_
 refine tM rfl rfl ?_
 refine tri_v (opv_remE rfl rfl (by omega) (by omega)) rfl ?_
 refine yU rfl rfl ?_
 refine tM rfl rfl ?_
 refine tri_v (opv_indexAddrA rfl rfl (by decide) (by decide)) rfl ?_
 refine yG rfl rfl rfl rfl rfl rfl ?_
 rintro _ _ _ ⟨rfl, rfl⟩
 refine tN (tri_inBlock (tT (tR ?_)))
 refine yU rfl rfl ?_
 refine tM rfl rfl (tN (tT (tri_round (tS (tR (yC rfl rfl (tN ?_)))))))
 refine tT (tS ?_)
 skip
 refine tri_cond_is rfl (by decide) ?_
 refine tri_skip (tT (tS (tri_block (tS (tR (tM rfl rfl ?_))))))
 refine tri_v (opv_index rfl rfl (by decide) (by decide) rfl rfl) rfl ?_
 refine tA rfl rfl (tA rfl rfl (tN (tT (tR (tM rfl rfl ?_)))))
 refine tri_v (opv_quoE rfl rfl (by omega) (by omega) (by omega)) rfl ?_
 refine tri_v (opv_mul rfl rfl (w64 (by omega) (by omega))) rfl ?_
 refine tM rfl rfl ?_
 refine tri_v (opv_quoE rfl rfl (by omega) (by omega) (by omega)) rfl ?_
 refine yU rfl rfl ?_
 refine tri_v (opv_mul rfl rfl (w64 (by omega) (by omega))) rfl ?_
 refine tM rfl rfl ?_
 refine tri_v (opv_remE rfl rfl (by omega) (by omega)) rfl ?_
 refine tri_v (opv_mul rfl rfl (w64 (by omega) (by omega))) rfl ?_
 refine yU rfl rfl ?_
 refine tM rfl rfl ?_
 refine tri_v (opv_remE rfl rfl (by omega) (by omega)) rfl ?_
 refine yU rfl rfl ?_
 refine tM rfl rfl ?_
 refine tri_v (opv_indexAddrA rfl rfl (by decide) (by decide)) rfl ?_
 refine yG rfl rfl rfl rfl rfl rfl ?_
 rintro _ _ _ ⟨rfl, rfl⟩
 refine tN (tri_inBlock (tT (tR ?_)))
 refine yU rfl rfl ?_
 refine tM rfl rfl (tN (tT (tri_round (tS (tR (yC rfl rfl (tN ?_)))))))
 refine tT (tS ?_)
 skip
 refine tri_cond_is rfl (by decide) ?_
 refine tri_skip (tT (tS (tri_block (tS (tR (tM rfl rfl ?_))))))
 refine tri_v (opv_index rfl rfl (by decide) (by decide) rfl rfl) rfl ?_
 refine tA rfl rfl (tA rfl rfl (tN (tT (tR (tM rfl rfl ?_)))))
 refine tri_v (opv_quoE rfl rfl (by omega) (by omega) (by omega)) rfl ?_
 refine tri_v (opv_mul rfl rfl (w64 (by omega) (by omega))) rfl ?_
 refine tM rfl rfl ?_
 refine tri_v (opv_quoE rfl rfl (by omega) (by omega) (by omega)) rfl ?_
 refine yU rfl rfl ?_
 refine tri_v (opv_mul rfl rfl (w64 (by omega) (by omega))) rfl ?_
 refine tM rfl rfl ?_
 refine tri_v (opv_remE rfl rfl (by omega) (by omega)) rfl ?_
 refine tri_v (opv_mul rfl rfl (w64 (by omega) (by omega))) rfl ?_
 refine yU rfl rfl ?_
 refine tM rfl rfl ?_
 refine tri_v (opv_remE rfl rfl (by omega) (by omega)) rfl ?_
 refine yU rfl rfl ?_
 refine tM rfl rfl ?_
 refine tri_v (opv_indexAddrA rfl rfl (by decide) (by decide)) rfl ?_
 refine yG rfl rfl rfl rfl rfl rfl ?_
 rintro _ _ _ ⟨rfl, rfl⟩
 refine tN (tri_inBlock (tT (tR ?_)))
 refine yU rfl rfl ?_
 refine tM rfl rfl (tN (tT (tri_round (tS (tR (yC rfl rfl (tN ?_)))))))
 refine tT (tS ?_)
 skip
 refine tri_cond_is rfl (by decide) ?_
 refine tri_skip (tT (tS (tri_block (tS (tR (tM rfl rfl ?_))))))
 refine tri_v (opv_index rfl rfl (by decide) (by decide) rfl rfl) rfl ?_
 refine tA rfl rfl (tA rfl rfl (tN (tT (tR (tM rfl rfl ?_)))))
 refine tri_v (opv_quoE rfl rfl (by omega) (by omega) (by omega)) rfl ?_
 refine tri_v (opv_mul rfl rfl (w64 (by omega) (by omega))) rfl ?_
 refine tM rfl rfl ?_
 refine tri_v (opv_quoE rfl rfl (by omega) (by omega) (by omega)) rfl ?_
 refine yU rfl rfl ?_
 refine tri_v (opv_mul rfl rfl (w64 (by omega) (by omega))) rfl ?_
 refine tM rfl rfl ?_
 refine tri_v (opv_remE rfl rfl (by omega) (by omega)) rfl ?_
 refine tri_v (opv_mul rfl rfl (w64 (by omega) (by omega))) rfl ?_
 refine yU rfl rfl ?_
 refine tM rfl rfl ?_
 refine tri_v (opv_remE rfl rfl (by omega) (by omega)) rfl ?_
 refine yU rfl rfl ?_
 refine tM rfl rfl ?_
 refine tri_v (opv_indexAddrA rfl rfl (by decide) (by decide)) rfl ?_
 refine yG rfl rfl rfl rfl rfl rfl ?_
 rintro _ _ _ ⟨rfl, rfl⟩
 refine tN (tri_inBlock (tT (tR ?_)))
 refine yU rfl rfl ?_
 refine tM rfl rfl (tN (tT (tri_round (tS (tR (yC rfl rfl (tN ?_)))))))
 refine tT (tS ?_)
 refine tri_cond_not rfl (by decide) ?_
 refine tri_exit ?_
 refine tri_then_exit (tri_then_exit ?_)
 refine tri_inBlock_hit rfl ?_
 refine tri_inBlock (tT (tR ?_))
 refine yU rfl rfl ?_
 refine tM rfl rfl (tN (tT (tri_round (tS (tR (yC rfl rfl (tN ?_)))))))
 refine tT (tS ?_)
 refine tri_cond_is rfl (by decide) ?_
 refine tri_skip (tT (tS (tri_block (tS (tR (tM rfl rfl ?_))))))
 refine tri_v (opv_index rfl rfl (by decide) (by decide) rfl rfl) rfl ?_
 refine tA rfl rfl (tA rfl rfl (tN (tT (tS (tR (yF rfl ?_))))))
 refine yL rfl rfl ?_
 refine tri_v (opv_nilCheck rfl) rfl ?_
 refine yF rfl (yF rfl ?_)
 refine yL rfl rfl ?_
 refine tM rfl rfl ?_
 refine tri_v (opv_indexAddrR rfl rfl (by omega) (by omega)) rfl ?_
 refine tri_v (opv_fieldAddrR rfl (by omega) rfl) rfl ?_
 refine tri_v (opv_loadRXA rfl rfl (by omega) rfl rfl rfl) rfl ?_
 refine tM rfl rfl (tN (tT (tri_block ?_)))
 refine tri_rounds 5 ?_
 refine tri_round (tS (tR (yC rfl rfl (tN (tT (tS ?_))))))
 refine tri_cond_is rfl (by decide) ?_
 refine tri_skip (tT (tS (tri_block (tS (tR (tM rfl rfl ?_))))))
 refine tri_v (opv_index rfl rfl (by decide) (by decide) rfl rfl) rfl ?_
 refine tA rfl rfl (tA rfl rfl (tN (tT (tR (tM rfl rfl ?_)))))
 refine tri_v (opv_quoE rfl rfl (by omega) (by omega) (by omega)) rfl ?_
 refine tri_v (opv_mul rfl rfl (w64 (by omega) (by omega))) rfl ?_
 refine tM rfl rfl ?_
 refine tri_v (opv_quoE rfl rfl (by omega) (by omega) (by omega)) rfl ?_
 refine yU rfl rfl ?_
 refine tri_v (opv_mul rfl rfl (w64 (by omega) (by omega))) rfl ?_
 refine tM rfl rfl ?_
 refine tri_v (opv_remE rfl rfl (by omega) (by omega)) rfl ?_
 refine tri_v (opv_mul rfl rfl (w64 (by omega) (by omega))) rfl ?_
 refine yU rfl rfl ?_
 refine tM rfl rfl ?_
 refine tri_v (opv_remE rfl rfl (by omega) (by omega)) rfl ?_
 refine yU rfl rfl ?_
 refine tM rfl rfl ?_
 refine tri_v (opv_indexAddrA rfl rfl (by decide) (by decide)) rfl ?_
 refine yG rfl rfl rfl rfl rfl rfl ?_
 rintro _ _ _ ⟨rfl, rfl⟩
 refine tN (tri_inBlock (tT (tR ?_)))
 refine yU rfl rfl ?_
 refine tM rfl rfl (tN (tT (tri_round (tS (tR (yC rfl rfl (tN ?_)))))))
 refine tT (tS ?_)
 skip
 refine tri_cond_is rfl (by decide) ?_
 refine tri_skip (tT (tS (tri_block (tS (tR (tM rfl rfl ?_))))))
 refine tri_v (opv_index rfl rfl (by decide) (by decide) rfl rfl) rfl ?_
 refine tA rfl rfl (tA rfl rfl (tN (tT (tR (tM rfl rfl ?_)))))
 refine tri_v (opv_quoE rfl rfl (by omega) (by omega) (by omega)) rfl ?_
 refine tri_v (opv_mul rfl rfl (w64 (by omega) (by omega))) rfl ?_
 refine tM rfl rfl ?_
 refine tri_v (opv_quoE rfl rfl (by omega) (by omega) (by omega)) rfl ?_
 refine yU rfl rfl ?_
 refine tri_v (opv_mul rfl rfl (w64 (by omega) (by omega))) rfl ?_
 refine tM rfl rfl ?_
 refine tri_v (opv_remE rfl rfl (by omega) (by omega)) rfl ?_
 refine tri_v (opv_mul rfl rfl (w64 (by omega) (by omega))) rfl ?_
 refine yU rfl rfl ?_
 refine tM rfl rfl ?_
 refine tri_v (opv_remE rfl rfl (by omega) (by omega)) rfl ?_
 refine yU rfl rfl ?_
 refine tM rfl rfl ?_
 refine tri_v (opv_indexAddrA rfl rfl (by decide) (by decide)) rfl ?_
 refine yG rfl rfl rfl rfl rfl rfl ?_
 rintro _ _ _ ⟨rfl, rfl⟩
 refine tN (tri_inBlock (tT (tR ?_)))
 refine yU rfl rfl ?_
 refine tM rfl rfl (tN (tT (tri_round (tS (tR (yC rfl rfl (tN ?_)))))))
 refine tT (tS ?_)
 skip
 refine tri_cond_is rfl (by decide) ?_
 refine tri_skip (tT (tS (tri_block (tS (tR (tM rfl rfl ?_))))))
 refine tri_v (opv_index rfl rfl (by decide) (by decide) rfl rfl) rfl ?_
 refine tA rfl rfl (tA rfl rfl (tN (tT (tR (tM rfl rfl ?_)))))
 refine tri_v (opv_quoE rfl rfl (by omega) (by omega) (by omega)) rfl ?_
 refine tri_v (opv_mul rfl rfl (w64 (by omega) (by omega))) rfl ?_
 refine tM rfl rfl ?_
 refine tri_v (opv_quoE rfl rfl (by omega) (by omega) (by omega)) rfl ?_
 refine yU rfl rfl ?_
 refine tri_v (opv_mul rfl rfl (w64 (by omega) (by omega))) rfl ?_
 refine tM rfl rfl ?_
 refine tri_v (opv_remE rfl rfl (by omega) (by omega)) rfl ?_
 refine tri_v (opv_mul rfl rfl (w64 (by omega) (by omega))) rfl ?_
 refine yU rfl rfl ?_
 refine tM rfl rfl ?_
 refine tri_v (opv_remE rfl rfl (by omega) (by omega)) rfl ?_
 refine yU rfl rfl ?_
 refine tM rfl rfl ?_
 refine tri_v (opv_indexAddrA rfl rfl (by decide) (by decide)) rfl ?_
 refine yG rfl rfl rfl rfl rfl rfl ?_
 rintro _ _ _ ⟨rfl, rfl⟩
 refine tN (tri_inBlock (tT (tR ?_)))
 refine yU rfl rfl ?_
 refine tM rfl rfl (tN (tT (tri_round (tS (tR (yC rfl rfl (tN ?_)))))))
 refine tT (tS ?_)
 skip
 refine tri_cond_is rfl (by decide) ?_
 refine tri_skip (tT (tS (tri_block (tS (tR (tM rfl rfl ?_))))))
 refine tri_v (opv_index rfl rfl (by decide) (by decide) rfl rfl) rfl ?_
 refine tA rfl rfl (tA rfl rfl (tN (tT (tR (tM rfl rfl ?_)))))
 refine tri_v (opv_quoE rfl rfl (by omega) (by omega) (by omega)) rfl ?_
 refine tri_v (opv_mul rfl rfl (w64 (by omega) (by omega))) rfl ?_
 refine tM rfl rfl ?_
 refine tri_v (opv_quoE rfl rfl (by omega) (by omega) (by omega)) rfl ?_
 refine yU rfl rfl ?_
 refine tri_v (opv_mul rfl rfl (w64 (by omega) (by omega))) rfl ?_
 refine tM rfl rfl ?_
 refine tri_v (opv_remE rfl rfl (by omega) (by omega)) rfl ?_
 refine tri_v (opv_mul rfl rfl (w64 (by omega) (by omega))) rfl ?_
 refine yU rfl rfl ?_
 refine tM rfl rfl ?_
 refine tri_v (opv_remE rfl rfl (by omega) (by omega)) rfl ?_
 refine yU rfl rfl ?_
 refine tM rfl rfl ?_
 refine tri_v (opv_indexAddrA rfl rfl (by decide) (by decide)) rfl ?_
 refine yG rfl rfl rfl rfl rfl rfl ?_
 rintro _ _ _ ⟨rfl, rfl⟩
 refine tN (tri_inBlock (tT (tR ?_)))
 refine yU rfl rfl ?_
 refine tM rfl rfl (tN (tT (tri_round (tS (tR (yC rfl rfl (tN ?_)))))))
 refine tT (tS ?_)
 refine tri_cond_not rfl (by decide) ?_
 refine tri_exit ?_
 refine tri_then_exit (tri_then_exit ?_)
 refine tri_inBlock_hit rfl ?_
 refine tri_inBlock (tT (tR ?_))
 refine yU rfl rfl ?_
 refine tM rfl rfl (tN (tT (tri_round (tS (tR (yC rfl rfl (tN ?_)))))))
 refine tT (tS ?_)
 refine tri_cond_is rfl (by decide) ?_
 refine tri_skip (tT (tS (tri_block (tS (tR (tM rfl rfl ?_))))))
 refine tri_v (opv_index rfl rfl (by decide) (by decide) rfl rfl) rfl ?_
 refine tA rfl rfl (tA rfl rfl (tN (tT (tS (tR (yF rfl ?_))))))
 refine yL rfl rfl ?_
 refine tri_v (opv_nilCheck rfl) rfl ?_
 refine yF rfl (yF rfl ?_)
 refine yL rfl rfl ?_
 refine tM rfl rfl ?_
 refine tri_v (opv_indexAddrR rfl rfl (by omega) (by omega)) rfl ?_
 refine tri_v (opv_fieldAddrR rfl (by omega) rfl) rfl ?_
 refine tri_v (opv_loadRXA rfl rfl (by omega) rfl rfl rfl) rfl ?_
 refine tM rfl rfl (tN (tT (tri_block ?_)))
 refine tri_rounds 5 ?_
 refine tri_round (tS (tR (yC rfl rfl (tN (tT (tS ?_))))))
 refine tri_cond_is rfl (by decide) ?_
 refine tri_skip (tT (tS (tri_block (tS (tR (tM rfl rfl ?_))))))
 refine tri_v (opv_index rfl rfl (by decide) (by decide) rfl rfl) rfl ?_
 refine tA rfl rfl (tA rfl rfl (tN (tT (tR (tM rfl rfl ?_)))))
 refine tri_v (opv_quoE rfl rfl (by omega) (by omega) (by omega)) rfl ?_
 refine tri_v (opv_mul rfl rfl (w64 (by omega) (by omega))) rfl ?_
 refine tM rfl rfl ?_
 refine tri_v (opv_quoE rfl rfl (by omega) (by omega) (by omega)) rfl ?_
 refine yU rfl rfl ?_
 refine tri_v (opv_mul rfl rfl (w64 (by omega) (by omega))) rfl ?_
 refine tM rfl rfl ?_
 refine tri_v (opv_remE rfl rfl (by omega) (by omega)) rfl ?_
 refine tri_v (opv_mul rfl rfl (w64 (by omega) (by omega))) rfl ?_
 refine yU rfl rfl ?_
 refine tM rfl rfl ?_
 refine tri_v (opv_remE rfl rfl (by omega) (by omega)) rfl ?_
 refine yU rfl rfl ?_
 refine tM rfl rfl ?_
 refine tri_v (opv_indexAddrA rfl rfl (by decide) (by decide)) rfl ?_
 refine yG rfl rfl rfl rfl rfl rfl ?_
 rintro _ _ _ ⟨rfl, rfl⟩
 refine tN (tri_inBlock (tT (tR ?_)))
 refine yU rfl rfl ?_
 refine tM rfl rfl (tN (tT (tri_round (tS (tR (yC rfl rfl (tN ?_)))))))
 refine tT (tS ?_)
 skip
 refine tri_cond_is rfl (by decide) ?_
 refine tri_skip (tT (tS (tri_block (tS (tR (tM rfl rfl ?_))))))
 refine tri_v (opv_index rfl rfl (by decide) (by decide) rfl rfl) rfl ?_
 refine tA rfl rfl (tA rfl rfl (tN (tT (tR (tM rfl rfl ?_)))))
 refine tri_v (opv_quoE rfl rfl (by omega) (by omega) (by omega)) rfl ?_
 refine tri_v (opv_mul rfl rfl (w64 (by omega) (by omega))) rfl ?_
 refine tM rfl rfl ?_
 refine tri_v (opv_quoE rfl rfl (by omega) (by omega) (by omega)) rfl ?_
 refine yU rfl rfl ?_
 refine tri_v (opv_mul rfl rfl (w64 (by omega) (by omega))) rfl ?_
 refine tM rfl rfl ?_
 refine tri_v (opv_remE rfl rfl (by omega) (by omega)) rfl ?_
 refine tri_v (opv_mul rfl rfl (w64 (by omega) (by omega))) rfl ?_
 refine yU rfl rfl ?_
 refine tM rfl rfl ?_
 refine tri_v (opv_remE rfl rfl (by omega) (by omega)) rfl ?_
 refine yU rfl rfl ?_
 refine tM rfl rfl ?_
 refine tri_v (opv_indexAddrA rfl rfl (by decide) (by decide)) rfl ?_
 refine yG rfl rfl rfl rfl rfl rfl ?_
 rintro _ _ _ ⟨rfl, rfl⟩
 refine tN (tri_inBlock (tT (tR ?_)))
 refine yU rfl rfl ?_
 refine tM rfl rfl (tN (tT (tri_round (tS (tR (yC rfl rfl (tN ?_)))))))
 refine tT (tS ?_)
 skip
 refine tri_cond_is rfl (by decide) ?_
 refine tri_skip (tT (tS (tri_block (tS (tR (tM rfl rfl ?_))))))
 refine tri_v (opv_index rfl rfl (by decide) (by decide) rfl rfl) rfl ?_
 refine tA rfl rfl (tA rfl rfl (tN (tT (tR (tM rfl rfl ?_)))))
 refine tri_v (opv_quoE rfl rfl (by omega) (by omega) (by omega)) rfl ?_
 refine tri_v (opv_mul rfl rfl (w64 (by omega) (by omega))) rfl ?_
 refine tM rfl rfl ?_
 refine tri_v (opv_quoE rfl rfl (by omega) (by omega) (by omega)) rfl ?_
 refine yU rfl rfl ?_
 refine tri_v (opv_mul rfl rfl (w64 (by omega) (by omega))) rfl ?_
 refine tM rfl rfl ?_
 refine tri_v (opv_remE rfl rfl (by omega) (by omega)) rfl ?_
 refine tri_v (opv_mul rfl rfl (w64 (by omega) (by omega))) rfl ?_
 refine yU rfl rfl ?_
 refine tM rfl rfl ?_
 refine tri_v (opv_remE rfl rfl (by omega) (by omega)) rfl ?_
 refine yU rfl rfl ?_
 refine tM rfl rfl ?_
 refine tri_v (opv_indexAddrA rfl rfl (by decide) (by decide)) rfl ?_
 refine yG rfl rfl rfl rfl rfl rfl ?_
 rintro _ _ _ ⟨rfl, rfl⟩
 refine tN (tri_inBlock (tT (tR ?_)))
 refine yU rfl rfl ?_
 refine tM rfl rfl (tN (tT (tri_round (tS (tR (yC rfl rfl (tN ?_)))))))
 refine tT (tS ?_)
 skip
 refine tri_cond_is rfl (by decide) ?_
 refine tri_skip (tT (tS (tri_block (tS (tR (tM rfl rfl ?_))))))
 refine tri_v (opv_index rfl rfl (by decide) (by decide) rfl rfl) rfl ?_
 refine tA rfl rfl (tA rfl rfl (tN (tT (tR (tM rfl rfl ?_)))))
 refine tri_v (opv_quoE rfl rfl (by omega) (by omega) (by omega)) rfl ?_
 refine tri_v (opv_mul rfl rfl (w64 (by omega) (by omega))) rfl ?_
 refine tM rfl rfl ?_
 refine tri_v (opv_quoE rfl rfl (by omega) (by omega) (by omega)) rfl ?_
 refine yU rfl rfl ?_
 refine tri_v (opv_mul rfl rfl (w64 (by omega) (by omega))) rfl ?_
 refine tM rfl rfl ?_
 refine tri_v (opv_remE rfl rfl (by omega) (by omega)) rfl ?_
 refine tri_v (opv_mul rfl rfl (w64 (by omega) (by omega))) rfl ?_
 refine yU rfl rfl ?_
 refine tM rfl rfl ?_
 refine tri_v (opv_remE rfl rfl (by omega) (by omega)) rfl ?_
 refine yU rfl rfl ?_
 refine tM rfl rfl ?_
 refine tri_v (opv_indexAddrA rfl rfl (by decide) (by decide)) rfl ?_
 refine yG rfl rfl rfl rfl rfl rfl ?_
 rintro _ _ _ ⟨rfl, rfl⟩
 refine tN (tri_inBlock (tT (tR ?_)))
 refine yU rfl rfl ?_
 refine tM rfl rfl (tN (tT (tri_round (tS (tR (yC rfl rfl (tN ?_)))))))
 refine tT (tS ?_)
 refine tri_cond_not rfl (by decide) ?_
 refine tri_exit ?_
 refine tri_then_exit (tri_then_exit ?_)
 refine tri_inBlock_hit rfl ?_
 refine tri_inBlock (tT (tR ?_))
 refine yU rfl rfl ?_
 refine tM rfl rfl (tN (tT (tri_round (tS (tR (yC rfl rfl (tN ?_)))))))
 refine tT (tS ?_)
 refine tri_cond_not rfl (by decide) ?_
 refine tri_exit ?_
 refine tri_then_exit (tri_then_exit ?_)
 refine tri_inBlock_hit rfl ?_
 refine tT (tS (tR ?_))
 refine yB rfl rfl ?_
 refine yG rfl rfl rfl rfl rfl rfl ?_
 rintro _ _ _ ⟨rfl, rfl⟩
 refine tN (tT (tri_ret ?_))
 refine tri_end _ (⟨[_, _], rfl⟩) rfl (.cons (rv_cellA rfl rfl rfl) .nil) ⟨rfl, rfl, rfl⟩
end Go.GL


namespace Go.GL
open Go.Proofs
attribute [local irreducible] wpList Code.wp Exit.then Exit.inBlock Ends Tri TriH OpV OpG FnC epf wpAnyH
variable {A : List Asrt} {I : List Chunk}
/-- What a function on an index tells and leaves behind. -/
def IxR (bx mb : Nat) (r : List Node × Int × Int) (room : Int) (A : List Asrt) (I : List Chunk) : Value → List Asrt → List Chunk → Prop :=
 fun v A' I' => ∃ a' cap' es', v = .tuple [.int .i64 r.2.1, .int .i64 r.2.2].toArray ∧ A' = IxA bx mb a' cap' r.1 room es' A ∧ Idx r.1 es' ∧ I = I'
theorem node_putR {A : List Asrt} {I : List Chunk} {ns : List Node} {a : Option Addr} {cap bx mb : Nat} {room q0 q1 q2 q3 : Int} {es : KVs} {r : List Node × Int × Int} (hg : R6.Good ns room) (h2 : 2 ≤ ns.length) (hi : Idx ns es) (hr : R6.put ns room q0 q1 q2 q3 = r) :
  FnC Try.prog 88 [pt bx 0, int4V q0 q1 q2 q3].toArray (IxA bx mb a cap ns room es A) I (IxR bx mb r room A I) := by
 subst hr
 exact node_put hg h2 hi
theorem R6.put_len {ns : List Node} {room q0 q1 q2 q3 : Int} (h : 2 ≤ ns.length) : 2 ≤ (R6.put ns room q0 q1 q2 q3).1.length := by
 unfold R6.put
 split
 ·split
  ·exact h
  ·split
   ·exact h
   ·simp only [List.length_append]; omega
 ·exact h
end Go.GL


namespace Go.GL
open Go.Proofs
attribute [local irreducible] wpList Code.wp Exit.then Exit.inBlock Ends Tri TriH OpV OpG FnC epf wpAnyH
variable {A : List Asrt} {I : List Chunk}
set_option maxRecDepth 100000 in
theorem maker_centre {ns : List Node} {a : Option Addr} {cap bx mb : Nat} {room n : Int} {es : KVs} (hg : R6.Good ns room) (h2 : 2 ≤ ns.length) (hi : Idx ns es) (hk : R8.Kid ns n) :
  FnC Try.prog 87 [.agg [pt bx 0].toArray, .int .i64 n].toArray (IxA bx mb a cap ns room es A) I (IxR bx mb (R8.putSq ns room (R8.s16 ns n) 1 1) room A I) := by
 skip
 refine fn_enter2 Try.func87 rfl Try.ntmps87 rfl fun w0 => ?_
 refine tS (tR ?_)
 refine tri_g (opg_box_agg rfl) rfl ?_
 rintro _ _ _ ⟨b2, rfl, rfl, rfl⟩
 refine tA rfl rfl (tA rfl rfl (tN (tT (tS ?_))))
 refine tri_perm (A := ?a1_0 :: ?a1_1 :: ?a1_2 :: ?a1_3 :: ?T1) (B := ?a1_1 :: ?a1_2 :: ?a1_3 :: ?a1_0 :: ?T1) (by exact permL [1, 2, 3, 0] [?a1_0, ?a1_1, ?a1_2, ?a1_3] ?T1 (by decide) rfl) ?_
 skip
 refine tri_draw [0, 1, 2, 3, 4, 5, 6, 7, 8, 9, 10] rfl [_, _, _] rfl mixed ?_
 refine yf rfl rfl ?_
 refine yl rfl rfl rfl ?_
 refine th_take rfl rfl (by kernel_rfl)  (opv_loadA rfl rfl rfl) ?_
 refine yM rfl rfl ?_
 refine th_one (by kernel_rfl) (step_m rfl rfl (opg_call (xs := [_, _]) rfl (base_sixteen hk)) ?_)
 rintro _ _ _ ⟨rfl, rfl, rfl⟩
 refine ⟨Suf.h, (fun _ h => h), ?_⟩
 skip
 refine th_one (by kernel_rfl) (step_m rfl rfl (opg_call (xs := [_, _, _]) rfl (base_square (R8.s16_len ns n) (by omega) (by omega) (by omega) (by omega))) ?_)
 rintro _ _ _ ⟨rfl, rfl, rfl⟩
 refine ⟨Suf.h, (fun _ h => h), ?_⟩
 skip
 refine th_one (by kernel_rfl) (step_m rfl rfl (opg_call (xs := [_, _]) rfl (node_putR (r := R8.putSq ns room (R8.s16 ns n) 1 1) hg h2 hi rfl)) ?_)
 rintro _ _ _ ⟨a1, c1, es1, rfl, rfl, hi1, rfl⟩
 refine ⟨Suf.h, (fun _ h => h), ?_⟩
 refine yE rfl rfl rfl (yE rfl rfl rfl (yA rfl rfl (yA rfl rfl (yD (tT (tri_ret ?_))))))
 refine tri_perm (A := ?a2_0 :: ?a2_1 :: ?a2_2 :: ?a2_3 :: ?T2) (B := ?a2_3 :: ?a2_0 :: ?a2_1 :: ?a2_2 :: ?T2) (by exact permL [3, 0, 1, 2] [?a2_0, ?a2_1, ?a2_2, ?a2_3] ?T2 (by decide) rfl) ?_
 refine tri_end (IxA bx mb a1 c1 (R8.putSq ns room (R8.s16 ns n) 1 1).1 room es1 A) Suf.h rfl (.cons (rv_tmp rfl) (.cons (rv_tmp rfl) .nil)) ⟨a1, c1, es1, rfl, rfl, hi1, rfl⟩
theorem R8.ar_eq (l : List Int) : R8.ar l 5 = R8.about l 1 1 9 ∧ R8.ar l 6 = R8.about l 1 2 9 ∧ R8.ar l 9 = R8.about l 2 1 9 ∧ R8.ar l 10 = R8.about l 2 2 9 := by
 refine ⟨?_, ?_, ?_, ?_⟩ <;> simp [R8.about, R8.ar] <;> omega
theorem R8.bit_ar (l : List Int) : R8.bit l 1 1 = (if R2.lives (decide (R8.g l 5 = 1)) (R8.ar l 5) = true then 1 else 0) ∧ R8.bit l 1 2 = (if R2.lives (decide (R8.g l 6 = 1)) (R8.ar l 6) = true then 1 else 0) ∧ R8.bit l 2 1 = (if R2.lives (decide (R8.g l 9 = 1)) (R8.ar l 9) = true then 1 else 0) ∧ R8.bit l 2 2 = (if R2.lives (decide (R8.g l 10 = 1)) (R8.ar l 10) = true then 1 else 0) := by
 obtain ⟨h1, h2, h3, h4⟩ := R8.ar_eq l
 rw [h1, h2, h3, h4]
 exact ⟨rfl, rfl, rfl, rfl⟩
set_option maxHeartbeats 2000000 in
set_option maxRecDepth 100000 in
theorem maker_step {ns : List Node} {a : Option Addr} {cap bx mb : Nat} {room n : Int} {es : KVs} (hg : R6.Good ns room) (h2 : 2 ≤ ns.length) (hi : Idx ns es) (hk : R8.Kid ns n) (hb : ∀ i, 0 ≤ R8.g (R8.s16 ns n) i ∧ R8.g (R8.s16 ns n) i ≤ 1) :
  FnC Try.prog 83 [.agg [pt bx 0].toArray, .int .i64 n].toArray (IxA bx mb a cap ns room es A) I (IxR bx mb (R8.one ns room n) room A I) := by
 have hlen := R8.s16_len ns n
 obtain ⟨hb0, hb1, hb2, hb3⟩ := R8.bit_ar (R8.s16 ns n)
 skip
 refine fn_enter2 Try.func83 rfl Try.ntmps83 rfl fun w0 => ?_
 refine tS (tR ?_)
 refine tri_g (opg_box_agg rfl) rfl ?_
 rintro _ _ _ ⟨b2, rfl, rfl, rfl⟩
 refine tA rfl rfl (tA rfl rfl (tN (tT (tS ?_))))
 refine tri_perm (A := ?a3_0 :: ?a3_1 :: ?a3_2 :: ?T3) (B := ?a3_1 :: ?a3_2 :: ?a3_0 :: ?T3) (by exact permL [1, 2, 0] [?a3_0, ?a3_1, ?a3_2] ?T3 (by decide) rfl) ?_
 refine tR ?_
 refine yB rfl rfl ?_
 refine tM rfl rfl ?_
 refine tri_g (opg_call (xs := [_, _]) rfl (base_sixteen hk)) rfl ?_
 rintro _ _ _ ⟨rfl, rfl, rfl⟩
 refine tri_g opg_alloc rfl ?_
 rintro _ _ _ ⟨b6, rfl, rfl, rfl⟩
 refine yG rfl rfl rfl rfl rfl rfl ?_
 rintro _ _ _ ⟨rfl, rfl⟩
 refine tN (tT (tS (tR ?_)))
 refine tri_g opg_alloc rfl ?_
 rintro _ _ _ ⟨b7, rfl, rfl, rfl⟩
 refine tN (tT (tS (tS (tR (tM rfl rfl (tN (tT ?_)))))))
 refine tri_block ?_
 refine tri_rounds 5 ?_
 refine tri_round (tS (tR (yC rfl rfl (tN (tT (tS ?_))))))
 refine tri_cond_is rfl (by decide) ?_
 refine tri_skip (tT (tS (tri_block (tS (tR (tM rfl rfl (tA rfl rfl ?_)))))))
 refine tN (tT (tS (tR (tM rfl rfl ?_))))
 refine tri_v (opv_quoE rfl rfl (by omega) (by omega) (by omega)) rfl ?_
 refine yU rfl rfl ?_
 refine tri_v (opv_mul rfl rfl (w64 (by omega) (by omega))) rfl ?_
 refine yU rfl rfl ?_
 refine tM rfl rfl ?_
 refine tri_v (opv_remE rfl rfl (by omega) (by omega)) rfl ?_
 refine yU rfl rfl ?_
 refine tA rfl rfl (tN (tT (tS ?_)))
 refine tri_draw [0, 1, 2, 3, 4, 5, 6, 7] rfl [] rfl mixed ?_
 refine yM rfl rfl ?_
 refine th_take rfl rfl (by kernel_rfl)  (opv_indexAddrA rfl rfl (by decide) (by decide)) ?_
 refine yl rfl rfl rfl ?_
 refine th_take rfl rfl (by kernel_rfl)  (opv_eql rfl rfl) ?_
 refine th_take rfl rfl (by kernel_rfl)  (opv_loadA rfl rfl rfl) ?_
 refine yM rfl rfl ?_
 refine th_one (by kernel_rfl) (step_m rfl rfl (opg_call (xs := [_, _]) rfl (base_around (i := 5) hlen hb (by omega) (by omega))) ?_)
 rintro _ _ _ ⟨rfl, rfl, rfl⟩
 refine ⟨Suf.h, (fun _ h => h), ?_⟩
 skip
 refine th_one (by kernel_rfl) (step_m rfl rfl (opg_call (xs := [_, _]) rfl (life_lives)) ?_)
 rintro _ _ _ ⟨rfl, rfl, rfl⟩
 refine ⟨Suf.h, (fun _ h => h), ?_⟩
 refine yD (tT ?_)
 refine tri_cut (fun F' A' J => F' = [(1, .int .i64 n), (2, pt b2 0), (6, pt b6 0), (7, pt b7 0), (8, .int .i64 0), (13, .int .i64 0)] ∧ A' = Box b7 [.int .i64 (R8.bit (R8.s16 ns n) 1 1), .int .i64 (0), .int .i64 (0), .int .i64 (0)] 41 :: Box b6 (ints (R8.s16 ns n)) 158 :: Box bx [.slice a ns.length cap, .int .i64 room, .map (some mb)] 87 :: Row a cap ns.length 43 6 (encs ns) :: Box b2 [pt bx 0] 68 :: MapA Try.prog 41 mb es :: A ∧ I = J) ?_ ?_
 ·refine tri_cond rfl (fun hv => ?_) (fun hv => ?_)
  ·refine tR (tM rfl rfl ?_)
   refine tri_v (opv_indexAddrA rfl rfl (by decide) (by decide)) rfl ?_
   refine yG rfl rfl rfl rfl rfl rfl ?_
   rintro _ _ _ ⟨rfl, rfl⟩
   refine tN ?_
   have hv' : R2.lives (decide (R8.g (R8.s16 ns n) 5 = 1)) (R8.ar (R8.s16 ns n) 5) = true := hv
   exact tri_cutEnd _ ⟨rfl, by rw [hb0, if_pos hv'] <;> rfl, rfl⟩ ⟨rfl, rfl, rfl, rfl, rfl, rfl, trivial⟩
  ·refine tri_skip ?_
   have hv' : ¬ R2.lives (decide (R8.g (R8.s16 ns n) 5 = 1)) (R8.ar (R8.s16 ns n) 5) = true := fun h => Bool.false_ne_true (hv.symm.trans h)
   exact tri_cutEnd _ ⟨rfl, by rw [hb0, if_neg hv'] <;> rfl, rfl⟩ ⟨rfl, rfl, rfl, rfl, rfl, rfl, trivial⟩
 rintro _ _ _ ⟨rfl, rfl, rfl⟩
 skip
 refine tri_inBlock (tT (tR ?_))
 refine yU rfl rfl ?_
 refine tM rfl rfl (tN (tT (tri_round (tS (tR (yC rfl rfl (tN ?_)))))))
 refine tT (tS ?_)
 skip
 refine tri_cond_is rfl (by decide) ?_
 refine tri_skip (tT (tS (tri_block (tS (tR (tM rfl rfl (tA rfl rfl ?_)))))))
 refine tN (tT (tS (tR (tM rfl rfl ?_))))
 refine tri_v (opv_quoE rfl rfl (by omega) (by omega) (by omega)) rfl ?_
 refine yU rfl rfl ?_
 refine tri_v (opv_mul rfl rfl (w64 (by omega) (by omega))) rfl ?_
 refine yU rfl rfl ?_
 refine tM rfl rfl ?_
 refine tri_v (opv_remE rfl rfl (by omega) (by omega)) rfl ?_
 refine yU rfl rfl ?_
 refine tA rfl rfl (tN (tT (tS ?_)))
 refine tri_draw [0, 1, 2, 3, 4, 5, 6, 7] rfl [] rfl mixed ?_
 refine yM rfl rfl ?_
 refine th_take rfl rfl (by kernel_rfl)  (opv_indexAddrA rfl rfl (by decide) (by decide)) ?_
 refine yl rfl rfl rfl ?_
 refine th_take rfl rfl (by kernel_rfl)  (opv_eql rfl rfl) ?_
 refine th_take rfl rfl (by kernel_rfl)  (opv_loadA rfl rfl rfl) ?_
 refine yM rfl rfl ?_
 refine th_one (by kernel_rfl) (step_m rfl rfl (opg_call (xs := [_, _]) rfl (base_around (i := 6) hlen hb (by omega) (by omega))) ?_)
 rintro _ _ _ ⟨rfl, rfl, rfl⟩
 refine ⟨Suf.h, (fun _ h => h), ?_⟩
 skip
 refine th_one (by kernel_rfl) (step_m rfl rfl (opg_call (xs := [_, _]) rfl (life_lives)) ?_)
 rintro _ _ _ ⟨rfl, rfl, rfl⟩
 refine ⟨Suf.h, (fun _ h => h), ?_⟩
 refine yD (tT ?_)
 refine tri_cut (fun F' A' J => F' = [(1, .int .i64 n), (2, pt b2 0), (6, pt b6 0), (7, pt b7 0), (8, .int .i64 1), (13, .int .i64 1)] ∧ A' = Box b7 [.int .i64 (R8.bit (R8.s16 ns n) 1 1), .int .i64 (R8.bit (R8.s16 ns n) 1 2), .int .i64 (0), .int .i64 (0)] 41 :: Box b6 (ints (R8.s16 ns n)) 158 :: Box bx [.slice a ns.length cap, .int .i64 room, .map (some mb)] 87 :: Row a cap ns.length 43 6 (encs ns) :: Box b2 [pt bx 0] 68 :: MapA Try.prog 41 mb es :: A ∧ I = J) ?_ ?_
 ·refine tri_cond rfl (fun hv => ?_) (fun hv => ?_)
  ·refine tR (tM rfl rfl ?_)
   refine tri_v (opv_indexAddrA rfl rfl (by decide) (by decide)) rfl ?_
   refine yG rfl rfl rfl rfl rfl rfl ?_
   rintro _ _ _ ⟨rfl, rfl⟩
   refine tN ?_
   have hv' : R2.lives (decide (R8.g (R8.s16 ns n) 6 = 1)) (R8.ar (R8.s16 ns n) 6) = true := hv
   exact tri_cutEnd _ ⟨rfl, by rw [hb1, if_pos hv'] <;> rfl, rfl⟩ ⟨rfl, rfl, rfl, rfl, rfl, rfl, trivial⟩
  ·refine tri_skip ?_
   have hv' : ¬ R2.lives (decide (R8.g (R8.s16 ns n) 6 = 1)) (R8.ar (R8.s16 ns n) 6) = true := fun h => Bool.false_ne_true (hv.symm.trans h)
   exact tri_cutEnd _ ⟨rfl, by rw [hb1, if_neg hv'] <;> rfl, rfl⟩ ⟨rfl, rfl, rfl, rfl, rfl, rfl, trivial⟩
 rintro _ _ _ ⟨rfl, rfl, rfl⟩
 skip
 refine tri_inBlock (tT (tR ?_))
 refine yU rfl rfl ?_
 refine tM rfl rfl (tN (tT (tri_round (tS (tR (yC rfl rfl (tN ?_)))))))
 refine tT (tS ?_)
 skip
 refine tri_cond_is rfl (by decide) ?_
 refine tri_skip (tT (tS (tri_block (tS (tR (tM rfl rfl (tA rfl rfl ?_)))))))
 refine tN (tT (tS (tR (tM rfl rfl ?_))))
 refine tri_v (opv_quoE rfl rfl (by omega) (by omega) (by omega)) rfl ?_
 refine yU rfl rfl ?_
 refine tri_v (opv_mul rfl rfl (w64 (by omega) (by omega))) rfl ?_
 refine yU rfl rfl ?_
 refine tM rfl rfl ?_
 refine tri_v (opv_remE rfl rfl (by omega) (by omega)) rfl ?_
 refine yU rfl rfl ?_
 refine tA rfl rfl (tN (tT (tS ?_)))
 refine tri_draw [0, 1, 2, 3, 4, 5, 6, 7] rfl [] rfl mixed ?_
 refine yM rfl rfl ?_
 refine th_take rfl rfl (by kernel_rfl)  (opv_indexAddrA rfl rfl (by decide) (by decide)) ?_
 refine yl rfl rfl rfl ?_
 refine th_take rfl rfl (by kernel_rfl)  (opv_eql rfl rfl) ?_
 refine th_take rfl rfl (by kernel_rfl)  (opv_loadA rfl rfl rfl) ?_
 refine yM rfl rfl ?_
 refine th_one (by kernel_rfl) (step_m rfl rfl (opg_call (xs := [_, _]) rfl (base_around (i := 9) hlen hb (by omega) (by omega))) ?_)
 rintro _ _ _ ⟨rfl, rfl, rfl⟩
 refine ⟨Suf.h, (fun _ h => h), ?_⟩
 skip
 refine th_one (by kernel_rfl) (step_m rfl rfl (opg_call (xs := [_, _]) rfl (life_lives)) ?_)
 rintro _ _ _ ⟨rfl, rfl, rfl⟩
 refine ⟨Suf.h, (fun _ h => h), ?_⟩
 refine yD (tT ?_)
 refine tri_cut (fun F' A' J => F' = [(1, .int .i64 n), (2, pt b2 0), (6, pt b6 0), (7, pt b7 0), (8, .int .i64 2), (13, .int .i64 2)] ∧ A' = Box b7 [.int .i64 (R8.bit (R8.s16 ns n) 1 1), .int .i64 (R8.bit (R8.s16 ns n) 1 2), .int .i64 (R8.bit (R8.s16 ns n) 2 1), .int .i64 (0)] 41 :: Box b6 (ints (R8.s16 ns n)) 158 :: Box bx [.slice a ns.length cap, .int .i64 room, .map (some mb)] 87 :: Row a cap ns.length 43 6 (encs ns) :: Box b2 [pt bx 0] 68 :: MapA Try.prog 41 mb es :: A ∧ I = J) ?_ ?_
 ·refine tri_cond rfl (fun hv => ?_) (fun hv => ?_)
  ·refine tR (tM rfl rfl ?_)
   refine tri_v (opv_indexAddrA rfl rfl (by decide) (by decide)) rfl ?_
   refine yG rfl rfl rfl rfl rfl rfl ?_
   rintro _ _ _ ⟨rfl, rfl⟩
   refine tN ?_
   have hv' : R2.lives (decide (R8.g (R8.s16 ns n) 9 = 1)) (R8.ar (R8.s16 ns n) 9) = true := hv
   exact tri_cutEnd _ ⟨rfl, by rw [hb2, if_pos hv'] <;> rfl, rfl⟩ ⟨rfl, rfl, rfl, rfl, rfl, rfl, trivial⟩
  ·refine tri_skip ?_
   have hv' : ¬ R2.lives (decide (R8.g (R8.s16 ns n) 9 = 1)) (R8.ar (R8.s16 ns n) 9) = true := fun h => Bool.false_ne_true (hv.symm.trans h)
   exact tri_cutEnd _ ⟨rfl, by rw [hb2, if_neg hv'] <;> rfl, rfl⟩ ⟨rfl, rfl, rfl, rfl, rfl, rfl, trivial⟩
 rintro _ _ _ ⟨rfl, rfl, rfl⟩
 skip
 refine tri_inBlock (tT (tR ?_))
 refine yU rfl rfl ?_
 refine tM rfl rfl (tN (tT (tri_round (tS (tR (yC rfl rfl (tN ?_)))))))
 refine tT (tS ?_)
 skip
 refine tri_cond_is rfl (by decide) ?_
 refine tri_skip (tT (tS (tri_block (tS (tR (tM rfl rfl (tA rfl rfl ?_)))))))
 refine tN (tT (tS (tR (tM rfl rfl ?_))))
 refine tri_v (opv_quoE rfl rfl (by omega) (by omega) (by omega)) rfl ?_
 refine yU rfl rfl ?_
 refine tri_v (opv_mul rfl rfl (w64 (by omega) (by omega))) rfl ?_
 refine yU rfl rfl ?_
 refine tM rfl rfl ?_
 refine tri_v (opv_remE rfl rfl (by omega) (by omega)) rfl ?_
 refine yU rfl rfl ?_
 refine tA rfl rfl (tN (tT (tS ?_)))
 refine tri_draw [0, 1, 2, 3, 4, 5, 6, 7] rfl [] rfl mixed ?_
 refine yM rfl rfl ?_
 refine th_take rfl rfl (by kernel_rfl)  (opv_indexAddrA rfl rfl (by decide) (by decide)) ?_
 refine yl rfl rfl rfl ?_
 refine th_take rfl rfl (by kernel_rfl)  (opv_eql rfl rfl) ?_
 refine th_take rfl rfl (by kernel_rfl)  (opv_loadA rfl rfl rfl) ?_
 refine yM rfl rfl ?_
 refine th_one (by kernel_rfl) (step_m rfl rfl (opg_call (xs := [_, _]) rfl (base_around (i := 10) hlen hb (by omega) (by omega))) ?_)
 rintro _ _ _ ⟨rfl, rfl, rfl⟩
 refine ⟨Suf.h, (fun _ h => h), ?_⟩
 skip
 refine th_one (by kernel_rfl) (step_m rfl rfl (opg_call (xs := [_, _]) rfl (life_lives)) ?_)
 rintro _ _ _ ⟨rfl, rfl, rfl⟩
 refine ⟨Suf.h, (fun _ h => h), ?_⟩
 refine yD (tT ?_)
 refine tri_cut (fun F' A' J => F' = [(1, .int .i64 n), (2, pt b2 0), (6, pt b6 0), (7, pt b7 0), (8, .int .i64 3), (13, .int .i64 3)] ∧ A' = Box b7 [.int .i64 (R8.bit (R8.s16 ns n) 1 1), .int .i64 (R8.bit (R8.s16 ns n) 1 2), .int .i64 (R8.bit (R8.s16 ns n) 2 1), .int .i64 (R8.bit (R8.s16 ns n) 2 2)] 41 :: Box b6 (ints (R8.s16 ns n)) 158 :: Box bx [.slice a ns.length cap, .int .i64 room, .map (some mb)] 87 :: Row a cap ns.length 43 6 (encs ns) :: Box b2 [pt bx 0] 68 :: MapA Try.prog 41 mb es :: A ∧ I = J) ?_ ?_
 ·refine tri_cond rfl (fun hv => ?_) (fun hv => ?_)
  ·refine tR (tM rfl rfl ?_)
   refine tri_v (opv_indexAddrA rfl rfl (by decide) (by decide)) rfl ?_
   refine yG rfl rfl rfl rfl rfl rfl ?_
   rintro _ _ _ ⟨rfl, rfl⟩
   refine tN ?_
   have hv' : R2.lives (decide (R8.g (R8.s16 ns n) 10 = 1)) (R8.ar (R8.s16 ns n) 10) = true := hv
   exact tri_cutEnd _ ⟨rfl, by rw [hb3, if_pos hv'] <;> rfl, rfl⟩ ⟨rfl, rfl, rfl, rfl, rfl, rfl, trivial⟩
  ·refine tri_skip ?_
   have hv' : ¬ R2.lives (decide (R8.g (R8.s16 ns n) 10 = 1)) (R8.ar (R8.s16 ns n) 10) = true := fun h => Bool.false_ne_true (hv.symm.trans h)
   exact tri_cutEnd _ ⟨rfl, by rw [hb3, if_neg hv'] <;> rfl, rfl⟩ ⟨rfl, rfl, rfl, rfl, rfl, rfl, trivial⟩
 rintro _ _ _ ⟨rfl, rfl, rfl⟩
 skip
 refine tri_inBlock (tT (tR ?_))
 refine yU rfl rfl ?_
 refine tM rfl rfl (tN (tT (tri_round (tS (tR (yC rfl rfl (tN ?_)))))))
 refine tT (tS ?_)
 refine tri_cond_not rfl (by decide) ?_
 refine tri_exit ?_
 refine tri_then_exit (tri_then_exit ?_)
 refine tri_inBlock_hit rfl ?_
 refine tT (tS ?_)
 refine tri_perm (A := ?a4_0 :: ?a4_1 :: ?a4_2 :: ?a4_3 :: ?a4_4 :: ?a4_5 :: ?T4) (B := ?a4_2 :: ?a4_3 :: ?a4_5 :: ?a4_0 :: ?a4_1 :: ?a4_4 :: ?T4) (by exact permL [2, 3, 5, 0, 1, 4] [?a4_0, ?a4_1, ?a4_2, ?a4_3, ?a4_4, ?a4_5] ?T4 (by decide) rfl) ?_
 refine tR (yF rfl ?_)
 refine yL rfl rfl ?_
 refine yB rfl rfl ?_
 refine tri_g (opg_call (xs := [_, _]) rfl (node_putR (r := R8.one ns room n) hg h2 hi rfl)) rfl ?_
 rintro _ _ _ ⟨a1, c1, es1, rfl, rfl, hi1, rfl⟩
 refine tri_v (opv_extract rfl rfl) rfl ?_
 refine tri_v (opv_extract rfl rfl) rfl ?_
 refine tA rfl rfl (tA rfl rfl (tN (tT (tri_ret ?_))))
 refine tri_perm (A := ?a5_0 :: ?a5_1 :: ?a5_2 :: ?a5_3 :: ?a5_4 :: ?a5_5 :: ?T5) (B := ?a5_3 :: ?a5_4 :: ?a5_5 :: ?a5_0 :: ?a5_1 :: ?a5_2 :: ?T5) (by exact permL [3, 4, 5, 0, 1, 2] [?a5_0, ?a5_1, ?a5_2, ?a5_3, ?a5_4, ?a5_5] ?T5 (by decide) rfl) ?_
 refine tri_end (IxA bx mb a1 c1 (R8.one ns room n).1 room es1 A) Suf.h rfl (.cons (rv_tmp rfl) (.cons (rv_tmp rfl) .nil)) ⟨a1, c1, es1, rfl, rfl, hi1, rfl⟩
end Go.GL


namespace Go.GL
open Go.Proofs
attribute [local irreducible] wpList Code.wp Exit.then Exit.inBlock Ends Tri TriH OpV OpG FnC epf wpAnyH
def BaseOfR (ns : List Node) (room n lv : Int) (A : List Asrt) (I : List Chunk) : Value → List Asrt → List Chunk → Prop := fun v A' I' =>
 (R8.may ns room n lv ∧ ∃ bx mb a' cap' es, v = .tuple [.agg [pt bx 0].toArray, .bool true].toArray ∧ A' = IxA bx mb a' cap' ns room es A ∧ Idx ns es ∧ I = I') ∨ (¬ R8.may ns room n lv ∧ ∃ p, v = .tuple [.agg [.pointer p].toArray, .bool false].toArray ∧ A = A' ∧ I = I')
set_option maxHeartbeats 1000000 in
set_option maxRecDepth 100000 in
theorem base_of {A : List Asrt} {I : List Chunk} {ns : List Node} {a : Option Addr} {cap : Nat} {room n lv : Int} (hs : StA I a cap ns) (hn : ns.length ≤ 1000000000) :
  FnC Try.prog 28 [storeV a ns.length cap room, .int .i64 n, .int .i64 lv].toArray A I (BaseOfR ns room n lv A I) := by
 have hsl := hs.sl
 skip
 refine fn_enter3 Try.func28 rfl Try.ntmps28 rfl fun w0 => ?_
 refine tS (tR ?_)
 refine tri_g (opg_box_agg rfl) rfl ?_
 rintro _ _ _ ⟨b3, rfl, rfl, rfl⟩
 refine tri_g opg_alloc rfl ?_
 rintro _ _ _ ⟨b6, rfl, rfl, rfl⟩
 refine tA rfl rfl (tN (tT (tS (tR ?_))))
 refine yB rfl rfl ?_
 refine tri_g (opg_call (xs := [_]) rfl (node_of hs hn)) rfl ?_
 rintro v A1 I1 hR
 rcases hR with ⟨hr, bx, mb, a1, c1, es, rfl, rfl, hix, rfl⟩ | ⟨hr, rfl, rfl, rfl⟩
 ·refine tM rfl rfl ?_
  refine tri_v (opv_extract rfl rfl) rfl ?_
  refine tri_v (opv_extract rfl rfl) rfl ?_
  refine tA rfl rfl (tA rfl rfl (tN (tT (tS ?_))))
  refine tri_perm (A := ?a1_0 :: ?a1_1 :: ?a1_2 :: ?a1_3 :: ?T1) (B := ?a1_3 :: ?a1_0 :: ?a1_1 :: ?a1_2 :: ?T1) (by exact permL [3, 0, 1, 2] [?a1_0, ?a1_1, ?a1_2, ?a1_3] ?T1 (by decide) rfl) ?_
  skip
  refine tri_draw [0, 1, 2, 3, 4, 5, 6, 7, 8, 9, 10, 11, 12, 13, 14, 15, 16, 17, 18, 19, 20, 21, 22, 23, 24, 25] rfl [_] rfl mixed ?_
  refine yM rfl rfl ?_
  refine th_take rfl rfl (by kernel_rfl)  (opv_buildS rfl rfl) ?_
  refine yM rfl rfl (yM rfl rfl ?_)
  skip
  refine th_take_g rfl rfl rfl rfl rfl (by kernel_rfl)  (opv_move rfl) ?_
  refine th_take_g rfl rfl rfl rfl rfl (by kernel_rfl)  (opv_geq rfl rfl) ?_
  refine th_take rfl rfl (by kernel_rfl)  (opv_pick_t rfl rfl) ?_
  refine yM rfl rfl ?_
  refine th_split rfl rfl rfl (fun h1 => ?_) (fun h1 => ?_)
  ·refine th_take_g rfl rfl rfl rfl rfl (by kernel_rfl)  (opv_move rfl) ?_
   refine th_take_g rfl rfl rfl rfl rfl (by kernel_rfl)  (opv_fieldAddr rfl rfl) ?_
   refine th_take_g rfl rfl rfl rfl rfl (by kernel_rfl)  (opv_load1 rfl rfl rfl) ?_
   refine th_take_g rfl rfl rfl rfl rfl (by kernel_rfl)  (opv_len rfl) ?_
   refine th_take_g rfl rfl rfl rfl rfl (by kernel_rfl)  (opv_lss rfl rfl) ?_
   refine th_take rfl rfl (by kernel_rfl)  (opv_pick_t rfl rfl) ?_
   refine yM rfl rfl ?_
   refine th_split rfl rfl rfl (fun h2 => ?_) (fun h2 => ?_)
   ·refine th_take_g rfl rfl rfl rfl rfl (by kernel_rfl)  (opv_fieldAddr rfl rfl) ?_
    refine th_take_g rfl rfl rfl rfl rfl (by kernel_rfl)  (opv_load1 rfl rfl rfl) ?_
    refine th_take_g rfl rfl rfl rfl rfl (by kernel_rfl)  (opv_move rfl) ?_
    refine th_take_g rfl rfl rfl rfl rfl (by kernel_rfl)  (opv_indexAddrS rfl rfl (by omega) (by omega) (by assumption) rfl) ?_
    refine th_take_g rfl rfl rfl rfl rfl (by kernel_rfl)  (opv_fieldAddrE rfl (by assumption) (by omega) rfl) ?_
    refine th_take_g rfl rfl rfl rfl rfl (by kernel_rfl)  (opv_loadE1 rfl (by assumption) rfl (by omega) rfl rfl) ?_
    refine th_take_g rfl rfl rfl rfl rfl (by kernel_rfl)  (opv_move rfl) ?_
    refine th_take_g rfl rfl rfl rfl rfl (by kernel_rfl)  (opv_geq rfl rfl) ?_
    refine th_take rfl rfl (by kernel_rfl)  (opv_pick_t rfl rfl) ?_
    refine th_one (by kernel_rfl) (step_m rfl rfl (opg_store rfl rfl rfl rfl rfl rfl) ?_)
    rintro _ _ _ ⟨rfl, rfl⟩
    refine ⟨Suf.h, (fun _ h => h), ?_⟩
    refine yA rfl rfl (yD (tT (tri_ret ?_)))
    refine tri_perm (A := ?a2_0 :: ?a2_1 :: ?a2_2 :: ?a2_3 :: ?a2_4 :: ?T2) (B := ?a2_0 :: ?a2_4 :: ?a2_1 :: ?a2_2 :: ?a2_3 :: ?T2) (by exact permL [0, 4, 1, 2, 3] [?a2_0, ?a2_1, ?a2_2, ?a2_3, ?a2_4] ?T2 (by decide) rfl) ?_
    by_cases h3 : lv ≤ (ns.getD n.toNat default).lv
    ·rw [decide_eq_true h3]
     refine tri_end _ (⟨[_, _], rfl⟩) rfl (.cons (rv_cellA rfl rfl rfl) (.cons (rv_tmp rfl) .nil)) (.inl ⟨⟨hr, ⟨h1, h2⟩, h3⟩, bx, mb, a1, c1, es, rfl, rfl, hix, rfl⟩)
    ·rw [decide_eq_false h3]
     refine tri_end A Suf.h rfl (.cons (rv_cellA rfl rfl rfl) (.cons (rv_tmp rfl) .nil)) (.inr ⟨fun h => h3 h.2.2, _, rfl, rfl, rfl⟩)
   ·refine yS rfl rfl rfl (yS rfl rfl rfl (yS rfl rfl rfl (yS rfl rfl rfl (yS rfl rfl rfl (yS rfl rfl rfl (yS rfl rfl rfl (yS rfl rfl rfl ?_)))))))
    refine th_take rfl rfl (by kernel_rfl)  (opv_pick_f rfl rfl) ?_
    refine th_one (by kernel_rfl) (step_m rfl rfl (opg_store rfl rfl rfl rfl rfl rfl) ?_)
    rintro _ _ _ ⟨rfl, rfl⟩
    refine ⟨Suf.h, (fun _ h => h), ?_⟩
    refine yA rfl rfl (yD (tT (tri_ret ?_)))
    refine tri_end A Suf.h rfl (.cons (rv_cellA rfl rfl rfl) (.cons (rv_tmp rfl) .nil)) (.inr ⟨fun h => h2 h.2.1.2, _, rfl, rfl, rfl⟩)
  ·refine yS rfl rfl rfl (yS rfl rfl rfl (yS rfl rfl rfl (yS rfl rfl rfl (yS rfl rfl rfl ?_))))
   refine th_take rfl rfl (by kernel_rfl)  (opv_pick_f rfl rfl) ?_
   refine yM rfl rfl (yS rfl rfl rfl (yS rfl rfl rfl (yS rfl rfl rfl (yS rfl rfl rfl (yS rfl rfl rfl (yS rfl rfl rfl (yS rfl rfl rfl ?_)))))))
   refine yS rfl rfl rfl ?_
   refine th_take rfl rfl (by kernel_rfl)  (opv_pick_f rfl rfl) ?_
   refine th_one (by kernel_rfl) (step_m rfl rfl (opg_store rfl rfl rfl rfl rfl rfl) ?_)
   rintro _ _ _ ⟨rfl, rfl⟩
   refine ⟨Suf.h, (fun _ h => h), ?_⟩
   refine yA rfl rfl (yD (tT (tri_ret ?_)))
   refine tri_end A Suf.h rfl (.cons (rv_cellA rfl rfl rfl) (.cons (rv_tmp rfl) .nil)) (.inr ⟨fun h => h1 h.2.1.1, _, rfl, rfl, rfl⟩)
 ·refine tM rfl rfl ?_
  refine tri_v (opv_extract rfl rfl) rfl ?_
  refine tri_v (opv_extract rfl rfl) rfl ?_
  refine tA rfl rfl (tA rfl rfl (tN (tT (tS ?_))))
  skip
  refine tri_draw [0, 1, 2, 3, 4, 5, 6, 7, 8, 9, 10, 11, 12, 13, 14, 15, 16, 17, 18, 19, 20, 21, 22, 23, 24, 25] rfl [_] rfl mixed ?_
  refine yM rfl rfl ?_
  refine th_take rfl rfl (by kernel_rfl)  (opv_buildS rfl rfl) ?_
  refine yM rfl rfl (yM rfl rfl ?_)
  skip
  refine yS rfl rfl rfl (yS rfl rfl rfl ?_)
  refine th_take rfl rfl (by kernel_rfl)  (opv_pick_f rfl rfl) ?_
  refine yM rfl rfl (yS rfl rfl rfl (yS rfl rfl rfl (yS rfl rfl rfl (yS rfl rfl rfl (yS rfl rfl rfl ?_)))))
  refine th_take rfl rfl (by kernel_rfl)  (opv_pick_f rfl rfl) ?_
  refine yM rfl rfl (yS rfl rfl rfl (yS rfl rfl rfl (yS rfl rfl rfl (yS rfl rfl rfl (yS rfl rfl rfl (yS rfl rfl rfl (yS rfl rfl rfl ?_)))))))
  refine yS rfl rfl rfl ?_
  refine th_take rfl rfl (by kernel_rfl)  (opv_pick_f rfl rfl) ?_
  refine th_one (by kernel_rfl) (step_m rfl rfl (opg_store rfl rfl rfl rfl rfl rfl) ?_)
  rintro _ _ _ ⟨rfl, rfl⟩
  refine ⟨Suf.h, (fun _ h => h), ?_⟩
  refine yA rfl rfl (yD (tT (tri_ret ?_)))
  refine tri_end A Suf.h rfl (.cons (rv_cellA rfl rfl rfl) (.cons (rv_tmp rfl) .nil)) (.inr ⟨fun h => hr h.1, _, rfl, rfl, rfl⟩)
end Go.GL


namespace Go.GL
open Go.Proofs
attribute [local irreducible] wpList Code.wp Exit.then Exit.inBlock Ends Tri TriH OpV OpG FnC epf wpAnyH
variable {A : List Asrt} {I : List Chunk}
/-- What Maker.Nine tells and leaves behind. -/
def IxR9 (bx mb : Nat) (r : R8.R9) (room : Int) (A : List Asrt) (I : List Chunk) : Value → List Asrt → List Chunk → Prop :=
 fun v A' I' => ∃ a' cap' es' ns' q0 q1 q2 q3 q4 q5 q6 q7 q8, v = .tuple [.agg [.int .i64 q0, .int .i64 q1, .int .i64 q2, .int .i64 q3, .int .i64 q4, .int .i64 q5, .int .i64 q6, .int .i64 q7, .int .i64 q8].toArray, .int .i64 r.2.2].toArray ∧ A' = IxA bx mb a' cap' ns' room es' A ∧ (r.2.2 = 0 → ns' = r.1 ∧ r.2.1 = [q0, q1, q2, q3, q4, q5, q6, q7, q8] ∧ Idx r.1 es') ∧ I = I'
set_option maxHeartbeats 2000000 in
set_option maxRecDepth 100000 in
theorem maker_nine {ns : List Node} {a : Option Addr} {cap bx mb : Nat} {room n : Int} {es : KVs} (hg : R6.Good ns room) (h2 : 2 ≤ ns.length) (hi : Idx ns es) (hk : R8.Kid ns n) :
  FnC Try.prog 84 [.agg [pt bx 0].toArray, .int .i64 n].toArray (IxA bx mb a cap ns room es A) I (IxR9 bx mb (R8.all ns room n) room A I) := by
 obtain ⟨p0, e0⟩ : ∃ p, R8.putSq ns room (R8.s16 ns n) 0 0 = p := ⟨_, rfl⟩
 obtain ⟨p1, e1⟩ : ∃ p, R8.putSq p0.1 room (R8.s16 ns n) 0 1 = p := ⟨_, rfl⟩
 obtain ⟨p2, e2⟩ : ∃ p, R8.putSq p1.1 room (R8.s16 ns n) 0 2 = p := ⟨_, rfl⟩
 obtain ⟨p3, e3⟩ : ∃ p, R8.putSq p2.1 room (R8.s16 ns n) 1 0 = p := ⟨_, rfl⟩
 obtain ⟨p4, e4⟩ : ∃ p, R8.putSq p3.1 room (R8.s16 ns n) 1 1 = p := ⟨_, rfl⟩
 obtain ⟨p5, e5⟩ : ∃ p, R8.putSq p4.1 room (R8.s16 ns n) 1 2 = p := ⟨_, rfl⟩
 obtain ⟨p6, e6⟩ : ∃ p, R8.putSq p5.1 room (R8.s16 ns n) 2 0 = p := ⟨_, rfl⟩
 obtain ⟨p7, e7⟩ : ∃ p, R8.putSq p6.1 room (R8.s16 ns n) 2 1 = p := ⟨_, rfl⟩
 obtain ⟨p8, e8⟩ : ∃ p, R8.putSq p7.1 room (R8.s16 ns n) 2 2 = p := ⟨_, rfl⟩
 rw [R8.all_eq e0 e1 e2 e3 e4 e5 e6 e7 e8]
 have g0 : R6.Good p0.1 room := e0 ▸ hg.put ..
 have l0 : 2 ≤ p0.1.length := e0 ▸ R6.put_len h2
 have g1 : R6.Good p1.1 room := e1 ▸ g0.put ..
 have l1 : 2 ≤ p1.1.length := e1 ▸ R6.put_len l0
 have g2 : R6.Good p2.1 room := e2 ▸ g1.put ..
 have l2 : 2 ≤ p2.1.length := e2 ▸ R6.put_len l1
 have g3 : R6.Good p3.1 room := e3 ▸ g2.put ..
 have l3 : 2 ≤ p3.1.length := e3 ▸ R6.put_len l2
 have g4 : R6.Good p4.1 room := e4 ▸ g3.put ..
 have l4 : 2 ≤ p4.1.length := e4 ▸ R6.put_len l3
 have g5 : R6.Good p5.1 room := e5 ▸ g4.put ..
 have l5 : 2 ≤ p5.1.length := e5 ▸ R6.put_len l4
 have g6 : R6.Good p6.1 room := e6 ▸ g5.put ..
 have l6 : 2 ≤ p6.1.length := e6 ▸ R6.put_len l5
 have g7 : R6.Good p7.1 room := e7 ▸ g6.put ..
 have l7 : 2 ≤ p7.1.length := e7 ▸ R6.put_len l6
 have g8 : R6.Good p8.1 room := e8 ▸ g7.put ..
 have l8 : 2 ≤ p8.1.length := e8 ▸ R6.put_len l7
 skip
 refine fn_enter2 Try.func84 rfl Try.ntmps84 rfl fun w0 => ?_
 refine tS (tR ?_)
 refine tri_g (opg_box_agg rfl) rfl ?_
 rintro _ _ _ ⟨b2, rfl, rfl, rfl⟩
 refine tri_g opg_alloc rfl ?_
 rintro _ _ _ ⟨b4, rfl, rfl, rfl⟩
 refine tA rfl rfl (tN (tT (tS ?_)))
 refine tri_perm (A := ?a1_0 :: ?a1_1 :: ?a1_2 :: ?a1_3 :: ?a1_4 :: ?T1) (B := ?a1_2 :: ?a1_3 :: ?a1_4 :: ?a1_0 :: ?a1_1 :: ?T1) (by exact permL [2, 3, 4, 0, 1] [?a1_0, ?a1_1, ?a1_2, ?a1_3, ?a1_4] ?T1 (by decide) rfl) ?_
 refine tR ?_
 refine yB rfl rfl ?_
 refine tM rfl rfl ?_
 refine tri_g (opg_call (xs := [_, _]) rfl (base_sixteen hk)) rfl ?_
 rintro _ _ _ ⟨rfl, rfl, rfl⟩
 refine tri_g opg_alloc rfl ?_
 rintro _ _ _ ⟨b6, rfl, rfl, rfl⟩
 refine yG rfl rfl rfl rfl rfl rfl ?_
 rintro _ _ _ ⟨rfl, rfl⟩
 refine tN (tT (tS (tS (tR (tM rfl rfl (tN (tT ?_)))))))
 refine tri_block ?_
 refine tri_perm (A := ?a2_0 :: ?a2_1 :: ?a2_2 :: ?a2_3 :: ?a2_4 :: ?a2_5 :: ?T2) (B := ?a2_1 :: ?a2_2 :: ?a2_3 :: ?a2_4 :: ?a2_0 :: ?a2_5 :: ?T2) (by exact permL [1, 2, 3, 4, 0, 5] [?a2_0, ?a2_1, ?a2_2, ?a2_3, ?a2_4, ?a2_5] ?T2 (by decide) rfl) ?_
 refine tri_rounds 10 ?_
 refine tri_round (tS (tR (yC rfl rfl (tN (tT (tS ?_))))))
 refine tri_cond_is rfl (by decide) ?_
 skip
 refine tri_skip (tT (tS (tri_block (tS (tR (tM rfl rfl (tA rfl rfl ?_)))))))
 refine tN (tT (tS ?_))
 refine tri_draw [0, 1, 2, 3, 4, 5, 6, 7, 8, 9, 10, 11, 12, 13, 14, 15] rfl [_, _, _, _] rfl mixed ?_
 refine yM rfl rfl (yf rfl rfl ?_)
 refine yl rfl rfl rfl ?_
 refine th_take rfl rfl (by kernel_rfl)  (opv_loadA rfl rfl rfl) ?_
 refine yM rfl rfl ?_
 refine th_take rfl rfl (by kernel_rfl)  (opv_quoE rfl rfl (by omega) (by omega) (by omega)) ?_
 refine yM rfl rfl ?_
 refine th_take rfl rfl (by kernel_rfl)  (opv_remE rfl rfl (by omega) (by omega)) ?_
 refine th_one (by kernel_rfl) (step_m rfl rfl (opg_call (xs := [_, _, _]) rfl (base_square (R8.s16_len ns n) (by omega) (by omega) (by omega) (by omega))) ?_)
 rintro _ _ _ ⟨rfl, rfl, rfl⟩
 refine ⟨Suf.h, (fun _ h => h), ?_⟩
 skip
 refine th_one (by kernel_rfl) (step_m rfl rfl (opg_call (xs := [_, _]) rfl (node_putR (r := p0) hg h2 hi e0)) ?_)
 rintro _ _ _ ⟨a0, c0, es0, rfl, rfl, hi0, rfl⟩
 refine ⟨Suf.h, (fun _ h => h), ?_⟩
 refine yM rfl rfl (yE rfl rfl rfl (yE rfl rfl rfl ?_))
 refine th_take rfl rfl (by kernel_rfl)  (opv_indexAddrA rfl rfl (by decide) (by decide)) ?_
 refine th_one (by kernel_rfl) (step_m rfl rfl (opg_store rfl rfl rfl rfl rfl rfl) ?_)
 rintro _ _ _ ⟨rfl, rfl⟩
 refine ⟨Suf.h, (fun _ h => h), ?_⟩
 refine yA rfl rfl (yD (tT (tS (tR (tM rfl rfl ?_)))))
 refine tri_v (opv_neq rfl rfl) rfl ?_
 refine tN (tT ?_)
 refine tri_cond_dec rfl (fun x0 => ?_) (fun x0 => ?_)
 ·rw [if_pos x0]
  refine tS (tR ?_)
  refine tri_v (opv_buildA rfl rfl) rfl ?_
  refine tM rfl rfl ?_
  refine yG rfl rfl rfl rfl rfl rfl ?_
  rintro _ _ _ ⟨rfl, rfl⟩
  refine tA rfl rfl (tN (tT (tri_ret (tri_inBlock_ret (tri_then_ret (tri_then_ret (tri_inBlock_ret ?_)))))))
  refine tri_then_ret ?_
  refine tri_perm (A := ?a3_0 :: ?a3_1 :: ?a3_2 :: ?a3_3 :: ?a3_4 :: ?a3_5 :: ?T3) (B := ?a3_3 :: ?a3_4 :: ?a3_5 :: ?a3_0 :: ?a3_1 :: ?a3_2 :: ?T3) (by exact permL [3, 4, 5, 0, 1, 2] [?a3_0, ?a3_1, ?a3_2, ?a3_3, ?a3_4, ?a3_5] ?T3 (by decide) rfl) ?_
  refine tri_end (IxA bx mb a0 c0 p0.1 room es0 A) Suf.h rfl (.cons (rv_cellA rfl rfl rfl) (.cons (rv_tmp rfl) .nil)) ⟨a0, c0, es0, p0.1, _, _, _, _, _, _, _, _, _, rfl, rfl, fun h => absurd h x0, rfl⟩
 refine tri_skip (tri_inBlock (tT (tR ?_)))
 refine yU rfl rfl ?_
 refine tM rfl rfl (tN (tT (tri_round (tS (tR (yC rfl rfl (tN ?_)))))))
 refine tT (tS ?_)
 skip
 refine tri_cond_is rfl (by decide) ?_
 skip
 refine tri_skip (tT (tS (tri_block (tS (tR (tM rfl rfl (tA rfl rfl ?_)))))))
 refine tN (tT (tS ?_))
 refine tri_draw [0, 1, 2, 3, 4, 5, 6, 7, 8, 9, 10, 11, 12, 13, 14, 15] rfl [_, _, _, _] rfl mixed ?_
 refine yM rfl rfl (yf rfl rfl ?_)
 refine yl rfl rfl rfl ?_
 refine th_take rfl rfl (by kernel_rfl)  (opv_loadA rfl rfl rfl) ?_
 refine yM rfl rfl ?_
 refine th_take rfl rfl (by kernel_rfl)  (opv_quoE rfl rfl (by omega) (by omega) (by omega)) ?_
 refine yM rfl rfl ?_
 refine th_take rfl rfl (by kernel_rfl)  (opv_remE rfl rfl (by omega) (by omega)) ?_
 refine th_one (by kernel_rfl) (step_m rfl rfl (opg_call (xs := [_, _, _]) rfl (base_square (R8.s16_len ns n) (by omega) (by omega) (by omega) (by omega))) ?_)
 rintro _ _ _ ⟨rfl, rfl, rfl⟩
 refine ⟨Suf.h, (fun _ h => h), ?_⟩
 skip
 refine th_one (by kernel_rfl) (step_m rfl rfl (opg_call (xs := [_, _]) rfl (node_putR (r := p1) g0 l0 hi0 e1)) ?_)
 rintro _ _ _ ⟨a1, c1, es1, rfl, rfl, hi1, rfl⟩
 refine ⟨Suf.h, (fun _ h => h), ?_⟩
 refine yM rfl rfl (yE rfl rfl rfl (yE rfl rfl rfl ?_))
 refine th_take rfl rfl (by kernel_rfl)  (opv_indexAddrA rfl rfl (by decide) (by decide)) ?_
 refine th_one (by kernel_rfl) (step_m rfl rfl (opg_store rfl rfl rfl rfl rfl rfl) ?_)
 rintro _ _ _ ⟨rfl, rfl⟩
 refine ⟨Suf.h, (fun _ h => h), ?_⟩
 refine yA rfl rfl (yD (tT (tS (tR (tM rfl rfl ?_)))))
 refine tri_v (opv_neq rfl rfl) rfl ?_
 refine tN (tT ?_)
 refine tri_cond_dec rfl (fun x1 => ?_) (fun x1 => ?_)
 ·rw [if_neg x0, if_pos x1]
  refine tS (tR ?_)
  refine tri_v (opv_buildA rfl rfl) rfl ?_
  refine tM rfl rfl ?_
  refine yG rfl rfl rfl rfl rfl rfl ?_
  rintro _ _ _ ⟨rfl, rfl⟩
  refine tA rfl rfl (tN (tT (tri_ret (tri_inBlock_ret (tri_then_ret (tri_then_ret (tri_inBlock_ret ?_)))))))
  refine tri_then_ret ?_
  refine tri_perm (A := ?a4_0 :: ?a4_1 :: ?a4_2 :: ?a4_3 :: ?a4_4 :: ?a4_5 :: ?T4) (B := ?a4_3 :: ?a4_4 :: ?a4_5 :: ?a4_0 :: ?a4_1 :: ?a4_2 :: ?T4) (by exact permL [3, 4, 5, 0, 1, 2] [?a4_0, ?a4_1, ?a4_2, ?a4_3, ?a4_4, ?a4_5] ?T4 (by decide) rfl) ?_
  refine tri_end (IxA bx mb a1 c1 p1.1 room es1 A) Suf.h rfl (.cons (rv_cellA rfl rfl rfl) (.cons (rv_tmp rfl) .nil)) ⟨a1, c1, es1, p1.1, _, _, _, _, _, _, _, _, _, rfl, rfl, fun h => absurd h x1, rfl⟩
 refine tri_skip (tri_inBlock (tT (tR ?_)))
 refine yU rfl rfl ?_
 refine tM rfl rfl (tN (tT (tri_round (tS (tR (yC rfl rfl (tN ?_)))))))
 refine tT (tS ?_)
 skip
 refine tri_cond_is rfl (by decide) ?_
 skip
 refine tri_skip (tT (tS (tri_block (tS (tR (tM rfl rfl (tA rfl rfl ?_)))))))
 refine tN (tT (tS ?_))
 refine tri_draw [0, 1, 2, 3, 4, 5, 6, 7, 8, 9, 10, 11, 12, 13, 14, 15] rfl [_, _, _, _] rfl mixed ?_
 refine yM rfl rfl (yf rfl rfl ?_)
 refine yl rfl rfl rfl ?_
 refine th_take rfl rfl (by kernel_rfl)  (opv_loadA rfl rfl rfl) ?_
 refine yM rfl rfl ?_
 refine th_take rfl rfl (by kernel_rfl)  (opv_quoE rfl rfl (by omega) (by omega) (by omega)) ?_
 refine yM rfl rfl ?_
 refine th_take rfl rfl (by kernel_rfl)  (opv_remE rfl rfl (by omega) (by omega)) ?_
 refine th_one (by kernel_rfl) (step_m rfl rfl (opg_call (xs := [_, _, _]) rfl (base_square (R8.s16_len ns n) (by omega) (by omega) (by omega) (by omega))) ?_)
 rintro _ _ _ ⟨rfl, rfl, rfl⟩
 refine ⟨Suf.h, (fun _ h => h), ?_⟩
 skip
 refine th_one (by kernel_rfl) (step_m rfl rfl (opg_call (xs := [_, _]) rfl (node_putR (r := p2) g1 l1 hi1 e2)) ?_)
 rintro _ _ _ ⟨a2, c2, es2, rfl, rfl, hi2, rfl⟩
 refine ⟨Suf.h, (fun _ h => h), ?_⟩
 refine yM rfl rfl (yE rfl rfl rfl (yE rfl rfl rfl ?_))
 refine th_take rfl rfl (by kernel_rfl)  (opv_indexAddrA rfl rfl (by decide) (by decide)) ?_
 refine th_one (by kernel_rfl) (step_m rfl rfl (opg_store rfl rfl rfl rfl rfl rfl) ?_)
 rintro _ _ _ ⟨rfl, rfl⟩
 refine ⟨Suf.h, (fun _ h => h), ?_⟩
 refine yA rfl rfl (yD (tT (tS (tR (tM rfl rfl ?_)))))
 refine tri_v (opv_neq rfl rfl) rfl ?_
 refine tN (tT ?_)
 refine tri_cond_dec rfl (fun x2 => ?_) (fun x2 => ?_)
 ·rw [if_neg x0, if_neg x1, if_pos x2]
  refine tS (tR ?_)
  refine tri_v (opv_buildA rfl rfl) rfl ?_
  refine tM rfl rfl ?_
  refine yG rfl rfl rfl rfl rfl rfl ?_
  rintro _ _ _ ⟨rfl, rfl⟩
  refine tA rfl rfl (tN (tT (tri_ret (tri_inBlock_ret (tri_then_ret (tri_then_ret (tri_inBlock_ret ?_)))))))
  refine tri_then_ret ?_
  refine tri_perm (A := ?a5_0 :: ?a5_1 :: ?a5_2 :: ?a5_3 :: ?a5_4 :: ?a5_5 :: ?T5) (B := ?a5_3 :: ?a5_4 :: ?a5_5 :: ?a5_0 :: ?a5_1 :: ?a5_2 :: ?T5) (by exact permL [3, 4, 5, 0, 1, 2] [?a5_0, ?a5_1, ?a5_2, ?a5_3, ?a5_4, ?a5_5] ?T5 (by decide) rfl) ?_
  refine tri_end (IxA bx mb a2 c2 p2.1 room es2 A) Suf.h rfl (.cons (rv_cellA rfl rfl rfl) (.cons (rv_tmp rfl) .nil)) ⟨a2, c2, es2, p2.1, _, _, _, _, _, _, _, _, _, rfl, rfl, fun h => absurd h x2, rfl⟩
 refine tri_skip (tri_inBlock (tT (tR ?_)))
 refine yU rfl rfl ?_
 refine tM rfl rfl (tN (tT (tri_round (tS (tR (yC rfl rfl (tN ?_)))))))
 refine tT (tS ?_)
 skip
 refine tri_cond_is rfl (by decide) ?_
 skip
 refine tri_skip (tT (tS (tri_block (tS (tR (tM rfl rfl (tA rfl rfl ?_)))))))
 refine tN (tT (tS ?_))
 refine tri_draw [0, 1, 2, 3, 4, 5, 6, 7, 8, 9, 10, 11, 12, 13, 14, 15] rfl [_, _, _, _] rfl mixed ?_
 refine yM rfl rfl (yf rfl rfl ?_)
 refine yl rfl rfl rfl ?_
 refine th_take rfl rfl (by kernel_rfl)  (opv_loadA rfl rfl rfl) ?_
 refine yM rfl rfl ?_
 refine th_take rfl rfl (by kernel_rfl)  (opv_quoE rfl rfl (by omega) (by omega) (by omega)) ?_
 refine yM rfl rfl ?_
 refine th_take rfl rfl (by kernel_rfl)  (opv_remE rfl rfl (by omega) (by omega)) ?_
 refine th_one (by kernel_rfl) (step_m rfl rfl (opg_call (xs := [_, _, _]) rfl (base_square (R8.s16_len ns n) (by omega) (by omega) (by omega) (by omega))) ?_)
 rintro _ _ _ ⟨rfl, rfl, rfl⟩
 refine ⟨Suf.h, (fun _ h => h), ?_⟩
 skip
 refine th_one (by kernel_rfl) (step_m rfl rfl (opg_call (xs := [_, _]) rfl (node_putR (r := p3) g2 l2 hi2 e3)) ?_)
 rintro _ _ _ ⟨a3, c3, es3, rfl, rfl, hi3, rfl⟩
 refine ⟨Suf.h, (fun _ h => h), ?_⟩
 refine yM rfl rfl (yE rfl rfl rfl (yE rfl rfl rfl ?_))
 refine th_take rfl rfl (by kernel_rfl)  (opv_indexAddrA rfl rfl (by decide) (by decide)) ?_
 refine th_one (by kernel_rfl) (step_m rfl rfl (opg_store rfl rfl rfl rfl rfl rfl) ?_)
 rintro _ _ _ ⟨rfl, rfl⟩
 refine ⟨Suf.h, (fun _ h => h), ?_⟩
 refine yA rfl rfl (yD (tT (tS (tR (tM rfl rfl ?_)))))
 refine tri_v (opv_neq rfl rfl) rfl ?_
 refine tN (tT ?_)
 refine tri_cond_dec rfl (fun x3 => ?_) (fun x3 => ?_)
 ·rw [if_neg x0, if_neg x1, if_neg x2, if_pos x3]
  refine tS (tR ?_)
  refine tri_v (opv_buildA rfl rfl) rfl ?_
  refine tM rfl rfl ?_
  refine yG rfl rfl rfl rfl rfl rfl ?_
  rintro _ _ _ ⟨rfl, rfl⟩
  refine tA rfl rfl (tN (tT (tri_ret (tri_inBlock_ret (tri_then_ret (tri_then_ret (tri_inBlock_ret ?_)))))))
  refine tri_then_ret ?_
  refine tri_perm (A := ?a6_0 :: ?a6_1 :: ?a6_2 :: ?a6_3 :: ?a6_4 :: ?a6_5 :: ?T6) (B := ?a6_3 :: ?a6_4 :: ?a6_5 :: ?a6_0 :: ?a6_1 :: ?a6_2 :: ?T6) (by exact permL [3, 4, 5, 0, 1, 2] [?a6_0, ?a6_1, ?a6_2, ?a6_3, ?a6_4, ?a6_5] ?T6 (by decide) rfl) ?_
  refine tri_end (IxA bx mb a3 c3 p3.1 room es3 A) Suf.h rfl (.cons (rv_cellA rfl rfl rfl) (.cons (rv_tmp rfl) .nil)) ⟨a3, c3, es3, p3.1, _, _, _, _, _, _, _, _, _, rfl, rfl, fun h => absurd h x3, rfl⟩
 refine tri_skip (tri_inBlock (tT (tR ?_)))
 refine yU rfl rfl ?_
 refine tM rfl rfl (tN (tT (tri_round (tS (tR (yC rfl rfl (tN ?_)))))))
 refine tT (tS ?_)
 skip
 refine tri_cond_is rfl (by decide) ?_
 skip
 refine tri_skip (tT (tS (tri_block (tS (tR (tM rfl rfl (tA rfl rfl ?_)))))))
 refine tN (tT (tS ?_))
 refine tri_draw [0, 1, 2, 3, 4, 5, 6, 7, 8, 9, 10, 11, 12, 13, 14, 15] rfl [_, _, _, _] rfl mixed ?_
 refine yM rfl rfl (yf rfl rfl ?_)
 refine yl rfl rfl rfl ?_
 refine th_take rfl rfl (by kernel_rfl)  (opv_loadA rfl rfl rfl) ?_
 refine yM rfl rfl ?_
 refine th_take rfl rfl (by kernel_rfl)  (opv_quoE rfl rfl (by omega) (by omega) (by omega)) ?_
 refine yM rfl rfl ?_
 refine th_take rfl rfl (by kernel_rfl)  (opv_remE rfl rfl (by omega) (by omega)) ?_
 refine th_one (by kernel_rfl) (step_m rfl rfl (opg_call (xs := [_, _, _]) rfl (base_square (R8.s16_len ns n) (by omega) (by omega) (by omega) (by omega))) ?_)
 rintro _ _ _ ⟨rfl, rfl, rfl⟩
 refine ⟨Suf.h, (fun _ h => h), ?_⟩
 skip
 refine th_one (by kernel_rfl) (step_m rfl rfl (opg_call (xs := [_, _]) rfl (node_putR (r := p4) g3 l3 hi3 e4)) ?_)
 rintro _ _ _ ⟨a4, c4, es4, rfl, rfl, hi4, rfl⟩
 refine ⟨Suf.h, (fun _ h => h), ?_⟩
 refine yM rfl rfl (yE rfl rfl rfl (yE rfl rfl rfl ?_))
 refine th_take rfl rfl (by kernel_rfl)  (opv_indexAddrA rfl rfl (by decide) (by decide)) ?_
 refine th_one (by kernel_rfl) (step_m rfl rfl (opg_store rfl rfl rfl rfl rfl rfl) ?_)
 rintro _ _ _ ⟨rfl, rfl⟩
 refine ⟨Suf.h, (fun _ h => h), ?_⟩
 refine yA rfl rfl (yD (tT (tS (tR (tM rfl rfl ?_)))))
 refine tri_v (opv_neq rfl rfl) rfl ?_
 refine tN (tT ?_)
 refine tri_cond_dec rfl (fun x4 => ?_) (fun x4 => ?_)
 ·rw [if_neg x0, if_neg x1, if_neg x2, if_neg x3, if_pos x4]
  refine tS (tR ?_)
  refine tri_v (opv_buildA rfl rfl) rfl ?_
  refine tM rfl rfl ?_
  refine yG rfl rfl rfl rfl rfl rfl ?_
  rintro _ _ _ ⟨rfl, rfl⟩
  refine tA rfl rfl (tN (tT (tri_ret (tri_inBlock_ret (tri_then_ret (tri_then_ret (tri_inBlock_ret ?_)))))))
  refine tri_then_ret ?_
  refine tri_perm (A := ?a7_0 :: ?a7_1 :: ?a7_2 :: ?a7_3 :: ?a7_4 :: ?a7_5 :: ?T7) (B := ?a7_3 :: ?a7_4 :: ?a7_5 :: ?a7_0 :: ?a7_1 :: ?a7_2 :: ?T7) (by exact permL [3, 4, 5, 0, 1, 2] [?a7_0, ?a7_1, ?a7_2, ?a7_3, ?a7_4, ?a7_5] ?T7 (by decide) rfl) ?_
  refine tri_end (IxA bx mb a4 c4 p4.1 room es4 A) Suf.h rfl (.cons (rv_cellA rfl rfl rfl) (.cons (rv_tmp rfl) .nil)) ⟨a4, c4, es4, p4.1, _, _, _, _, _, _, _, _, _, rfl, rfl, fun h => absurd h x4, rfl⟩
 refine tri_skip (tri_inBlock (tT (tR ?_)))
 refine yU rfl rfl ?_
 refine tM rfl rfl (tN (tT (tri_round (tS (tR (yC rfl rfl (tN ?_)))))))
 refine tT (tS ?_)
 skip
 refine tri_cond_is rfl (by decide) ?_
 skip
 refine tri_skip (tT (tS (tri_block (tS (tR (tM rfl rfl (tA rfl rfl ?_)))))))
 refine tN (tT (tS ?_))
 refine tri_draw [0, 1, 2, 3, 4, 5, 6, 7, 8, 9, 10, 11, 12, 13, 14, 15] rfl [_, _, _, _] rfl mixed ?_
 refine yM rfl rfl (yf rfl rfl ?_)
 refine yl rfl rfl rfl ?_
 refine th_take rfl rfl (by kernel_rfl)  (opv_loadA rfl rfl rfl) ?_
 refine yM rfl rfl ?_
 refine th_take rfl rfl (by kernel_rfl)  (opv_quoE rfl rfl (by omega) (by omega) (by omega)) ?_
 refine yM rfl rfl ?_
 refine th_take rfl rfl (by kernel_rfl)  (opv_remE rfl rfl (by omega) (by omega)) ?_
 refine th_one (by kernel_rfl) (step_m rfl rfl (opg_call (xs := [_, _, _]) rfl (base_square (R8.s16_len ns n) (by omega) (by omega) (by omega) (by omega))) ?_)
 rintro _ _ _ ⟨rfl, rfl, rfl⟩
 refine ⟨Suf.h, (fun _ h => h), ?_⟩
 skip
 refine th_one (by kernel_rfl) (step_m rfl rfl (opg_call (xs := [_, _]) rfl (node_putR (r := p5) g4 l4 hi4 e5)) ?_)
 rintro _ _ _ ⟨a5, c5, es5, rfl, rfl, hi5, rfl⟩
 refine ⟨Suf.h, (fun _ h => h), ?_⟩
 refine yM rfl rfl (yE rfl rfl rfl (yE rfl rfl rfl ?_))
 refine th_take rfl rfl (by kernel_rfl)  (opv_indexAddrA rfl rfl (by decide) (by decide)) ?_
 refine th_one (by kernel_rfl) (step_m rfl rfl (opg_store rfl rfl rfl rfl rfl rfl) ?_)
 rintro _ _ _ ⟨rfl, rfl⟩
 refine ⟨Suf.h, (fun _ h => h), ?_⟩
 refine yA rfl rfl (yD (tT (tS (tR (tM rfl rfl ?_)))))
 refine tri_v (opv_neq rfl rfl) rfl ?_
 refine tN (tT ?_)
 refine tri_cond_dec rfl (fun x5 => ?_) (fun x5 => ?_)
 ·rw [if_neg x0, if_neg x1, if_neg x2, if_neg x3, if_neg x4, if_pos x5]
  refine tS (tR ?_)
  refine tri_v (opv_buildA rfl rfl) rfl ?_
  refine tM rfl rfl ?_
  refine yG rfl rfl rfl rfl rfl rfl ?_
  rintro _ _ _ ⟨rfl, rfl⟩
  refine tA rfl rfl (tN (tT (tri_ret (tri_inBlock_ret (tri_then_ret (tri_then_ret (tri_inBlock_ret ?_)))))))
  refine tri_then_ret ?_
  refine tri_perm (A := ?a8_0 :: ?a8_1 :: ?a8_2 :: ?a8_3 :: ?a8_4 :: ?a8_5 :: ?T8) (B := ?a8_3 :: ?a8_4 :: ?a8_5 :: ?a8_0 :: ?a8_1 :: ?a8_2 :: ?T8) (by exact permL [3, 4, 5, 0, 1, 2] [?a8_0, ?a8_1, ?a8_2, ?a8_3, ?a8_4, ?a8_5] ?T8 (by decide) rfl) ?_
  refine tri_end (IxA bx mb a5 c5 p5.1 room es5 A) Suf.h rfl (.cons (rv_cellA rfl rfl rfl) (.cons (rv_tmp rfl) .nil)) ⟨a5, c5, es5, p5.1, _, _, _, _, _, _, _, _, _, rfl, rfl, fun h => absurd h x5, rfl⟩
 refine tri_skip (tri_inBlock (tT (tR ?_)))
 refine yU rfl rfl ?_
 refine tM rfl rfl (tN (tT (tri_round (tS (tR (yC rfl rfl (tN ?_)))))))
 refine tT (tS ?_)
 skip
 refine tri_cond_is rfl (by decide) ?_
 skip
 refine tri_skip (tT (tS (tri_block (tS (tR (tM rfl rfl (tA rfl rfl ?_)))))))
 refine tN (tT (tS ?_))
 refine tri_draw [0, 1, 2, 3, 4, 5, 6, 7, 8, 9, 10, 11, 12, 13, 14, 15] rfl [_, _, _, _] rfl mixed ?_
 refine yM rfl rfl (yf rfl rfl ?_)
 refine yl rfl rfl rfl ?_
 refine th_take rfl rfl (by kernel_rfl)  (opv_loadA rfl rfl rfl) ?_
 refine yM rfl rfl ?_
 refine th_take rfl rfl (by kernel_rfl)  (opv_quoE rfl rfl (by omega) (by omega) (by omega)) ?_
 refine yM rfl rfl ?_
 refine th_take rfl rfl (by kernel_rfl)  (opv_remE rfl rfl (by omega) (by omega)) ?_
 refine th_one (by kernel_rfl) (step_m rfl rfl (opg_call (xs := [_, _, _]) rfl (base_square (R8.s16_len ns n) (by omega) (by omega) (by omega) (by omega))) ?_)
 rintro _ _ _ ⟨rfl, rfl, rfl⟩
 refine ⟨Suf.h, (fun _ h => h), ?_⟩
 skip
 refine th_one (by kernel_rfl) (step_m rfl rfl (opg_call (xs := [_, _]) rfl (node_putR (r := p6) g5 l5 hi5 e6)) ?_)
 rintro _ _ _ ⟨a6, c6, es6, rfl, rfl, hi6, rfl⟩
 refine ⟨Suf.h, (fun _ h => h), ?_⟩
 refine yM rfl rfl (yE rfl rfl rfl (yE rfl rfl rfl ?_))
 refine th_take rfl rfl (by kernel_rfl)  (opv_indexAddrA rfl rfl (by decide) (by decide)) ?_
 refine th_one (by kernel_rfl) (step_m rfl rfl (opg_store rfl rfl rfl rfl rfl rfl) ?_)
 rintro _ _ _ ⟨rfl, rfl⟩
 refine ⟨Suf.h, (fun _ h => h), ?_⟩
 refine yA rfl rfl (yD (tT (tS (tR (tM rfl rfl ?_)))))
 refine tri_v (opv_neq rfl rfl) rfl ?_
 refine tN (tT ?_)
 refine tri_cond_dec rfl (fun x6 => ?_) (fun x6 => ?_)
 ·rw [if_neg x0, if_neg x1, if_neg x2, if_neg x3, if_neg x4, if_neg x5, if_pos x6]
  refine tS (tR ?_)
  refine tri_v (opv_buildA rfl rfl) rfl ?_
  refine tM rfl rfl ?_
  refine yG rfl rfl rfl rfl rfl rfl ?_
  rintro _ _ _ ⟨rfl, rfl⟩
  refine tA rfl rfl (tN (tT (tri_ret (tri_inBlock_ret (tri_then_ret (tri_then_ret (tri_inBlock_ret ?_)))))))
  refine tri_then_ret ?_
  refine tri_perm (A := ?a9_0 :: ?a9_1 :: ?a9_2 :: ?a9_3 :: ?a9_4 :: ?a9_5 :: ?T9) (B := ?a9_3 :: ?a9_4 :: ?a9_5 :: ?a9_0 :: ?a9_1 :: ?a9_2 :: ?T9) (by exact permL [3, 4, 5, 0, 1, 2] [?a9_0, ?a9_1, ?a9_2, ?a9_3, ?a9_4, ?a9_5] ?T9 (by decide) rfl) ?_
  refine tri_end (IxA bx mb a6 c6 p6.1 room es6 A) Suf.h rfl (.cons (rv_cellA rfl rfl rfl) (.cons (rv_tmp rfl) .nil)) ⟨a6, c6, es6, p6.1, _, _, _, _, _, _, _, _, _, rfl, rfl, fun h => absurd h x6, rfl⟩
 refine tri_skip (tri_inBlock (tT (tR ?_)))
 refine yU rfl rfl ?_
 refine tM rfl rfl (tN (tT (tri_round (tS (tR (yC rfl rfl (tN ?_)))))))
 refine tT (tS ?_)
 skip
 refine tri_cond_is rfl (by decide) ?_
 skip
 refine tri_skip (tT (tS (tri_block (tS (tR (tM rfl rfl (tA rfl rfl ?_)))))))
 refine tN (tT (tS ?_))
 refine tri_draw [0, 1, 2, 3, 4, 5, 6, 7, 8, 9, 10, 11, 12, 13, 14, 15] rfl [_, _, _, _] rfl mixed ?_
 refine yM rfl rfl (yf rfl rfl ?_)
 refine yl rfl rfl rfl ?_
 refine th_take rfl rfl (by kernel_rfl)  (opv_loadA rfl rfl rfl) ?_
 refine yM rfl rfl ?_
 refine th_take rfl rfl (by kernel_rfl)  (opv_quoE rfl rfl (by omega) (by omega) (by omega)) ?_
 refine yM rfl rfl ?_
 refine th_take rfl rfl (by kernel_rfl)  (opv_remE rfl rfl (by omega) (by omega)) ?_
 refine th_one (by kernel_rfl) (step_m rfl rfl (opg_call (xs := [_, _, _]) rfl (base_square (R8.s16_len ns n) (by omega) (by omega) (by omega) (by omega))) ?_)
 rintro _ _ _ ⟨rfl, rfl, rfl⟩
 refine ⟨Suf.h, (fun _ h => h), ?_⟩
 skip
 refine th_one (by kernel_rfl) (step_m rfl rfl (opg_call (xs := [_, _]) rfl (node_putR (r := p7) g6 l6 hi6 e7)) ?_)
 rintro _ _ _ ⟨a7, c7, es7, rfl, rfl, hi7, rfl⟩
 refine ⟨Suf.h, (fun _ h => h), ?_⟩
 refine yM rfl rfl (yE rfl rfl rfl (yE rfl rfl rfl ?_))
 refine th_take rfl rfl (by kernel_rfl)  (opv_indexAddrA rfl rfl (by decide) (by decide)) ?_
 refine th_one (by kernel_rfl) (step_m rfl rfl (opg_store rfl rfl rfl rfl rfl rfl) ?_)
 rintro _ _ _ ⟨rfl, rfl⟩
 refine ⟨Suf.h, (fun _ h => h), ?_⟩
 refine yA rfl rfl (yD (tT (tS (tR (tM rfl rfl ?_)))))
 refine tri_v (opv_neq rfl rfl) rfl ?_
 refine tN (tT ?_)
 refine tri_cond_dec rfl (fun x7 => ?_) (fun x7 => ?_)
 ·rw [if_neg x0, if_neg x1, if_neg x2, if_neg x3, if_neg x4, if_neg x5, if_neg x6, if_pos x7]
  refine tS (tR ?_)
  refine tri_v (opv_buildA rfl rfl) rfl ?_
  refine tM rfl rfl ?_
  refine yG rfl rfl rfl rfl rfl rfl ?_
  rintro _ _ _ ⟨rfl, rfl⟩
  refine tA rfl rfl (tN (tT (tri_ret (tri_inBlock_ret (tri_then_ret (tri_then_ret (tri_inBlock_ret ?_)))))))
  refine tri_then_ret ?_
  refine tri_perm (A := ?a10_0 :: ?a10_1 :: ?a10_2 :: ?a10_3 :: ?a10_4 :: ?a10_5 :: ?T10) (B := ?a10_3 :: ?a10_4 :: ?a10_5 :: ?a10_0 :: ?a10_1 :: ?a10_2 :: ?T10) (by exact permL [3, 4, 5, 0, 1, 2] [?a10_0, ?a10_1, ?a10_2, ?a10_3, ?a10_4, ?a10_5] ?T10 (by decide) rfl) ?_
  refine tri_end (IxA bx mb a7 c7 p7.1 room es7 A) Suf.h rfl (.cons (rv_cellA rfl rfl rfl) (.cons (rv_tmp rfl) .nil)) ⟨a7, c7, es7, p7.1, _, _, _, _, _, _, _, _, _, rfl, rfl, fun h => absurd h x7, rfl⟩
 refine tri_skip (tri_inBlock (tT (tR ?_)))
 refine yU rfl rfl ?_
 refine tM rfl rfl (tN (tT (tri_round (tS (tR (yC rfl rfl (tN ?_)))))))
 refine tT (tS ?_)
 skip
 refine tri_cond_is rfl (by decide) ?_
 skip
 refine tri_skip (tT (tS (tri_block (tS (tR (tM rfl rfl (tA rfl rfl ?_)))))))
 refine tN (tT (tS ?_))
 refine tri_draw [0, 1, 2, 3, 4, 5, 6, 7, 8, 9, 10, 11, 12, 13, 14, 15] rfl [_, _, _, _] rfl mixed ?_
 refine yM rfl rfl (yf rfl rfl ?_)
 refine yl rfl rfl rfl ?_
 refine th_take rfl rfl (by kernel_rfl)  (opv_loadA rfl rfl rfl) ?_
 refine yM rfl rfl ?_
 refine th_take rfl rfl (by kernel_rfl)  (opv_quoE rfl rfl (by omega) (by omega) (by omega)) ?_
 refine yM rfl rfl ?_
 refine th_take rfl rfl (by kernel_rfl)  (opv_remE rfl rfl (by omega) (by omega)) ?_
 refine th_one (by kernel_rfl) (step_m rfl rfl (opg_call (xs := [_, _, _]) rfl (base_square (R8.s16_len ns n) (by omega) (by omega) (by omega) (by omega))) ?_)
 rintro _ _ _ ⟨rfl, rfl, rfl⟩
 refine ⟨Suf.h, (fun _ h => h), ?_⟩
 skip
 refine th_one (by kernel_rfl) (step_m rfl rfl (opg_call (xs := [_, _]) rfl (node_putR (r := p8) g7 l7 hi7 e8)) ?_)
 rintro _ _ _ ⟨a8, c8, es8, rfl, rfl, hi8, rfl⟩
 refine ⟨Suf.h, (fun _ h => h), ?_⟩
 refine yM rfl rfl (yE rfl rfl rfl (yE rfl rfl rfl ?_))
 refine th_take rfl rfl (by kernel_rfl)  (opv_indexAddrA rfl rfl (by decide) (by decide)) ?_
 refine th_one (by kernel_rfl) (step_m rfl rfl (opg_store rfl rfl rfl rfl rfl rfl) ?_)
 rintro _ _ _ ⟨rfl, rfl⟩
 refine ⟨Suf.h, (fun _ h => h), ?_⟩
 refine yA rfl rfl (yD (tT (tS (tR (tM rfl rfl ?_)))))
 refine tri_v (opv_neq rfl rfl) rfl ?_
 refine tN (tT ?_)
 refine tri_cond_dec rfl (fun x8 => ?_) (fun x8 => ?_)
 ·rw [if_neg x0, if_neg x1, if_neg x2, if_neg x3, if_neg x4, if_neg x5, if_neg x6, if_neg x7, if_pos x8]
  refine tS (tR ?_)
  refine tri_v (opv_buildA rfl rfl) rfl ?_
  refine tM rfl rfl ?_
  refine yG rfl rfl rfl rfl rfl rfl ?_
  rintro _ _ _ ⟨rfl, rfl⟩
  refine tA rfl rfl (tN (tT (tri_ret (tri_inBlock_ret (tri_then_ret (tri_then_ret (tri_inBlock_ret ?_)))))))
  refine tri_then_ret ?_
  refine tri_perm (A := ?a11_0 :: ?a11_1 :: ?a11_2 :: ?a11_3 :: ?a11_4 :: ?a11_5 :: ?T11) (B := ?a11_3 :: ?a11_4 :: ?a11_5 :: ?a11_0 :: ?a11_1 :: ?a11_2 :: ?T11) (by exact permL [3, 4, 5, 0, 1, 2] [?a11_0, ?a11_1, ?a11_2, ?a11_3, ?a11_4, ?a11_5] ?T11 (by decide) rfl) ?_
  refine tri_end (IxA bx mb a8 c8 p8.1 room es8 A) Suf.h rfl (.cons (rv_cellA rfl rfl rfl) (.cons (rv_tmp rfl) .nil)) ⟨a8, c8, es8, p8.1, _, _, _, _, _, _, _, _, _, rfl, rfl, fun h => absurd h x8, rfl⟩
 refine tri_skip (tri_inBlock (tT (tR ?_)))
 refine yU rfl rfl ?_
 refine tM rfl rfl (tN (tT (tri_round (tS (tR (yC rfl rfl (tN ?_)))))))
 refine tT (tS ?_)
 rw [if_neg x0, if_neg x1, if_neg x2, if_neg x3, if_neg x4, if_neg x5, if_neg x6, if_neg x7, if_neg x8]
 refine tri_cond_not rfl (by decide) ?_
 refine tri_exit ?_
 refine tri_then_exit (tri_then_exit ?_)
 refine tri_inBlock_hit rfl ?_
 refine tT (tS (tR ?_))
 refine yB rfl rfl ?_
 refine yG rfl rfl rfl rfl rfl rfl ?_
 rintro _ _ _ ⟨rfl, rfl⟩
 refine tA rfl rfl (tN (tT (tri_ret ?_)))
 refine tri_perm (A := ?a12_0 :: ?a12_1 :: ?a12_2 :: ?a12_3 :: ?a12_4 :: ?a12_5 :: ?T12) (B := ?a12_3 :: ?a12_4 :: ?a12_5 :: ?a12_0 :: ?a12_1 :: ?a12_2 :: ?T12) (by exact permL [3, 4, 5, 0, 1, 2] [?a12_0, ?a12_1, ?a12_2, ?a12_3, ?a12_4, ?a12_5] ?T12 (by decide) rfl) ?_
 refine tri_end (IxA bx mb a8 c8 p8.1 room es8 A) Suf.h rfl (.cons (rv_cellA rfl rfl rfl) (.cons (rv_tmp rfl) .nil)) ⟨a8, c8, es8, p8.1, _, _, _, _, _, _, _, _, _, rfl, rfl, fun h => ⟨rfl, rfl, hi8⟩, rfl⟩
end Go.GL


namespace Go.GL
open Go.Proofs
attribute [local irreducible] wpList Code.wp Exit.then Exit.inBlock Ends Tri TriH OpV OpG FnC epf wpAnyH
variable {A : List Asrt} {I : List Chunk}
theorem keyLeap (n j : Int) : (.agg [.int .i64 n, .int .i64 j].toArray : Value) = mkv Try.prog 79 [n, j] := by kernel_rfl
theorem keyLeapAt : intAt Try.prog 9 79 = some 2 := by kernel_rfl
/-- The map tells what was kept. -/
def MemK (mm : R9.Memo) (ds : KVs) : Prop := ∀ n j, mfind ds [n, j] = (R9.look9 mm n j).map (.int .i64)
theorem MemK.nil : MemK [] [] := fun _ _ => rfl
theorem look9_snoc : ∀ (mm : R9.Memo) (n j to n' j' : Int), R9.look9 (mm ++ [(n, j, to)]) n' j' = match R9.look9 mm n' j' with | some t => some t | none => if n = n' ∧ j = j' then some to else none
 | [], n, j, to, n', j' => rfl
 | p :: mm, n, j, to, n', j' => by
  simp only [List.cons_append, R9.look9]
  split
  ·rfl
  ·exact look9_snoc mm n j to n' j'
theorem MemK.snoc {mm : R9.Memo} {ds : KVs} (h : MemK mm ds) {n j : Int} (hn : R9.look9 mm n j = none) (to : Int) : MemK (mm ++ [(n, j, to)]) (mset ds [n, j] (.int .i64 to)) := by
 intro n' j'
 rw [mfind_mset, look9_snoc, h n' j']
 by_cases e : n = n' ∧ j = j'
 ·obtain ⟨rfl, rfl⟩ := e
  rw [if_pos rfl, hn]
  simp
 ·rw [if_neg (by simpa using e)]
  cases R9.look9 mm n' j' with
  | some t => rfl
  | none => simp [e]
/-- What of a crew lies at places that change. -/
structure Hp where
 a : Option Addr
 cap : Nat
 es : KVs
 ds : KVs
 at_ : Option Addr
 ct : Nat
 bs : List Blk
 ss : List Sl
def tkA (bs : List Blk) (ts : List Tk) (i : Nat) : Asrt := Box (bs.getD i default).b (Enc.enc (ts.getD i default)) 82
def tkS (bs : List Blk) (ts : List Tk) : List Asrt := (List.range ts.length).map (tkA bs ts)
def dqA (ss : List Sl) (D : List (List Int)) (k : Nat) : Asrt := Row (ss.getD k default).a (ss.getD k default).cap (D.getD k default).length 3 1 (encs (D.getD k default))
def dqS (ss : List Sl) (D : List (List Int)) : List Asrt := (List.range D.length).map (dqA ss D)
/-- The crew, as it lies in the heap. -/
abbrev CwA (bc bx mb db : Nat) (ad : Option Addr) (cd : Nat) (room : Int) (h : Hp) (s : R21.Ms) (A : List Asrt) : List Asrt :=
 IxA bx mb h.a h.cap s.ns room h.es (Box bc [pt bx 0, .slice h.at_ s.ts.length h.ct, .slice ad s.D.length cd, .map (some db), .int .i64 s.node, .bool s.done] 76 :: Row h.at_ h.ct s.ts.length 113 1 (encs h.bs) :: Row ad cd s.D.length 27 1 (encs h.ss) :: MapA Try.prog 79 db h.ds :: Stars (tkS h.bs s.ts) :: Stars (dqS h.ss s.D) :: A)
structure CwOk (h : Hp) (s : R21.Ms) : Prop where
 idx : Idx s.ns h.es
 mem : MemK s.kp h.ds
 bl : h.bs.length = s.ts.length
 sl : h.ss.length = s.D.length
 len : ∀ k, k < s.D.length → (h.ss.getD k default).len = (s.D.getD k default).length
theorem getD_set7 {α : Type} [Inhabited α] {l : List α} {i j : Nat} {v : α} (hi : i < l.length) : (l.set i v).getD j default = if j = i then v else l.getD j default := by
 rw [List.getD_eq_getElem?_getD, List.getElem?_set, List.getD_eq_getElem?_getD]
 by_cases h : i = j
 ·subst h
  simp [hi]
 ·rw [if_neg h, if_neg (by omega)]
theorem tkS_add {bs : List Blk} {ts : List Tk} {b : Blk} {t : Tk} (h : bs.length = ts.length) : tkS bs ts ++ [Box b.b (Enc.enc t) 82] = tkS (bs ++ [b]) (ts ++ [t]) := by
 unfold tkS
 rw [List.length_append, List.length_singleton, List.range_succ, List.map_append]
 congr 1
 ·refine List.map_congr_left fun i hi => ?_
  have hi := List.mem_range.1 hi
  unfold tkA
  rw [List.getD_eq_getElem?_getD (l := bs ++ [b]), List.getElem?_append_left (by omega), List.getD_eq_getElem?_getD (l := ts ++ [t]), List.getElem?_append_left (by omega), ← List.getD_eq_getElem?_getD, ← List.getD_eq_getElem?_getD]
 ·show [_] = [_]
  unfold tkA
  have e1 : (ts ++ [t]).getD ts.length default = t := by simp
  have e2 : (bs ++ [b]).getD ts.length default = b := by rw [← h]; simp
  rw [e1, e2]
set_option maxRecDepth 100000 in
theorem slices_cloneI {l : List Int} {a : Option Addr} {cap : Nat} (hs : SlAt I a l) (hn : l.length ≤ 1000000000) (h0 : a = none → l = []) :
  FnC Try.prog 81 [.slice a l.length cap].toArray A I (fun v A' I' => ∃ a' cap', v = .slice a' l.length cap' ∧ A' = Row a' cap' l.length 3 1 (encs l) :: A ∧ I = I') := by
 cases a with
 | none =>
  obtain rfl := h0 rfl
  skip
  refine fn_enter1 Try.func81 rfl Try.ntmps81 rfl fun w0 => ?_
  refine tS (tR (tA rfl rfl (tN (tT (tS (tS (tR ?_)))))))
  refine tM rfl rfl ?_
  refine tri_v (opv_eqlNil rfl rfl) rfl ?_
  refine tN (tT ?_)
  refine tri_cond_true (by rfl) ?_
  refine tS (tR (tA rfl rfl (tN (tT (tri_ret (tri_then_ret ?_))))))
  refine tri_nilRow (E := 3) (sz := 1) ?_
  refine tri_end _ (⟨[], rfl⟩) rfl (.cons (rv_tmp rfl) .nil) ⟨none, 0, rfl, rfl, rfl⟩
 | some ad =>
  refine fn_enter1 Try.func81 rfl Try.ntmps81 rfl fun w0 => ?_
  refine tS (tR (tA rfl rfl (tN (tT (tS (tS (tR ?_)))))))
  refine tM rfl rfl ?_
  refine tri_v (opv_eqlNil rfl rfl) rfl ?_
  refine tN (tT ?_)
  refine tri_cond_false (by rfl) ?_
  refine tri_skip (tT (tS (tR ?_)))
  refine tri_g (opg_buildSlice rfl rfl rfl rfl) rfl ?_
  rintro _ _ _ ⟨b5, rfl, rfl, rfl⟩
  refine tM rfl rfl ?_
  refine tri_boxRow (k := 0) (sz := 1) rfl ?_
  refine tri_g (opg_appendS rfl rfl hs rfl rfl (by omega) rfl) rfl ?_
  rintro _ _ _ ⟨a2, cap2, rfl, rfl, rfl⟩
  refine tA rfl rfl (tN (tT (tri_ret ?_)))
  refine tri_rowEq (len' := l.length) (cells' := encs l) (by omega) rfl ?_
  refine tri_end _ (⟨[], rfl⟩) rfl (.cons (rv_tmp rfl) .nil) ⟨a2, cap2, ?_, rfl, rfl⟩
  rw [Nat.zero_add]; rfl
end Go.GL


namespace Go.GL
open Go.Proofs
section
variable {w0 : World} {n : Nat} {F : Frm} {A : List Asrt} {I : List Chunk}
theorem tri_starsPerm {L M : List Asrt} {K : Act → World → Prop} (hp : L.Perm M) (h : Tri w0 n F (Stars M :: A) I K) : Tri w0 n F (Stars L :: A) I K :=
 tri_stars (tri_perm (hp.append_right A) (tri_toStars h))
theorem tri_starsUn {a : Asrt} {M : List Asrt} {K : Act → World → Prop} (h : Tri w0 n F (a :: Stars M :: A) I K) : Tri w0 n F (Stars (a :: M) :: A) I K :=
 tri_stars (tri_perm (A := a :: M ++ A) (B := M ++ (a :: A)) List.perm_middle.symm (tri_toStars (A := a :: A) (tri_perm (List.Perm.swap _ _ _) h)))
theorem tri_starsRe {a : Asrt} {M : List Asrt} {K : Act → World → Prop} (h : Tri w0 n F (Stars (a :: M) :: A) I K) : Tri w0 n F (a :: Stars M :: A) I K :=
 tri_perm (List.Perm.swap _ _ _) (tri_stars (tri_perm (A := M ++ (a :: A)) (B := a :: M ++ A) List.perm_middle (tri_toStars h)))
variable {X0 X1 X2 X3 X4 X5 X6 X7 X8 S : Asrt}
theorem perm8 : (X0 :: X1 :: X2 :: X3 :: X4 :: X5 :: X6 :: X7 :: S :: A).Perm (S :: X0 :: X1 :: X2 :: X3 :: X4 :: X5 :: X6 :: X7 :: A) := List.perm_middle (l₁ := [X0, X1, X2, X3, X4, X5, X6, X7])
theorem perm9 {X9 : Asrt} : (X9 :: X0 :: X1 :: X2 :: X3 :: X4 :: X5 :: X6 :: X7 :: S :: A).Perm (S :: X9 :: X0 :: X1 :: X2 :: X3 :: X4 :: X5 :: X6 :: X7 :: A) := List.perm_middle (l₁ := [X9, X0, X1, X2, X3, X4, X5, X6, X7])
theorem perm7 : (X0 :: X1 :: X2 :: X3 :: X4 :: X5 :: X6 :: S :: A).Perm (S :: X0 :: X1 :: X2 :: X3 :: X4 :: X5 :: X6 :: A) := List.perm_middle (l₁ := [X0, X1, X2, X3, X4, X5, X6])
end
/-! ### One of the deques, one or two of the tasks -/
theorem range_one {n i : Nat} (h : i < n) : (List.range n).Perm (i :: (List.range n).filter fun j => decide (j ≠ i)) := by
 refine (List.perm_ext_iff_of_nodup List.nodup_range ?_).2 fun j => ?_
 ·refine List.nodup_cons.2 ⟨fun h => ?_, List.nodup_range.filter _⟩
  simpa using (List.mem_filter.1 h).2
 ·rw [List.mem_cons, List.mem_filter, List.mem_range]
  by_cases e : j = i
  ·subst e; simp [h]
  ·simp [e]
theorem range_two {n i p : Nat} (h : i < n) (hp : p < n) (hne : p ≠ i) : (List.range n).Perm (i :: p :: (List.range n).filter fun j => decide (j ≠ i ∧ j ≠ p)) := by
 refine (List.perm_ext_iff_of_nodup List.nodup_range ?_).2 fun j => ?_
 ·refine List.nodup_cons.2 ⟨fun h => ?_, List.nodup_cons.2 ⟨fun h => ?_, List.nodup_range.filter _⟩⟩
  ·rcases List.mem_cons.1 h with h | h
   ·exact hne h.symm
   ·have := of_decide_eq_true (List.mem_filter.1 h).2; exact this.1 rfl
  ·have := of_decide_eq_true (List.mem_filter.1 h).2; exact this.2 rfl
 ·rw [List.mem_cons, List.mem_cons, List.mem_filter, List.mem_range]
  by_cases e : j = i
  ·subst e; simp [h]
  ·by_cases e2 : j = p
   ·subst e2; simp [hp]
   ·simp [e, e2]
theorem dq_one {ss : List Sl} {D : List (List Int)} {k : Nat} (hk : k < D.length) (hs : ss.length = D.length) : ∃ R, (dqS ss D).Perm (dqA ss D k :: R) ∧ ∀ (s : Sl) (l : List Int), (dqS (ss.set k s) (D.set k l)).Perm (Row s.a s.cap l.length 3 1 (encs l) :: R) := by
 refine ⟨((List.range D.length).filter fun j => decide (j ≠ k)).map (dqA ss D), (range_one hk).map (dqA ss D), fun s l => ?_⟩
 have h := (range_one hk).map (dqA (ss.set k s) (D.set k l))
 unfold dqS
 rw [List.length_set]
 refine h.trans ?_
 rw [List.map_cons]
 have e : dqA (ss.set k s) (D.set k l) k = Row s.a s.cap l.length 3 1 (encs l) := by unfold dqA; rw [getD_set7 (by omega), if_pos rfl, getD_set7 hk, if_pos rfl]
 rw [e]
 refine List.Perm.cons _ ?_
 rw [List.map_congr_left fun j hj => ?_]
 have hj := of_decide_eq_true (List.mem_filter.1 hj).2
 unfold dqA
 rw [getD_set7 (by omega), if_neg hj, getD_set7 hk, if_neg hj]
theorem tk_one {bs : List Blk} {ts : List Tk} {i : Nat} (hi : i < ts.length) : ∃ R, (tkS bs ts).Perm (tkA bs ts i :: R) ∧ ∀ u : Tk, (tkS bs (ts.set i u)).Perm (Box (bs.getD i default).b (Enc.enc u) 82 :: R) := by
 refine ⟨((List.range ts.length).filter fun j => decide (j ≠ i)).map (tkA bs ts), (range_one hi).map (tkA bs ts), fun u => ?_⟩
 have h := (range_one hi).map (tkA bs (ts.set i u))
 unfold tkS
 rw [List.length_set]
 refine h.trans ?_
 rw [List.map_cons]
 have e : tkA bs (ts.set i u) i = Box (bs.getD i default).b (Enc.enc u) 82 := by unfold tkA; rw [getD_set7 hi, if_pos rfl]
 rw [e]
 refine List.Perm.cons _ ?_
 rw [List.map_congr_left fun j hj => ?_]
 have hj := of_decide_eq_true (List.mem_filter.1 hj).2
 unfold tkA
 rw [getD_set7 hi, if_neg hj]
theorem tk_two {bs : List Blk} {ts : List Tk} {i p : Nat} (hi : i < ts.length) (hp : p < ts.length) (hne : p ≠ i) : ∃ R, (tkS bs ts).Perm (tkA bs ts i :: tkA bs ts p :: R) ∧ ∀ u : Tk, (tkS bs (ts.set p u)).Perm (tkA bs ts i :: Box (bs.getD p default).b (Enc.enc u) 82 :: R) := by
 refine ⟨((List.range ts.length).filter fun j => decide (j ≠ i ∧ j ≠ p)).map (tkA bs ts), (range_two hi hp hne).map (tkA bs ts), fun u => ?_⟩
 have h := (range_two hi hp hne).map (tkA bs (ts.set p u))
 unfold tkS
 rw [List.length_set]
 refine h.trans ?_
 rw [List.map_cons, List.map_cons]
 have e : tkA bs (ts.set p u) p = Box (bs.getD p default).b (Enc.enc u) 82 := by unfold tkA; rw [getD_set7 hp, if_pos rfl]
 have e2 : tkA bs (ts.set p u) i = tkA bs ts i := by unfold tkA; rw [getD_set7 hp, if_neg (by omega)]
 rw [e, e2]
 refine List.Perm.cons _ (List.Perm.cons _ ?_)
 rw [List.map_congr_left fun j hj => ?_]
 have hj := of_decide_eq_true (List.mem_filter.1 hj).2
 unfold tkA
 rw [getD_set7 hp, if_neg hj.2]
end Go.GL


namespace Go.GL
open Go.Proofs
attribute [local irreducible] wpList Code.wp Exit.then Exit.inBlock Ends Tri TriH OpV OpG FnC epf wpAnyH
variable {A : List Asrt} {I : List Chunk}
/-- What a crew's function leaves behind. -/
def CwR (bc bx mb db bq cd : Nat) (room : Int) (s : R21.Ms) (A : List Asrt) (I : List Chunk) : Value → List Asrt → List Chunk → Prop :=
 fun v A' I' => ∃ h', CwOk h' s ∧ A' = CwA bc bx mb db (some ⟨bq, 0, none⟩) cd room h' s A ∧ I ⊆ I'
set_option maxHeartbeats 2000000 in
set_option maxRecDepth 100000 in
theorem crew_add {bc bx mb db bq cd w : Nat} {room : Int} {h : Hp} {s : R21.Ms} {t : Tk} (ok : CwOk h s) (hw : w < s.D.length) (hn : s.ts.length ≤ 1000000000) (hd : (s.D.getD w default).length ≤ 1000000000) :
  FnC Try.prog 29 [pt bc 0, .int .i64 (w : Nat), .agg (Enc.enc t).toArray].toArray (CwA bc bx mb db (some ⟨bq, 0, none⟩) cd room h s A) I (CwR bc bx mb db bq cd room (R21.add s w t) A I) := by
 have hsl := ok.sl
 have hbl := ok.bl
 have hl := ok.len ((w : Nat) : Int).toNat hw
 have hd : (s.D.getD ((w : Nat) : Int).toNat default).length ≤ 1000000000 := hd
 obtain ⟨Rq, hq1, hq2⟩ := dq_one (k := ((w : Nat) : Int).toNat) hw hsl
 skip
 skip
 refine fn_enter3 Try.func29 rfl Try.ntmps29 rfl fun w0 => ?_
 refine tS (tR ?_)
 refine tri_g (opg_box_agg rfl) rfl ?_
 rintro _ _ _ ⟨b5, rfl, rfl, rfl⟩
 refine tN (tT (tS ?_))
 refine tri_perm perm9 ?_
 refine tri_starsPerm hq1 (tri_starsUn ?_)
 unfold dqA
 refine tri_rowEq (len' := (h.ss.getD ((w : Nat) : Int).toNat default).len) (cells' := encs (s.D.getD ((w : Nat) : Int).toNat default)) hl.symm rfl ?_
 refine tri_perm (A := ?a1_0 :: ?a1_1 :: ?a1_2 :: ?a1_3 :: ?a1_4 :: ?a1_5 :: ?a1_6 :: ?a1_7 :: ?a1_8 :: ?T1) (B := ?a1_0 :: ?a1_8 :: ?a1_1 :: ?a1_2 :: ?a1_3 :: ?a1_4 :: ?a1_5 :: ?a1_6 :: ?a1_7 :: ?T1) (by exact permL [0, 8, 1, 2, 3, 4, 5, 6, 7] [?a1_0, ?a1_1, ?a1_2, ?a1_3, ?a1_4, ?a1_5, ?a1_6, ?a1_7, ?a1_8] ?T1 (by decide) rfl) ?_
 skip
 skip
 refine tri_cut (fun F' A' J => ∃ (a3 : Option Addr) (c3 : Nat), F' = [(0, pt bc 0), (5, pt b5 0)] ∧ A' = Row a3 c3 ((h.ss.getD ((w : Nat) : Int).toNat default).len + 1) 3 1 (encs (s.D.getD ((w : Nat) : Int).toNat default) ++ [.int .i64 (s.ts.length : Nat)]) :: Row (some ⟨bq, 0, none⟩) cd s.D.length 27 1 (encs (h.ss.set ((w : Nat) : Int).toNat (⟨a3, (h.ss.getD ((w : Nat) : Int).toNat default).len + 1, c3⟩ : Sl))) :: Stars Rq :: Box b5 (Enc.enc t) 82 :: IxA bx mb h.a h.cap s.ns room h.es (Box bc [pt bx 0, .slice h.at_ s.ts.length h.ct, .slice (some ⟨bq, 0, none⟩) s.D.length cd, .map (some db), .int .i64 s.node, .bool s.done] 76 :: Row h.at_ h.ct s.ts.length 113 1 (encs h.bs) :: MapA Try.prog 79 db h.ds :: Stars (tkS h.bs s.ts) :: A) ∧ I = J) ?_ ?_
 ·refine tri_draw [0, 1, 2, 3, 4, 5, 6, 7, 8, 9, 10, 12, 13, 14, 15, 16, 11, 17, 18, 19, 20] rfl [_, _] rfl mixed ?_
  refine yM rfl rfl (yn rfl rfl (yf rfl rfl ?_))
  refine yl rfl rfl rfl ?_
  refine yM rfl rfl (yM rfl rfl (yn rfl rfl (yf rfl rfl ?_)))
  refine yl rfl rfl rfl ?_
  refine yM rfl rfl ?_
  refine th_take rfl rfl (by kernel_rfl)  (opv_indexAddrSP rfl rfl (by omega) (by omega)) ?_
  refine yM rfl rfl (yn rfl rfl (yf rfl rfl ?_))
  refine yl rfl rfl rfl ?_
  refine th_take rfl rfl (by kernel_rfl)  (opv_len rfl) ?_
  refine th_two (j := 17) [11, 18, 19, 20] (by kernel_rfl) rfl ?_ ?_
  ·refine (step_m rfl rfl (OpV.toG (opv_loadRX1 rfl rfl (by omega) rfl rfl)) ?_)
   rintro _ _ _ ⟨rfl, rfl, rfl⟩
   refine ⟨Suf.h, (fun _ h => h), ?_⟩
   refine th_one (by kernel_rfl) (step_m rfl rfl (opg_buildSlice rfl rfl rfl rfl) ?_)
   rintro _ _ _ ⟨b23, rfl, rfl, rfl⟩
   refine ⟨Suf.h, (fun _ h => h), ?_⟩
   refine th_one (by kernel_rfl) (step_m rfl rfl (opg_appendB rfl rfl rfl rfl (by omega) rfl) ?_)
   rintro _ _ _ ⟨a3, c3, rfl, rfl, rfl⟩
   refine ⟨Suf.h, (fun _ h => h), ?_⟩
   refine th_take rfl rfl (by kernel_rfl)  (opv_indexAddrSP rfl rfl (by omega) (by omega)) ?_
   refine th_one (by kernel_rfl) (step_m rfl rfl (opg_storeRX (⟨a3, (h.ss.getD ((w : Nat) : Int).toNat default).len + 1, c3⟩ : Sl) rfl rfl rfl (by omega) (by omega) rfl rfl rfl rfl) ?_)
   rintro _ _ _ ⟨rfl, rfl⟩
   refine ⟨Suf.h, (fun _ h => h), ?_⟩
   refine yD ?_
   refine tri_drop ?_
   refine tri_cutEnd _ ⟨a3, c3, rfl, rfl, rfl⟩ ⟨rfl, rfl, trivial⟩
  ·refine (step_m rfl rfl (opg_buildSlice rfl rfl rfl rfl) ?_)
   rintro _ _ _ ⟨b23, rfl, rfl, rfl⟩
   refine ⟨Suf.h, (fun _ h => h), ?_⟩
   refine th_one (by kernel_rfl) (step_m rfl rfl (OpV.toG (opv_loadRX1 rfl rfl (by omega) rfl rfl)) ?_)
   rintro _ _ _ ⟨rfl, rfl, rfl⟩
   refine ⟨Suf.h, (fun _ h => h), ?_⟩
   refine th_one (by kernel_rfl) (step_m rfl rfl (opg_appendB rfl rfl rfl rfl (by omega) rfl) ?_)
   rintro _ _ _ ⟨a3, c3, rfl, rfl, rfl⟩
   refine ⟨Suf.h, (fun _ h => h), ?_⟩
   refine th_take rfl rfl (by kernel_rfl)  (opv_indexAddrSP rfl rfl (by omega) (by omega)) ?_
   refine th_one (by kernel_rfl) (step_m rfl rfl (opg_storeRX (⟨a3, (h.ss.getD ((w : Nat) : Int).toNat default).len + 1, c3⟩ : Sl) rfl rfl rfl (by omega) (by omega) rfl rfl rfl rfl) ?_)
   rintro _ _ _ ⟨rfl, rfl⟩
   refine ⟨Suf.h, (fun _ h => h), ?_⟩
   refine yD ?_
   refine tri_drop ?_
   refine tri_cutEnd _ ⟨a3, c3, rfl, rfl, rfl⟩ ⟨rfl, rfl, trivial⟩
 rintro _ _ _ ⟨a3, c3, rfl, rfl, rfl⟩
 skip
 refine tT (tR (tM rfl rfl (tM rfl rfl ?_)))
 refine tri_v (opv_nilCheck rfl) rfl ?_
 refine yF rfl ?_
 refine yL rfl rfl ?_
 refine tri_g (opg_buildSlice rfl rfl rfl rfl) rfl ?_
 rintro _ _ _ ⟨b31, rfl, rfl, rfl⟩
 refine tri_g (opg_appendB rfl rfl rfl rfl (by omega) rfl) rfl ?_
 rintro _ _ _ ⟨a4, c4, rfl, rfl, rfl⟩
 refine tri_v (opv_nilCheck rfl) rfl ?_
 refine yF rfl ?_
 refine yG rfl rfl rfl rfl rfl rfl ?_
 rintro _ _ _ ⟨rfl, rfl⟩
 refine tN ?_
 refine tri_drop ?_
 have hq3 := hq2 ⟨a3, (h.ss.getD ((w : Nat) : Int).toNat default).len + 1, c3⟩ (s.D.getD ((w : Nat) : Int).toNat default ++ [(s.ts.length : Int)])
 have hq4 := (tkS_add (t := t) (b := ⟨b5⟩) hbl)
 refine tri_rowEq (len' := (s.D.getD ((w : Nat) : Int).toNat default ++ [(s.ts.length : Int)]).length) (cells' := encs (s.D.getD ((w : Nat) : Int).toNat default ++ [(s.ts.length : Int)])) (by rw [hl]; simp) (by rw [encs_append]; rfl) ?_
 refine tri_perm (A := ?a2_0 :: ?a2_1 :: ?a2_2 :: ?T2) (B := ?a2_0 :: ?a2_2 :: ?a2_1 :: ?T2) (by exact permL [0, 2, 1] [?a2_0, ?a2_1, ?a2_2] ?T2 (by decide) rfl) ?_
 refine tri_starsRe (tri_starsPerm hq3.symm ?_)
 refine tri_perm (A := ?a3_0 :: ?a3_1 :: ?a3_2 :: ?a3_3 :: ?a3_4 :: ?a3_5 :: ?a3_6 :: ?a3_7 :: ?a3_8 :: ?a3_9 :: ?T3) (B := ?a3_2 :: ?a3_9 :: ?a3_3 :: ?a3_4 :: ?a3_5 :: ?a3_6 :: ?a3_7 :: ?a3_1 :: ?a3_8 :: ?a3_0 :: ?T3) (by exact permL [2, 9, 3, 4, 5, 6, 7, 1, 8, 0] [?a3_0, ?a3_1, ?a3_2, ?a3_3, ?a3_4, ?a3_5, ?a3_6, ?a3_7, ?a3_8, ?a3_9] ?T3 (by decide) rfl) ?_
 refine tri_starPush ?_
 rw [hq4]
 refine tri_perm (A := ?a4_0 :: ?a4_1 :: ?a4_2 :: ?a4_3 :: ?a4_4 :: ?a4_5 :: ?a4_6 :: ?a4_7 :: ?a4_8 :: ?T4) (B := ?a4_5 :: ?a4_1 :: ?a4_2 :: ?a4_3 :: ?a4_4 :: ?a4_6 :: ?a4_7 :: ?a4_0 :: ?a4_8 :: ?T4) (by exact permL [5, 1, 2, 3, 4, 6, 7, 0, 8] [?a4_0, ?a4_1, ?a4_2, ?a4_3, ?a4_4, ?a4_5, ?a4_6, ?a4_7, ?a4_8] ?T4 (by decide) rfl) ?_
 refine tri_rowEq (len' := (s.ts ++ [t]).length) (cells' := encs (h.bs ++ [(⟨b5⟩ : Blk)])) (by simp) (by rw [encs_append]; rfl) ?_
 refine tri_perm (A := ?a5_0 :: ?a5_1 :: ?a5_2 :: ?a5_3 :: ?a5_4 :: ?a5_5 :: ?a5_6 :: ?a5_7 :: ?a5_8 :: ?T5) (B := ?a5_1 :: ?a5_2 :: ?a5_3 :: ?a5_4 :: ?a5_0 :: ?a5_5 :: ?a5_6 :: ?a5_7 :: ?a5_8 :: ?T5) (by exact permL [1, 2, 3, 4, 0, 5, 6, 7, 8] [?a5_0, ?a5_1, ?a5_2, ?a5_3, ?a5_4, ?a5_5, ?a5_6, ?a5_7, ?a5_8] ?T5 (by decide) rfl) ?_
 refine tri_end_n _ ⟨[], rfl⟩ rfl .nil ⟨{ h with at_ := a4, ct := c4, bs := h.bs ++ [⟨b5⟩], ss := h.ss.set w ⟨a3, (h.ss.getD w default).len + 1, c3⟩ }, ⟨ok.idx, ok.mem, ?_, ?_, fun k hk => ?_⟩, ?_, fun _ h => h⟩
 ·simp only [R21.add, List.length_append, List.length_singleton, hbl]
 ·simp only [R21.add, R21.push, List.length_set, hsl]
 ·simp only [R21.add, R21.push, List.length_set] at hk ⊢
  rw [getD_set7 (by omega), getD_set7 hw]
  split
  ·have := ok.len w hw
   simp only [List.length_append, List.length_singleton]
   omega
  ·exact ok.len k hk
 ·unfold CwA
  simp only [Int.toNat_natCast, R21.add, R21.push, List.length_set, List.length_append, List.length_singleton]
end Go.GL


namespace Go.GL
open Go.Proofs
attribute [local irreducible] wpList Code.wp Exit.then Exit.inBlock Ends Tri TriH OpV OpG FnC epf wpAnyH
variable {A : List Asrt} {I : List Chunk}
set_option maxHeartbeats 2000000 in
set_option maxRecDepth 100000 in
theorem crew_full {bc bx mb db bq cd i : Nat} {room : Int} {h : Hp} {s : R21.Ms} (hi : i < s.ts.length) (hg : R6.Good s.ns room) (hn : R6.inS s.ns (s.ts.getD i default).n) :
  FnC Try.prog 85 [pt bc 0, pt (h.bs.getD i default).b 0].toArray (CwA bc bx mb db (some ⟨bq, 0, none⟩) cd room h s A) I (fun v A' I' => v = .bool (decide (R21.full s (s.ts.getD i default))) ∧ A' = CwA bc bx mb db (some ⟨bq, 0, none⟩) cd room h s A ∧ I = I') := by
 obtain ⟨Rt, ht1, ht2⟩ := tk_one (bs := h.bs) hi
 obtain ⟨hn0, hn1⟩ := hn
 have hlv := hg.mod.nd ⟨hn0, hn1⟩
 skip
 skip
 refine fn_enter2 Try.func85 rfl Try.ntmps85 rfl fun w0 => ?_
 refine tS (tR (tA rfl rfl (tN (tT (tS ?_)))))
 refine tri_perm perm7 ?_
 refine tri_starsPerm ht1 (tri_starsUn ?_)
 unfold tkA
 obtain ⟨t, htt⟩ : ∃ t, s.ts.getD i default = t := ⟨_, rfl⟩
 rw [htt] at hn0 hn1 hlv ⊢
 have hlv : 0 ≤ (s.ns.getD t.n.toNat default).lv ∧ (s.ns.getD t.n.toNat default).lv ≤ 42 := ⟨hlv.1, hlv.2.1⟩
 refine tri_draw [0, 1, 2, 3, 4, 5, 6, 7, 8, 9, 10, 11, 12, 13, 14, 15, 16, 17, 18, 19, 20, 21, 22, 23, 24] rfl [] rfl mixed ?_
 refine yM rfl rfl (yn rfl rfl (yf rfl rfl (yf rfl rfl ?_)))
 refine yl rfl rfl rfl ?_
 refine yM rfl rfl (yn rfl rfl (yf rfl rfl (yf rfl rfl ?_)))
 refine yl rfl rfl rfl ?_
 refine yn rfl rfl (yf rfl rfl (yf rfl rfl ?_))
 refine yl rfl rfl rfl ?_
 refine yM rfl rfl (yn rfl rfl (yf rfl rfl (yf rfl rfl ?_)))
 refine yl rfl rfl rfl ?_
 refine th_take rfl rfl (by kernel_rfl)  (opv_indexAddrR rfl rfl (by omega) (by omega)) ?_
 refine th_take rfl rfl (by kernel_rfl)  (opv_fieldAddrR rfl (by omega) rfl) ?_
 refine th_take rfl rfl (by kernel_rfl)  (opv_loadRX1 rfl rfl (by omega) rfl rfl) ?_
 refine th_take rfl rfl (by kernel_rfl)  (opv_sub rfl rfl (w64 (by omega) (by omega))) ?_
 refine th_take rfl rfl (by kernel_rfl)  (opv_eql rfl rfl) ?_
 refine yA rfl rfl (yD (tT (tri_ret ?_)))
 subst htt
 refine tri_starsRe (tri_starsPerm ht1.symm ?_)
 refine tri_perm (A := ?a1_0 :: ?a1_1 :: ?a1_2 :: ?a1_3 :: ?a1_4 :: ?a1_5 :: ?a1_6 :: ?a1_7 :: ?a1_8 :: ?T1) (B := ?a1_1 :: ?a1_2 :: ?a1_3 :: ?a1_4 :: ?a1_5 :: ?a1_6 :: ?a1_7 :: ?a1_0 :: ?a1_8 :: ?T1) (by exact permL [1, 2, 3, 4, 5, 6, 7, 0, 8] [?a1_0, ?a1_1, ?a1_2, ?a1_3, ?a1_4, ?a1_5, ?a1_6, ?a1_7, ?a1_8] ?T1 (by decide) rfl) ?_
 refine tri_end _ (⟨[], rfl⟩) rfl (.cons (rv_tmp rfl) .nil) ⟨rfl, rfl, rfl⟩
/-! ### wait -/
theorem parts_len (w i : Nat) (j : Int) : ∀ (k : Nat) (l : List Int) (s : R21.Ms), (R21.parts w i j k l s).D.length = s.D.length
 | k, [], s => rfl
 | k, n :: l, s => by
  unfold R21.parts
  rw [parts_len w i j (k + 1) l]
  simp [R21.add, R21.push]
theorem parts_snoc (w i : Nat) (j : Int) : ∀ (l : List Int) (k : Nat) (n : Int) (s : R21.Ms), R21.parts w i j k (l ++ [n]) s = R21.add (R21.parts w i j k l s) w (R21.tk0 n j i ((k + l.length : Nat) : Int))
 | [], k, n, s => by simp [R21.parts]
 | m :: l, k, n, s => by
  rw [List.cons_append]
  unfold R21.parts
  rw [parts_snoc w i j l (k + 1) n]
  rw [List.length_cons]
  rw [show k + 1 + l.length = k + (l.length + 1) by omega]
theorem parts_take (w i : Nat) (j : Int) (l : List Int) (s : R21.Ms) {k : Nat} (hk : k < l.length) : R21.parts w i j 0 (l.take (k + 1)) s = R21.add (R21.parts w i j 0 (l.take k) s) w (R21.tk0 (l.getD k default) j i (k : Int)) := by
 rw [List.take_succ_eq_append_getElem hk, parts_snoc]
 have e1 : (l.take k).length = k := by rw [List.length_take]; omega
 have e2 : l[k] = l.getD k default := by simp [hk]
 rw [e1, e2, Nat.zero_add]
theorem parts_ts (w i : Nat) (j : Int) : ∀ (l : List Int) (k : Nat) (s : R21.Ms), (R21.parts w i j k l s).ts.length = s.ts.length + l.length
 | [], k, s => by simp [R21.parts]
 | n :: l, k, s => by
  unfold R21.parts
  rw [parts_ts w i j l]
  simp [R21.add]
  omega
theorem parts_dq (w i : Nat) (j : Int) (hw : w < w + 1) : ∀ (l : List Int) (k : Nat) (s : R21.Ms), ((R21.parts w i j k l s).D.getD w default).length ≤ (s.D.getD w default).length + l.length
 | [], k, s => by simp [R21.parts]
 | n :: l, k, s => by
  unfold R21.parts
  have := parts_dq w i j hw l (k + 1) (R21.add s w (R21.tk0 n j i k))
  have h2 : ((R21.add s w (R21.tk0 n j i k)).D.getD w default).length ≤ (s.D.getD w default).length + 1 := by
   unfold R21.add R21.push
   simp only
   by_cases h : w < s.D.length
   ·rw [getD_set7 h, if_pos rfl]; simp
   ·rw [List.set_eq_of_length_le (by omega)]; omega
  rw [List.length_cons]
  omega
set_option maxHeartbeats 2000000 in
set_option maxRecDepth 100000 in
theorem crew_wait {bc bx mb db bq cd w i capl : Nat} {room j : Int} {h : Hp} {s : R21.Ms} {l : List Int} {al : Option Addr} (ok : CwOk h s) (hw : w < s.D.length) (hi : i < s.ts.length) (hn : s.ts.length ≤ 100000000) (hd : (s.D.getD w default).length ≤ 100000000) (hl : SlAt I al l) (hll : l.length ≤ 9) :
  FnC Try.prog 86 [pt bc 0, .int .i64 (w : Nat), .int .i64 (i : Nat), .int .i64 j, .slice al l.length capl].toArray (CwA bc bx mb db (some ⟨bq, 0, none⟩) cd room h s A) I (CwR bc bx mb db bq cd room (R21.wait s w i j l) A I) := by
 obtain ⟨Rt, ht1, ht2⟩ := tk_one (bs := h.bs) hi
 have hbl := ok.bl
 skip
 skip
 refine fn_enter5 Try.func86 rfl Try.ntmps86 rfl fun w0 => ?_
 refine tS ?_
 refine tri_perm perm7 ?_
 refine tri_starsPerm ht1 (tri_starsUn ?_)
 unfold tkA
 refine tR (tM rfl rfl ?_)
 refine tri_v (opv_nilCheck rfl) rfl ?_
 refine yF rfl ?_
 refine yL rfl rfl ?_
 refine tM rfl rfl ?_
 refine tri_v (opv_indexAddrRN rfl rfl (by omega)) rfl ?_
 refine tri_v (opv_loadRX1 rfl rfl (by omega) rfl rfl) rfl ?_
 refine tA rfl rfl (tN (tT (tS (tR (tM rfl rfl (tM rfl rfl (tM rfl rfl ?_)))))))
 refine tri_v (opv_len rfl) rfl ?_
 refine tM rfl rfl ?_
 refine tri_v (opv_len rfl) rfl ?_
 refine tri_v (opv_nilCheck rfl) rfl ?_
 refine yF rfl ?_
 refine yG rfl rfl rfl rfl rfl rfl ?_
 rintro _ _ _ ⟨rfl, rfl⟩
 refine tri_v (opv_nilCheck rfl) rfl ?_
 refine yF rfl ?_
 refine yG rfl rfl rfl rfl rfl rfl ?_
 rintro _ _ _ ⟨rfl, rfl⟩
 refine tN (tT (tS (tR (tM rfl rfl ?_))))
 refine tri_v (opv_len rfl) rfl ?_
 refine tM rfl rfl (tN (tT (tri_block ?_)))
 obtain ⟨u, hu⟩ : ∃ u : Tk, u = { s.ts.getD i default with wt := l.length, lf := l.length } := ⟨_, rfl⟩
 have hq := (ht2 u).symm
 rw [hu] at hq
 refine tri_starsRe (tri_starsPerm hq ?_)
 rw [← hu]
 refine tri_perm (A := ?a2_0 :: ?a2_1 :: ?a2_2 :: ?a2_3 :: ?a2_4 :: ?a2_5 :: ?a2_6 :: ?a2_7 :: ?a2_8 :: ?T2) (B := ?a2_1 :: ?a2_2 :: ?a2_3 :: ?a2_4 :: ?a2_5 :: ?a2_6 :: ?a2_7 :: ?a2_0 :: ?a2_8 :: ?T2) (by exact permL [1, 2, 3, 4, 5, 6, 7, 0, 8] [?a2_0, ?a2_1, ?a2_2, ?a2_3, ?a2_4, ?a2_5, ?a2_6, ?a2_7, ?a2_8] ?T2 (by decide) rfl) ?_
 obtain ⟨s1, hs1⟩ : ∃ s1 : R21.Ms, s1 = { s with ts := s.ts.set i u } := ⟨_, rfl⟩
 have ewait : R21.wait s w i j l = R21.parts w i j 0 l s1 := by rw [hs1, hu]; rfl
 rw [ewait]
 have el : s1.ts.length = s.ts.length := by rw [hs1]; exact List.length_set ..
 have ok1 : CwOk h s1 := by rw [hs1]; exact ⟨ok.idx, ok.mem, by simp only [List.length_set]; exact ok.bl, ok.sl, ok.len⟩
 have hw1 : w < s1.D.length := by rw [hs1]; exact hw
 have hd1 : (s1.D.getD w default).length ≤ 100000000 := by rw [hs1]; exact hd
 rw [← el]
 rw [show Stars (tkS h.bs (s.ts.set i u)) = Stars (tkS h.bs s1.ts) by rw [hs1], show s.ns = s1.ns by rw [hs1], show s.D = s1.D by rw [hs1], show s.node = s1.node by rw [hs1], show s.done = s1.done by rw [hs1]]
 clear hs1 ewait hq ht1 ht2
 refine tri_sub (F' := [(0, pt bc 0), (1, .int .i64 (w : Nat)), (2, .int .i64 (i : Nat)), (3, .int .i64 j), (30, .slice al l.length capl), (31, .int .i64 (l.length : Nat)), (32, .int .i64 (0 : Nat))]) ⟨rfl, rfl, rfl, rfl, rfl, rfl, rfl, trivial⟩ ?_
 refine loop_ind (G := Nat × Hp × List Chunk) (fun g => l.length - g.1) (fun g => g.1 ≤ l.length ∧ CwOk g.2.1 (R21.parts w i j 0 (l.take g.1) s1) ∧ I ⊆ g.2.2) (fun g => [(0, pt bc 0), (1, .int .i64 (w : Nat)), (2, .int .i64 (i : Nat)), (3, .int .i64 j), (30, .slice al l.length capl), (31, .int .i64 (l.length : Nat)), (32, .int .i64 (g.1 : Nat))]) (fun g => CwA bc bx mb db (some ⟨bq, 0, none⟩) cd room g.2.1 (R21.parts w i j 0 (l.take g.1) s1) A) (fun g => g.2.2) ?_ (0, h, I) ⟨by simp only; omega, ok1, fun _ h => h⟩
 rintro ⟨k, h2, I2⟩ ⟨hk, ok2, hI2⟩ K hK
 simp only at hk ok2 hI2 hK ⊢
 have hl2 := hl.mono hI2
 have hle : (l.take k).length = k := by rw [List.length_take]; omega
 have q1 := parts_len w i j 0 (l.take k) s1
 have q2 := parts_ts w i j (l.take k) 0 s1
 have q3 := parts_dq w i j (by omega) (l.take k) 0 s1
 rw [hle] at q2 q3
 have q4 : k < l.length → R21.parts w i j 0 (l.take (k + 1)) s1 = R21.add (R21.parts w i j 0 (l.take k) s1) w (R21.tk0 (l.getD k default) j i (k : Int)) := fun h => parts_take w i j l s1 h
 have q5 : k = l.length → R21.parts w i j 0 l s1 = R21.parts w i j 0 (l.take k) s1 := fun h => by rw [h, List.take_length]
 generalize R21.parts w i j 0 (l.take k) s1 = s2 at *
 skip
 refine tS (tR (yC rfl rfl (tN (tT (tS ?_)))))
 refine tri_cond_dec rfl (fun h1 => ?_) (fun h1 => ?_)
 ·refine tri_skip (tT (tS (tri_block (tS (tR (tM rfl rfl ?_))))))
  refine tri_v (opv_indexAddrSN rfl rfl (by omega) (by assumption) rfl) rfl ?_
  refine tri_v (opv_loadE1 rfl (by assumption) rfl (by omega) rfl rfl) rfl ?_
  refine tA rfl rfl (tA rfl rfl (tN (tT (tR (tM rfl rfl (tM rfl rfl (tM rfl rfl ?_)))))))
  refine tM rfl rfl ?_
  refine tri_v (opv_buildS rfl rfl) rfl ?_
  refine tM rfl rfl (tM rfl rfl ?_)
  refine tri_v (opv_buildS rfl rfl) rfl ?_
  refine tri_g (opg_call (xs := [_, _, _]) rfl (crew_add (t := R21.tk0 (l.getD k default) j i (k : Int)) ok2 (by omega) (by omega) (by omega))) rfl ?_
  rintro _ _ I3 ⟨h3, ok3, rfl, hI3⟩
  rw [← q4 (by omega)] at ok3 ⊢
  refine tN (tri_inBlock (tT (tR ?_)))
  refine yU rfl rfl ?_
  refine tM rfl rfl (tN (tT ?_))
  refine tri_sub ?_ (hK (k + 1, h3, I3) ⟨by simp only; omega, ok3, fun _ h => hI3 (hI2 h)⟩ (by simp only; omega))
  exact ⟨rfl, rfl, rfl, rfl, rfl, rfl, rfl, trivial⟩
 ·refine tri_exit ?_
  refine tri_then_exit (tri_then_exit ?_)
  refine tri_inBlock_hit rfl ?_
  refine tri_end_n _ ⟨[], rfl⟩ rfl .nil ⟨h2, ?_, ?_, hI2⟩
  ·rw [q5 (by omega)]; exact ok2
  ·rw [q5 (by omega)]
end Go.GL


namespace Go.GL
open Go.Proofs
attribute [local irreducible] wpList Code.wp Exit.then Exit.inBlock Ends Tri TriH OpV OpG FnC epf wpAnyH
section
variable {w0 : World} {n : Nat} {F : Frm} {A : List Asrt} {I : List Chunk}
theorem tri_starsUn2 {a b : Asrt} {M : List Asrt} {K : Act → World → Prop} (h : Tri w0 n F (a :: b :: Stars M :: A) I K) : Tri w0 n F (Stars (a :: b :: M) :: A) I K :=
 tri_starsUn (tri_perm (List.Perm.swap _ _ _) (tri_starsUn (tri_perm (A := b :: Stars M :: a :: A) (B := a :: b :: Stars M :: A) (List.perm_middle (l₁ := [b, Stars M])) h)))
theorem tri_starsRe2 {a b : Asrt} {M : List Asrt} {K : Act → World → Prop} (h : Tri w0 n F (Stars (a :: b :: M) :: A) I K) : Tri w0 n F (a :: b :: Stars M :: A) I K :=
 tri_perm (A := a :: b :: Stars M :: A) (B := b :: Stars M :: a :: A) (List.perm_middle (l₁ := [b, Stars M])).symm (tri_starsRe (tri_perm (List.Perm.swap _ _ _) (tri_starsRe h)))
end
def tkL (t : Tk) : List Int := [t.n, t.j, t.of_, t.pl, t.wt, t.lf, t.r0, t.r1, t.r2, t.r3, t.r4, t.r5, t.r6, t.r7, t.r8]
theorem tkL_enc (t : Tk) : Enc.enc t = ints (tkL t) := rfl
theorem tkL_set (t : Tk) {p : Int} (h0 : 0 ≤ p) (h1 : p ≤ 8) (v : Int) : (tkL t).set (0 + 6 + p.toNat * 1) v = tkL (R21.setR t p v) := by
 rcases (by omega : p = 0 ∨ p = 1 ∨ p = 2 ∨ p = 3 ∨ p = 4 ∨ p = 5 ∨ p = 6 ∨ p = 7 ∨ p = 8) with rfl | rfl | rfl | rfl | rfl | rfl | rfl | rfl | rfl <;> rfl
theorem keep_some {kp : R9.Memo} {n j to x : Int} (h : R9.look9 kp n j = some x) : R21.keep kp n j to = kp := by unfold R21.keep; rw [h]
theorem keep_none {kp : R9.Memo} {n j to : Int} (h : R9.look9 kp n j = none) : R21.keep kp n j to = kp ++ [(n, j, to)] := by unfold R21.keep; rw [h]
variable {A : List Asrt} {I : List Chunk}
set_option maxHeartbeats 4000000 in
set_option maxRecDepth 100000 in
theorem crew_tell {bc bx mb db bq cd w i : Nat} {room n : Int} {h : Hp} {s : R21.Ms} (ok : CwOk h s) (hw : w < s.D.length) (hi : i < s.ts.length) (hd : (s.D.getD w default).length ≤ 100000000) (hn : s.ts.length ≤ 100000000)
  (hof : 0 ≤ (s.ts.getD i default).of_ → (s.ts.getD i default).of_.toNat < s.ts.length ∧ (s.ts.getD i default).of_.toNat ≠ i) (hpl : 0 ≤ (s.ts.getD i default).pl ∧ (s.ts.getD i default).pl ≤ 8) :
  FnC Try.prog 82 [pt bc 0, .int .i64 (w : Nat), pt (h.bs.getD i default).b 0, .int .i64 n].toArray (CwA bc bx mb db (some ⟨bq, 0, none⟩) cd room h s A) I (CwR bc bx mb db bq cd room (R21.tell s w i n) A I) := by
 obtain ⟨Rt, ht1, ht2⟩ := tk_one (bs := h.bs) hi
 have hbl := ok.bl
 obtain ⟨t, htt⟩ : ∃ t, s.ts.getD i default = t := ⟨_, rfl⟩
 rw [htt] at hof hpl
 have hmf := ok.mem t.n t.j
 have etell : R21.tell s w i n = if t.of_ < 0 then { s with kp := R21.keep s.kp t.n t.j n, node := n, done := true } else { s with kp := R21.keep s.kp t.n t.j n, ts := s.ts.set t.of_.toNat (R21.less (R21.setR (s.ts.getD t.of_.toNat default) t.pl n)), D := if (R21.less (R21.setR (s.ts.getD t.of_.toNat default) t.pl n)).lf = 0 then R21.push s.D w t.of_ else s.D } := by unfold R21.tell; rw [htt]
 rw [etell]
 skip
 skip
 refine fn_enter4 Try.func82 rfl Try.ntmps82 rfl fun w0 => ?_
 refine tS (tS ?_)
 refine tri_perm perm7 ?_
 refine tri_starsPerm ht1 (tri_starsUn ?_)
 unfold tkA
 rw [htt]
 refine tri_draw [0, 1, 2, 3, 4, 5, 6, 7, 8, 9, 10, 11, 12, 13] rfl [] rfl mixed ?_
 refine yM rfl rfl (yn rfl rfl (yf rfl rfl ?_))
 refine yl rfl rfl rfl ?_
 refine yM rfl rfl (yn rfl rfl (yf rfl rfl ?_))
 refine th_take rfl rfl (by kernel_rfl)  (opv_loadA rfl rfl rfl) ?_
 refine th_take rfl rfl (by kernel_rfl)  (opv_lookup2 (P := Try.prog) (ks := [t.n, t.j]) zeroInt rfl rfl (keyLeap t.n t.j) keyLeapAt rfl) ?_
 refine yM rfl rfl (yE rfl rfl rfl (yE rfl rfl rfl (yA rfl rfl (yA rfl rfl (yD (tT (tS ?_)))))))
 refine tR (tM rfl rfl ?_)
 refine tri_v (opv_not rfl) rfl ?_
 refine tN (tT ?_)
 refine tri_perm (A := ?a1_0 :: ?a1_1 :: ?a1_2 :: ?a1_3 :: ?a1_4 :: ?a1_5 :: ?a1_6 :: ?a1_7 :: ?a1_8 :: ?T1) (B := ?a1_8 :: ?a1_0 :: ?a1_1 :: ?a1_2 :: ?a1_3 :: ?a1_4 :: ?a1_5 :: ?a1_6 :: ?a1_7 :: ?T1) (by exact permL [8, 0, 1, 2, 3, 4, 5, 6, 7] [?a1_0, ?a1_1, ?a1_2, ?a1_3, ?a1_4, ?a1_5, ?a1_6, ?a1_7, ?a1_8] ?T1 (by decide) rfl) ?_
 skip
 refine tri_cut (fun F' A' J => ∃ ds', MemK (R21.keep s.kp t.n t.j n) ds' ∧ F' = [(0, pt bc 0), (1, .int .i64 (w : Nat)), (2, pt (h.bs.getD i default).b 0), (3, .int .i64 n)] ∧ A' = MapA Try.prog 79 db ds' :: Box (h.bs.getD i default).b (Enc.enc t) 82 :: Stars Rt :: IxA bx mb h.a h.cap s.ns room h.es (Box bc [pt bx 0, .slice h.at_ s.ts.length h.ct, .slice (some ⟨bq, 0, none⟩) s.D.length cd, .map (some db), .int .i64 s.node, .bool s.done] 76 :: Row h.at_ h.ct s.ts.length 113 1 (encs h.bs) :: Row (some ⟨bq, 0, none⟩) cd s.D.length 27 1 (encs h.ss) :: Stars (dqS h.ss s.D) :: A) ∧ I = J) ?_ ?_
 ·obtain ⟨o, ho⟩ : ∃ o, R9.look9 s.kp t.n t.j = o := ⟨_, rfl⟩
  rw [ho] at hmf
  rcases o with _ | to
  ·refine tri_cond_true (congrArg (fun o => some (Value.bool (!Option.isSome o))) hmf) ?_
   rw [keep_none ho]
   refine tri_draw [0, 1, 2, 3, 4, 5, 6, 7, 8, 9] rfl [_] rfl mixed ?_
   refine yM rfl rfl (yn rfl rfl (yf rfl rfl ?_))
   refine yl rfl rfl rfl ?_
   refine yM rfl rfl (yn rfl rfl (yf rfl rfl ?_))
   refine th_take rfl rfl (by kernel_rfl)  (opv_loadA rfl rfl rfl) ?_
   refine yM rfl rfl ?_
   refine th_one (by kernel_rfl) (step_m rfl rfl (opg_mapUpdate (P := Try.prog) (ks := [t.n, t.j]) rfl rfl rfl (keyLeap t.n t.j) keyLeapAt rfl) ?_)
   rintro _ _ _ ⟨rfl, rfl⟩
   refine ⟨Suf.h, (fun _ h => h), ?_⟩
   refine yD ?_
   refine tri_cutEnd _ ⟨mset h.ds [t.n, t.j] (.int .i64 n), ok.mem.snoc ho n, rfl, rfl, rfl⟩ ⟨rfl, rfl, rfl, rfl, trivial⟩
  ·refine tri_cond_false (congrArg (fun o => some (Value.bool (!Option.isSome o))) hmf) ?_
   rw [keep_some ho]
   refine tri_skip ?_
   refine tri_cutEnd _ ⟨h.ds, ok.mem, rfl, rfl, rfl⟩ ⟨rfl, rfl, rfl, rfl, trivial⟩
 ·rintro _ _ _ ⟨ds', hmem, rfl, rfl, rfl⟩
  refine tT (tS (tS (tR (tM rfl rfl ?_))))
  refine tri_v (opv_nilCheck rfl) rfl ?_
  refine yF rfl ?_
  refine yL rfl rfl ?_
  refine yC rfl rfl (tN (tT ?_))
  refine tri_cond_dec rfl (fun h1 => ?_) (fun h1 => ?_)
  ·rw [if_pos h1]
   refine tS (tR (tM rfl rfl (tM rfl rfl (tM rfl rfl ?_))))
   refine tri_v (opv_nilCheck rfl) rfl ?_
   refine yF rfl ?_
   refine yG rfl rfl rfl rfl rfl rfl ?_
   rintro _ _ _ ⟨rfl, rfl⟩
   refine tri_v (opv_nilCheck rfl) rfl ?_
   refine yF rfl ?_
   refine yG rfl rfl rfl rfl rfl rfl ?_
   rintro _ _ _ ⟨rfl, rfl⟩
   refine tN (tT (tri_ret (tri_then_ret ?_)))
   subst htt
   refine tri_perm (A := ?a2_0 :: ?a2_1 :: ?a2_2 :: ?a2_3 :: ?a2_4 :: ?a2_5 :: ?a2_6 :: ?a2_7 :: ?a2_8 :: ?a2_9 :: ?T2) (B := ?a2_1 :: ?a2_2 :: ?a2_0 :: ?a2_3 :: ?a2_4 :: ?a2_5 :: ?a2_6 :: ?a2_7 :: ?a2_8 :: ?a2_9 :: ?T2) (by exact permL [1, 2, 0, 3, 4, 5, 6, 7, 8, 9] [?a2_0, ?a2_1, ?a2_2, ?a2_3, ?a2_4, ?a2_5, ?a2_6, ?a2_7, ?a2_8, ?a2_9] ?T2 (by decide) rfl) ?_
   refine tri_starsRe (tri_starsPerm ht1.symm ?_)
   refine tri_perm (A := ?a3_0 :: ?a3_1 :: ?a3_2 :: ?a3_3 :: ?a3_4 :: ?a3_5 :: ?a3_6 :: ?a3_7 :: ?a3_8 :: ?T3) (B := ?a3_2 :: ?a3_3 :: ?a3_4 :: ?a3_5 :: ?a3_6 :: ?a3_7 :: ?a3_1 :: ?a3_0 :: ?a3_8 :: ?T3) (by exact permL [2, 3, 4, 5, 6, 7, 1, 0, 8] [?a3_0, ?a3_1, ?a3_2, ?a3_3, ?a3_4, ?a3_5, ?a3_6, ?a3_7, ?a3_8] ?T3 (by decide) rfl) ?_
   refine tri_end _ (⟨[], rfl⟩) rfl .nil ⟨{ h with ds := ds' }, ⟨ok.idx, hmem, ok.bl, ok.sl, ok.len⟩, rfl, fun _ h => h⟩
  ·rw [if_neg h1]
   obtain ⟨hp, hne⟩ := hof (by omega)
   obtain ⟨R2, hr1, hr2⟩ := tk_two (bs := h.bs) hi hp hne
   unfold tkA at hr1 hr2 ht1
   rw [htt] at hr1 hr2 ht1
   refine tri_perm (A := ?a4_0 :: ?a4_1 :: ?a4_2 :: ?a4_3 :: ?a4_4 :: ?a4_5 :: ?a4_6 :: ?a4_7 :: ?a4_8 :: ?a4_9 :: ?T4) (B := ?a4_1 :: ?a4_2 :: ?a4_0 :: ?a4_3 :: ?a4_4 :: ?a4_5 :: ?a4_6 :: ?a4_7 :: ?a4_8 :: ?a4_9 :: ?T4) (by exact permL [1, 2, 0, 3, 4, 5, 6, 7, 8, 9] [?a4_0, ?a4_1, ?a4_2, ?a4_3, ?a4_4, ?a4_5, ?a4_6, ?a4_7, ?a4_8, ?a4_9] ?T4 (by decide) rfl) ?_
   refine tri_starsRe (tri_starsPerm ht1.symm ?_)
   refine tri_starsPerm hr1 (tri_starsUn2 ?_)
   obtain ⟨u0, hu0⟩ : ∃ u0, s.ts.getD t.of_.toNat default = u0 := ⟨_, rfl⟩
   rw [hu0, tkL_enc u0]
   refine tri_perm (A := ?a5_0 :: ?a5_1 :: ?T5) (B := ?a5_1 :: ?a5_0 :: ?T5) (by exact permL [1, 0] [?a5_0, ?a5_1] ?T5 (by decide) rfl) ?_
   skip
   skip
   refine tri_skip (tT (tS ?_))
   refine tri_draw [0, 1, 2, 3, 4, 5, 6, 7, 8, 9, 10] rfl [] rfl mixed ?_
   refine yM rfl rfl (yn rfl rfl (yf rfl rfl ?_))
   refine yl rfl rfl rfl ?_
   refine yM rfl rfl (yn rfl rfl (yf rfl rfl ?_))
   refine yl rfl rfl rfl ?_
   refine th_take rfl rfl (by kernel_rfl)  (opv_indexAddrR rfl rfl (by omega) (by omega)) ?_
   refine th_take rfl rfl (by kernel_rfl)  (opv_loadRX1 rfl rfl (by omega) rfl rfl) ?_
   refine yA rfl rfl (yD (tT (tS ?_)))
   refine tri_draw [0, 1, 2, 3, 4, 5, 6, 7, 8, 9] rfl [_] rfl mixed ?_
   refine yM rfl rfl (yM rfl rfl (yn rfl rfl (yf rfl rfl ?_)))
   refine yl rfl rfl rfl ?_
   refine yM rfl rfl (yn rfl rfl (yf rfl rfl ?_))
   refine th_take rfl rfl (by kernel_rfl)  (opv_indexAddrA rfl rfl (by omega) (by omega)) ?_
   refine th_one (by kernel_rfl) (step_m rfl rfl (opg_storeIX rfl rfl (by show _ < 15; omega)) ?_)
   rintro _ _ _ ⟨rfl, rfl⟩
   refine ⟨Suf.h, (fun _ h => h), ?_⟩
   rw [tkL_set u0 hpl.1 hpl.2]
   generalize R21.setR u0 t.pl n = u1 at *
   refine yD (tT (tS (tR (tM rfl rfl ?_))))
   refine tri_v (opv_nilCheck rfl) rfl ?_
   refine yF rfl ?_
   refine yL rfl rfl ?_
   refine tri_v (opv_sub rfl rfl rfl) rfl ?_
   refine tri_v (opv_nilCheck rfl) rfl ?_
   refine yF rfl ?_
   refine yG rfl rfl rfl rfl rfl rfl ?_
   rintro _ _ _ ⟨rfl, rfl⟩
   refine tN (tT (tS (tR (tM rfl rfl ?_))))
   refine tri_v (opv_nilCheck rfl) rfl ?_
   refine yF rfl ?_
   refine yL rfl rfl ?_
   refine tri_v (opv_eql rfl rfl) rfl ?_
   refine tN (tT ?_)
   refine tri_weaken (b := Box (h.bs.getD t.of_.toNat default).b (Enc.enc (R21.less u1)) 82) (fun c hc => hc) ?_
   refine tri_cond_dec rfl (fun h2 => ?_) (fun h2 => ?_)
   ·rw [if_pos (show (R21.less u1).lf = 0 from h2)]
    have hsl := ok.sl
    have hl := ok.len ((w : Nat) : Int).toNat hw
    have hd : (s.D.getD ((w : Nat) : Int).toNat default).length ≤ 100000000 := hd
    obtain ⟨Rq, hq1, hq2⟩ := dq_one (k := ((w : Nat) : Int).toNat) hw hsl
    refine tri_perm (A := ?a6_0 :: ?a6_1 :: ?a6_2 :: ?a6_3 :: ?a6_4 :: ?a6_5 :: ?a6_6 :: ?a6_7 :: ?a6_8 :: ?a6_9 :: ?a6_10 :: ?T6) (B := ?a6_10 :: ?a6_0 :: ?a6_1 :: ?a6_2 :: ?a6_3 :: ?a6_4 :: ?a6_5 :: ?a6_6 :: ?a6_7 :: ?a6_8 :: ?a6_9 :: ?T6) (by exact permL [10, 0, 1, 2, 3, 4, 5, 6, 7, 8, 9] [?a6_0, ?a6_1, ?a6_2, ?a6_3, ?a6_4, ?a6_5, ?a6_6, ?a6_7, ?a6_8, ?a6_9, ?a6_10] ?T6 (by decide) rfl) ?_
    refine tri_starsPerm hq1 (tri_starsUn ?_)
    unfold dqA
    refine tri_rowEq (len' := (h.ss.getD ((w : Nat) : Int).toNat default).len) (cells' := encs (s.D.getD ((w : Nat) : Int).toNat default)) hl.symm rfl ?_
    refine tri_perm (A := ?a7_0 :: ?a7_1 :: ?a7_2 :: ?a7_3 :: ?a7_4 :: ?a7_5 :: ?a7_6 :: ?a7_7 :: ?a7_8 :: ?a7_9 :: ?a7_10 :: ?a7_11 :: ?T7) (B := ?a7_0 :: ?a7_11 :: ?a7_1 :: ?a7_2 :: ?a7_3 :: ?a7_4 :: ?a7_5 :: ?a7_6 :: ?a7_7 :: ?a7_8 :: ?a7_9 :: ?a7_10 :: ?T7) (by exact permL [0, 11, 1, 2, 3, 4, 5, 6, 7, 8, 9, 10] [?a7_0, ?a7_1, ?a7_2, ?a7_3, ?a7_4, ?a7_5, ?a7_6, ?a7_7, ?a7_8, ?a7_9, ?a7_10, ?a7_11] ?T7 (by decide) rfl) ?_
    skip
    skip
    refine tri_cut (fun F' A' J => ∃ (a3 : Option Addr) (c3 : Nat), F' = [] ∧ A' = Row a3 c3 ((h.ss.getD ((w : Nat) : Int).toNat default).len + 1) 3 1 (encs (s.D.getD ((w : Nat) : Int).toNat default) ++ [.int .i64 t.of_]) :: Row (some ⟨bq, 0, none⟩) cd s.D.length 27 1 (encs (h.ss.set ((w : Nat) : Int).toNat (⟨a3, (h.ss.getD ((w : Nat) : Int).toNat default).len + 1, c3⟩ : Sl))) :: Stars Rq :: Box (h.bs.getD t.of_.toNat default).b (Enc.enc (R21.less u1)) 82 :: Box (h.bs.getD i default).b (Enc.enc t) 82 :: Stars R2 :: MapA Try.prog 79 db ds' :: IxA bx mb h.a h.cap s.ns room h.es (Box bc [pt bx 0, .slice h.at_ s.ts.length h.ct, .slice (some ⟨bq, 0, none⟩) s.D.length cd, .map (some db), .int .i64 s.node, .bool s.done] 76 :: Row h.at_ h.ct s.ts.length 113 1 (encs h.bs) :: A) ∧ I = J) ?_ ?_
    ·refine tri_draw [0, 1, 2, 3, 4, 5, 6, 7, 8, 9, 10, 12, 13, 14, 15, 11, 16, 17, 18, 19] rfl [_, _] rfl mixed ?_
     refine yM rfl rfl (yn rfl rfl (yf rfl rfl ?_))
     refine yl rfl rfl rfl ?_
     refine yM rfl rfl (yM rfl rfl (yn rfl rfl (yf rfl rfl ?_)))
     refine yl rfl rfl rfl ?_
     refine yM rfl rfl ?_
     refine th_take rfl rfl (by kernel_rfl)  (opv_indexAddrSP rfl rfl (by omega) (by omega)) ?_
     refine yM rfl rfl (yn rfl rfl (yf rfl rfl ?_))
     refine yl rfl rfl rfl ?_
     refine th_two (j := 16) [11, 17, 18, 19] (by kernel_rfl) rfl ?_ ?_
     ·refine (step_m rfl rfl (OpV.toG (opv_loadRX1 rfl rfl (by omega) rfl rfl)) ?_)
      rintro _ _ _ ⟨rfl, rfl, rfl⟩
      refine ⟨Suf.h, (fun _ h => h), ?_⟩
      refine th_one (by kernel_rfl) (step_m rfl rfl (opg_buildSlice rfl rfl rfl rfl) ?_)
      rintro _ _ _ ⟨b93, rfl, rfl, rfl⟩
      refine ⟨Suf.h, (fun _ h => h), ?_⟩
      refine th_one (by kernel_rfl) (step_m rfl rfl (opg_appendB rfl rfl rfl rfl (by omega) rfl) ?_)
      rintro _ _ _ ⟨a3, c3, rfl, rfl, rfl⟩
      refine ⟨Suf.h, (fun _ h => h), ?_⟩
      refine th_take rfl rfl (by kernel_rfl)  (opv_indexAddrSP rfl rfl (by omega) (by omega)) ?_
      refine th_one (by kernel_rfl) (step_m rfl rfl (opg_storeRX (⟨a3, (h.ss.getD ((w : Nat) : Int).toNat default).len + 1, c3⟩ : Sl) rfl rfl rfl (by omega) (by omega) rfl rfl rfl rfl) ?_)
      rintro _ _ _ ⟨rfl, rfl⟩
      refine ⟨Suf.h, (fun _ h => h), ?_⟩
      refine yD ?_
      refine tri_drop ?_
      refine tri_cutEnd _ ⟨a3, c3, rfl, rfl, rfl⟩ trivial
     ·refine (step_m rfl rfl (opg_buildSlice rfl rfl rfl rfl) ?_)
      rintro _ _ _ ⟨b93, rfl, rfl, rfl⟩
      refine ⟨Suf.h, (fun _ h => h), ?_⟩
      refine th_one (by kernel_rfl) (step_m rfl rfl (OpV.toG (opv_loadRX1 rfl rfl (by omega) rfl rfl)) ?_)
      rintro _ _ _ ⟨rfl, rfl, rfl⟩
      refine ⟨Suf.h, (fun _ h => h), ?_⟩
      refine th_one (by kernel_rfl) (step_m rfl rfl (opg_appendB rfl rfl rfl rfl (by omega) rfl) ?_)
      rintro _ _ _ ⟨a3, c3, rfl, rfl, rfl⟩
      refine ⟨Suf.h, (fun _ h => h), ?_⟩
      refine th_take rfl rfl (by kernel_rfl)  (opv_indexAddrSP rfl rfl (by omega) (by omega)) ?_
      refine th_one (by kernel_rfl) (step_m rfl rfl (opg_storeRX (⟨a3, (h.ss.getD ((w : Nat) : Int).toNat default).len + 1, c3⟩ : Sl) rfl rfl rfl (by omega) (by omega) rfl rfl rfl rfl) ?_)
      rintro _ _ _ ⟨rfl, rfl⟩
      refine ⟨Suf.h, (fun _ h => h), ?_⟩
      refine yD ?_
      refine tri_drop ?_
      refine tri_cutEnd _ ⟨a3, c3, rfl, rfl, rfl⟩ trivial
    ·rintro _ _ _ ⟨a3, c3, rfl, rfl, rfl⟩
     skip
     have hq3 := hq2 ⟨a3, (h.ss.getD ((w : Nat) : Int).toNat default).len + 1, c3⟩ (s.D.getD ((w : Nat) : Int).toNat default ++ [t.of_])
     refine tri_rowEq (len' := (s.D.getD ((w : Nat) : Int).toNat default ++ [t.of_]).length) (cells' := encs (s.D.getD ((w : Nat) : Int).toNat default ++ [t.of_])) (by rw [hl]; simp) (by rw [encs_append]; rfl) ?_
     refine tri_perm (A := ?a8_0 :: ?a8_1 :: ?a8_2 :: ?T8) (B := ?a8_0 :: ?a8_2 :: ?a8_1 :: ?T8) (by exact permL [0, 2, 1] [?a8_0, ?a8_1, ?a8_2] ?T8 (by decide) rfl) ?_
     refine tri_starsRe (tri_starsPerm hq3.symm ?_)
     refine tri_perm (A := ?a9_0 :: ?a9_1 :: ?a9_2 :: ?a9_3 :: ?a9_4 :: ?a9_5 :: ?a9_6 :: ?a9_7 :: ?a9_8 :: ?a9_9 :: ?a9_10 :: ?T9) (B := ?a9_3 :: ?a9_2 :: ?a9_4 :: ?a9_0 :: ?a9_1 :: ?a9_5 :: ?a9_6 :: ?a9_7 :: ?a9_8 :: ?a9_9 :: ?a9_10 :: ?T9) (by exact permL [3, 2, 4, 0, 1, 5, 6, 7, 8, 9, 10] [?a9_0, ?a9_1, ?a9_2, ?a9_3, ?a9_4, ?a9_5, ?a9_6, ?a9_7, ?a9_8, ?a9_9, ?a9_10] ?T9 (by decide) rfl) ?_
     refine tri_starsRe2 (tri_starsPerm (hr2 (R21.less u1)).symm ?_)
     refine tri_perm (A := ?a10_0 :: ?a10_1 :: ?a10_2 :: ?a10_3 :: ?a10_4 :: ?a10_5 :: ?a10_6 :: ?a10_7 :: ?a10_8 :: ?T10) (B := ?a10_4 :: ?a10_5 :: ?a10_6 :: ?a10_7 :: ?a10_8 :: ?a10_2 :: ?a10_3 :: ?a10_0 :: ?a10_1 :: ?T10) (by exact permL [4, 5, 6, 7, 8, 2, 3, 0, 1] [?a10_0, ?a10_1, ?a10_2, ?a10_3, ?a10_4, ?a10_5, ?a10_6, ?a10_7, ?a10_8] ?T10 (by decide) rfl) ?_
     refine tri_end_n _ ⟨[], rfl⟩ rfl .nil ⟨{ h with ds := ds', ss := h.ss.set w ⟨a3, (h.ss.getD w default).len + 1, c3⟩ }, ⟨ok.idx, hmem, ?_, ?_, fun k hk => ?_⟩, ?_, fun _ h => h⟩
     ·simp only [List.length_set, hbl]
     ·simp only [R21.push, List.length_set, hsl]
     ·simp only [R21.push, List.length_set] at hk ⊢
      rw [getD_set7 (by omega), getD_set7 hw]
      split
      ·have := ok.len w hw
       simp only [List.length_append, List.length_singleton]
       omega
      ·exact ok.len k hk
     ·unfold CwA
      simp only [Int.toNat_natCast, R21.push, List.length_set]
   ·rw [if_neg (show ¬ (R21.less u1).lf = 0 from h2)]
    refine tri_skip ?_
    refine tri_perm (A := ?a11_0 :: ?a11_1 :: ?a11_2 :: ?a11_3 :: ?a11_4 :: ?a11_5 :: ?a11_6 :: ?a11_7 :: ?a11_8 :: ?a11_9 :: ?a11_10 :: ?T11) (B := ?a11_1 :: ?a11_0 :: ?a11_2 :: ?a11_3 :: ?a11_4 :: ?a11_5 :: ?a11_6 :: ?a11_7 :: ?a11_8 :: ?a11_9 :: ?a11_10 :: ?T11) (by exact permL [1, 0, 2, 3, 4, 5, 6, 7, 8, 9, 10] [?a11_0, ?a11_1, ?a11_2, ?a11_3, ?a11_4, ?a11_5, ?a11_6, ?a11_7, ?a11_8, ?a11_9, ?a11_10] ?T11 (by decide) rfl) ?_
    refine tri_starsRe2 (tri_starsPerm (hr2 (R21.less u1)).symm ?_)
    refine tri_perm (A := ?a12_0 :: ?a12_1 :: ?a12_2 :: ?a12_3 :: ?a12_4 :: ?a12_5 :: ?a12_6 :: ?a12_7 :: ?a12_8 :: ?T12) (B := ?a12_2 :: ?a12_3 :: ?a12_4 :: ?a12_5 :: ?a12_6 :: ?a12_7 :: ?a12_1 :: ?a12_0 :: ?a12_8 :: ?T12) (by exact permL [2, 3, 4, 5, 6, 7, 1, 0, 8] [?a12_0, ?a12_1, ?a12_2, ?a12_3, ?a12_4, ?a12_5, ?a12_6, ?a12_7, ?a12_8] ?T12 (by decide) rfl) ?_
    refine tri_end_n _ ⟨[], rfl⟩ rfl .nil ⟨{ h with ds := ds' }, ⟨ok.idx, hmem, ?_, ok.sl, ok.len⟩, ?_, fun _ h => h⟩
    ·simp only [List.length_set, hbl]
    ·unfold CwA
     simp only [List.length_set]
end Go.GL


namespace Go.GL
open Go.Proofs
attribute [local irreducible] wpList Code.wp Exit.then Exit.inBlock Ends Tri TriH OpV OpG FnC epf wpAnyH
variable {A : List Asrt} {I : List Chunk}
theorem SlAt.none_nil {α : Type} [Enc α] {I : List Chunk} {a : Option Addr} {xs : List α} (h : SlAt I a xs) (ha : a = none) : xs = [] := by
 rcases h with h | ⟨b, off, h, _⟩
 ·exact h
 ·rw [ha] at h; cases h
set_option maxHeartbeats 4000000 in
set_option maxRecDepth 100000 in
theorem crew_take {bc bx mb db bq cd w : Nat} {room : Int} {h : Hp} {s : R21.Ms} (ok : CwOk h s) (hw : w < s.D.length) (hn : s.D.length ≤ 1000) (hb : ∀ k, k < s.D.length → (s.D.getD k default).length ≤ 100000000) :
  FnC Try.prog 72 [pt bc 0, .int .i64 (w : Nat)].toArray (CwA bc bx mb db (some ⟨bq, 0, none⟩) cd room h s A) I (fun v A' I' => v = .int .i64 (R19.takeM s.D w).1 ∧ CwR bc bx mb db bq cd room { s with D := (R19.takeM s.D w).2 } A I v A' I') := by
 have hsl := ok.sl
 have hbl := ok.bl
 have hl := ok.len w hw
 have hbw := hb w hw
 obtain ⟨Rq, hq1, hq2⟩ := dq_one (k := w) hw hsl
 skip
 skip
 refine fn_enter2 Try.func72 rfl Try.ntmps72 rfl fun w0 => ?_
 refine tS (tR (tA rfl rfl (tN (tT (tS (tS (tR ?_)))))))
 refine tM rfl rfl ?_
 refine tri_v (opv_nilCheck rfl) rfl ?_
 refine yF rfl ?_
 refine yL rfl rfl ?_
 refine tM rfl rfl ?_
 refine tri_v (opv_indexAddrRN rfl rfl (by omega)) rfl ?_
 refine tri_v (opv_loadRX1 rfl rfl (by omega) rfl rfl) rfl ?_
 refine tA rfl rfl (tN (tT (tS (tR (tM rfl rfl ?_)))))
 refine tri_v (opv_len rfl) rfl ?_
 refine tri_v (opv_gtr rfl rfl) rfl ?_
 refine tN (tT ?_)
 try rw [hl]
 refine tri_cond_dec rfl (fun hc => ?_) (fun hc => ?_)
 ·have em : R19.takeM s.D w = ((s.D.getD w default).getD ((s.D.getD w default).length - 1) default, s.D.set w ((s.D.getD w default).take ((s.D.getD w default).length - 1))) := if_pos (by omega)
  rw [em]
  have e1 : (((s.D.getD w default).length : Int) - 1).toNat = (s.D.getD w default).length - 1 := by omega
  refine tri_perm perm8 ?_
  refine tri_starsPerm hq1 (tri_starsUn ?_)
  unfold dqA
  refine tri_freezeRowC (α := Int) rfl fun I1 hI1 hs1 => ?_
  have sc := hs1.sl
  have hi : ((s.D.getD w default).length : Int) - 1 ≤ ((s.D.getD w default).length : Nat) := by omega
  refine tri_perm (A := ?a1_0 :: ?a1_1 :: ?a1_2 :: ?a1_3 :: ?a1_4 :: ?a1_5 :: ?a1_6 :: ?a1_7 :: ?a1_8 :: ?T1) (B := ?a1_6 :: ?a1_0 :: ?a1_1 :: ?a1_2 :: ?a1_3 :: ?a1_4 :: ?a1_5 :: ?a1_7 :: ?a1_8 :: ?T1) (by exact permL [6, 0, 1, 2, 3, 4, 5, 7, 8] [?a1_0, ?a1_1, ?a1_2, ?a1_3, ?a1_4, ?a1_5, ?a1_6, ?a1_7, ?a1_8] ?T1 (by decide) rfl) ?_
  skip
  skip
  skip
  refine tS ?_
  refine tri_draw [0, 1, 2, 3, 4, 5, 6, 7, 8, 9, 10, 11, 12] rfl [_] rfl mixed ?_
  refine yM rfl rfl (yn rfl rfl (yf rfl rfl ?_))
  refine yl rfl rfl rfl ?_
  refine yM rfl rfl (yM rfl rfl (yM rfl rfl ?_))
  refine th_take rfl rfl (by kernel_rfl)  (opv_len rfl) ?_
  refine th_take rfl rfl (by kernel_rfl)  (opv_sub rfl rfl (w64 (by omega) (by omega))) ?_
  refine th_take rfl rfl (by kernel_rfl)  (opv_sliceHi rfl rfl (by omega) (by omega) hs1 rfl) ?_
  skip
  rw [e1]
  have hlt : ((s.D.getD w default).take ((s.D.getD w default).length - 1)).length ≤ 1000000000 := by rw [List.length_take]; omega
  refine th_one (by kernel_rfl) (step_m rfl rfl (opg_call (xs := [_]) rfl (slices_cloneI (sc.take _) hlt (fun e => (sc.take _).none_nil e))) ?_)
  rintro _ _ _ ⟨a2, c2, rfl, rfl, rfl⟩
  refine ⟨Suf.h, (fun _ h => h), ?_⟩
  refine th_take rfl rfl (by kernel_rfl)  (opv_indexAddrSP rfl rfl (by omega) (by omega)) ?_
  refine th_one (by kernel_rfl) (step_m rfl rfl (opg_storeRX (⟨a2, ((s.D.getD w default).take ((s.D.getD w default).length - 1)).length, c2⟩ : Sl) rfl rfl rfl (by omega) (by omega) rfl rfl rfl rfl) ?_)
  rintro _ _ _ ⟨rfl, rfl⟩
  refine ⟨Suf.h, (fun _ h => h), ?_⟩
  refine yD (tT (tS (tR (tM rfl rfl (tM rfl rfl ?_)))))
  refine tri_v (opv_len rfl) rfl ?_
  refine tri_v (opv_sub rfl rfl (w64 (by omega) (by omega))) rfl ?_
  refine tri_v (opv_indexAddrS rfl rfl (by omega) (by omega) (by assumption) rfl) rfl ?_
  refine tri_v (opv_loadE1 rfl (by assumption) rfl (by omega) rfl rfl) rfl ?_
  refine tA rfl rfl (tN (tT (tri_ret (tri_then_ret ?_))))
  rw [e1]
  refine tri_perm (A := ?a2_0 :: ?a2_1 :: ?a2_2 :: ?T2) (B := ?a2_0 :: ?a2_2 :: ?a2_1 :: ?T2) (by exact permL [0, 2, 1] [?a2_0, ?a2_1, ?a2_2] ?T2 (by decide) rfl) ?_
  refine tri_starsRe (tri_starsPerm (hq2 ⟨a2, ((s.D.getD w default).take ((s.D.getD w default).length - 1)).length, c2⟩ ((s.D.getD w default).take ((s.D.getD w default).length - 1))).symm ?_)
  refine tri_perm (A := ?a3_0 :: ?a3_1 :: ?a3_2 :: ?a3_3 :: ?a3_4 :: ?a3_5 :: ?a3_6 :: ?a3_7 :: ?a3_8 :: ?T3) (B := ?a3_2 :: ?a3_3 :: ?a3_4 :: ?a3_5 :: ?a3_6 :: ?a3_1 :: ?a3_7 :: ?a3_8 :: ?a3_0 :: ?T3) (by exact permL [2, 3, 4, 5, 6, 1, 7, 8, 0] [?a3_0, ?a3_1, ?a3_2, ?a3_3, ?a3_4, ?a3_5, ?a3_6, ?a3_7, ?a3_8] ?T3 (by decide) rfl) ?_
  refine tri_end _ (⟨[], rfl⟩) rfl (.cons (rv_tmp rfl) .nil) ⟨rfl, { h with ss := h.ss.set w ⟨a2, ((s.D.getD w default).take ((s.D.getD w default).length - 1)).length, c2⟩ }, ⟨ok.idx, ok.mem, hbl, ?_, fun k hk => ?_⟩, ?_, hI1⟩
  ·simp only [List.length_set, hsl]
  ·simp only [List.length_set] at hk ⊢
   rw [getD_set7 (by omega), getD_set7 hw]
   split
   ·rfl
   ·exact ok.len k hk
  ·unfold CwA
   simp only [List.length_set, Int.toNat_natCast]
 ·have em : R19.takeM s.D w = match R19.findF s.D w s.D.length 0 with
    | some k => ((s.D.getD k default).getD 0 default, s.D.set k ((s.D.getD k default).drop 1))
    | none => (-1, s.D) := if_neg (by omega)
  rw [em]
  clear hq1 hq2 hl
  refine tri_skip (tT (tS (tS (tR (tM rfl rfl ?_)))))
  refine tri_v (opv_nilCheck rfl) rfl ?_
  refine yF rfl ?_
  refine yL rfl rfl ?_
  refine tri_v (opv_len rfl) rfl ?_
  refine tM rfl rfl (tN (tT (tri_block ?_)))
  refine tri_sub (F' := [(0, pt bc 0), (1, .int .i64 (w : Nat)), (41, .int .i64 (s.D.length : Nat)), (42, .int .i64 (0 : Nat))]) ⟨rfl, rfl, rfl, rfl, trivial⟩ ?_
  refine loop_ind (G := Nat) (fun i => s.D.length - i) (fun i => i ≤ s.D.length ∧ R19.findF s.D w s.D.length 0 = R19.findF s.D w (s.D.length - i) i) (fun i => [(0, pt bc 0), (1, .int .i64 (w : Nat)), (41, .int .i64 (s.D.length : Nat)), (42, .int .i64 (i : Nat))]) (fun _ => CwA bc bx mb db (some ⟨bq, 0, none⟩) cd room h s A) (fun _ => I) ?_ 0 ⟨by omega, rfl⟩
  rintro i ⟨hi, hf⟩ K hK
  skip
  skip
  refine tS (tR (yC rfl rfl (tN (tT (tS ?_)))))
  refine tri_cond_dec rfl (fun h2 => ?_) (fun h2 => ?_)
  ·have hil : i < s.D.length := by omega
   obtain ⟨k, ek⟩ : ∃ k, (w + i) % s.D.length = k := ⟨_, rfl⟩
   have hk : k < s.D.length := by rw [← ek]; exact Nat.mod_lt _ (by omega)
   have hlk := ok.len k hk
   have hbk := hb k hk
   obtain ⟨Rq, hq1, hq2⟩ := dq_one (k := k) hk hsl
   have hfs : R19.findF s.D w (s.D.length - i) i = if (s.D.getD k default).length = 0 then R19.findF s.D w (s.D.length - (i + 1)) (i + 1) else some k := by
    rw [show s.D.length - i = (s.D.length - (i + 1)) + 1 by omega]
    show (if (s.D.getD ((w + i) % s.D.length) default).length = 0 then _ else _) = _
    rw [ek]
   refine tri_skip (tT (tS (tri_block (tS (tR (tM rfl rfl (tA rfl rfl ?_)))))))
   refine tN (tT (tS (tR (tM rfl rfl (tM rfl rfl ?_)))))
   refine yU rfl rfl ?_
   refine tM rfl rfl ?_
   refine tri_v (opv_nilCheck rfl) rfl ?_
   refine yF rfl ?_
   refine yL rfl rfl ?_
   refine tri_v (opv_len rfl) rfl ?_
   refine tri_v (opv_remN (a := w + i) (z := k) rfl rfl (by omega) ek) rfl ?_
   refine tA rfl rfl (tN (tT (tS (tR (tM rfl rfl ?_)))))
   refine tri_v (opv_nilCheck rfl) rfl ?_
   refine yF rfl ?_
   refine yL rfl rfl ?_
   refine tM rfl rfl ?_
   refine tri_v (opv_indexAddrRN rfl rfl (by omega)) rfl ?_
   refine tri_v (opv_loadRX1 rfl rfl (by omega) rfl rfl) rfl ?_
   refine tA rfl rfl (tN (tT (tS (tR (tM rfl rfl ?_)))))
   refine tri_v (opv_len rfl) rfl ?_
   refine tri_v (opv_gtr rfl rfl) rfl ?_
   refine tN (tT ?_)
   rw [hlk]
   refine tri_cond_dec rfl (fun h3 => ?_) (fun h3 => ?_)
   ·rw [hf, hfs, if_neg (by omega)]
    refine tri_perm perm8 ?_
    refine tri_starsPerm hq1 (tri_starsUn ?_)
    unfold dqA
    refine tri_freezeRowC (α := Int) rfl fun I1 hI1 hs1 => ?_
    have sc := hs1.sl
    have sd := (hs1.lo (l := 1) (s := 1) (by omega) rfl).sl
    refine tri_perm (A := ?a4_0 :: ?a4_1 :: ?a4_2 :: ?a4_3 :: ?a4_4 :: ?a4_5 :: ?a4_6 :: ?a4_7 :: ?a4_8 :: ?T4) (B := ?a4_6 :: ?a4_0 :: ?a4_1 :: ?a4_2 :: ?a4_3 :: ?a4_4 :: ?a4_5 :: ?a4_7 :: ?a4_8 :: ?T4) (by exact permL [6, 0, 1, 2, 3, 4, 5, 7, 8] [?a4_0, ?a4_1, ?a4_2, ?a4_3, ?a4_4, ?a4_5, ?a4_6, ?a4_7, ?a4_8] ?T4 (by decide) rfl) ?_
    skip
    skip
    skip
    refine tS ?_
    refine tri_draw [0, 1, 2, 3, 4, 5, 6, 7, 8, 9] rfl [_] rfl mixed ?_
    refine yM rfl rfl (yn rfl rfl (yf rfl rfl ?_))
    refine yl rfl rfl rfl ?_
    refine yM rfl rfl (yM rfl rfl ?_)
    refine th_take rfl rfl (by kernel_rfl)  (opv_sliceLo rfl rfl (by omega) (by omega) hs1 rfl) ?_
    skip
    have hlt : ((s.D.getD k default).drop 1).length ≤ 1000000000 := by rw [List.length_drop]; omega
    refine th_one (by kernel_rfl) (step_m rfl rfl (opg_call (xs := [_]) rfl (slices_cloneI sd hlt (fun e => sd.none_nil e))) ?_)
    rintro _ _ _ ⟨a2, c2, rfl, rfl, rfl⟩
    refine ⟨Suf.h, (fun _ h => h), ?_⟩
    refine th_take rfl rfl (by kernel_rfl)  (opv_indexAddrSP rfl rfl (by omega) (by omega)) ?_
    refine th_one (by kernel_rfl) (step_m rfl rfl (opg_storeRX (⟨a2, ((s.D.getD k default).drop 1).length, c2⟩ : Sl) rfl rfl rfl (by omega) (by omega) rfl rfl rfl rfl) ?_)
    rintro _ _ _ ⟨rfl, rfl⟩
    refine ⟨Suf.h, (fun _ h => h), ?_⟩
    refine yD (tT (tS (tR (tM rfl rfl ?_))))
    refine tri_v (opv_indexAddrS rfl rfl (by omega) (by omega) (by assumption) rfl) rfl ?_
    refine tri_v (opv_loadE1 rfl (by assumption) rfl (by omega) rfl rfl) rfl ?_
    refine tA rfl rfl (tN (tT (tri_ret (tri_inBlock_ret (tri_then_ret (tri_then_ret (tri_inBlock_ret ?_)))))))
    refine tri_then_ret ?_
    refine tri_perm (A := ?a5_0 :: ?a5_1 :: ?a5_2 :: ?T5) (B := ?a5_0 :: ?a5_2 :: ?a5_1 :: ?T5) (by exact permL [0, 2, 1] [?a5_0, ?a5_1, ?a5_2] ?T5 (by decide) rfl) ?_
    refine tri_starsRe (tri_starsPerm (hq2 ⟨a2, ((s.D.getD k default).drop 1).length, c2⟩ ((s.D.getD k default).drop 1)).symm ?_)
    refine tri_perm (A := ?a6_0 :: ?a6_1 :: ?a6_2 :: ?a6_3 :: ?a6_4 :: ?a6_5 :: ?a6_6 :: ?a6_7 :: ?a6_8 :: ?T6) (B := ?a6_2 :: ?a6_3 :: ?a6_4 :: ?a6_5 :: ?a6_6 :: ?a6_1 :: ?a6_7 :: ?a6_8 :: ?a6_0 :: ?T6) (by exact permL [2, 3, 4, 5, 6, 1, 7, 8, 0] [?a6_0, ?a6_1, ?a6_2, ?a6_3, ?a6_4, ?a6_5, ?a6_6, ?a6_7, ?a6_8] ?T6 (by decide) rfl) ?_
    refine tri_end _ (⟨[], rfl⟩) rfl (.cons (rv_tmp rfl) .nil) ⟨rfl, { h with ss := h.ss.set k ⟨a2, ((s.D.getD k default).drop 1).length, c2⟩ }, ⟨ok.idx, ok.mem, hbl, ?_, fun k' hk' => ?_⟩, ?_, hI1⟩
    ·simp only [List.length_set, hsl]
    ·simp only [List.length_set] at hk' ⊢
     rw [getD_set7 (by omega), getD_set7 hk]
     split
     ·rfl
     ·exact ok.len k' hk'
    ·unfold CwA
     simp only [List.length_set, Int.toNat_natCast]
   ·refine tri_skip (tri_inBlock (tT (tR ?_)))
    refine yU rfl rfl ?_
    refine tM rfl rfl (tN (tT ?_))
    refine tri_sub ?_ (hK (i + 1) ⟨by omega, by rw [hf, hfs, if_pos (by omega)]⟩ (by omega))
    exact ⟨rfl, rfl, rfl, rfl, trivial⟩
  ·have ei : s.D.length - i = 0 := by omega
   rw [hf, ei]
   refine tri_exit ?_
   refine tri_then_exit (tri_then_exit ?_)
   refine tri_inBlock_hit rfl ?_
   refine tT (tS (tR (tA rfl rfl (tN (tT (tri_ret ?_))))))
   refine tri_end _ (⟨[], rfl⟩) rfl (.cons (rv_tmp rfl) .nil) ⟨rfl, h, ok, rfl, fun _ h => h⟩
end Go.GL


namespace Go.GL
open Go.Proofs
attribute [local irreducible] wpList Code.wp Exit.then Exit.inBlock Ends Tri TriH OpV OpG FnC epf wpAnyH
variable {A : List Asrt} {I : List Chunk}
/-- What a step comes to: an error, or the crew behind it. -/
def CwE (bc bx mb db bq cd : Nat) (room : Int) (r : R21.Ms × Int) (A : List Asrt) (I : List Chunk) : Value → List Asrt → List Chunk → Prop :=
 fun v A' I' => v = .int .i64 r.2 ∧ ∃ h' s', A' = CwA bc bx mb db (some ⟨bq, 0, none⟩) cd room h' s' A ∧ (r.2 = 0 → s' = r.1 ∧ CwOk h' s') ∧ I ⊆ I'
/-- What a task must keep to, that it may tell. -/
structure TkOk (ts : List Tk) (i : Nat) : Prop where
 lt : i < ts.length
 len : ts.length ≤ 100000000
 of_ : 0 ≤ (ts.getD i default).of_ → (ts.getD i default).of_.toNat < ts.length ∧ (ts.getD i default).of_.toNat ≠ i
 pl : 0 ≤ (ts.getD i default).pl ∧ (ts.getD i default).pl ≤ 8
structure DqOk (D : List (List Int)) (w : Nat) : Prop where
 lt : w < D.length
 len : (D.getD w default).length ≤ 100000000
theorem crew_tellR {bc bx mb db bq cd w i : Nat} {room n : Int} {h : Hp} {s : R21.Ms} {bt : Nat} (ok : CwOk h s) (hw : DqOk s.D w) (ht : TkOk s.ts i) (hb : bt = (h.bs.getD i default).b) :
  FnC Try.prog 82 [pt bc 0, .int .i64 (w : Nat), pt bt 0, .int .i64 n].toArray (CwA bc bx mb db (some ⟨bq, 0, none⟩) cd room h s A) I (CwR bc bx mb db bq cd room (R21.tell s w i n) A I) := by
 subst hb
 exact crew_tell ok hw.lt ht.lt hw.len ht.len ht.of_ ht.pl
set_option maxHeartbeats 4000000 in
set_option maxRecDepth 100000 in
theorem crew_end {bc bx mb db bq cd w i : Nat} {room : Int} {h : Hp} {s : R21.Ms} (ok : CwOk h s) (hw : DqOk s.D w) (ht : TkOk s.ts i) (hg : R6.Good s.ns room) (h2 : 2 ≤ s.ns.length) :
  FnC Try.prog 75 [pt bc 0, .int .i64 (w : Nat), .int .i64 (i : Nat)].toArray (CwA bc bx mb db (some ⟨bq, 0, none⟩) cd room h s A) I (CwE bc bx mb db bq cd room (R21.end_ room s w i) A I) := by
 have hi := ht.lt
 have hbl := ok.bl
 obtain ⟨Rt, ht1, ht2⟩ := tk_one (bs := h.bs) hi
 skip
 skip
 refine fn_enter3 Try.func75 rfl Try.ntmps75 rfl fun w0 => ?_
 refine tS (tR (tA rfl rfl (tN (tT (tS ?_)))))
 refine tri_perm perm7 ?_
 refine tri_starsPerm ht1 (tri_starsUn ?_)
 unfold tkA
 obtain ⟨t, htt⟩ : ∃ t, s.ts.getD i default = t := ⟨_, rfl⟩
 rw [htt]
 refine tri_perm (A := ?a1_0 :: ?a1_1 :: ?a1_2 :: ?a1_3 :: ?a1_4 :: ?a1_5 :: ?a1_6 :: ?a1_7 :: ?a1_8 :: ?a1_9 :: ?T1) (B := ?a1_2 :: ?a1_3 :: ?a1_4 :: ?a1_0 :: ?a1_1 :: ?a1_5 :: ?a1_6 :: ?a1_7 :: ?a1_8 :: ?a1_9 :: ?T1) (by exact permL [2, 3, 4, 0, 1, 5, 6, 7, 8, 9] [?a1_0, ?a1_1, ?a1_2, ?a1_3, ?a1_4, ?a1_5, ?a1_6, ?a1_7, ?a1_8, ?a1_9] ?T1 (by decide) rfl) ?_
 skip
 skip
 refine tR (tM rfl rfl ?_)
 refine tri_v (opv_nilCheck rfl) rfl ?_
 refine yF rfl ?_
 refine yL rfl rfl ?_
 refine tM rfl rfl ?_
 refine tri_v (opv_indexAddrRN rfl rfl (by omega)) rfl ?_
 refine tri_v (opv_loadRX1 rfl rfl (by omega) rfl rfl) rfl ?_
 refine tA rfl rfl (tN (tT (tS ?_)))
 refine tri_draw [0, 1, 2, 3, 4, 5, 6, 7, 8, 9, 10, 11, 12, 13, 14, 15, 16] rfl [_, _, _] rfl mixed ?_
 refine yM rfl rfl (yn rfl rfl (yf rfl rfl (yf rfl rfl ?_)))
 refine yl rfl rfl rfl ?_
 refine yM rfl rfl (yn rfl rfl (yf rfl rfl ?_))
 refine th_take rfl rfl (by kernel_rfl)  (opv_sliceArrHi rfl rfl (by decide) (by decide) (by decide)) ?_
 skip
 refine th_take rfl rfl (by kernel_rfl)  (opv_arrPtr rfl (by decide)) ?_
 refine th_take rfl rfl (by kernel_rfl)  (opv_loadA rfl rfl rfl) ?_
 refine th_one (by kernel_rfl) (step_m rfl rfl (opg_call (xs := [_, _]) rfl (node_put (q0 := t.r0) (q1 := t.r1) (q2 := t.r2) (q3 := t.r3) hg h2 ok.idx)) ?_)
 rintro _ _ _ ⟨a1, c1, es1, rfl, rfl, hi1, rfl⟩
 refine ⟨Suf.h, (fun _ h => h), ?_⟩
 have eend : R21.end_ room s w i = if (R6.put s.ns room t.r0 t.r1 t.r2 t.r3).2.2 ≠ 0 then (s, (R6.put s.ns room t.r0 t.r1 t.r2 t.r3).2.2) else (R21.tell { s with ns := (R6.put s.ns room t.r0 t.r1 t.r2 t.r3).1 } w i (R6.put s.ns room t.r0 t.r1 t.r2 t.r3).2.1, 0) := by unfold R21.end_; rw [htt]
 rw [eend]
 generalize R6.put s.ns room t.r0 t.r1 t.r2 t.r3 = p at *
 refine yM rfl rfl (yE rfl rfl rfl (yE rfl rfl rfl (yA rfl rfl (yA rfl rfl (yD (tT (tS ?_)))))))
 refine tS (tR (tM rfl rfl ?_))
 refine tri_v (opv_eql rfl rfl) rfl ?_
 refine tN (tT ?_)
 subst htt
 refine tri_perm (A := ?a2_0 :: ?a2_1 :: ?a2_2 :: ?a2_3 :: ?a2_4 :: ?a2_5 :: ?a2_6 :: ?a2_7 :: ?a2_8 :: ?a2_9 :: ?T2) (B := ?a2_3 :: ?a2_4 :: ?a2_0 :: ?a2_1 :: ?a2_2 :: ?a2_5 :: ?a2_6 :: ?a2_7 :: ?a2_8 :: ?a2_9 :: ?T2) (by exact permL [3, 4, 0, 1, 2, 5, 6, 7, 8, 9] [?a2_0, ?a2_1, ?a2_2, ?a2_3, ?a2_4, ?a2_5, ?a2_6, ?a2_7, ?a2_8, ?a2_9] ?T2 (by decide) rfl) ?_
 refine tri_starsRe (tri_starsPerm ht1.symm ?_)
 refine tri_perm (A := ?a3_0 :: ?a3_1 :: ?a3_2 :: ?a3_3 :: ?a3_4 :: ?a3_5 :: ?a3_6 :: ?a3_7 :: ?a3_8 :: ?T3) (B := ?a3_1 :: ?a3_2 :: ?a3_3 :: ?a3_4 :: ?a3_5 :: ?a3_6 :: ?a3_7 :: ?a3_0 :: ?a3_8 :: ?T3) (by exact permL [1, 2, 3, 4, 5, 6, 7, 0, 8] [?a3_0, ?a3_1, ?a3_2, ?a3_3, ?a3_4, ?a3_5, ?a3_6, ?a3_7, ?a3_8] ?T3 (by decide) rfl) ?_
 have ok1 : CwOk { h with a := a1, cap := c1, es := es1 } { s with ns := p.1 } := ⟨hi1, ok.mem, ok.bl, ok.sl, ok.len⟩
 refine tri_cond_dec rfl (fun hc => ?_) (fun hc => ?_)
 ·rw [if_neg (by simpa using hc)]
  refine tR (tM rfl rfl (tM rfl rfl (tM rfl rfl (tM rfl rfl ?_))))
  refine tri_g (opg_call (xs := [_, _, _, _]) rfl (crew_tellR (h := { h with a := a1, cap := c1, es := es1 }) (s := { s with ns := p.1 }) (n := p.2.1) (i := i) ok1 hw ht rfl)) rfl ?_
  rintro _ _ I2 ⟨h3, ok3, rfl, hI2⟩
  refine tN (tT (tS (tR (tM rfl rfl (tA rfl rfl (tN (tT ?_)))))))
  refine tri_ret ?_
  refine tri_end _ (⟨[], rfl⟩) rfl (.cons (rv_tmp rfl) .nil) ⟨by rw [hc]; rfl, h3, _, rfl, fun _ => ⟨rfl, ok3⟩, hI2⟩
 ·rw [if_pos hc]
  refine tri_skip (tT (tS (tR (tM rfl rfl (tA rfl rfl (tN (tT ?_)))))))
  refine tri_ret ?_
  refine tri_end _ (⟨[], rfl⟩) rfl (.cons (rv_tmp rfl) .nil) ⟨rfl, { h with a := a1, cap := c1, es := es1 }, { s with ns := p.1 }, rfl, fun k => absurd k hc, fun _ h => h⟩
section
variable {X0 X1 X2 X3 X4 X5 X6 X7 X8 S : Asrt}
theorem perm9' : (S :: X0 :: X1 :: X2 :: X3 :: X4 :: X5 :: X6 :: X7 :: X8 :: A).Perm (X0 :: X1 :: X2 :: X3 :: X4 :: X5 :: X6 :: X7 :: X8 :: S :: A) := (List.perm_middle (l₁ := [X0, X1, X2, X3, X4, X5, X6, X7, X8])).symm
end
set_option maxHeartbeats 4000000 in
set_option maxRecDepth 100000 in
theorem crew_join {bc bx mb db bq cd w i : Nat} {room : Int} {h : Hp} {s : R21.Ms} (ok : CwOk h s) (hw : DqOk s.D w) (ht : TkOk s.ts i) (hg : R6.Good s.ns room) (h2 : 2 ≤ s.ns.length) (hin : R6.inS s.ns (s.ts.getD i default).n) :
  FnC Try.prog 74 [pt bc 0, .int .i64 (w : Nat), .int .i64 (i : Nat)].toArray (CwA bc bx mb db (some ⟨bq, 0, none⟩) cd room h s A) I (CwE bc bx mb db bq cd room (R21.join room s w i) A I) := by
 have hi := ht.lt
 have hbl := ok.bl
 obtain ⟨Rt, ht1, ht2⟩ := tk_one (bs := h.bs) hi
 skip
 skip
 refine fn_enter3 Try.func74 rfl Try.ntmps74 rfl fun w0 => ?_
 refine tS ?_
 refine tri_perm perm7 ?_
 refine tri_starsPerm ht1 (tri_starsUn ?_)
 unfold tkA
 obtain ⟨t, htt⟩ : ∃ t, s.ts.getD i default = t := ⟨_, rfl⟩
 rw [htt] at hin ⊢
 refine tR (tA rfl rfl (tN (tT (tS (tR (tM rfl rfl ?_))))))
 refine tri_v (opv_nilCheck rfl) rfl ?_
 refine yF rfl ?_
 refine yL rfl rfl ?_
 refine tM rfl rfl ?_
 refine tri_v (opv_indexAddrRN rfl rfl (by omega)) rfl ?_
 refine tri_v (opv_loadRX1 rfl rfl (by omega) rfl rfl) rfl ?_
 refine tA rfl rfl (tN (tT (tS ?_)))
 refine tri_draw [1, 2, 3, 4, 5, 0, 6, 7] rfl [] rfl mixed ?_
 refine yM rfl rfl (yn rfl rfl (yf rfl rfl (yf rfl rfl ?_)))
 refine yl rfl rfl rfl ?_
 refine th_one (by kernel_rfl) (step_m rfl rfl (opg_makeSliceN (m := 4) rfl rfl rfl (by omega) (by decide)) ?_)
 rintro _ _ _ ⟨a5, ha5, rfl, rfl, rfl⟩
 refine ⟨Suf.h, (fun _ h => h), ?_⟩
 refine yA rfl rfl (yA rfl rfl (yD (tT (tS (tS (tR (tM rfl rfl ?_)))))))
 refine tM rfl rfl ?_
 refine tri_rowEq (len' := 4) (cells' := encs ([0, 0, 0, 0] : List Int)) rfl rfl ?_
 refine tri_perm (A := ?a4_0 :: ?a4_1 :: ?a4_2 :: ?a4_3 :: ?a4_4 :: ?a4_5 :: ?a4_6 :: ?a4_7 :: ?a4_8 :: ?a4_9 :: ?a4_10 :: ?T4) (B := ?a4_1 :: ?a4_2 :: ?a4_0 :: ?a4_3 :: ?a4_4 :: ?a4_5 :: ?a4_6 :: ?a4_7 :: ?a4_8 :: ?a4_9 :: ?a4_10 :: ?T4) (by exact permL [1, 2, 0, 3, 4, 5, 6, 7, 8, 9, 10] [?a4_0, ?a4_1, ?a4_2, ?a4_3, ?a4_4, ?a4_5, ?a4_6, ?a4_7, ?a4_8, ?a4_9, ?a4_10] ?T4 (by decide) rfl) ?_
 have ht1' := ht1
 unfold tkA at ht1'
 rw [htt] at ht1'
 refine tri_starsRe (tri_starsPerm ht1'.symm ?_)
 refine tri_perm (A := ?a5_0 :: ?a5_1 :: ?a5_2 :: ?a5_3 :: ?a5_4 :: ?a5_5 :: ?a5_6 :: ?a5_7 :: ?a5_8 :: ?a5_9 :: ?T5) (B := ?a5_2 :: ?a5_3 :: ?a5_4 :: ?a5_5 :: ?a5_6 :: ?a5_7 :: ?a5_8 :: ?a5_0 :: ?a5_9 :: ?a5_1 :: ?T5) (by exact permL [2, 3, 4, 5, 6, 7, 8, 0, 9, 1] [?a5_0, ?a5_1, ?a5_2, ?a5_3, ?a5_4, ?a5_5, ?a5_6, ?a5_7, ?a5_8, ?a5_9] ?T5 (by decide) rfl) ?_
 refine tri_g (opg_call (xs := [_, _]) rfl (crew_full (h := h) (s := s) (i := i) hi hg (by rw [htt]; exact hin))) rfl ?_
 rintro _ _ _ ⟨rfl, rfl, rfl⟩
 rw [htt]
 obtain ⟨j, hj⟩ : ∃ j, j = if R21.full s t then IntKind.i64.wrap (t.j - 1) else t.j := ⟨_, rfl⟩
 refine tN (tT ?_)
 refine tri_cut (fun F' A' J => F' = [(0, pt bc 0), (1, .int .i64 (w : Nat)), (2, .int .i64 (i : Nat)), (7, pt (h.bs.getD i default).b 0), (8, .slice a5 4 4), (9, .int .i64 j)] ∧ A' = CwA bc bx mb db (some ⟨bq, 0, none⟩) cd room h s (Row a5 4 4 3 1 (encs ([0, 0, 0, 0] : List Int)) :: A) ∧ I = J) ?_ ?_
 ·skip
  refine tri_cond_dec rfl (fun hf => ?_) (fun hf => ?_)
  ·rw [hj, if_pos hf]
   refine tR (tM rfl rfl ?_)
   refine tri_v (opv_sub rfl rfl rfl) rfl ?_
   refine tA rfl rfl (tN ?_)
   refine tri_cutEnd _ ⟨rfl, rfl, rfl⟩ ⟨rfl, rfl, rfl, rfl, rfl, rfl, trivial⟩
  ·rw [hj, if_neg hf]
   refine tri_skip ?_
   refine tri_cutEnd _ ⟨rfl, rfl, rfl⟩ ⟨rfl, rfl, rfl, rfl, rfl, rfl, trivial⟩
 ·rintro _ _ _ ⟨rfl, rfl, rfl⟩
  obtain ⟨p0, hp0⟩ : ∃ p, R6.put s.ns room t.r0 t.r1 t.r3 t.r4 = p := ⟨_, rfl⟩
  obtain ⟨p1, hp1⟩ : ∃ p, R6.put p0.1 room t.r1 t.r2 t.r4 t.r5 = p := ⟨_, rfl⟩
  obtain ⟨p2, hp2⟩ : ∃ p, R6.put p1.1 room t.r3 t.r4 t.r6 t.r7 = p := ⟨_, rfl⟩
  obtain ⟨p3, hp3⟩ : ∃ p, R6.put p2.1 room t.r4 t.r5 t.r7 t.r8 = p := ⟨_, rfl⟩
  have g0 : R6.Good p0.1 room ∧ 2 ≤ p0.1.length := ⟨hp0 ▸ hg.put _ _ _ _, hp0 ▸ R6.put_len h2⟩
  have g1 : R6.Good p1.1 room ∧ 2 ≤ p1.1.length := ⟨hp1 ▸ g0.1.put _ _ _ _, hp1 ▸ R6.put_len g0.2⟩
  have g2 : R6.Good p2.1 room ∧ 2 ≤ p2.1.length := ⟨hp2 ▸ g1.1.put _ _ _ _, hp2 ▸ R6.put_len g1.2⟩
  have ej : R21.join room s w i = if p0.2.2 ≠ 0 then (s, p0.2.2) else if p1.2.2 ≠ 0 then (s, p1.2.2) else if p2.2.2 ≠ 0 then (s, p2.2.2) else if p3.2.2 ≠ 0 then (s, p3.2.2) else (R21.wait { s with ns := p3.1 } w i j [p0.2.1, p1.2.1, p2.2.1, p3.2.1], 0) := by
   subst hj; subst hp3; subst hp2; subst hp1; subst hp0; subst htt; rfl
  rw [ej]
  clear ej
  refine tT (tS (tS (tR (tM rfl rfl ?_))))
  refine tri_v (opv_len rfl) rfl ?_
  refine tM rfl rfl (tN (tT (tri_block ?_)))
  refine tri_perm (A := ?a6_0 :: ?a6_1 :: ?a6_2 :: ?a6_3 :: ?a6_4 :: ?a6_5 :: ?a6_6 :: ?a6_7 :: ?a6_8 :: ?a6_9 :: ?T6) (B := ?a6_7 :: ?a6_0 :: ?a6_1 :: ?a6_2 :: ?a6_3 :: ?a6_4 :: ?a6_5 :: ?a6_6 :: ?a6_8 :: ?a6_9 :: ?T6) (by exact permL [7, 0, 1, 2, 3, 4, 5, 6, 8, 9] [?a6_0, ?a6_1, ?a6_2, ?a6_3, ?a6_4, ?a6_5, ?a6_6, ?a6_7, ?a6_8, ?a6_9] ?T6 (by decide) rfl) ?_
  refine tri_starsPerm ht1' (tri_starsUn ?_)
  refine tri_perm (A := ?a7_0 :: ?a7_1 :: ?a7_2 :: ?a7_3 :: ?a7_4 :: ?a7_5 :: ?a7_6 :: ?a7_7 :: ?a7_8 :: ?a7_9 :: ?a7_10 :: ?T7) (B := ?a7_2 :: ?a7_3 :: ?a7_4 :: ?a7_0 :: ?a7_1 :: ?a7_5 :: ?a7_6 :: ?a7_7 :: ?a7_8 :: ?a7_9 :: ?a7_10 :: ?T7) (by exact permL [2, 3, 4, 0, 1, 5, 6, 7, 8, 9, 10] [?a7_0, ?a7_1, ?a7_2, ?a7_3, ?a7_4, ?a7_5, ?a7_6, ?a7_7, ?a7_8, ?a7_9, ?a7_10] ?T7 (by decide) rfl) ?_
  skip
  skip
  refine tri_rounds 5 ?_
  refine tri_round (tS (tR (yC rfl rfl (tN (tT (tS ?_))))))
  refine tri_cond_is rfl (by decide) ?_
  refine tri_skip (tT (tS (tri_block (tS (tR (tM rfl rfl (tA rfl rfl ?_)))))))
  refine tN (tT (tS (tR (tM rfl rfl ?_))))
  refine tri_v (opv_quoE rfl rfl (by omega) (by omega) (by omega)) rfl ?_
  refine tri_v (opv_mul rfl rfl (w64 (by omega) (by omega))) rfl ?_
  refine tM rfl rfl ?_
  refine tri_v (opv_remE rfl rfl (by omega) (by omega)) rfl ?_
  refine yU rfl rfl ?_
  refine tA rfl rfl (tN (tT (tS ?_)))
  refine tri_draw [0, 1, 2, 3, 4, 5, 6, 7, 8, 9, 10, 11, 12, 13, 14, 15, 16, 17, 18, 19, 20, 21, 22, 23, 24, 25, 26, 27, 28, 29, 30, 31, 32, 33, 34, 35, 36, 37, 38] rfl [_, _, _] rfl mixed ?_
  refine yM rfl rfl (yn rfl rfl (yf rfl rfl (yf rfl rfl ?_)))
  refine yl rfl rfl rfl ?_
  refine yM rfl rfl (yM rfl rfl (yn rfl rfl (yf rfl rfl ?_)))
  refine th_take rfl rfl (by kernel_rfl)  (opv_indexAddrA rfl rfl (by decide) (by decide)) ?_
  refine yl rfl rfl rfl ?_
  refine yM rfl rfl (yM rfl rfl ?_)
  refine th_take rfl rfl (by kernel_rfl)  (opv_add rfl rfl (w64 (by omega) (by omega))) ?_
  refine yn rfl rfl (yf rfl rfl ?_)
  refine th_take rfl rfl (by kernel_rfl)  (opv_indexAddrA rfl rfl (by decide) (by decide)) ?_
  refine yl rfl rfl rfl ?_
  refine yM rfl rfl (yM rfl rfl ?_)
  refine th_take rfl rfl (by kernel_rfl)  (opv_add rfl rfl (w64 (by omega) (by omega))) ?_
  refine yn rfl rfl (yf rfl rfl ?_)
  refine th_take rfl rfl (by kernel_rfl)  (opv_indexAddrA rfl rfl (by decide) (by decide)) ?_
  refine yl rfl rfl rfl ?_
  refine yM rfl rfl (yM rfl rfl ?_)
  refine th_take rfl rfl (by kernel_rfl)  (opv_add rfl rfl (w64 (by omega) (by omega))) ?_
  refine yn rfl rfl (yf rfl rfl ?_)
  refine th_take rfl rfl (by kernel_rfl)  (opv_indexAddrA rfl rfl (by decide) (by decide)) ?_
  refine yl rfl rfl rfl ?_
  refine th_take rfl rfl (by kernel_rfl)  (opv_buildA rfl rfl) ?_
  refine th_one (by kernel_rfl) (step_m rfl rfl (opg_call (xs := [_, _]) rfl (node_putR (q0 := t.r0) (q1 := t.r1) (q2 := t.r3) (q3 := t.r4) hg h2 ok.idx hp0)) ?_)
  rintro _ _ _ ⟨b200, c0, es0, rfl, rfl, hi0, rfl⟩
  refine ⟨Suf.h, (fun _ h => h), ?_⟩
  refine yM rfl rfl (yE rfl rfl rfl (yE rfl rfl rfl (yA rfl rfl (yA rfl rfl (yD (tT (tS ?_)))))))
  refine tS (tR (tM rfl rfl ?_))
  refine tri_v (opv_neq rfl rfl) rfl ?_
  refine tN (tT ?_)
  refine tri_cond_dec rfl (fun x0 => ?_) (fun x0 => ?_)
  ·rw [if_pos x0]
   refine tS (tR (tM rfl rfl (tA rfl rfl (tN (tT (tri_ret (tri_then_ret ?_)))))))
   refine tri_inBlock_ret (tri_then_ret (tri_then_ret (tri_inBlock_ret (tri_then_ret ?_))))
   refine tri_perm (A := ?a8_0 :: ?a8_1 :: ?a8_2 :: ?a8_3 :: ?a8_4 :: ?a8_5 :: ?a8_6 :: ?a8_7 :: ?a8_8 :: ?a8_9 :: ?a8_10 :: ?T8) (B := ?a8_3 :: ?a8_4 :: ?a8_0 :: ?a8_1 :: ?a8_2 :: ?a8_5 :: ?a8_6 :: ?a8_7 :: ?a8_8 :: ?a8_9 :: ?a8_10 :: ?T8) (by exact permL [3, 4, 0, 1, 2, 5, 6, 7, 8, 9, 10] [?a8_0, ?a8_1, ?a8_2, ?a8_3, ?a8_4, ?a8_5, ?a8_6, ?a8_7, ?a8_8, ?a8_9, ?a8_10] ?T8 (by decide) rfl) ?_
   refine tri_starsRe (tri_starsPerm ht1'.symm ?_)
   refine tri_perm (A := ?a9_0 :: ?a9_1 :: ?a9_2 :: ?a9_3 :: ?a9_4 :: ?a9_5 :: ?a9_6 :: ?a9_7 :: ?a9_8 :: ?a9_9 :: ?T9) (B := ?a9_9 :: ?a9_1 :: ?a9_2 :: ?a9_3 :: ?a9_4 :: ?a9_5 :: ?a9_6 :: ?a9_7 :: ?a9_0 :: ?a9_8 :: ?T9) (by exact permL [9, 1, 2, 3, 4, 5, 6, 7, 0, 8] [?a9_0, ?a9_1, ?a9_2, ?a9_3, ?a9_4, ?a9_5, ?a9_6, ?a9_7, ?a9_8, ?a9_9] ?T9 (by decide) rfl) ?_
   refine tri_drop ?_
   refine tri_end _ (⟨[], rfl⟩) rfl (.cons (rv_tmp rfl) .nil) ⟨rfl, { h with a := b200, cap := c0, es := es0 }, { s with ns := p0.1 }, rfl, fun k => absurd k x0, fun _ h => h⟩
  ·rw [if_neg x0]
   refine tri_perm (A := ?a10_0 :: ?a10_1 :: ?a10_2 :: ?T10) (B := ?a10_0 :: ?a10_1 :: ?a10_2 :: ?T10) (by exact permL [0, 1, 2] [?a10_0, ?a10_1, ?a10_2] ?T10 (by decide) rfl) ?_
   refine tri_skip (tT (tR (tM rfl rfl (tM rfl rfl (tM rfl rfl ?_)))))
   refine tri_v (opv_indexAddrR rfl rfl (by omega) (by omega)) rfl ?_
   refine tri_g (opg_storeRX (p0.2.1 : Int) (xs := [0, 0, 0, 0]) rfl rfl rfl (by decide) (by decide) rfl rfl rfl rfl) rfl ?_
   rintro _ _ _ ⟨rfl, rfl⟩
   skip
   refine tN (tri_inBlock (tT (tR ?_)))
   refine yU rfl rfl ?_
   refine tM rfl rfl (tN (tT (tri_round (tS (tR (yC rfl rfl (tN ?_)))))))
   refine tT (tS ?_)
   refine tri_cond_is rfl (by decide) ?_
   refine tri_skip (tT (tS (tri_block (tS (tR (tM rfl rfl (tA rfl rfl ?_)))))))
   refine tN (tT (tS (tR (tM rfl rfl ?_))))
   refine tri_v (opv_quoE rfl rfl (by omega) (by omega) (by omega)) rfl ?_
   refine tri_v (opv_mul rfl rfl (w64 (by omega) (by omega))) rfl ?_
   refine tM rfl rfl ?_
   refine tri_v (opv_remE rfl rfl (by omega) (by omega)) rfl ?_
   refine yU rfl rfl ?_
   refine tA rfl rfl (tN (tT (tS ?_)))
   refine tri_draw [0, 1, 2, 3, 4, 5, 6, 7, 8, 9, 10, 11, 12, 13, 14, 15, 16, 17, 18, 19, 20, 21, 22, 23, 24, 25, 26, 27, 28, 29, 30, 31, 32, 33, 34, 35, 36, 37, 38] rfl [_, _, _] rfl mixed ?_
   refine yM rfl rfl (yn rfl rfl (yf rfl rfl (yf rfl rfl ?_)))
   refine yl rfl rfl rfl ?_
   refine yM rfl rfl (yM rfl rfl (yn rfl rfl (yf rfl rfl ?_)))
   refine th_take rfl rfl (by kernel_rfl)  (opv_indexAddrA rfl rfl (by decide) (by decide)) ?_
   refine yl rfl rfl rfl ?_
   refine yM rfl rfl (yM rfl rfl ?_)
   refine th_take rfl rfl (by kernel_rfl)  (opv_add rfl rfl (w64 (by omega) (by omega))) ?_
   refine yn rfl rfl (yf rfl rfl ?_)
   refine th_take rfl rfl (by kernel_rfl)  (opv_indexAddrA rfl rfl (by decide) (by decide)) ?_
   refine yl rfl rfl rfl ?_
   refine yM rfl rfl (yM rfl rfl ?_)
   refine th_take rfl rfl (by kernel_rfl)  (opv_add rfl rfl (w64 (by omega) (by omega))) ?_
   refine yn rfl rfl (yf rfl rfl ?_)
   refine th_take rfl rfl (by kernel_rfl)  (opv_indexAddrA rfl rfl (by decide) (by decide)) ?_
   refine yl rfl rfl rfl ?_
   refine yM rfl rfl (yM rfl rfl ?_)
   refine th_take rfl rfl (by kernel_rfl)  (opv_add rfl rfl (w64 (by omega) (by omega))) ?_
   refine yn rfl rfl (yf rfl rfl ?_)
   refine th_take rfl rfl (by kernel_rfl)  (opv_indexAddrA rfl rfl (by decide) (by decide)) ?_
   refine yl rfl rfl rfl ?_
   refine th_take rfl rfl (by kernel_rfl)  (opv_buildA rfl rfl) ?_
   refine th_one (by kernel_rfl) (step_m rfl rfl (opg_call (xs := [_, _]) rfl (node_putR (q0 := t.r1) (q1 := t.r2) (q2 := t.r4) (q3 := t.r5) g0.1 g0.2 hi0 hp1)) ?_)
   rintro _ _ _ ⟨b201, c1, es1, rfl, rfl, hi1, rfl⟩
   refine ⟨Suf.h, (fun _ h => h), ?_⟩
   refine yM rfl rfl (yE rfl rfl rfl (yE rfl rfl rfl (yA rfl rfl (yA rfl rfl (yD (tT (tS ?_)))))))
   refine tS (tR (tM rfl rfl ?_))
   refine tri_v (opv_neq rfl rfl) rfl ?_
   refine tN (tT ?_)
   refine tri_cond_dec rfl (fun x1 => ?_) (fun x1 => ?_)
   ·rw [if_pos x1]
    refine tS (tR (tM rfl rfl (tA rfl rfl (tN (tT (tri_ret (tri_then_ret ?_)))))))
    refine tri_inBlock_ret (tri_then_ret (tri_then_ret (tri_inBlock_ret (tri_then_ret ?_))))
    refine tri_perm (A := ?a11_0 :: ?a11_1 :: ?a11_2 :: ?a11_3 :: ?a11_4 :: ?a11_5 :: ?a11_6 :: ?a11_7 :: ?a11_8 :: ?a11_9 :: ?a11_10 :: ?T11) (B := ?a11_3 :: ?a11_4 :: ?a11_0 :: ?a11_1 :: ?a11_2 :: ?a11_5 :: ?a11_6 :: ?a11_7 :: ?a11_8 :: ?a11_9 :: ?a11_10 :: ?T11) (by exact permL [3, 4, 0, 1, 2, 5, 6, 7, 8, 9, 10] [?a11_0, ?a11_1, ?a11_2, ?a11_3, ?a11_4, ?a11_5, ?a11_6, ?a11_7, ?a11_8, ?a11_9, ?a11_10] ?T11 (by decide) rfl) ?_
    refine tri_starsRe (tri_starsPerm ht1'.symm ?_)
    refine tri_perm (A := ?a12_0 :: ?a12_1 :: ?a12_2 :: ?a12_3 :: ?a12_4 :: ?a12_5 :: ?a12_6 :: ?a12_7 :: ?a12_8 :: ?a12_9 :: ?T12) (B := ?a12_9 :: ?a12_1 :: ?a12_2 :: ?a12_3 :: ?a12_4 :: ?a12_5 :: ?a12_6 :: ?a12_7 :: ?a12_0 :: ?a12_8 :: ?T12) (by exact permL [9, 1, 2, 3, 4, 5, 6, 7, 0, 8] [?a12_0, ?a12_1, ?a12_2, ?a12_3, ?a12_4, ?a12_5, ?a12_6, ?a12_7, ?a12_8, ?a12_9] ?T12 (by decide) rfl) ?_
    refine tri_drop ?_
    refine tri_end _ (⟨[], rfl⟩) rfl (.cons (rv_tmp rfl) .nil) ⟨rfl, { h with a := b201, cap := c1, es := es1 }, { s with ns := p1.1 }, rfl, fun k => absurd k x1, fun _ h => h⟩
   ·rw [if_neg x1]
    refine tri_perm (A := ?a13_0 :: ?a13_1 :: ?a13_2 :: ?T13) (B := ?a13_0 :: ?a13_1 :: ?a13_2 :: ?T13) (by exact permL [0, 1, 2] [?a13_0, ?a13_1, ?a13_2] ?T13 (by decide) rfl) ?_
    refine tri_skip (tT (tR (tM rfl rfl (tM rfl rfl (tM rfl rfl ?_)))))
    refine tri_v (opv_indexAddrR rfl rfl (by omega) (by omega)) rfl ?_
    refine tri_g (opg_storeRX (p1.2.1 : Int) (xs := [p0.2.1, 0, 0, 0]) rfl rfl rfl (by simp) (by simp) rfl rfl rfl rfl) rfl ?_
    rintro _ _ _ ⟨rfl, rfl⟩
    skip
    refine tN (tri_inBlock (tT (tR ?_)))
    refine yU rfl rfl ?_
    refine tM rfl rfl (tN (tT (tri_round (tS (tR (yC rfl rfl (tN ?_)))))))
    refine tT (tS ?_)
    refine tri_cond_is rfl (by decide) ?_
    refine tri_skip (tT (tS (tri_block (tS (tR (tM rfl rfl (tA rfl rfl ?_)))))))
    refine tN (tT (tS (tR (tM rfl rfl ?_))))
    refine tri_v (opv_quoE rfl rfl (by omega) (by omega) (by omega)) rfl ?_
    refine tri_v (opv_mul rfl rfl (w64 (by omega) (by omega))) rfl ?_
    refine tM rfl rfl ?_
    refine tri_v (opv_remE rfl rfl (by omega) (by omega)) rfl ?_
    refine yU rfl rfl ?_
    refine tA rfl rfl (tN (tT (tS ?_)))
    refine tri_draw [0, 1, 2, 3, 4, 5, 6, 7, 8, 9, 10, 11, 12, 13, 14, 15, 16, 17, 18, 19, 20, 21, 22, 23, 24, 25, 26, 27, 28, 29, 30, 31, 32, 33, 34, 35, 36, 37, 38] rfl [_, _, _] rfl mixed ?_
    refine yM rfl rfl (yn rfl rfl (yf rfl rfl (yf rfl rfl ?_)))
    refine yl rfl rfl rfl ?_
    refine yM rfl rfl (yM rfl rfl (yn rfl rfl (yf rfl rfl ?_)))
    refine th_take rfl rfl (by kernel_rfl)  (opv_indexAddrA rfl rfl (by decide) (by decide)) ?_
    refine yl rfl rfl rfl ?_
    refine yM rfl rfl (yM rfl rfl ?_)
    refine th_take rfl rfl (by kernel_rfl)  (opv_add rfl rfl (w64 (by omega) (by omega))) ?_
    refine yn rfl rfl (yf rfl rfl ?_)
    refine th_take rfl rfl (by kernel_rfl)  (opv_indexAddrA rfl rfl (by decide) (by decide)) ?_
    refine yl rfl rfl rfl ?_
    refine yM rfl rfl (yM rfl rfl ?_)
    refine th_take rfl rfl (by kernel_rfl)  (opv_add rfl rfl (w64 (by omega) (by omega))) ?_
    refine yn rfl rfl (yf rfl rfl ?_)
    refine th_take rfl rfl (by kernel_rfl)  (opv_indexAddrA rfl rfl (by decide) (by decide)) ?_
    refine yl rfl rfl rfl ?_
    refine yM rfl rfl (yM rfl rfl ?_)
    refine th_take rfl rfl (by kernel_rfl)  (opv_add rfl rfl (w64 (by omega) (by omega))) ?_
    refine yn rfl rfl (yf rfl rfl ?_)
    refine th_take rfl rfl (by kernel_rfl)  (opv_indexAddrA rfl rfl (by decide) (by decide)) ?_
    refine yl rfl rfl rfl ?_
    refine th_take rfl rfl (by kernel_rfl)  (opv_buildA rfl rfl) ?_
    refine th_one (by kernel_rfl) (step_m rfl rfl (opg_call (xs := [_, _]) rfl (node_putR (q0 := t.r3) (q1 := t.r4) (q2 := t.r6) (q3 := t.r7) g1.1 g1.2 hi1 hp2)) ?_)
    rintro _ _ _ ⟨b202, c2, es2, rfl, rfl, hi2, rfl⟩
    refine ⟨Suf.h, (fun _ h => h), ?_⟩
    refine yM rfl rfl (yE rfl rfl rfl (yE rfl rfl rfl (yA rfl rfl (yA rfl rfl (yD (tT (tS ?_)))))))
    refine tS (tR (tM rfl rfl ?_))
    refine tri_v (opv_neq rfl rfl) rfl ?_
    refine tN (tT ?_)
    refine tri_cond_dec rfl (fun x2 => ?_) (fun x2 => ?_)
    ·rw [if_pos x2]
     refine tS (tR (tM rfl rfl (tA rfl rfl (tN (tT (tri_ret (tri_then_ret ?_)))))))
     refine tri_inBlock_ret (tri_then_ret (tri_then_ret (tri_inBlock_ret (tri_then_ret ?_))))
     refine tri_perm (A := ?a14_0 :: ?a14_1 :: ?a14_2 :: ?a14_3 :: ?a14_4 :: ?a14_5 :: ?a14_6 :: ?a14_7 :: ?a14_8 :: ?a14_9 :: ?a14_10 :: ?T14) (B := ?a14_3 :: ?a14_4 :: ?a14_0 :: ?a14_1 :: ?a14_2 :: ?a14_5 :: ?a14_6 :: ?a14_7 :: ?a14_8 :: ?a14_9 :: ?a14_10 :: ?T14) (by exact permL [3, 4, 0, 1, 2, 5, 6, 7, 8, 9, 10] [?a14_0, ?a14_1, ?a14_2, ?a14_3, ?a14_4, ?a14_5, ?a14_6, ?a14_7, ?a14_8, ?a14_9, ?a14_10] ?T14 (by decide) rfl) ?_
     refine tri_starsRe (tri_starsPerm ht1'.symm ?_)
     refine tri_perm (A := ?a15_0 :: ?a15_1 :: ?a15_2 :: ?a15_3 :: ?a15_4 :: ?a15_5 :: ?a15_6 :: ?a15_7 :: ?a15_8 :: ?a15_9 :: ?T15) (B := ?a15_9 :: ?a15_1 :: ?a15_2 :: ?a15_3 :: ?a15_4 :: ?a15_5 :: ?a15_6 :: ?a15_7 :: ?a15_0 :: ?a15_8 :: ?T15) (by exact permL [9, 1, 2, 3, 4, 5, 6, 7, 0, 8] [?a15_0, ?a15_1, ?a15_2, ?a15_3, ?a15_4, ?a15_5, ?a15_6, ?a15_7, ?a15_8, ?a15_9] ?T15 (by decide) rfl) ?_
     refine tri_drop ?_
     refine tri_end _ (⟨[], rfl⟩) rfl (.cons (rv_tmp rfl) .nil) ⟨rfl, { h with a := b202, cap := c2, es := es2 }, { s with ns := p2.1 }, rfl, fun k => absurd k x2, fun _ h => h⟩
    ·rw [if_neg x2]
     refine tri_perm (A := ?a16_0 :: ?a16_1 :: ?a16_2 :: ?T16) (B := ?a16_0 :: ?a16_1 :: ?a16_2 :: ?T16) (by exact permL [0, 1, 2] [?a16_0, ?a16_1, ?a16_2] ?T16 (by decide) rfl) ?_
     refine tri_skip (tT (tR (tM rfl rfl (tM rfl rfl (tM rfl rfl ?_)))))
     refine tri_v (opv_indexAddrR rfl rfl (by omega) (by omega)) rfl ?_
     refine tri_g (opg_storeRX (p2.2.1 : Int) (xs := [p0.2.1, p1.2.1, 0, 0]) rfl rfl rfl (by simp) (by simp) rfl rfl rfl rfl) rfl ?_
     rintro _ _ _ ⟨rfl, rfl⟩
     skip
     refine tN (tri_inBlock (tT (tR ?_)))
     refine yU rfl rfl ?_
     refine tM rfl rfl (tN (tT (tri_round (tS (tR (yC rfl rfl (tN ?_)))))))
     refine tT (tS ?_)
     refine tri_cond_is rfl (by decide) ?_
     refine tri_skip (tT (tS (tri_block (tS (tR (tM rfl rfl (tA rfl rfl ?_)))))))
     refine tN (tT (tS (tR (tM rfl rfl ?_))))
     refine tri_v (opv_quoE rfl rfl (by omega) (by omega) (by omega)) rfl ?_
     refine tri_v (opv_mul rfl rfl (w64 (by omega) (by omega))) rfl ?_
     refine tM rfl rfl ?_
     refine tri_v (opv_remE rfl rfl (by omega) (by omega)) rfl ?_
     refine yU rfl rfl ?_
     refine tA rfl rfl (tN (tT (tS ?_)))
     refine tri_draw [0, 1, 2, 3, 4, 5, 6, 7, 8, 9, 10, 11, 12, 13, 14, 15, 16, 17, 18, 19, 20, 21, 22, 23, 24, 25, 26, 27, 28, 29, 30, 31, 32, 33, 34, 35, 36, 37, 38] rfl [_, _, _] rfl mixed ?_
     refine yM rfl rfl (yn rfl rfl (yf rfl rfl (yf rfl rfl ?_)))
     refine yl rfl rfl rfl ?_
     refine yM rfl rfl (yM rfl rfl (yn rfl rfl (yf rfl rfl ?_)))
     refine th_take rfl rfl (by kernel_rfl)  (opv_indexAddrA rfl rfl (by decide) (by decide)) ?_
     refine yl rfl rfl rfl ?_
     refine yM rfl rfl (yM rfl rfl ?_)
     refine th_take rfl rfl (by kernel_rfl)  (opv_add rfl rfl (w64 (by omega) (by omega))) ?_
     refine yn rfl rfl (yf rfl rfl ?_)
     refine th_take rfl rfl (by kernel_rfl)  (opv_indexAddrA rfl rfl (by decide) (by decide)) ?_
     refine yl rfl rfl rfl ?_
     refine yM rfl rfl (yM rfl rfl ?_)
     refine th_take rfl rfl (by kernel_rfl)  (opv_add rfl rfl (w64 (by omega) (by omega))) ?_
     refine yn rfl rfl (yf rfl rfl ?_)
     refine th_take rfl rfl (by kernel_rfl)  (opv_indexAddrA rfl rfl (by decide) (by decide)) ?_
     refine yl rfl rfl rfl ?_
     refine yM rfl rfl (yM rfl rfl ?_)
     refine th_take rfl rfl (by kernel_rfl)  (opv_add rfl rfl (w64 (by omega) (by omega))) ?_
     refine yn rfl rfl (yf rfl rfl ?_)
     refine th_take rfl rfl (by kernel_rfl)  (opv_indexAddrA rfl rfl (by decide) (by decide)) ?_
     refine yl rfl rfl rfl ?_
     refine th_take rfl rfl (by kernel_rfl)  (opv_buildA rfl rfl) ?_
     refine th_one (by kernel_rfl) (step_m rfl rfl (opg_call (xs := [_, _]) rfl (node_putR (q0 := t.r4) (q1 := t.r5) (q2 := t.r7) (q3 := t.r8) g2.1 g2.2 hi2 hp3)) ?_)
     rintro _ _ _ ⟨b203, c3, es3, rfl, rfl, hi3, rfl⟩
     refine ⟨Suf.h, (fun _ h => h), ?_⟩
     refine yM rfl rfl (yE rfl rfl rfl (yE rfl rfl rfl (yA rfl rfl (yA rfl rfl (yD (tT (tS ?_)))))))
     refine tS (tR (tM rfl rfl ?_))
     refine tri_v (opv_neq rfl rfl) rfl ?_
     refine tN (tT ?_)
     refine tri_cond_dec rfl (fun x3 => ?_) (fun x3 => ?_)
     ·rw [if_pos x3]
      refine tS (tR (tM rfl rfl (tA rfl rfl (tN (tT (tri_ret (tri_then_ret ?_)))))))
      refine tri_inBlock_ret (tri_then_ret (tri_then_ret (tri_inBlock_ret (tri_then_ret ?_))))
      refine tri_perm (A := ?a17_0 :: ?a17_1 :: ?a17_2 :: ?a17_3 :: ?a17_4 :: ?a17_5 :: ?a17_6 :: ?a17_7 :: ?a17_8 :: ?a17_9 :: ?a17_10 :: ?T17) (B := ?a17_3 :: ?a17_4 :: ?a17_0 :: ?a17_1 :: ?a17_2 :: ?a17_5 :: ?a17_6 :: ?a17_7 :: ?a17_8 :: ?a17_9 :: ?a17_10 :: ?T17) (by exact permL [3, 4, 0, 1, 2, 5, 6, 7, 8, 9, 10] [?a17_0, ?a17_1, ?a17_2, ?a17_3, ?a17_4, ?a17_5, ?a17_6, ?a17_7, ?a17_8, ?a17_9, ?a17_10] ?T17 (by decide) rfl) ?_
      refine tri_starsRe (tri_starsPerm ht1'.symm ?_)
      refine tri_perm (A := ?a18_0 :: ?a18_1 :: ?a18_2 :: ?a18_3 :: ?a18_4 :: ?a18_5 :: ?a18_6 :: ?a18_7 :: ?a18_8 :: ?a18_9 :: ?T18) (B := ?a18_9 :: ?a18_1 :: ?a18_2 :: ?a18_3 :: ?a18_4 :: ?a18_5 :: ?a18_6 :: ?a18_7 :: ?a18_0 :: ?a18_8 :: ?T18) (by exact permL [9, 1, 2, 3, 4, 5, 6, 7, 0, 8] [?a18_0, ?a18_1, ?a18_2, ?a18_3, ?a18_4, ?a18_5, ?a18_6, ?a18_7, ?a18_8, ?a18_9] ?T18 (by decide) rfl) ?_
      refine tri_drop ?_
      refine tri_end _ (⟨[], rfl⟩) rfl (.cons (rv_tmp rfl) .nil) ⟨rfl, { h with a := b203, cap := c3, es := es3 }, { s with ns := p3.1 }, rfl, fun k => absurd k x3, fun _ h => h⟩
     ·rw [if_neg x3]
      refine tri_perm (A := ?a19_0 :: ?a19_1 :: ?a19_2 :: ?T19) (B := ?a19_0 :: ?a19_1 :: ?a19_2 :: ?T19) (by exact permL [0, 1, 2] [?a19_0, ?a19_1, ?a19_2] ?T19 (by decide) rfl) ?_
      refine tri_skip (tT (tR (tM rfl rfl (tM rfl rfl (tM rfl rfl ?_)))))
      refine tri_v (opv_indexAddrR rfl rfl (by omega) (by omega)) rfl ?_
      refine tri_g (opg_storeRX (p3.2.1 : Int) (xs := [p0.2.1, p1.2.1, p2.2.1, 0]) rfl rfl rfl (by simp) (by simp) rfl rfl rfl rfl) rfl ?_
      rintro _ _ _ ⟨rfl, rfl⟩
      refine tN (tri_inBlock (tT (tR ?_)))
      refine yU rfl rfl ?_
      refine tM rfl rfl (tN (tT (tri_round (tS (tR (yC rfl rfl (tN ?_)))))))
      refine tT (tS ?_)
      refine tri_cond_not rfl (by decide) ?_
      refine tri_exit ?_
      refine tri_then_exit (tri_then_exit ?_)
      refine tri_inBlock_hit rfl ?_
      refine tT (tS (tR (tM rfl rfl (tM rfl rfl (tM rfl rfl (tM rfl rfl (tM rfl rfl ?_)))))))
      refine tri_perm (A := ?a20_0 :: ?a20_1 :: ?a20_2 :: ?a20_3 :: ?a20_4 :: ?a20_5 :: ?a20_6 :: ?a20_7 :: ?a20_8 :: ?a20_9 :: ?a20_10 :: ?T20) (B := ?a20_3 :: ?a20_4 :: ?a20_0 :: ?a20_1 :: ?a20_2 :: ?a20_5 :: ?a20_6 :: ?a20_7 :: ?a20_8 :: ?a20_9 :: ?a20_10 :: ?T20) (by exact permL [3, 4, 0, 1, 2, 5, 6, 7, 8, 9, 10] [?a20_0, ?a20_1, ?a20_2, ?a20_3, ?a20_4, ?a20_5, ?a20_6, ?a20_7, ?a20_8, ?a20_9, ?a20_10] ?T20 (by decide) rfl) ?_
      refine tri_starsRe (tri_starsPerm ht1'.symm ?_)
      refine tri_perm (A := ?a21_0 :: ?a21_1 :: ?a21_2 :: ?a21_3 :: ?a21_4 :: ?a21_5 :: ?a21_6 :: ?a21_7 :: ?a21_8 :: ?a21_9 :: ?T21) (B := ?a21_9 :: ?a21_1 :: ?a21_2 :: ?a21_3 :: ?a21_4 :: ?a21_5 :: ?a21_6 :: ?a21_7 :: ?a21_0 :: ?a21_8 :: ?T21) (by exact permL [9, 1, 2, 3, 4, 5, 6, 7, 0, 8] [?a21_0, ?a21_1, ?a21_2, ?a21_3, ?a21_4, ?a21_5, ?a21_6, ?a21_7, ?a21_8, ?a21_9] ?T21 (by decide) rfl) ?_
      refine tri_rowEq (len' := 4) (cells' := encs ([p0.2.1, p1.2.1, p2.2.1, p3.2.1] : List Int)) rfl rfl ?_
      refine tri_freezeRow (α := Int) rfl fun I1 hI1 hs1 => ?_
      have ok1 : CwOk { h with a := b203, cap := c3, es := es3 } { s with ns := p3.1 } := ⟨hi3, ok.mem, ok.bl, ok.sl, ok.len⟩
      refine tri_g (opg_call (xs := [_, _, _, _, _]) rfl (crew_wait (l := [p0.2.1, p1.2.1, p2.2.1, p3.2.1]) (j := j) (h := { h with a := b203, cap := c3, es := es3 }) (s := { s with ns := p3.1 }) (w := w) (i := i) ok1 hw.lt hi ht.len hw.len hs1 (by simp))) rfl ?_
      rintro _ _ I2 ⟨h3, ok3, rfl, hI2⟩
      refine tN (tT (tS (tR (tA rfl rfl (tN (tT (tri_ret ?_)))))))
      refine tri_end _ (⟨[], rfl⟩) rfl (.cons (rv_tmp rfl) .nil) ⟨rfl, h3, _, rfl, fun _ => ⟨rfl, ok3⟩, fun _ h => hI2 (hI1 h)⟩
end Go.GL


namespace Go.GL
open Go.Proofs
namespace R21
open R6
/-- What a put that is carried out comes to. -/
theorem put_in {ns : List Node} {room : Int} (h : R6.right ns room) {q0 q1 q2 q3 : Int} {p : List Node × Int × Int} (hp : R6.put ns room q0 q1 q2 q3 = p) (he : p.2.2 = 0) : R6.right p.1 room ∧ ns <+: p.1 ∧ R6.inS p.1 p.2.1 ∧ 1 ≤ (nd p.1 p.2.1).lv := by
 subst hp
 have hw := (right_iff.1 h).2
 obtain ⟨hr, hpre⟩ := R9.right_put h q0 q1 q2 q3
 have hf : fit4 ns q0 q1 q2 q3 := Decidable.byContradiction fun hf => by
  unfold R6.put at he; rw [if_neg hf] at he; cases he
 have hr' : 0 ≤ R6.at_ ns [q0, q1, q2, q3] ∨ (ns.length : Int) < room := Decidable.byContradiction fun hr => by
  unfold R6.put at he
  rw [if_pos hf, if_neg (by omega), if_pos (by omega)] at he
  cases he
 obtain ⟨ms, m, e, ok⟩ := put_ok hw hf hr'
 rw [e] at hr hpre ⊢
 refine ⟨hr, hpre, ok.mem, ?_⟩
 show 1 ≤ (nd ms m).lv
 rw [ok.lv]
 have := (hw.lvb hf.1).1
 omega
/-- Nodes that a task may speak of. -/
def In1 (ns : List Node) (n : Int) : Prop := R6.inS ns n ∧ 1 ≤ (nd ns n).lv
theorem In1.pre {ns ms : List Node} (hp : ns <+: ms) {n : Int} (h : In1 ns n) : In1 ms n := ⟨R6.inS_pre hp h.1, by rw [R6.nd_pre hp h.1]; exact h.2⟩
theorem In1.kid {ns : List Node} {room n : Int} (h : R6.right ns room) (hn : In1 ns n) : R8.Kid ns n := h.kids hn.1 hn.2
theorem all_in {ns : List Node} {room n : Int} (h : R6.right ns room) {q : R8.R9} (hq : R8.all ns room n = q) (he : q.2.2 = 0) : R6.right q.1 room ∧ ns <+: q.1 ∧ q.2.1.length = 9 ∧ ∀ x ∈ q.2.1, In1 q.1 x := by
 obtain ⟨p0, e0⟩ : ∃ p, R8.putSq ns room (R8.s16 ns n) 0 0 = p := ⟨_, rfl⟩
 obtain ⟨p1, e1⟩ : ∃ p, R8.putSq p0.1 room (R8.s16 ns n) 0 1 = p := ⟨_, rfl⟩
 obtain ⟨p2, e2⟩ : ∃ p, R8.putSq p1.1 room (R8.s16 ns n) 0 2 = p := ⟨_, rfl⟩
 obtain ⟨p3, e3⟩ : ∃ p, R8.putSq p2.1 room (R8.s16 ns n) 1 0 = p := ⟨_, rfl⟩
 obtain ⟨p4, e4⟩ : ∃ p, R8.putSq p3.1 room (R8.s16 ns n) 1 1 = p := ⟨_, rfl⟩
 obtain ⟨p5, e5⟩ : ∃ p, R8.putSq p4.1 room (R8.s16 ns n) 1 2 = p := ⟨_, rfl⟩
 obtain ⟨p6, e6⟩ : ∃ p, R8.putSq p5.1 room (R8.s16 ns n) 2 0 = p := ⟨_, rfl⟩
 obtain ⟨p7, e7⟩ : ∃ p, R8.putSq p6.1 room (R8.s16 ns n) 2 1 = p := ⟨_, rfl⟩
 obtain ⟨p8, e8⟩ : ∃ p, R8.putSq p7.1 room (R8.s16 ns n) 2 2 = p := ⟨_, rfl⟩
 have key := R8.all_eq e0 e1 e2 e3 e4 e5 e6 e7 e8
 rw [hq] at key
 have hz : p0.2.2 = 0 ∧ p1.2.2 = 0 ∧ p2.2.2 = 0 ∧ p3.2.2 = 0 ∧ p4.2.2 = 0 ∧ p5.2.2 = 0 ∧ p6.2.2 = 0 ∧ p7.2.2 = 0 ∧ p8.2.2 = 0 ∧ q = (p8.1, [p0.2.1, p1.2.1, p2.2.1, p3.2.1, p4.2.1, p5.2.1, p6.2.1, p7.2.1, p8.2.1], 0) := by
  repeat' split at key
  all_goals first
   | (exfalso; rename_i x; rw [key] at he; exact x he)
   | (rename_i x; simp only [ne_eq, Decidable.not_not] at *; refine ⟨by assumption, by assumption, by assumption, by assumption, by assumption, by assumption, by assumption, by assumption, by assumption, key⟩)
 obtain ⟨z0, z1, z2, z3, z4, z5, z6, z7, z8, hq8⟩ := hz
 obtain ⟨r0, k0, i0, l0⟩ := put_in h e0 z0
 obtain ⟨r1, k1, i1, l1⟩ := put_in r0 e1 z1
 obtain ⟨r2, k2, i2, l2⟩ := put_in r1 e2 z2
 obtain ⟨r3, k3, i3, l3⟩ := put_in r2 e3 z3
 obtain ⟨r4, k4, i4, l4⟩ := put_in r3 e4 z4
 obtain ⟨r5, k5, i5, l5⟩ := put_in r4 e5 z5
 obtain ⟨r6, k6, i6, l6⟩ := put_in r5 e6 z6
 obtain ⟨r7, k7, i7, l7⟩ := put_in r6 e7 z7
 obtain ⟨r8, k8, i8, l8⟩ := put_in r7 e8 z8
 rw [hq8]
 refine ⟨r8, k0.trans (k1.trans (k2.trans (k3.trans (k4.trans (k5.trans (k6.trans (k7.trans k8))))))), rfl, fun x hx => ?_⟩
 simp only [List.mem_cons, List.not_mem_nil, or_false] at hx
 have j7 := k8
 have j6 := k7.trans j7
 have j5 := k6.trans j6
 have j4 := k5.trans j5
 have j3 := k4.trans j4
 have j2 := k3.trans j3
 have j1 := k2.trans j2
 have j0 := k1.trans j1
 rcases hx with rfl | rfl | rfl | rfl | rfl | rfl | rfl | rfl | rfl
 ·exact In1.pre j0 ⟨i0, l0⟩
 ·exact In1.pre j1 ⟨i1, l1⟩
 ·exact In1.pre j2 ⟨i2, l2⟩
 ·exact In1.pre j3 ⟨i3, l3⟩
 ·exact In1.pre j4 ⟨i4, l4⟩
 ·exact In1.pre j5 ⟨i5, l5⟩
 ·exact In1.pre j6 ⟨i6, l6⟩
 ·exact In1.pre j7 ⟨i7, l7⟩
 ·exact ⟨i8, l8⟩
theorem setR_of (t : Tk) (p v : Int) : (setR t p v).of_ = t.of_ ∧ (setR t p v).pl = t.pl ∧ (setR t p v).n = t.n ∧ (setR t p v).j = t.j ∧ (setR t p v).wt = t.wt ∧ (setR t p v).lf = t.lf := by
 unfold setR
 repeat' split
 all_goals exact ⟨rfl, rfl, rfl, rfl, rfl, rfl⟩
theorem mids_step {room : Int} {i k : Nat} {l : List Int} {s : Ms} (h : k < l.length) {p : List Node × Int × Int} (hp : R8.putSq s.ns room (R8.s16 s.ns (l.getD k default)) 1 1 = p) : mids room i k (l.drop k) s = if p.2.2 ≠ 0 then (s, p.2.2) else mids room i (k + 1) (l.drop (k + 1)) { s with ns := p.1, ts := s.ts.set i (setR (s.ts.getD i default) k p.2.1) } := by
 subst hp
 rw [List.drop_eq_getElem_cons h]
 rw [show l[k] = l.getD k default by simp [h]]
 rfl
end R21
theorem St.starsRe {w0 w : World} {a : Asrt} {M A : List Asrt} {I : List Chunk} (h : St w0 w (a :: Stars M :: A) I) : St w0 w (Stars (a :: M) :: A) I := by
 obtain ⟨cs, h1, h2⟩ := h
 obtain ⟨c, cs', rfl, h3, h4⟩ := h1.cons_inv
 exact ⟨_, Seps.stars.2 (.cons h3 (Seps.stars.1 h4)), h2⟩
theorem St.starsPerm {w0 w : World} {L M A : List Asrt} {I : List Chunk} (hp : L.Perm M) (h : St w0 w (Stars L :: A) I) : St w0 w (Stars M :: A) I := by
 obtain ⟨cs, h1, h2⟩ := h
 obtain ⟨cs2, h7, h8⟩ := (Seps.stars.1 h1).perm (hp.append_right A)
 exact ⟨cs2, Seps.stars.2 h7, h2.perm (h8.append_right I)⟩
theorem FnC.tkIn {P : Program} {f : FuncId} {args : Array Value} {a X0 X1 X2 X3 X4 X5 X6 S : Asrt} {R L A : List Asrt} {I : List Chunk} {Q : Value → List Asrt → List Chunk → Prop} (hp : L.Perm (a :: R)) (h : FnC P f args (X0 :: X1 :: X2 :: X3 :: X4 :: X5 :: X6 :: Stars L :: S :: A) I Q) : FnC P f args (a :: Stars R :: X0 :: X1 :: X2 :: X3 :: X4 :: X5 :: X6 :: S :: A) I Q :=
 fun w0 w hs => h w0 w ((St.starsPerm hp.symm hs.starsRe).perm (List.perm_middle (l₁ := [X0, X1, X2, X3, X4, X5, X6])).symm)
theorem maker_nineQ {A : List Asrt} {I : List Chunk} {ns : List Node} {a : Option Addr} {cap bx mb : Nat} {room n : Int} {es : KVs} {Q : R8.R9} (hg : R6.Good ns room) (h2 : 2 ≤ ns.length) (hi : Idx ns es) (hk : R8.Kid ns n) (hQ : R8.all ns room n = Q) :
  FnC Try.prog 84 [.agg [pt bx 0].toArray, .int .i64 n].toArray (IxA bx mb a cap ns room es A) I (IxR9 bx mb Q room A I) := by
 subst hQ
 exact maker_nine hg h2 hi hk
theorem maker_centreQ {A : List Asrt} {I : List Chunk} {ns : List Node} {a : Option Addr} {cap bx mb : Nat} {room n : Int} {es : KVs} {p : List Node × Int × Int} (hg : R6.Good ns room) (h2 : 2 ≤ ns.length) (hi : Idx ns es) (hk : R8.Kid ns n) (hp : R8.putSq ns room (R8.s16 ns n) 1 1 = p) :
  FnC Try.prog 87 [.agg [pt bx 0].toArray, .int .i64 n].toArray (IxA bx mb a cap ns room es A) I (IxR bx mb p room A I) := by
 subst hp
 exact maker_centre hg h2 hi hk
theorem perm3 {X X0 X1 X2 : Asrt} {A : List Asrt} : (X0 :: X1 :: X2 :: X :: A).Perm (X :: X0 :: X1 :: X2 :: A) := List.perm_middle (l₁ := [X0, X1, X2])
theorem maker_nineX {X : Asrt} {A : List Asrt} {I : List Chunk} {ns : List Node} {a : Option Addr} {cap bx mb : Nat} {room n : Int} {es : KVs} {Q : R8.R9} (hg : R6.Good ns room) (h2 : 2 ≤ ns.length) (hi : Idx ns es) (hk : R8.Kid ns n) (hQ : R8.all ns room n = Q) :
  FnC Try.prog 84 [.agg [pt bx 0].toArray, .int .i64 n].toArray (X :: IxA bx mb a cap ns room es A) I (IxR9 bx mb Q room (X :: A) I) :=
 FnC.perm (maker_nineQ hg h2 hi hk hQ) perm3.symm
theorem TkOk.setR {ts : List Tk} {i : Nat} (h : TkOk ts i) (p v : Int) : TkOk (ts.set i (R21.setR (ts.getD i default) p v)) i := by
 have e : (ts.set i (R21.setR (ts.getD i default) p v)).getD i default = R21.setR (ts.getD i default) p v := by rw [getD_set7 h.lt, if_pos rfl]
 obtain ⟨e1, e2, _⟩ := R21.setR_of (ts.getD i default) p v
 refine ⟨by rw [List.length_set]; exact h.lt, by rw [List.length_set]; exact h.len, ?_, ?_⟩
 ·rw [e, e1, List.length_set]; exact h.of_
 ·rw [e, e2]; exact h.pl
/-- The middles so far. -/
structure MidInv (room : Int) (i : Nat) (l : List Int) (bs : List Blk) (D : List (List Int)) (N : Nat) (M : R21.Ms × Int) (ns : List Node) (k : Nat) (h : Hp) (s : R21.Ms) : Prop where
 k9 : k ≤ 9
 ok : CwOk h s
 bs : h.bs = bs
 right : R6.right s.ns room
 pre : ns <+: s.ns
 dq : s.D = D
 ts : s.ts.length = N
 tk : TkOk s.ts i
 in1 : R21.In1 s.ns (s.ts.getD i default).n
 eq : M = R21.mids room i k (l.drop k) s
attribute [local irreducible] wpList Code.wp Exit.then Exit.inBlock Ends Tri TriH OpV OpG FnC epf wpAnyH
variable {A : List Asrt} {I : List Chunk}
set_option maxHeartbeats 8000000 in
set_option maxRecDepth 100000 in
theorem crew_begin {bc bx mb db bq cd w i : Nat} {room : Int} {h : Hp} {s : R21.Ms} (ok : CwOk h s) (hw : DqOk s.D w) (ht : TkOk s.ts i) (hr : R6.right s.ns room) (hin : R21.In1 s.ns (s.ts.getD i default).n) :
  FnC Try.prog 73 [pt bc 0, .int .i64 (w : Nat), .int .i64 (i : Nat)].toArray (CwA bc bx mb db (some ⟨bq, 0, none⟩) cd room h s A) I (CwE bc bx mb db bq cd room (R21.begin_ room s w i) A I) := by
 have hi := ht.lt
 have hbl := ok.bl
 have hg : R6.Good s.ns room := hr.good (by have := hr.1.2.1; omega)
 have h2 : 2 ≤ s.ns.length := hr.1.2.2.1
 have hkid := hin.kid hr
 obtain ⟨Rt, ht1, ht2⟩ := tk_one (bs := h.bs) hi
 obtain ⟨t, htt⟩ : ∃ t, s.ts.getD i default = t := ⟨_, rfl⟩
 have ht1' := ht1
 unfold tkA at ht1'
 rw [htt] at hin hkid ht1'
 have hmf := ok.mem t.n t.j
 obtain ⟨⟨hn0, hn1⟩, hlv1⟩ := hin
 skip
 skip
 refine fn_enter3 Try.func73 rfl Try.ntmps73 rfl fun w0 => ?_
 refine tS ?_
 refine tri_perm perm7 ?_
 refine tri_starsPerm ht1' (tri_starsUn ?_)
 refine tR (tA rfl rfl (tN (tT (tS (tR (tM rfl rfl ?_))))))
 refine tri_v (opv_nilCheck rfl) rfl ?_
 refine yF rfl ?_
 refine yL rfl rfl ?_
 refine tM rfl rfl ?_
 refine tri_v (opv_indexAddrRN rfl rfl (by omega)) rfl ?_
 refine tri_v (opv_loadRX1 rfl rfl (by omega) rfl rfl) rfl ?_
 refine tA rfl rfl (tN (tT (tS (tS ?_))))
 refine tri_draw [0, 1, 2, 3, 4, 5, 6, 7, 8, 9, 10, 11, 12, 13] rfl [] rfl mixed ?_
 refine yM rfl rfl (yn rfl rfl (yf rfl rfl ?_))
 refine yl rfl rfl rfl ?_
 refine yM rfl rfl (yn rfl rfl (yf rfl rfl ?_))
 refine th_take rfl rfl (by kernel_rfl)  (opv_loadA rfl rfl rfl) ?_
 refine th_take rfl rfl (by kernel_rfl)  (opv_lookup2 (P := Try.prog) (ks := [t.n, t.j]) zeroInt rfl rfl (keyLeap t.n t.j) keyLeapAt rfl) ?_
 refine yM rfl rfl (yE rfl rfl rfl (yE rfl rfl rfl (yA rfl rfl (yA rfl rfl (yD (tT (tS ?_)))))))
 refine tR (tM rfl rfl (tN (tT ?_)))
 obtain ⟨o, ho⟩ : ∃ o, R9.look9 s.kp t.n t.j = o := ⟨_, rfl⟩
 rw [ho] at hmf
 rcases o with _ | to
 ·have eb : R21.begin_ room s w i = if (R6.nd s.ns t.n).lv = 2 then (if (R8.one s.ns room t.n).2.2 ≠ 0 then (s, (R8.one s.ns room t.n).2.2) else (R21.tell { s with ns := (R8.one s.ns room t.n).1 } w i (R8.one s.ns room t.n).2.1, 0)) else
    (if (R8.all s.ns room t.n).2.2 ≠ 0 then (s, (R8.all s.ns room t.n).2.2) else if t.j = (R6.nd s.ns t.n).lv - 2 then (R21.wait { s with ns := (R8.all s.ns room t.n).1 } w i (IntKind.i64.wrap (t.j - 1)) (R8.all s.ns room t.n).2.1, 0) else
     (if (R21.mids room i 0 (R8.all s.ns room t.n).2.1 { s with ns := (R8.all s.ns room t.n).1 }).2 ≠ 0 then R21.mids room i 0 (R8.all s.ns room t.n).2.1 { s with ns := (R8.all s.ns room t.n).1 } else R21.join room (R21.mids room i 0 (R8.all s.ns room t.n).2.1 { s with ns := (R8.all s.ns room t.n).1 }).1 w i)) := by
   unfold R21.begin_
   dsimp only
   rw [htt, ho]
  rw [eb]
  clear eb
  refine tri_cond_false (congrArg (fun o => some (Value.bool (Option.isSome o))) hmf) ?_
  refine tri_skip (tT (tS (tS ?_)))
  refine tri_draw [0, 1, 2, 3, 4, 5, 6, 7, 8, 9, 10, 11, 12, 13, 14, 15, 16, 17] rfl [] rfl mixed ?_
  refine yM rfl rfl (yn rfl rfl (yf rfl rfl (yf rfl rfl ?_)))
  refine yl rfl rfl rfl ?_
  refine yn rfl rfl (yf rfl rfl (yf rfl rfl ?_))
  refine yl rfl rfl rfl ?_
  refine yM rfl rfl (yn rfl rfl (yf rfl rfl (yf rfl rfl ?_)))
  refine yl rfl rfl rfl ?_
  refine th_take rfl rfl (by kernel_rfl)  (opv_indexAddrR rfl rfl (by omega) (by omega)) ?_
  refine th_take rfl rfl (by kernel_rfl)  (opv_fieldAddrR rfl (by omega) rfl) ?_
  refine th_take rfl rfl (by kernel_rfl)  (opv_loadRX1 rfl rfl (by omega) rfl rfl) ?_
  refine th_take rfl rfl (by kernel_rfl)  (opv_eql rfl rfl) ?_
  refine yD (tT ?_)
  refine tri_cond_dec rfl (fun h3 => ?_) (fun h3 => ?_)
  ·have h3' : (R6.nd s.ns t.n).lv = 2 := h3
   rw [if_pos h3']
   refine tri_perm (A := ?a1_0 :: ?a1_1 :: ?a1_2 :: ?a1_3 :: ?a1_4 :: ?a1_5 :: ?a1_6 :: ?a1_7 :: ?a1_8 :: ?a1_9 :: ?T1) (B := ?a1_2 :: ?a1_3 :: ?a1_4 :: ?a1_0 :: ?a1_1 :: ?a1_5 :: ?a1_6 :: ?a1_7 :: ?a1_8 :: ?a1_9 :: ?T1) (by exact permL [2, 3, 4, 0, 1, 5, 6, 7, 8, 9] [?a1_0, ?a1_1, ?a1_2, ?a1_3, ?a1_4, ?a1_5, ?a1_6, ?a1_7, ?a1_8, ?a1_9] ?T1 (by decide) rfl) ?_
   skip
   refine tS ?_
   refine tri_draw [0, 1, 2, 3, 4, 5, 6, 7, 8, 9, 10, 11, 12, 13, 14] rfl [_, _, _] rfl mixed ?_
   refine yM rfl rfl (yn rfl rfl (yf rfl rfl ?_))
   refine th_take rfl rfl (by kernel_rfl)  (opv_loadA rfl rfl rfl) ?_
   refine yM rfl rfl (yn rfl rfl (yf rfl rfl (yf rfl rfl ?_)))
   refine yl rfl rfl rfl ?_
   refine th_one (by kernel_rfl) (step_m rfl rfl (opg_call (xs := [_, _]) rfl (maker_step hg h2 ok.idx hkid (hr.bits ⟨hn0, hn1⟩ h3'))) ?_)
   rintro _ _ _ ⟨a1, c1, es1, rfl, rfl, hi1, rfl⟩
   refine ⟨Suf.h, (fun _ h => h), ?_⟩
   generalize R8.one s.ns room t.n = p at *
   refine yM rfl rfl (yE rfl rfl rfl (yE rfl rfl rfl (yA rfl rfl (yA rfl rfl (yD (tT (tS ?_)))))))
   refine tS (tR (tM rfl rfl ?_))
   refine tri_v (opv_eql rfl rfl) rfl ?_
   refine tN (tT ?_)
   refine tri_perm (A := ?a2_0 :: ?a2_1 :: ?a2_2 :: ?T2) (B := ?a2_0 :: ?a2_1 :: ?a2_2 :: ?T2) (by exact permL [0, 1, 2] [?a2_0, ?a2_1, ?a2_2] ?T2 (by decide) rfl) ?_
   refine tri_perm (A := ?a3_0 :: ?a3_1 :: ?a3_2 :: ?a3_3 :: ?a3_4 :: ?a3_5 :: ?a3_6 :: ?a3_7 :: ?a3_8 :: ?a3_9 :: ?T3) (B := ?a3_3 :: ?a3_4 :: ?a3_0 :: ?a3_1 :: ?a3_2 :: ?a3_5 :: ?a3_6 :: ?a3_7 :: ?a3_8 :: ?a3_9 :: ?T3) (by exact permL [3, 4, 0, 1, 2, 5, 6, 7, 8, 9] [?a3_0, ?a3_1, ?a3_2, ?a3_3, ?a3_4, ?a3_5, ?a3_6, ?a3_7, ?a3_8, ?a3_9] ?T3 (by decide) rfl) ?_
   refine tri_starsRe (tri_starsPerm ht1'.symm ?_)
   refine tri_perm (A := ?a4_0 :: ?a4_1 :: ?a4_2 :: ?a4_3 :: ?a4_4 :: ?a4_5 :: ?a4_6 :: ?a4_7 :: ?a4_8 :: ?T4) (B := ?a4_1 :: ?a4_2 :: ?a4_3 :: ?a4_4 :: ?a4_5 :: ?a4_6 :: ?a4_7 :: ?a4_0 :: ?a4_8 :: ?T4) (by exact permL [1, 2, 3, 4, 5, 6, 7, 0, 8] [?a4_0, ?a4_1, ?a4_2, ?a4_3, ?a4_4, ?a4_5, ?a4_6, ?a4_7, ?a4_8] ?T4 (by decide) rfl) ?_
   have ok1 : CwOk { h with a := a1, cap := c1, es := es1 } { s with ns := p.1 } := ⟨hi1, ok.mem, ok.bl, ok.sl, ok.len⟩
   refine tri_cond_dec rfl (fun hc => ?_) (fun hc => ?_)
   ·rw [if_neg (by simpa using hc)]
    refine tR (tM rfl rfl (tM rfl rfl (tM rfl rfl (tM rfl rfl ?_))))
    refine tri_g (opg_call (xs := [_, _, _, _]) rfl (crew_tellR (h := { h with a := a1, cap := c1, es := es1 }) (s := { s with ns := p.1 }) (n := p.2.1) (i := i) ok1 hw ht rfl)) rfl ?_
    rintro _ _ I2 ⟨h3, ok3, rfl, hI2⟩
    refine tN (tT (tS (tR (tM rfl rfl (tA rfl rfl (tN (tT ?_)))))))
    refine tri_ret (tri_then_ret ?_)
    refine tri_end _ (⟨[], rfl⟩) rfl (.cons (rv_tmp rfl) .nil) ⟨by rw [hc]; rfl, h3, _, rfl, fun _ => ⟨rfl, ok3⟩, hI2⟩
   ·rw [if_pos hc]
    refine tri_skip (tT (tS (tR (tM rfl rfl (tA rfl rfl (tN (tT ?_)))))))
    refine tri_ret (tri_then_ret ?_)
    refine tri_end _ (⟨[], rfl⟩) rfl (.cons (rv_tmp rfl) .nil) ⟨rfl, { h with a := a1, cap := c1, es := es1 }, { s with ns := p.1 }, rfl, fun k => absurd k hc, fun _ h => h⟩
  ·have h3' : ¬ (R6.nd s.ns t.n).lv = 2 := h3
   rw [if_neg h3']
   obtain ⟨Q, hQ⟩ : ∃ Q, R8.all s.ns room t.n = Q := ⟨_, rfl⟩
   rw [hQ]
   refine tri_perm (A := ?a5_0 :: ?a5_1 :: ?a5_2 :: ?a5_3 :: ?a5_4 :: ?a5_5 :: ?a5_6 :: ?a5_7 :: ?a5_8 :: ?a5_9 :: ?T5) (B := ?a5_2 :: ?a5_3 :: ?a5_4 :: ?a5_0 :: ?a5_1 :: ?a5_5 :: ?a5_6 :: ?a5_7 :: ?a5_8 :: ?a5_9 :: ?T5) (by exact permL [2, 3, 4, 0, 1, 5, 6, 7, 8, 9] [?a5_0, ?a5_1, ?a5_2, ?a5_3, ?a5_4, ?a5_5, ?a5_6, ?a5_7, ?a5_8, ?a5_9] ?T5 (by decide) rfl) ?_
   refine tri_skip (tT (tS ?_))
   skip
   refine tri_cut (fun F' A' J => ∃ (b12 : Nat) (a1 : Option Addr) (c1 : Nat) (es1 : KVs) (ns1 : List Node) (q0 q1 q2 q3 q4 q5 q6 q7 q8 : Int), F' = [(0, pt bc 0), (1, .int .i64 (w : Nat)), (2, .int .i64 (i : Nat)), (7, pt (h.bs.getD i default).b 0), (12, pt b12 0), (13, .int .i64 Q.2.2)] ∧ A'.Perm (Box b12 [.int .i64 q0, .int .i64 q1, .int .i64 q2, .int .i64 q3, .int .i64 q4, .int .i64 q5, .int .i64 q6, .int .i64 q7, .int .i64 q8] 80 :: IxA bx mb a1 c1 ns1 room es1 (Box (h.bs.getD i default).b (Enc.enc t) 82 :: Stars Rt :: Box bc [pt bx 0, .slice h.at_ s.ts.length h.ct, .slice (some ⟨bq, 0, none⟩) s.D.length cd, .map (some db), .int .i64 s.node, .bool s.done] 76 :: Row h.at_ h.ct s.ts.length 113 1 (encs h.bs) :: Row (some ⟨bq, 0, none⟩) cd s.D.length 27 1 (encs h.ss) :: MapA Try.prog 79 db h.ds :: Stars (dqS h.ss s.D) :: A)) ∧ (Q.2.2 = 0 → ns1 = Q.1 ∧ Q.2.1 = [q0, q1, q2, q3, q4, q5, q6, q7, q8] ∧ Idx Q.1 es1) ∧ I = J) ?_ ?_
   ·refine tri_draw [0, 1, 2, 3, 4, 5, 6, 7, 8, 9, 10, 11, 12, 13, 14, 15] rfl [_, _, _] rfl mixed ?_
    refine yM rfl rfl (yn rfl rfl (yf rfl rfl ?_))
    refine th_take rfl rfl (by kernel_rfl)  (opv_loadA rfl rfl rfl) ?_
    refine yM rfl rfl (yn rfl rfl (yf rfl rfl (yf rfl rfl ?_)))
    refine yl rfl rfl rfl ?_
    refine th_two (j := 13) [9, 10, 11, 12, 14, 15] (by kernel_rfl) rfl ?_ ?_
    ·refine (step_m rfl rfl (opg_call (xs := [_, _]) rfl (maker_nineQ hg h2 ok.idx hkid hQ)) ?_)
     rintro _ _ _ ⟨a1, c1, es1, ns1, q0, q1, q2, q3, q4, q5, q6, q7, q8, rfl, rfl, hq9, rfl⟩
     refine ⟨Suf.h, (fun _ h => h), ?_⟩
     refine yM rfl rfl (yE rfl rfl rfl (yE rfl rfl rfl ?_))
     refine th_one (by kernel_rfl) (step_m rfl rfl opg_alloc ?_)
     rintro _ _ _ ⟨b12, rfl, rfl, rfl⟩
     refine ⟨Suf.h, (fun _ h => h), ?_⟩
     refine th_one (by kernel_rfl) (step_m rfl rfl (opg_store rfl rfl rfl rfl rfl rfl) ?_)
     rintro _ _ _ ⟨rfl, rfl⟩
     refine ⟨Suf.h, (fun _ h => h), ?_⟩
     refine yA rfl rfl (yD ?_)
     refine tri_cutEnd _ ⟨_, a1, c1, es1, ns1, q0, q1, q2, q3, q4, q5, q6, q7, q8, rfl, (List.Perm.refl _), hq9, rfl⟩ ⟨rfl, rfl, rfl, rfl, rfl, rfl, trivial⟩
    ·refine (step_m rfl rfl opg_alloc ?_)
     rintro _ _ _ ⟨b12, rfl, rfl, rfl⟩
     refine ⟨Suf.h, (fun _ h => h), ?_⟩
     refine th_one (by kernel_rfl) (step_m rfl rfl (opg_call (xs := [_, _]) rfl (maker_nineX hg h2 ok.idx hkid hQ)) ?_)
     rintro _ _ _ ⟨a1, c1, es1, ns1, q0, q1, q2, q3, q4, q5, q6, q7, q8, rfl, rfl, hq9, rfl⟩
     refine ⟨Suf.h, (fun _ h => h), ?_⟩
     refine yM rfl rfl (yE rfl rfl rfl (yE rfl rfl rfl ?_))
     refine th_one (by kernel_rfl) (step_m rfl rfl (opg_store rfl rfl rfl rfl rfl rfl) ?_)
     rintro _ _ _ ⟨rfl, rfl⟩
     refine ⟨Suf.h, (fun _ h => h), ?_⟩
     refine yA rfl rfl (yD ?_)
     refine tri_cutEnd _ ⟨_, a1, c1, es1, ns1, q0, q1, q2, q3, q4, q5, q6, q7, q8, rfl, perm3, hq9, rfl⟩ ⟨rfl, rfl, rfl, rfl, rfl, rfl, trivial⟩
   rintro _ _ _ ⟨b12, a1, c1, es1, ns1, q0, q1, q2, q3, q4, q5, q6, q7, q8, rfl, hperm, hq9, rfl⟩
   skip
   refine tri_perm hperm ?_
   clear hperm
   refine tT (tS (tS (tR (tM rfl rfl ?_))))
   refine tri_v (opv_neq rfl rfl) rfl ?_
   refine tN (tT ?_)
   refine tri_cond_dec rfl (fun hc => ?_) (fun hc => ?_)
   ·rw [if_pos hc]
    refine tS (tR (tM rfl rfl (tA rfl rfl (tN (tT (tri_ret (tri_then_ret ?_)))))))
    refine tri_drop ?_
    refine tri_perm (A := ?a6_0 :: ?a6_1 :: ?a6_2 :: ?a6_3 :: ?a6_4 :: ?a6_5 :: ?a6_6 :: ?a6_7 :: ?a6_8 :: ?a6_9 :: ?T6) (B := ?a6_3 :: ?a6_4 :: ?a6_0 :: ?a6_1 :: ?a6_2 :: ?a6_5 :: ?a6_6 :: ?a6_7 :: ?a6_8 :: ?a6_9 :: ?T6) (by exact permL [3, 4, 0, 1, 2, 5, 6, 7, 8, 9] [?a6_0, ?a6_1, ?a6_2, ?a6_3, ?a6_4, ?a6_5, ?a6_6, ?a6_7, ?a6_8, ?a6_9] ?T6 (by decide) rfl) ?_
    refine tri_starsRe (tri_starsPerm ht1'.symm ?_)
    refine tri_perm (A := ?a7_0 :: ?a7_1 :: ?a7_2 :: ?a7_3 :: ?a7_4 :: ?a7_5 :: ?a7_6 :: ?a7_7 :: ?a7_8 :: ?T7) (B := ?a7_1 :: ?a7_2 :: ?a7_3 :: ?a7_4 :: ?a7_5 :: ?a7_6 :: ?a7_7 :: ?a7_0 :: ?a7_8 :: ?T7) (by exact permL [1, 2, 3, 4, 5, 6, 7, 0, 8] [?a7_0, ?a7_1, ?a7_2, ?a7_3, ?a7_4, ?a7_5, ?a7_6, ?a7_7, ?a7_8] ?T7 (by decide) rfl) ?_
    refine tri_end _ (⟨[], rfl⟩) rfl (.cons (rv_tmp rfl) .nil) ⟨rfl, { h with a := a1, cap := c1, es := es1 }, { s with ns := ns1 }, rfl, fun k => absurd k hc, fun _ h => h⟩
   ·rw [if_neg hc]
    have hc0 : Q.2.2 = 0 := Decidable.not_not.1 hc
    obtain ⟨rfl, hl9, hi1⟩ := hq9 hc0
    obtain ⟨r1, hpre1, hlen9, hall9⟩ := R21.all_in hr hQ hc0
    have g1 : R6.Good Q.1 room := r1.good (by have := r1.1.2.1; omega)
    have hin1 : R21.In1 Q.1 t.n := R21.In1.pre hpre1 ⟨⟨hn0, hn1⟩, hlv1⟩
    obtain ⟨s1, hs1⟩ : ∃ s1 : R21.Ms, s1 = { s with ns := Q.1 } := ⟨_, rfl⟩
    have ok1 : CwOk { h with a := a1, cap := c1, es := es1 } s1 := by rw [hs1]; exact ⟨hi1, ok.mem, ok.bl, ok.sl, ok.len⟩
    have e1 : s1.ts = s.ts := by rw [hs1]
    have e2 : s1.D = s.D := by rw [hs1]
    have e3 : s1.ns = Q.1 := by rw [hs1]
    have hfull : R21.full s1 (s1.ts.getD i default) ↔ t.j = (R6.nd s.ns t.n).lv - 2 := by
     rw [hs1]; unfold R21.full; rw [htt, R6.nd_pre hpre1 ⟨hn0, hn1⟩]
    rw [← hs1, ← e1, ← e2, ← e3, show s.node = s1.node by rw [hs1], show s.done = s1.done by rw [hs1]]
    have hi' : i < s1.ts.length := by rw [e1]; exact hi
    have htk : TkOk s1.ts i := by rw [e1]; exact ht
    have hwd : DqOk s1.D w := by rw [e2]; exact hw
    rw [← e1] at ht1'
    have hrs : R6.right s1.ns room := by rw [e3]; exact r1
    rw [← e3] at hall9
    have hin2 : R21.In1 s1.ns (s1.ts.getD i default).n := by rw [e1, htt, e3]; exact hin1
    have htj : t.j = (s1.ts.getD i default).j := by rw [e1, htt]
    clear hs1 ht2
    refine tri_perm (A := ?a8_0 :: ?a8_1 :: ?a8_2 :: ?a8_3 :: ?a8_4 :: ?a8_5 :: ?a8_6 :: ?a8_7 :: ?a8_8 :: ?a8_9 :: ?a8_10 :: ?T8) (B := ?a8_4 :: ?a8_5 :: ?a8_0 :: ?a8_1 :: ?a8_2 :: ?a8_3 :: ?a8_6 :: ?a8_7 :: ?a8_8 :: ?a8_9 :: ?a8_10 :: ?T8) (by exact permL [4, 5, 0, 1, 2, 3, 6, 7, 8, 9, 10] [?a8_0, ?a8_1, ?a8_2, ?a8_3, ?a8_4, ?a8_5, ?a8_6, ?a8_7, ?a8_8, ?a8_9, ?a8_10] ?T8 (by decide) rfl) ?_
    refine tri_starsRe (tri_starsPerm ht1'.symm ?_)
    refine tri_perm (A := ?a9_0 :: ?a9_1 :: ?a9_2 :: ?a9_3 :: ?a9_4 :: ?a9_5 :: ?a9_6 :: ?a9_7 :: ?a9_8 :: ?a9_9 :: ?T9) (B := ?a9_2 :: ?a9_3 :: ?a9_4 :: ?a9_5 :: ?a9_6 :: ?a9_7 :: ?a9_8 :: ?a9_0 :: ?a9_9 :: ?a9_1 :: ?T9) (by exact permL [2, 3, 4, 5, 6, 7, 8, 0, 9, 1] [?a9_0, ?a9_1, ?a9_2, ?a9_3, ?a9_4, ?a9_5, ?a9_6, ?a9_7, ?a9_8, ?a9_9] ?T9 (by decide) rfl) ?_
    refine tri_skip (tT (tS (tS (tR (tM rfl rfl (tM rfl rfl ?_))))))
    refine tri_g (opg_call (xs := [_, _]) rfl (crew_full (h := { h with a := a1, cap := c1, es := es1 }) (s := s1) (i := i) hi' (by rw [e3]; exact g1) hin2.1)) rfl ?_
    rintro _ _ _ ⟨rfl, rfl, rfl⟩
    refine tN (tT ?_)
    refine tri_cond_dec rfl (fun hf => ?_) (fun hf => ?_)
    ·rw [if_pos (hfull.1 hf)]
     refine tri_perm (A := ?a10_0 :: ?a10_1 :: ?a10_2 :: ?a10_3 :: ?a10_4 :: ?a10_5 :: ?a10_6 :: ?a10_7 :: ?a10_8 :: ?a10_9 :: ?T10) (B := ?a10_9 :: ?a10_0 :: ?a10_1 :: ?a10_2 :: ?a10_3 :: ?a10_4 :: ?a10_5 :: ?a10_6 :: ?a10_7 :: ?a10_8 :: ?T10) (by exact permL [9, 0, 1, 2, 3, 4, 5, 6, 7, 8] [?a10_0, ?a10_1, ?a10_2, ?a10_3, ?a10_4, ?a10_5, ?a10_6, ?a10_7, ?a10_8, ?a10_9] ?T10 (by decide) rfl) ?_
     refine tri_freezeBoxS (α := Int) [q0, q1, q2, q3, q4, q5, q6, q7, q8] rfl fun I1 hI1 hb1 => ?_
     refine tri_perm perm7 ?_
     refine tri_starsPerm ht1' (tri_starsUn ?_)
     rw [hl9]
     skip
     skip
     refine tS ?_
     refine tri_draw [0, 1, 2, 3, 4, 5, 6, 9, 7, 8, 10] rfl [_, _, _, _, _, _, _, _, _, _] rfl mixed ?_
     refine yM rfl rfl (yM rfl rfl (yM rfl rfl (yM rfl rfl (yn rfl rfl (yf rfl rfl (yf rfl rfl ?_))))))
     refine th_take rfl rfl (by kernel_rfl)  (opv_sliceArr rfl) ?_
     refine th_one (by kernel_rfl) (step_m rfl rfl (OpV.toG (opv_load1 rfl rfl rfl)) ?_)
     rintro _ _ _ ⟨rfl, rfl, rfl⟩
     refine ⟨Suf.h, (fun _ h => h), ?_⟩
     refine th_take rfl rfl (by kernel_rfl)  (opv_sub rfl rfl rfl) ?_
     refine th_one (by kernel_rfl) (step_m rfl rfl (opg_call (xs := [_, _, _, _, _]) rfl ((FnC.tkIn ht1' (crew_wait (l := [q0, q1, q2, q3, q4, q5, q6, q7, q8]) (j := IntKind.i64.wrap (t.j - 1)) (h := { h with a := a1, cap := c1, es := es1 }) (s := s1) (w := w) (i := i) ok1 hwd.lt hi' htk.len hwd.len hb1 (by simp))))) ?_)
     rintro _ _ I2 ⟨h3, ok3, rfl, hI2⟩
     refine ⟨Suf.h, (by assumption), ?_⟩
     refine yD (tT (tS (tR (tA rfl rfl (tN (tT (tri_ret ?_)))))))
     refine tri_then_ret ?_
     refine tri_end _ (⟨[], rfl⟩) rfl (.cons (rv_tmp rfl) .nil) ⟨rfl, h3, _, rfl, fun _ => ⟨rfl, ok3⟩, fun _ h => hI2 (hI1 h)⟩
    ·rw [if_neg fun k => hf (hfull.2 k)]
     obtain ⟨l, hl⟩ : ∃ l, Q.2.1 = l := ⟨_, rfl⟩
     rw [hl] at hlen9 hall9 hl9 ⊢
     refine tri_perm (A := ?a11_0 :: ?a11_1 :: ?a11_2 :: ?a11_3 :: ?a11_4 :: ?a11_5 :: ?a11_6 :: ?a11_7 :: ?a11_8 :: ?a11_9 :: ?T11) (B := ?a11_9 :: ?a11_0 :: ?a11_1 :: ?a11_2 :: ?a11_3 :: ?a11_4 :: ?a11_5 :: ?a11_6 :: ?a11_7 :: ?a11_8 :: ?T11) (by exact permL [9, 0, 1, 2, 3, 4, 5, 6, 7, 8] [?a11_0, ?a11_1, ?a11_2, ?a11_3, ?a11_4, ?a11_5, ?a11_6, ?a11_7, ?a11_8, ?a11_9] ?T11 (by decide) rfl) ?_
     obtain ⟨h1, eh1⟩ : ∃ h1 : Hp, h1 = { h with a := a1, cap := c1, es := es1 } := ⟨_, rfl⟩
     have eb1 : h1.bs = h.bs := by rw [eh1]
     rw [← eh1] at ok1 ⊢
     clear eh1
     obtain ⟨M, hM⟩ : ∃ M, R21.mids room i 0 l s1 = M := ⟨_, rfl⟩
     rw [hM]
     have inv0 : MidInv room i l h.bs s1.D s1.ts.length M s1.ns 0 h1 s1 := ⟨by omega, ok1, eb1, hrs, List.prefix_refl _, rfl, rfl, htk, hin2, hM.symm⟩
     have hl9' : 9 = l.length := hlen9.symm
     skip
     skip
     refine tri_skip (tT (tS (tS (tR ?_))))
     refine yB rfl rfl ?_
     refine tM rfl rfl (tN (tT (tri_block ?_)))
     refine tri_drop ?_
     refine tri_sub (F' := [(0, pt bc 0), (1, .int .i64 (w : Nat)), (2, .int .i64 (i : Nat)), (7, pt (h.bs.getD i default).b 0), (110, .agg (ints l).toArray), (111, .int .i64 (0 : Nat))]) ⟨rfl, rfl, rfl, rfl, by rw [hl9]; rfl, rfl, trivial⟩ ?_
     refine loop_ind (G := Nat × Hp × R21.Ms) (fun g => 9 - g.1) (fun g => MidInv room i l h.bs s1.D s1.ts.length M s1.ns g.1 g.2.1 g.2.2) (fun g => [(0, pt bc 0), (1, .int .i64 (w : Nat)), (2, .int .i64 (i : Nat)), (7, pt (h.bs.getD i default).b 0), (110, .agg (ints l).toArray), (111, .int .i64 (g.1 : Nat))]) (fun g => CwA bc bx mb db (some ⟨bq, 0, none⟩) cd room g.2.1 g.2.2 A) (fun _ => I) ?_ (0, h1, s1) inv0
     rintro ⟨k, h', s'⟩ inv K hK
     simp only at inv hK ⊢
     have hk9 := inv.k9
     have hg' : R6.Good s'.ns room := inv.right.good (by have := inv.right.1.2.1; omega)
     have h2' : 2 ≤ s'.ns.length := inv.right.1.2.2.1
     skip
     refine tS (tR (yC rfl rfl (tN (tT (tS ?_)))))
     refine tri_cond_dec rfl (fun hk => ?_) (fun hk => ?_)
     ·have hk' : k < l.length := by omega
      have hq : R21.In1 s'.ns (l.getD k default) := R21.In1.pre inv.pre (hall9 _ (by rw [show l.getD k default = l[k] by simp [hk']]; exact List.getElem_mem hk'))
      obtain ⟨R', t1', t2'⟩ := tk_one (bs := h.bs) inv.tk.lt
      unfold tkA at t1'
      obtain ⟨u, hu⟩ : ∃ u, s'.ts.getD i default = u := ⟨_, rfl⟩
      have htk' := inv.tk.setR (k : Int) (R8.putSq s'.ns room (R8.s16 s'.ns (l.getD k default)) 1 1).2.1
      obtain ⟨_, _, en, _⟩ := R21.setR_of u (k : Int) (R8.putSq s'.ns room (R8.s16 s'.ns (l.getD k default)) 1 1).2.1
      have heq := inv.eq
      have hin' := inv.in1
      obtain ⟨p, hp⟩ : ∃ p, R8.putSq s'.ns room (R8.s16 s'.ns (l.getD k default)) 1 1 = p := ⟨_, rfl⟩
      rw [R21.mids_step hk' hp] at heq
      rw [hu] at t1' heq htk' hin'
      rw [hp] at htk' en
      refine tri_perm perm7 ?_
      rw [inv.bs]
      refine tri_starsPerm t1' (tri_starsUn ?_)
      rw [tkL_enc u]
      refine tri_perm (A := ?a12_0 :: ?a12_1 :: ?a12_2 :: ?a12_3 :: ?a12_4 :: ?a12_5 :: ?a12_6 :: ?a12_7 :: ?a12_8 :: ?a12_9 :: ?T12) (B := ?a12_2 :: ?a12_3 :: ?a12_4 :: ?a12_0 :: ?a12_1 :: ?a12_5 :: ?a12_6 :: ?a12_7 :: ?a12_8 :: ?a12_9 :: ?T12) (by exact permL [2, 3, 4, 0, 1, 5, 6, 7, 8, 9] [?a12_0, ?a12_1, ?a12_2, ?a12_3, ?a12_4, ?a12_5, ?a12_6, ?a12_7, ?a12_8, ?a12_9] ?T12 (by decide) rfl) ?_
      skip
      refine tri_skip (tT (tS (tri_block (tS (tR (tM rfl rfl ?_))))))
      refine tri_v (opv_indexIX (l := l) rfl rfl (by omega) (by omega) hl9') rfl ?_
      refine tA rfl rfl (tA rfl rfl (tN (tT (tS ?_))))
      refine tri_draw [0, 1, 2, 3, 4, 5, 6, 11, 12, 7, 8, 9, 10, 13, 14, 15] rfl [_, _, _, _] rfl mixed ?_
      refine yM rfl rfl (yM rfl rfl (yM rfl rfl (yn rfl rfl (yf rfl rfl ?_))))
      refine th_take rfl rfl (by kernel_rfl)  (opv_loadA rfl rfl rfl) ?_
      refine yM rfl rfl (yn rfl rfl (yf rfl rfl ?_))
      refine th_one (by kernel_rfl) (step_m rfl rfl (opg_call (xs := [_, _]) rfl (maker_centreQ hg' h2' inv.ok.idx (hq.kid inv.right) hp)) ?_)
      rintro _ _ _ ⟨a2, c2, es2, rfl, rfl, hi2, rfl⟩
      refine ⟨Suf.h, (fun _ h => h), ?_⟩
      refine yM rfl rfl (yE rfl rfl rfl (yE rfl rfl rfl ?_))
      refine th_take rfl rfl (by kernel_rfl)  (opv_indexAddrA rfl rfl (by omega) (by omega)) ?_
      refine th_one (by kernel_rfl) (step_m rfl rfl (opg_storeIX rfl rfl (by show _ < 15; simp only [Int.toNat_natCast]; omega)) ?_)
      rintro _ _ _ ⟨rfl, rfl⟩
      refine ⟨Suf.h, (fun _ h => h), ?_⟩
      rw [tkL_set u (by omega) (by omega)]
      refine yA rfl rfl (yD (tT (tS (tR (tM rfl rfl ?_)))))
      refine tri_v (opv_neq rfl rfl) rfl ?_
      refine tN (tT ?_)
      refine tri_perm (A := ?a13_0 :: ?a13_1 :: ?a13_2 :: ?a13_3 :: ?a13_4 :: ?a13_5 :: ?a13_6 :: ?a13_7 :: ?a13_8 :: ?a13_9 :: ?T13) (B := ?a13_3 :: ?a13_4 :: ?a13_0 :: ?a13_1 :: ?a13_2 :: ?a13_5 :: ?a13_6 :: ?a13_7 :: ?a13_8 :: ?a13_9 :: ?T13) (by exact permL [3, 4, 0, 1, 2, 5, 6, 7, 8, 9] [?a13_0, ?a13_1, ?a13_2, ?a13_3, ?a13_4, ?a13_5, ?a13_6, ?a13_7, ?a13_8, ?a13_9] ?T13 (by decide) rfl) ?_
      refine tri_starsRe (tri_starsPerm (t2' (R21.setR u (k : Int) p.2.1)).symm ?_)
      refine tri_perm (A := ?a14_0 :: ?a14_1 :: ?a14_2 :: ?a14_3 :: ?a14_4 :: ?a14_5 :: ?a14_6 :: ?a14_7 :: ?a14_8 :: ?T14) (B := ?a14_1 :: ?a14_2 :: ?a14_3 :: ?a14_4 :: ?a14_5 :: ?a14_6 :: ?a14_7 :: ?a14_0 :: ?a14_8 :: ?T14) (by exact permL [1, 2, 3, 4, 5, 6, 7, 0, 8] [?a14_0, ?a14_1, ?a14_2, ?a14_3, ?a14_4, ?a14_5, ?a14_6, ?a14_7, ?a14_8] ?T14 (by decide) rfl) ?_
      obtain ⟨s2, hs2⟩ : ∃ s2 : R21.Ms, s2 = { s' with ns := p.1, ts := s'.ts.set i (R21.setR u (k : Int) p.2.1) } := ⟨_, rfl⟩
      have f1 : s2.ts.length = s'.ts.length := by rw [hs2]; exact List.length_set ..
      have f2 : s2.ts = s'.ts.set i (R21.setR u (k : Int) p.2.1) := by rw [hs2]
      have f3 : s2.ns = p.1 := by rw [hs2]
      have f4 : s2.D = s'.D := by rw [hs2]
      have ok2 : CwOk { h' with a := a2, cap := c2, es := es2 } s2 := by
       rw [hs2]
       exact ⟨hi2, inv.ok.mem, by simp only [List.length_set]; exact inv.ok.bl, inv.ok.sl, inv.ok.len⟩
      rw [← hs2] at heq
      rw [← f2, ← f1, ← f3, ← f4, show s'.node = s2.node by rw [hs2], show s'.done = s2.done by rw [hs2], ← inv.bs]
      refine tri_cond_dec rfl (fun hx => ?_) (fun hx => ?_)
      ·have hM2 : M = (s', p.2.2) := heq.trans (if_pos hx)
       rw [hM2, if_pos hx]
       refine tS (tR (tM rfl rfl (tA rfl rfl (tN (tT (tri_ret (tri_inBlock_ret ?_)))))))
       refine tri_then_ret (tri_then_ret (tri_inBlock_ret (tri_then_ret ?_)))
       refine tri_end _ (⟨[], rfl⟩) rfl (.cons (rv_tmp rfl) .nil) ⟨rfl, { h' with a := a2, cap := c2, es := es2 }, s2, rfl, fun k => absurd k hx, fun _ h => h⟩
      ·have hx0 : p.2.2 = 0 := Decidable.not_not.1 hx
       obtain ⟨r2, pre2, i2, lv2⟩ := R21.put_in inv.right hp hx0
       have hM2 := heq.trans (if_neg hx)
       refine tri_skip (tri_inBlock (tT (tR ?_)))
       refine yU rfl rfl ?_
       refine tM rfl rfl (tN (tT ?_))
       refine tri_sub ?_ (hK (k + 1, { h' with a := a2, cap := c2, es := es2 }, s2) ⟨by omega, ok2, inv.bs, by rw [f3]; exact r2, inv.pre.trans (by rw [f3]; exact pre2), f4.trans inv.dq, f1.trans inv.ts, by rw [f2]; exact htk', ?_, hM2⟩ (by simp only; omega))
       ·exact ⟨rfl, rfl, rfl, by rw [inv.bs]; rfl, rfl, rfl, trivial⟩
       ·rw [f2, f3, getD_set7 inv.tk.lt, if_pos rfl, en]
        exact R21.In1.pre pre2 hin'
     ·have hk' : l.length ≤ k := by omega
      have heq := inv.eq
      rw [List.drop_of_length_le hk'] at heq
      have hM2 : M = (s', 0) := heq
      rw [hM2, if_neg (by simp)]
      refine tri_exit ?_
      refine tri_then_exit (tri_then_exit ?_)
      refine tri_inBlock_hit rfl ?_
      refine tT (tS (tR (tM rfl rfl (tM rfl rfl (tM rfl rfl ?_)))))
      refine tri_g (opg_call (xs := [_, _, _]) rfl (crew_join (h := h') (s := s') (i := i) (w := w) inv.ok (by rw [inv.dq]; exact hwd) inv.tk hg' h2' inv.in1.1)) rfl ?_
      rintro _ _ I2 ⟨rfl, h3, s3, rfl, hx, hI2⟩
      refine tA rfl rfl (tN (tT (tri_ret ?_)))
      refine tri_end _ (⟨[], rfl⟩) rfl (.cons (rv_tmp rfl) .nil) ⟨rfl, h3, s3, rfl, hx, hI2⟩
 ·have eb : R21.begin_ room s w i = (R21.tell s w i to, 0) := by
   unfold R21.begin_
   dsimp only
   rw [htt, ho]
  rw [eb]
  refine tri_cond_true (congrArg (fun o => some (Value.bool (Option.isSome o))) hmf) ?_
  refine tri_starsRe (tri_starsPerm ht1'.symm ?_)
  refine tri_perm (A := ?a15_0 :: ?a15_1 :: ?a15_2 :: ?a15_3 :: ?a15_4 :: ?a15_5 :: ?a15_6 :: ?a15_7 :: ?a15_8 :: ?T15) (B := ?a15_1 :: ?a15_2 :: ?a15_3 :: ?a15_4 :: ?a15_5 :: ?a15_6 :: ?a15_7 :: ?a15_0 :: ?a15_8 :: ?T15) (by exact permL [1, 2, 3, 4, 5, 6, 7, 0, 8] [?a15_0, ?a15_1, ?a15_2, ?a15_3, ?a15_4, ?a15_5, ?a15_6, ?a15_7, ?a15_8] ?T15 (by decide) rfl) ?_
  rw [hmf]
  refine tS (tR (tM rfl rfl (tM rfl rfl (tM rfl rfl (tM rfl rfl ?_)))))
  refine tri_g (opg_call (xs := [_, _, _, _]) rfl (crew_tellR (h := h) (s := s) (n := to) (i := i) ok hw ht rfl)) rfl ?_
  rintro _ _ I2 ⟨h3, ok3, rfl, hI2⟩
  refine tN (tT (tS (tR (tA rfl rfl (tN (tT (tri_ret ?_)))))))
  refine tri_then_ret ?_
  refine tri_end _ (⟨[], rfl⟩) rfl (.cons (rv_tmp rfl) .nil) ⟨rfl, h3, _, rfl, fun _ => ⟨rfl, ok3⟩, hI2⟩
end Go.GL


namespace Go.GL
open Go.Proofs
/-! ### What a crew keeps to -/
namespace R21
structure TOk (ns : List Node) (ts : List Tk) (i : Nat) : Prop where
 n : In1 ns (ts.getD i default).n
 of_ : 0 ≤ (ts.getD i default).of_ → (ts.getD i default).of_.toNat < ts.length ∧ (ts.getD i default).of_.toNat ≠ i
 pl : 0 ≤ (ts.getD i default).pl ∧ (ts.getD i default).pl ≤ 8
 wt : (ts.getD i default).wt = 0 ∨ (ts.getD i default).wt = 9 ∨ (ts.getD i default).wt = 4
structure MOk (room : Int) (W b : Nat) (s : Ms) : Prop where
 right : R6.right s.ns room
 dl : s.D.length = W
 ts : s.ts.length ≤ b
 dq : ∀ k, k < W → (s.D.getD k default).length ≤ b ∧ ∀ x ∈ s.D.getD k default, 0 ≤ x ∧ x < s.ts.length
 tk : ∀ i, i < s.ts.length → TOk s.ns s.ts i
theorem MOk.store {room : Int} {W b : Nat} {s : Ms} (h : MOk room W b s) {ms : List Node} (hr : R6.right ms room) (hp : s.ns <+: ms) : MOk room W b { s with ns := ms } :=
 ⟨hr, h.dl, h.ts, h.dq, fun i hi => ⟨In1.pre hp (h.tk i hi).n, (h.tk i hi).of_, (h.tk i hi).pl, (h.tk i hi).wt⟩⟩
theorem MOk.mono {room : Int} {W b c : Nat} {s : Ms} (h : MOk room W b s) (hb : b ≤ c) : MOk room W c s :=
 ⟨h.right, h.dl, by have := h.ts; omega, fun k hk => ⟨by have := (h.dq k hk).1; omega, (h.dq k hk).2⟩, h.tk⟩
theorem getD_mem_of {l : List Int} {i : Nat} (h : i < l.length) : l.getD i default ∈ l := by
 rw [show l.getD i default = l[i] by simp [h]]
 exact List.getElem_mem h
theorem findF_lt7 {D : List (List Int)} {w : Nat} (h0 : 0 < D.length) : ∀ (f j : Nat) {k : Nat}, R19.findF D w f j = some k → k < D.length ∧ 0 < (D.getD k default).length
 | 0, _, _, h => nomatch h
 | f + 1, j, k, h => by
  unfold R19.findF at h
  split at h
  ·exact findF_lt7 h0 f (j + 1) h
  ·rename_i h1
   injection h with h
   subst h
   exact ⟨Nat.mod_lt _ h0, by omega⟩
theorem push_ok {D : List (List Int)} {W b N w : Nat} {x : Int} (hd : D.length = W) (hq : ∀ k, k < W → (D.getD k default).length ≤ b ∧ ∀ x ∈ D.getD k default, 0 ≤ x ∧ x < (N : Int)) (h0 : 0 ≤ x) (h1 : x < (N : Int)) : (push D w x).length = W ∧ ∀ k, k < W → ((push D w x).getD k default).length ≤ b + 1 ∧ ∀ y ∈ (push D w x).getD k default, 0 ≤ y ∧ y < (N : Int) := by
 unfold push
 refine ⟨by rw [List.length_set]; exact hd, fun k hk => ?_⟩
 by_cases hw : w < D.length
 ·rw [getD_set7 hw]
  split
  ·have := hq w (by omega)
   refine ⟨by rw [List.length_append, List.length_singleton]; omega, fun y hy => ?_⟩
   rcases List.mem_append.1 hy with hy | hy
   ·exact this.2 y hy
   ·rw [List.mem_singleton.1 hy]; exact ⟨h0, h1⟩
  ·have := hq k hk
   exact ⟨by omega, this.2⟩
 ·rw [List.set_eq_of_length_le (by omega)]
  have := hq k hk
  exact ⟨by omega, this.2⟩
/-- A task is changed, but for what it speaks of. -/
theorem MOk.set {room : Int} {W b : Nat} {s : Ms} (h : MOk room W b s) {i : Nat} (hi : i < s.ts.length) {u : Tk} (e1 : u.n = (s.ts.getD i default).n) (e2 : u.of_ = (s.ts.getD i default).of_) (e3 : u.pl = (s.ts.getD i default).pl) (e4 : u.wt = 0 ∨ u.wt = 9 ∨ u.wt = 4) : MOk room W b { s with ts := s.ts.set i u } := by
 refine ⟨h.right, h.dl, by simp only [List.length_set]; exact h.ts, fun k hk => by simp only [List.length_set]; exact h.dq k hk, fun j hj => ?_⟩
 simp only [List.length_set] at hj ⊢
 have g : (s.ts.set i u).getD j default = if j = i then u else s.ts.getD j default := getD_set7 hi
 by_cases e : j = i
 ·subst e
  have := h.tk j hj
  refine ⟨?_, ?_, ?_, ?_⟩ <;> rw [g, if_pos rfl]
  ·rw [e1]; exact this.n
  ·rw [e2, List.length_set]; exact this.of_
  ·rw [e3]; exact this.pl
  ·exact e4
 ·have := h.tk j hj
  refine ⟨?_, ?_, ?_, ?_⟩ <;> rw [g, if_neg e]
  ·exact this.n
  ·rw [List.length_set]; exact this.of_
  ·exact this.pl
  ·exact this.wt
theorem MOk.add {room : Int} {W b w : Nat} {s : Ms} (h : MOk room W b s) {t : Tk} (hn : In1 s.ns t.n) (ho : 0 ≤ t.of_ → t.of_ < s.ts.length) (hp : 0 ≤ t.pl ∧ t.pl ≤ 8) (hw : t.wt = 0 ∨ t.wt = 9 ∨ t.wt = 4) : MOk room W (b + 1) (R21.add s w t) := by
 have hq : ∀ k, k < W → (s.D.getD k default).length ≤ b ∧ ∀ x ∈ s.D.getD k default, 0 ≤ x ∧ x < ((s.ts.length + 1 : Nat) : Int) := fun k hk => ⟨(h.dq k hk).1, fun x hx => by have := (h.dq k hk).2 x hx; omega⟩
 obtain ⟨p1, p2⟩ := push_ok (w := w) (x := (s.ts.length : Int)) h.dl hq (by omega) (by omega)
 have e : (R21.add s w t).ts.length = s.ts.length + 1 := by simp [R21.add]
 refine ⟨h.right, p1, by rw [e]; have := h.ts; omega, fun k hk => by rw [e]; exact p2 k hk, fun i hi => ?_⟩
 rw [e] at hi
 have ea : (s.ts ++ [t]).getD i default = if i < s.ts.length then s.ts.getD i default else t := by
  split
  ·rename_i hlt
   simp [List.getElem?_append_left hlt]
  ·have : i = s.ts.length := by omega
   subst this
   simp
 by_cases hlt : i < s.ts.length
 ·have := h.tk i hlt
  refine ⟨?_, ?_, ?_, ?_⟩ <;> (unfold R21.add; simp only; rw [ea, if_pos hlt])
  ·exact this.n
  ·intro k
   have := this.of_ k
   rw [List.length_append, List.length_singleton]
   exact ⟨by omega, this.2⟩
  ·exact this.pl
  ·exact this.wt
 ·refine ⟨?_, ?_, ?_, ?_⟩ <;> (unfold R21.add; simp only; rw [ea, if_neg hlt])
  ·exact hn
  ·intro k
   have := ho k
   rw [List.length_append, List.length_singleton]
   exact ⟨by omega, by omega⟩
  ·exact hp
  ·exact hw
theorem MOk.tell {room : Int} {W b w i : Nat} {s : Ms} {n : Int} (h : MOk room W b s) (hi : i < s.ts.length) : MOk room W (b + 1) (R21.tell s w i n) := by
 unfold R21.tell
 dsimp only
 have ht := h.tk i hi
 split
 ·exact ⟨h.right, h.dl, by have := h.ts; simp only; omega, fun k hk => ⟨by have := (h.dq k hk).1; simp only; omega, (h.dq k hk).2⟩, h.tk⟩
 ·rename_i ho
  obtain ⟨o1, o2⟩ := ht.of_ (by omega)
  generalize (s.ts.getD i default).of_ = o at *
  obtain ⟨r1, r2, r3, _, r5, _⟩ := setR_of (s.ts.getD o.toNat default) (s.ts.getD i default).pl n
  have hs := h.set o1 (u := less (setR (s.ts.getD o.toNat default) (s.ts.getD i default).pl n)) r3 r1 r2 (by rw [show (less (setR (s.ts.getD o.toNat default) (s.ts.getD i default).pl n)).wt = (s.ts.getD o.toNat default).wt from r5]; exact (h.tk _ o1).wt)
  refine ⟨hs.right, ?_, by have := hs.ts; simp only at this ⊢; omega, ?_, hs.tk⟩
  ·split
   ·simp only [push, List.length_set]; exact h.dl
   ·exact h.dl
  ·simp only
   have hts : (s.ts.set o.toNat (less (setR (s.ts.getD o.toNat default) (s.ts.getD i default).pl n))).length = s.ts.length := List.length_set ..
   rw [hts]
   intro k hk
   split
   ·exact (push_ok (w := w) h.dl h.dq (by omega) (by omega)).2 k hk
   ·have := h.dq k hk
    exact ⟨by omega, this.2⟩
theorem MOk.parts {room : Int} {W w i : Nat} {j : Int} : ∀ (l : List Int) (k b : Nat) {s : Ms}, MOk room W b s → i < s.ts.length → k + l.length ≤ 9 → (∀ x ∈ l, In1 s.ns x) → MOk room W (b + l.length) (R21.parts w i j k l s)
 | [], k, b, s, h, hi, hk, hl => h
 | n :: l, k, b, s, h, hi, hk, hl => by
  rw [List.length_cons] at hk
  have ha := h.add (w := w) (t := tk0 n j i k) (hl n List.mem_cons_self) (fun _ => by show (i : Int) < _; omega) (by show (0 : Int) ≤ (k : Nat) ∧ ((k : Nat) : Int) ≤ 8; omega) (.inl rfl)
  have := MOk.parts (w := w) (i := i) (j := j) l (k + 1) (b + 1) ha (by simp [R21.add]; omega) (by omega) (fun x hx => hl x (List.mem_cons_of_mem _ hx))
  unfold R21.parts
  rw [List.length_cons]
  rw [show b + (l.length + 1) = b + 1 + l.length by omega]
  exact this
theorem MOk.wait {room : Int} {W b w i : Nat} {s : Ms} {j : Int} {l : List Int} (h : MOk room W b s) (hi : i < s.ts.length) (hl : l.length = 9 ∨ l.length = 4) (hin : ∀ x ∈ l, In1 s.ns x) : MOk room W (b + 9) (R21.wait s w i j l) := by
 have hs := h.set hi (u := { s.ts.getD i default with wt := l.length, lf := l.length }) rfl rfl rfl (by show ((l.length : Nat) : Int) = 0 ∨ ((l.length : Nat) : Int) = 9 ∨ ((l.length : Nat) : Int) = 4; omega)
 exact (MOk.parts (w := w) (i := i) (j := j) l 0 b hs (by simp only [List.length_set]; exact hi) (by omega) hin).mono (by omega)
theorem MOk.mids {room : Int} {W b i : Nat} : ∀ (l : List Int) (k : Nat) {s : Ms}, MOk room W b s → i < s.ts.length → (R21.mids room i k l s).2 = 0 → MOk room W b (R21.mids room i k l s).1 ∧ (R21.mids room i k l s).1.ts.length = s.ts.length ∧ s.ns <+: (R21.mids room i k l s).1.ns
 | [], k, s, h, hi, he => ⟨h, rfl, List.prefix_refl _⟩
 | n :: l, k, s, h, hi, he => by
  unfold R21.mids at he ⊢
  dsimp only at he ⊢
  obtain ⟨p, hp⟩ : ∃ p, R8.putSq s.ns room (R8.s16 s.ns n) 1 1 = p := ⟨_, rfl⟩
  rw [hp] at he ⊢
  by_cases x : p.2.2 = 0
  ·rw [if_neg (by simpa using x)] at he ⊢
   obtain ⟨r1, p1, _, _⟩ := put_in h.right hp x
   obtain ⟨s1, s2, s3, _, s5, _⟩ := setR_of (s.ts.getD i default) k p.2.1
   have h1 := (h.store r1 p1).set (s := { s with ns := p.1 }) hi (u := setR (s.ts.getD i default) k p.2.1) s3 s1 s2 (by rw [s5]; exact (h.tk i hi).wt)
   have := MOk.mids (i := i) l (k + 1) h1 (by simp only [List.length_set]; exact hi) he
   refine ⟨this.1, this.2.1.trans (by simp only [List.length_set]), p1.trans this.2.2⟩
  ·rw [if_pos x] at he
   exact absurd he x
theorem MOk.join {room : Int} {W b w i : Nat} {s : Ms} (h : MOk room W b s) (hi : i < s.ts.length) (he : (R21.join room s w i).2 = 0) : MOk room W (b + 9) (R21.join room s w i).1 := by
 unfold R21.join at he ⊢
 dsimp only at he ⊢
 generalize s.ts.getD i default = t at *
 obtain ⟨p0, e0⟩ : ∃ p, R6.put s.ns room t.r0 t.r1 t.r3 t.r4 = p := ⟨_, rfl⟩
 rw [e0] at he ⊢
 by_cases x0 : p0.2.2 = 0
 case neg => rw [if_pos x0] at he; exact absurd he x0
 rw [if_neg (by simpa using x0)] at he ⊢
 obtain ⟨p1, e1⟩ : ∃ p, R6.put p0.1 room t.r1 t.r2 t.r4 t.r5 = p := ⟨_, rfl⟩
 rw [e1] at he ⊢
 by_cases x1 : p1.2.2 = 0
 case neg => rw [if_pos x1] at he; exact absurd he x1
 rw [if_neg (by simpa using x1)] at he ⊢
 obtain ⟨p2, e2⟩ : ∃ p, R6.put p1.1 room t.r3 t.r4 t.r6 t.r7 = p := ⟨_, rfl⟩
 rw [e2] at he ⊢
 by_cases x2 : p2.2.2 = 0
 case neg => rw [if_pos x2] at he; exact absurd he x2
 rw [if_neg (by simpa using x2)] at he ⊢
 obtain ⟨p3, e3⟩ : ∃ p, R6.put p2.1 room t.r4 t.r5 t.r7 t.r8 = p := ⟨_, rfl⟩
 rw [e3] at he ⊢
 by_cases x3 : p3.2.2 = 0
 case neg => rw [if_pos x3] at he; exact absurd he x3
 rw [if_neg (by simpa using x3)]
 obtain ⟨r0, k0, i0⟩ := put_in h.right e0 x0
 obtain ⟨r1, k1, i1⟩ := put_in r0 e1 x1
 obtain ⟨r2, k2, i2⟩ := put_in r1 e2 x2
 obtain ⟨r3, k3, i3⟩ := put_in r2 e3 x3
 refine MOk.wait (h.store r3 (k0.trans (k1.trans (k2.trans k3)))) hi (.inr rfl) fun x hx => ?_
 simp only [List.mem_cons, List.not_mem_nil, or_false] at hx
 rcases hx with rfl | rfl | rfl | rfl
 ·exact In1.pre (k1.trans (k2.trans k3)) i0
 ·exact In1.pre (k2.trans k3) i1
 ·exact In1.pre k3 i2
 ·exact i3
theorem MOk.end_ {room : Int} {W b w i : Nat} {s : Ms} (h : MOk room W b s) (hi : i < s.ts.length) (he : (R21.end_ room s w i).2 = 0) : MOk room W (b + 9) (R21.end_ room s w i).1 := by
 unfold R21.end_ at he ⊢
 dsimp only at he ⊢
 obtain ⟨p0, e0⟩ : ∃ p, R6.put s.ns room (s.ts.getD i default).r0 (s.ts.getD i default).r1 (s.ts.getD i default).r2 (s.ts.getD i default).r3 = p := ⟨_, rfl⟩
 rw [e0] at he ⊢
 by_cases x0 : p0.2.2 = 0
 case neg => rw [if_pos x0] at he; exact absurd he x0
 rw [if_neg (by simpa using x0)]
 obtain ⟨r0, k0, i0⟩ := put_in h.right e0 x0
 exact (MOk.tell (s := { s with ns := p0.1 }) (h.store r0 k0) hi).mono (by omega)
theorem MOk.begin_ {room : Int} {W b w i : Nat} {s : Ms} (h : MOk room W b s) (hi : i < s.ts.length) (he : (R21.begin_ room s w i).2 = 0) : MOk room W (b + 9) (R21.begin_ room s w i).1 := by
 unfold R21.begin_ at he ⊢
 dsimp only at he ⊢
 obtain ⟨t, ht⟩ : ∃ t, s.ts.getD i default = t := ⟨_, rfl⟩
 rw [ht] at he ⊢
 cases ho : R9.look9 s.kp t.n t.j with
 | some to => exact (MOk.tell h hi).mono (by omega)
 | none =>
  rw [ho] at he
  simp only at he ⊢
  by_cases h2 : (R6.nd s.ns t.n).lv = 2
  ·rw [if_pos h2] at he ⊢
   obtain ⟨p0, e0⟩ : ∃ p, R8.one s.ns room t.n = p := ⟨_, rfl⟩
   rw [e0] at he ⊢
   by_cases x0 : p0.2.2 = 0
   case neg => rw [if_pos x0] at he; exact absurd he x0
   rw [if_neg (by simpa using x0)]
   obtain ⟨r0, k0, i0⟩ := put_in h.right e0 x0
   exact (MOk.tell (s := { s with ns := p0.1 }) (h.store r0 k0) hi).mono (by omega)
  ·rw [if_neg h2] at he ⊢
   obtain ⟨q, e0⟩ : ∃ q, R8.all s.ns room t.n = q := ⟨_, rfl⟩
   rw [e0] at he ⊢
   by_cases x0 : q.2.2 = 0
   case neg => rw [if_pos x0] at he; exact absurd he x0
   rw [if_neg (by simpa using x0)] at he ⊢
   obtain ⟨r0, k0, l0, i0⟩ := all_in h.right e0 x0
   have h1 := h.store r0 k0
   by_cases hf : t.j = (R6.nd s.ns t.n).lv - 2
   ·rw [if_pos hf]
    exact MOk.wait (s := { s with ns := q.1 }) h1 hi (.inl l0) i0
   ·rw [if_neg hf] at he ⊢
    by_cases x1 : (R21.mids room i 0 q.2.1 { s with ns := q.1 }).2 = 0
    case neg => rw [if_pos x1] at he; exact absurd he x1
    rw [if_neg (by simpa using x1)] at he ⊢
    obtain ⟨m1, m2, m3⟩ := MOk.mids (i := i) q.2.1 0 h1 hi x1
    exact m1.join (by rw [m2]; exact hi) he
theorem MOk.take {room : Int} {W b : Nat} {s : Ms} (h : MOk room W b s) {w : Nat} (hw : w < W) : MOk room W b { s with D := (R19.takeM s.D w).2 } ∧ (0 ≤ (R19.takeM s.D w).1 → (R19.takeM s.D w).1 < s.ts.length) := by
 have key : ∀ (k : Nat) (l : List Int), k < W → (∀ x ∈ l, x ∈ s.D.getD k default) → l.length ≤ (s.D.getD k default).length → MOk room W b { s with D := s.D.set k l } := fun k l hk hl hll => by
  refine ⟨h.right, by simp only [List.length_set]; exact h.dl, h.ts, fun k' hk' => ?_, h.tk⟩
  simp only
  rw [getD_set7 (by rw [h.dl]; exact hk)]
  split
  ·rename_i e
   have := h.dq k hk
   exact ⟨by omega, fun x hx => this.2 x (hl x hx)⟩
  ·exact h.dq k' hk'
 unfold R19.takeM
 split
 ·rename_i h0
  refine ⟨key w _ hw (fun x hx => List.mem_of_mem_take hx) (by rw [List.length_take]; omega), fun _ => ?_⟩
  exact ((h.dq w hw).2 _ (getD_mem_of (by omega))).2
 ·split
  ·rename_i k hk
   obtain ⟨k1, k2⟩ := findF_lt7 (by rw [h.dl]; omega) _ _ hk
   rw [h.dl] at k1
   refine ⟨key k _ k1 (fun x hx => List.mem_of_mem_drop hx) (by rw [List.length_drop]; omega), fun _ => ?_⟩
   exact ((h.dq k k1).2 _ (getD_mem_of k2)).2
  ·exact ⟨⟨h.right, h.dl, h.ts, h.dq, h.tk⟩, fun k => by simp at k⟩
theorem MOk.step {room : Int} {W b w : Nat} {s : Ms} (h : MOk room W b s) (hw : w < W) (he : (R21.step room s w).2 = 0) : MOk room W (b + 9) (R21.step room s w).1 := by
 obtain ⟨h1, h2⟩ := h.take hw
 unfold R21.step at he ⊢
 dsimp only at he ⊢
 generalize R19.takeM s.D w = x at *
 by_cases x0 : x.1 < 0
 ·rw [if_pos x0]
  exact h1.mono (by omega)
 rw [if_neg x0] at he ⊢
 have hlt : x.1.toNat < s.ts.length := by have := h2 (by omega); omega
 split
 ·rename_i c
  rw [if_pos c] at he
  exact h1.join hlt he
 ·rename_i c
  rw [if_neg c] at he
  split
  ·rename_i c2
   rw [if_pos c2] at he
   exact h1.end_ hlt he
  ·rename_i c2
   rw [if_neg c2] at he
   exact h1.begin_ hlt he
end R21
end Go.GL


namespace Go.GL
open Go.Proofs
attribute [local irreducible] wpList Code.wp Exit.then Exit.inBlock Ends Tri TriH OpV OpG FnC epf wpAnyH
variable {A : List Asrt} {I : List Chunk}
theorem R21.MOk.tkOk {room : Int} {W b i : Nat} {s : R21.Ms} (h : R21.MOk room W b s) (hi : i < s.ts.length) (hb : b ≤ 100000000) : TkOk s.ts i :=
 ⟨hi, by have := h.ts; omega, (h.tk i hi).of_, (h.tk i hi).pl⟩
theorem R21.MOk.dqOk {room : Int} {W b w : Nat} {s : R21.Ms} (h : R21.MOk room W b s) (hw : w < W) (hb : b ≤ 100000000) : DqOk s.D w :=
 ⟨by rw [h.dl]; exact hw, by have := (h.dq w hw).1; omega⟩
theorem crew_joinV {bc bx mb db bq cd w i : Nat} {room : Int} {h : Hp} {s : R21.Ms} (ok : CwOk h s) (hw : DqOk s.D w) (ht : TkOk s.ts i) (hg : R6.Good s.ns room) (h2 : 2 ≤ s.ns.length) (hin : R6.inS s.ns (s.ts.getD i default).n) :
  FnC Try.prog 74 ([pt bc 0] ++ ([.int .i64 (w : Nat), .int .i64 (i : Nat)] : List Value) ++ []).toArray (CwA bc bx mb db (some ⟨bq, 0, none⟩) cd room h s A) I (CwE bc bx mb db bq cd room (R21.join room s w i) A I) := crew_join ok hw ht hg h2 hin
theorem crew_endV {bc bx mb db bq cd w i : Nat} {room : Int} {h : Hp} {s : R21.Ms} (ok : CwOk h s) (hw : DqOk s.D w) (ht : TkOk s.ts i) (hg : R6.Good s.ns room) (h2 : 2 ≤ s.ns.length) :
  FnC Try.prog 75 ([pt bc 0] ++ ([.int .i64 (w : Nat), .int .i64 (i : Nat)] : List Value) ++ []).toArray (CwA bc bx mb db (some ⟨bq, 0, none⟩) cd room h s A) I (CwE bc bx mb db bq cd room (R21.end_ room s w i) A I) := crew_end ok hw ht hg h2
theorem crew_beginV {bc bx mb db bq cd w i : Nat} {room : Int} {h : Hp} {s : R21.Ms} (ok : CwOk h s) (hw : DqOk s.D w) (ht : TkOk s.ts i) (hr : R6.right s.ns room) (hin : R21.In1 s.ns (s.ts.getD i default).n) :
  FnC Try.prog 73 ([pt bc 0] ++ ([.int .i64 (w : Nat), .int .i64 (i : Nat)] : List Value) ++ []).toArray (CwA bc bx mb db (some ⟨bq, 0, none⟩) cd room h s A) I (CwE bc bx mb db bq cd room (R21.begin_ room s w i) A I) := crew_begin ok hw ht hr hin
set_option maxHeartbeats 4000000 in
set_option maxRecDepth 100000 in
theorem crew_step {bc bx mb db bq cd w W b : Nat} {room : Int} {h : Hp} {s : R21.Ms} (ok : CwOk h s) (m : R21.MOk room W b s) (hw : w < W) (hW : W ≤ 64) (hb : b ≤ 100000000) :
  FnC Try.prog 51 [pt bc 0, .int .i64 (w : Nat)].toArray (CwA bc bx mb db (some ⟨bq, 0, none⟩) cd room h s A) I (CwE bc bx mb db bq cd room (R21.step room s w) A I) := by
 obtain ⟨m1, hx1⟩ := m.take hw
 have hdl := m.dl
 have estep : R21.step room s w = if (R19.takeM s.D w).1 < 0 then ({ s with D := (R19.takeM s.D w).2 }, 0) else
   if (s.ts.getD (R19.takeM s.D w).1.toNat default).wt = 9 then R21.join room { s with D := (R19.takeM s.D w).2 } w (R19.takeM s.D w).1.toNat
   else if (s.ts.getD (R19.takeM s.D w).1.toNat default).wt = 4 then R21.end_ room { s with D := (R19.takeM s.D w).2 } w (R19.takeM s.D w).1.toNat
   else R21.begin_ room { s with D := (R19.takeM s.D w).2 } w (R19.takeM s.D w).1.toNat := rfl
 rw [estep]
 clear estep
 skip
 skip
 refine fn_enter2 Try.func51 rfl Try.ntmps51 rfl fun w0 => ?_
 refine tS (tR (tA rfl rfl (tN (tT (tS (tR (tM rfl rfl ?_)))))))
 refine tM rfl rfl ?_
 refine tri_g (opg_call (xs := [_, _]) rfl (crew_take (h := h) (s := s) (w := w) ok (by omega) (by omega) (fun k hk => by have := (m.dq k (by omega)).1; omega))) rfl ?_
 rintro _ _ I1 ⟨rfl, h1, ok1, rfl, hI1⟩
 obtain ⟨s1, hs1⟩ : ∃ s1 : R21.Ms, s1 = { s with D := (R19.takeM s.D w).2 } := ⟨_, rfl⟩
 rw [← hs1] at m1 ok1 ⊢
 rw [show s.ts = s1.ts by rw [hs1]] at hx1 ⊢
 clear hs1
 generalize (R19.takeM s.D w).1 = x at *
 refine tA rfl rfl (tN (tT (tS (tS (tR (tM rfl rfl (yC rfl rfl ?_)))))))
 refine tN (tT ?_)
 refine tri_cond_dec rfl (fun hx => ?_) (fun hx => ?_)
 ·rw [if_pos hx]
  refine tS (tR (tA rfl rfl (tN (tT (tri_ret (tri_then_ret ?_))))))
  refine tri_end _ (⟨[], rfl⟩) rfl (.cons (rv_tmp rfl) .nil) ⟨rfl, h1, s1, rfl, fun _ => ⟨rfl, ok1⟩, hI1⟩
 ·rw [if_neg hx]
  obtain ⟨i, rfl⟩ : ∃ i : Nat, x = (i : Int) := ⟨x.toNat, by omega⟩
  have hi : i < s1.ts.length := by have := hx1 (by omega); omega
  have hbl := ok1.bl
  have tk1 := m1.tkOk hi hb
  have dq1 := m1.dqOk hw hb
  have hg1 : R6.Good s1.ns room := m1.right.good (by have := m1.right.1.2.1; omega)
  have h21 : 2 ≤ s1.ns.length := m1.right.1.2.2.1
  obtain ⟨Rt, ht1, ht2⟩ := tk_one (bs := h1.bs) hi
  obtain ⟨wt, hwt⟩ : ∃ z, (s1.ts.getD i default).wt = z := ⟨_, rfl⟩
  rw [Int.toNat_natCast, hwt]
  refine tri_skip (tT (tS (tR (tM rfl rfl ?_))))
  refine tri_v (opv_makeFunc (fs := [_]) (cs := []) (vf := [_]) (vc := []) rfl rfl) rfl ?_
  refine tA rfl rfl (tN (tT (tS (tS ?_))))
  refine tri_perm perm7 ?_
  refine tri_starsPerm ht1 (tri_starsUn ?_)
  unfold tkA
  skip
  refine tR (tM rfl rfl ?_)
  refine tri_v (opv_nilCheck rfl) rfl ?_
  refine yF rfl ?_
  refine yL rfl rfl ?_
  refine tM rfl rfl ?_
  refine tri_v (opv_indexAddrRN rfl rfl (by omega)) rfl ?_
  refine tri_v (opv_loadRX1 rfl rfl (by omega) rfl rfl) rfl ?_
  refine tri_v (opv_nilCheck rfl) rfl ?_
  refine yF rfl ?_
  refine yL rfl rfl ?_
  refine tN (tT (tri_block (tS ?_)))
  try rw [hwt]
  refine tri_starsRe (tri_starsPerm ht1.symm ?_)
  refine tri_perm (A := ?a1_0 :: ?a1_1 :: ?a1_2 :: ?a1_3 :: ?a1_4 :: ?a1_5 :: ?a1_6 :: ?a1_7 :: ?a1_8 :: ?T1) (B := ?a1_1 :: ?a1_2 :: ?a1_3 :: ?a1_4 :: ?a1_5 :: ?a1_6 :: ?a1_7 :: ?a1_0 :: ?a1_8 :: ?T1) (by exact permL [1, 2, 3, 4, 5, 6, 7, 0, 8] [?a1_0, ?a1_1, ?a1_2, ?a1_3, ?a1_4, ?a1_5, ?a1_6, ?a1_7, ?a1_8] ?T1 (by decide) rfl) ?_
  refine tR ?_
  refine tri_v (opv_eql rfl rfl) rfl ?_
  refine tA rfl rfl (tN (tT ?_))
  refine tri_cond_dec rfl (fun h9 => ?_) (fun h9 => ?_)
  ·rw [if_pos h9]
   refine tR (tM rfl rfl ?_)
   refine tri_v (opv_makeFunc (fs := [_]) (cs := []) (vf := [_]) (vc := []) rfl rfl) rfl ?_
   refine tA rfl rfl (tN (tri_inBlock (tT (tS (tR (tM rfl rfl (tM rfl rfl ?_)))))))
   refine tM rfl rfl ?_
   refine tri_g (opg_callv (xs := [_, _]) rfl rfl (crew_joinV (h := h1) (s := s1) (i := i) (w := w) ok1 dq1 tk1 hg1 h21 (m1.tk i hi).n.1)) rfl ?_
   rintro _ _ I2 ⟨rfl, h3, s3, rfl, hx, hI2⟩
   refine tA rfl rfl (tN (tT (tri_ret ?_)))
   refine tri_end _ (⟨[], rfl⟩) rfl (.cons (rv_tmp rfl) .nil) ⟨rfl, h3, s3, rfl, hx, fun _ h => hI2 (hI1 h)⟩
  ·rw [if_neg h9]
   refine tS (tR ?_)
   refine tri_v (opv_eql rfl rfl) rfl ?_
   refine tA rfl rfl (tN (tT ?_))
   refine tri_cond_dec rfl (fun h4 => ?_) (fun h4 => ?_)
   ·rw [if_pos h4]
    refine tR (tM rfl rfl ?_)
    refine tri_v (opv_makeFunc (fs := [_]) (cs := []) (vf := [_]) (vc := []) rfl rfl) rfl ?_
    refine tA rfl rfl (tN (tri_inBlock (tT (tS (tR (tM rfl rfl (tM rfl rfl ?_)))))))
    refine tM rfl rfl ?_
    refine tri_g (opg_callv (xs := [_, _]) rfl rfl (crew_endV (h := h1) (s := s1) (i := i) (w := w) ok1 dq1 tk1 hg1 h21)) rfl ?_
    rintro _ _ I2 ⟨rfl, h3, s3, rfl, hx, hI2⟩
    refine tA rfl rfl (tN (tT (tri_ret ?_)))
    refine tri_end _ (⟨[], rfl⟩) rfl (.cons (rv_tmp rfl) .nil) ⟨rfl, h3, s3, rfl, hx, fun _ h => hI2 (hI1 h)⟩
   ·rw [if_neg h4]
    refine tri_skip (tri_inBlock (tT (tS (tR (tM rfl rfl (tM rfl rfl (tM rfl rfl ?_)))))))
    refine tri_g (opg_callv (xs := [_, _]) rfl rfl (crew_beginV (h := h1) (s := s1) (i := i) (w := w) ok1 dq1 tk1 m1.right (m1.tk i hi).n)) rfl ?_
    rintro _ _ I2 ⟨rfl, h3, s3, rfl, hx, hI2⟩
    refine tA rfl rfl (tN (tT (tri_ret ?_)))
    refine tri_end _ (⟨[], rfl⟩) rfl (.cons (rv_tmp rfl) .nil) ⟨rfl, h3, s3, rfl, hx, fun _ h => hI2 (hI1 h)⟩
end Go.GL

