/- Part 4: contracts of the functions that the law reaches: each answers as its model does. No condition beyond those that each theorem states. -/
import Derived.Test.YtokaneackpiaoaaPart3
import Derived.Carry
import Derived.ProofKit
import Derived.OpenShut
import Derived.JoinedCond
import Derived.Deep.Slices
import Derived.ChangeSame
import Derived.Below
set_option linter.unusedVariables false
namespace Go.GL
open Go.Proofs
attribute [local irreducible] wpList Code.wp Exit.then Exit.inBlock Ends Tri TriH OpV OpG FnC epf wpAnyH
variable {A : List Asrt} {I : List Chunk}
theorem R6.right.low {ns : List Node} {room : Int} (h : R6.right ns room) {q : Int} (hq : R6.inS ns q) (hl : (R6.nd ns q).lv = 0) : 0 ≤ q ∧ q ≤ 1 := by
  obtain ⟨q0, q1⟩ := hq
  rcases Nat.lt_or_ge q.toNat 2 with h2 | h2
  · omega
  · have := (h.2 q.toNat (by omega) h2).2.2.2.2.1
    have hl' : (ns.getD q.toNat default).lv = 0 := hl
    omega
theorem R6.right.bits {ns : List Node} {room n : Int} (h : R6.right ns room) (hn : R6.inS ns n) (hl : (R6.nd ns n).lv = 2) (i : Int) : 0 ≤ R8.g (R8.s16 ns n) i ∧ R8.g (R8.s16 ns n) i ≤ 1 := by
  have key : ∀ q ∈ R8.s16 ns n, 0 ≤ q ∧ q ≤ 1 := by
    intro q hq
    have k1 := fun q hq => h.kid hn (m := 1) hl (q := q) hq
    have k2 : ∀ p, p ∈ (R6.nd ns n).kids → ∀ q, q ∈ (R6.nd ns p).kids → 0 ≤ q ∧ q ≤ 1 := fun p hp q hq => by
      obtain ⟨g1, _, g3⟩ := k1 p hp
      obtain ⟨f1, _, f3⟩ := h.kid g1 (m := 0) g3 hq
      exact h.low f1 f3
    simp only [R8.s16, List.mem_cons, List.not_mem_nil, or_false] at hq
    have a := k2 _ (by simp [Node.kids] : (R6.nd ns n).k0 ∈ (R6.nd ns n).kids)
    have b := k2 _ (by simp [Node.kids] : (R6.nd ns n).k1 ∈ (R6.nd ns n).kids)
    have c := k2 _ (by simp [Node.kids] : (R6.nd ns n).k2 ∈ (R6.nd ns n).kids)
    have d := k2 _ (by simp [Node.kids] : (R6.nd ns n).k3 ∈ (R6.nd ns n).kids)
    simp only [Node.kids, List.mem_cons, List.not_mem_nil, or_false] at a b c d
    rcases hq with e | e | e | e | e | e | e | e | e | e | e | e | e | e | e | e <;> subst e <;> first | exact a _ (by simp) | exact b _ (by simp) | exact c _ (by simp) | exact d _ (by simp)
  unfold R8.g
  rcases Nat.lt_or_ge i.toNat (R8.s16 ns n).length with h2 | h2
  · have := key (R8.s16 ns n)[i.toNat] (List.getElem_mem h2)
    simpa [h2] using this
  · rw [List.getD_eq_getElem?_getD, List.getElem?_eq_none h2]
    decide
theorem ref06_putSq {ns : List Node} {a : Option Addr} {cap : Nat} {room q0 q1 q2 q3 : Int} {p : List Node × Int × Int} (hs : StA I a cap ns) (hg : R6.Good ns room) (he : R6.put ns room q0 q1 q2 q3 = p) :
    FnC Try.prog 62 [storeV a ns.length cap room, int4V q0 q1 q2 q3].toArray A I (StoreR p room A I) := by
  subst he
  exact ref06_put hs hg.len hg.mod
set_option maxRecDepth 100000 in
theorem ref08_step {ns : List Node} {a : Option Addr} {cap : Nat} {room n : Int} (hs : StA I a cap ns) (hn : ns.length ≤ 1000000000) (hr : R6.Rng ns) :
    FnC Try.prog 16 [storeV a ns.length cap room, .int .i64 n].toArray A I (StoreR (R8.step ns room n) room A I) := by
  have hsl := hs.sl
  skip
  refine fn_enter2 Try.func16 rfl Try.ntmps16 rfl fun w0 => ?_
  refine tri_seq ?_
  refine tri_region ?_
  refine tri_g (opg_box_agg rfl) rfl ?_
  rintro _ _ _ ⟨b2, rfl, rfl, rfl⟩
  refine tri_g opg_alloc rfl ?_
  rintro _ _ _ ⟨b4, rfl, rfl, rfl⟩
  refine tri_v (opv_assign rfl) rfl ?_
  refine tri_v (opv_assign rfl) rfl ?_
  refine tri_nil ?_
  refine tri_then ?_
  refine tri_seq ?_
  refine tri_seq ?_
  refine tri_region ?_
  refine tri_v (opv_loadA rfl rfl rfl) rfl ?_
  refine tri_v (opv_move rfl) rfl ?_
  refine tri_g (opg_call (xs := [_, _, _]) rfl (ref08_may (lv := 2) hs.sl hn hr)) rfl ?_
  rintro _ _ _ ⟨rfl, rfl, rfl⟩
  refine tri_v (opv_notD rfl) rfl ?_
  refine tri_v (opv_move rfl) rfl ?_
  refine tri_split rfl rfl (fun h => ?_) (fun h => ?_)
  · refine tri_guard_skip rfl rfl rfl rfl ?_
    refine tri_guard_skip rfl rfl rfl rfl ?_
    refine tri_guard_skip rfl rfl rfl rfl ?_
    refine tri_guard_skip rfl rfl rfl rfl ?_
    refine tri_guard_skip rfl rfl rfl rfl ?_
    refine tri_guard_skip rfl rfl rfl rfl ?_
    refine tri_guard_skip rfl rfl rfl rfl ?_
    refine tri_v (opv_pick_t rfl rfl) rfl ?_
    refine tri_nil ?_
    refine tri_then ?_
    refine tri_cond_true rfl ?_
    refine tri_seq ?_
    refine tri_region ?_
    refine tri_v (opv_loadA rfl rfl rfl) rfl ?_
    refine tri_g (opg_store rfl rfl rfl rfl rfl rfl) rfl ?_
    rintro _ _ _ ⟨rfl, rfl⟩
    refine tri_v (opv_assign rfl) rfl ?_
    refine tri_v (opv_assign rfl) rfl ?_
    refine tri_nil ?_
    refine tri_then ?_
    refine tri_ret ?_
    refine tri_then_ret ?_
    refine tri_end A Suf.h rfl (.cons (rv_cellA rfl rfl rfl) (.cons (rv_tmp rfl) (.cons (rv_tmp rfl) .nil))) ?_
    rw [show R8.step ns room n = (ns, 0, 1) from if_neg fun h2 => h h2.1]
    exact ⟨a, cap, rfl, hs, rfl, fun _ h => h⟩
  have h' : R8.may ns room n 2 := Decidable.not_not.1 h
  obtain ⟨hn0, hn1⟩ := h'.2.1
  refine tri_guard_run rfl rfl rfl ?_
  refine tri_v (opv_fieldAddr rfl rfl) rfl ?_
  refine tri_guard_run rfl rfl rfl ?_
  refine tri_v (opv_load1 rfl rfl rfl) rfl ?_
  refine tri_guard_run rfl rfl rfl ?_
  refine tri_v (opv_move rfl) rfl ?_
  refine tri_guard_run rfl rfl rfl ?_
  refine tri_v (opv_indexAddrS rfl rfl (by omega) (by omega) (by assumption) rfl) rfl ?_
  refine tri_guard_run rfl rfl rfl ?_
  refine tri_v (opv_fieldAddrE rfl (by assumption) (by omega) rfl) rfl ?_
  refine tri_guard_run rfl rfl rfl ?_
  refine tri_v (opv_loadE1 rfl (by assumption) rfl (by omega) rfl rfl) rfl ?_
  refine tri_guard_run rfl rfl rfl ?_
  refine tri_v (opv_neq rfl rfl) rfl ?_
  refine tri_v (opv_pick_f rfl rfl) rfl ?_
  refine tri_nil ?_
  refine tri_then ?_
  refine tri_cond_dec rfl (fun h2 => ?_) (fun h2 => ?_)
  · refine tri_seq ?_
    refine tri_region ?_
    refine tri_v (opv_loadA rfl rfl rfl) rfl ?_
    refine tri_g (opg_store rfl rfl rfl rfl rfl rfl) rfl ?_
    rintro _ _ _ ⟨rfl, rfl⟩
    refine tri_v (opv_assign rfl) rfl ?_
    refine tri_v (opv_assign rfl) rfl ?_
    refine tri_nil ?_
    refine tri_then ?_
    refine tri_ret ?_
    refine tri_then_ret ?_
    refine tri_end A Suf.h rfl (.cons (rv_cellA rfl rfl rfl) (.cons (rv_tmp rfl) (.cons (rv_tmp rfl) .nil))) ?_
    rw [show R8.step ns room n = (ns, 0, 1) from if_neg fun h3 => h2 h3.2]
    exact ⟨a, cap, rfl, hs, rfl, fun _ h => h⟩
  have hl : (R6.nd ns n).lv = 2 := Decidable.not_not.1 h2
  rw [show R8.step ns room n = R8.one ns room n from if_pos ⟨h', hl⟩]
  have hk := h'.1.kids h'.2.1 (by omega)
  refine tri_skip ?_
  refine tri_then ?_
  refine tri_seq ?_
  refine tri_region ?_
  refine tri_v (opv_loadA rfl rfl rfl) rfl ?_
  refine tri_v (opv_move rfl) rfl ?_
  refine tri_g (opg_call (xs := [_, _]) rfl (ref08_one hs (h'.1.good (by have := h'.1.1.2.1; omega)) hk (h'.1.bits h'.2.1 hl))) rfl ?_
  rintro _ _ J ⟨a2, c2, rfl, hq2, rfl, hJ⟩
  refine tri_v (opv_extract rfl rfl) rfl ?_
  refine tri_v (opv_extract rfl rfl) rfl ?_
  refine tri_v (opv_extract rfl rfl) rfl ?_
  refine tri_g (opg_store rfl rfl rfl rfl rfl rfl) rfl ?_
  rintro _ _ _ ⟨rfl, rfl⟩
  refine tri_v (opv_assign rfl) rfl ?_
  refine tri_v (opv_assign rfl) rfl ?_
  refine tri_nil ?_
  refine tri_then ?_
  refine tri_ret ?_
  refine tri_end A Suf.h rfl (.cons (rv_cellA rfl rfl rfl) (.cons (rv_tmp rfl) (.cons (rv_tmp rfl) .nil))) ?_
  exact ⟨a2, c2, rfl, hq2, rfl, hJ⟩
theorem R8.all_eq {ns : List Node} {room n : Int} {p0 p1 p2 p3 p4 p5 p6 p7 p8 : List Node × Int × Int} (e0 : R8.putSq ns room (R8.s16 ns n) 0 0 = p0) (e1 : R8.putSq p0.1 room (R8.s16 ns n) 0 1 = p1) (e2 : R8.putSq p1.1 room (R8.s16 ns n) 0 2 = p2) (e3 : R8.putSq p2.1 room (R8.s16 ns n) 1 0 = p3) (e4 : R8.putSq p3.1 room (R8.s16 ns n) 1 1 = p4) (e5 : R8.putSq p4.1 room (R8.s16 ns n) 1 2 = p5) (e6 : R8.putSq p5.1 room (R8.s16 ns n) 2 0 = p6) (e7 : R8.putSq p6.1 room (R8.s16 ns n) 2 1 = p7) (e8 : R8.putSq p7.1 room (R8.s16 ns n) 2 2 = p8) :
    R8.all ns room n = if p0.2.2 ≠ 0 then (ns, R8.z9, p0.2.2) else if p1.2.2 ≠ 0 then (ns, R8.z9, p1.2.2) else if p2.2.2 ≠ 0 then (ns, R8.z9, p2.2.2) else if p3.2.2 ≠ 0 then (ns, R8.z9, p3.2.2) else if p4.2.2 ≠ 0 then (ns, R8.z9, p4.2.2) else if p5.2.2 ≠ 0 then (ns, R8.z9, p5.2.2) else if p6.2.2 ≠ 0 then (ns, R8.z9, p6.2.2) else if p7.2.2 ≠ 0 then (ns, R8.z9, p7.2.2) else if p8.2.2 ≠ 0 then (ns, R8.z9, p8.2.2) else (p8.1, [p0.2.1, p1.2.1, p2.2.1, p3.2.1, p4.2.1, p5.2.1, p6.2.1, p7.2.1, p8.2.1], 0) := by
  subst e8; subst e7; subst e6; subst e5; subst e4; subst e3; subst e2; subst e1; subst e0
  rfl
set_option maxHeartbeats 2000000 in
set_option maxRecDepth 100000 in
theorem ref08_all {ns : List Node} {a : Option Addr} {cap : Nat} {room n : Int} (hs : StA I a cap ns) (hg : R6.Good ns room) (hk : R8.Kid ns n) :
    FnC Try.prog 42 [storeV a ns.length cap room, .int .i64 n].toArray A I (Nine (R8.all ns room n) room A I) := by
  obtain ⟨p0, e0⟩ : ∃ p, R8.putSq ns room (R8.s16 ns n) 0 0 = p := ⟨_, rfl⟩
  obtain ⟨p1, e1⟩ : ∃ p, R8.putSq p0.1 room (R8.s16 ns n) 0 1 = p := ⟨_, rfl⟩
  obtain ⟨p2, e2⟩ : ∃ p, R8.putSq p1.1 room (R8.s16 ns n) 0 2 = p := ⟨_, rfl⟩
  obtain ⟨p3, e3⟩ : ∃ p, R8.putSq p2.1 room (R8.s16 ns n) 1 0 = p := ⟨_, rfl⟩
  obtain ⟨p4, e4⟩ : ∃ p, R8.putSq p3.1 room (R8.s16 ns n) 1 1 = p := ⟨_, rfl⟩
  obtain ⟨p5, e5⟩ : ∃ p, R8.putSq p4.1 room (R8.s16 ns n) 1 2 = p := ⟨_, rfl⟩
  obtain ⟨p6, e6⟩ : ∃ p, R8.putSq p5.1 room (R8.s16 ns n) 2 0 = p := ⟨_, rfl⟩
  obtain ⟨p7, e7⟩ : ∃ p, R8.putSq p6.1 room (R8.s16 ns n) 2 1 = p := ⟨_, rfl⟩
  obtain ⟨p8, e8⟩ : ∃ p, R8.putSq p7.1 room (R8.s16 ns n) 2 2 = p := ⟨_, rfl⟩
  rw [R8.all_eq e0 e1 e2 e3 e4 e5 e6 e7 e8]
  have g0 : R6.Good p0.1 room := e0 ▸ hg.put ..
  have g1 : R6.Good p1.1 room := e1 ▸ g0.put ..
  have g2 : R6.Good p2.1 room := e2 ▸ g1.put ..
  have g3 : R6.Good p3.1 room := e3 ▸ g2.put ..
  have g4 : R6.Good p4.1 room := e4 ▸ g3.put ..
  have g5 : R6.Good p5.1 room := e5 ▸ g4.put ..
  have g6 : R6.Good p6.1 room := e6 ▸ g5.put ..
  have g7 : R6.Good p7.1 room := e7 ▸ g6.put ..
  have g8 : R6.Good p8.1 room := e8 ▸ g7.put ..
  skip
  refine fn_enter2 Try.func42 rfl Try.ntmps42 rfl fun w0 => ?_
  refine tri_seq ?_
  refine tri_region ?_
  refine tri_g (opg_box_agg rfl) rfl ?_
  rintro _ _ _ ⟨b2, rfl, rfl, rfl⟩
  refine tri_g opg_alloc rfl ?_
  rintro _ _ _ ⟨b4, rfl, rfl, rfl⟩
  refine tri_g opg_alloc rfl ?_
  rintro _ _ _ ⟨b5, rfl, rfl, rfl⟩
  refine tri_v (opv_assign rfl) rfl ?_
  refine tri_nil ?_
  refine tri_then ?_
  refine tri_seq ?_
  refine tri_region ?_
  refine tri_v (opv_loadA rfl rfl rfl) rfl ?_
  refine tri_v (opv_move rfl) rfl ?_
  refine tri_g (opg_call (xs := [_, _]) rfl (ref08_sixteen hs.sl hk)) rfl ?_
  rintro _ _ J0 ⟨a1, c1, rfl, hq1, rfl, hJ0⟩
  refine tri_v (opv_assign rfl) rfl ?_
  refine tri_nil ?_
  refine tri_then ?_
  refine tri_seq ?_
  refine tri_region ?_
  refine tri_g opg_alloc rfl ?_
  rintro _ _ _ ⟨b8, rfl, rfl, rfl⟩
  refine tri_nil ?_
  refine tri_then ?_
  refine tri_seq ?_
  refine tri_region ?_
  refine tri_v (opv_loadA rfl rfl rfl) rfl ?_
  refine tri_g opg_alloc rfl ?_
  rintro _ _ _ ⟨b9, rfl, rfl, rfl⟩
  refine tri_g (opg_store rfl rfl rfl rfl rfl rfl) rfl ?_
  rintro _ _ _ ⟨rfl, rfl⟩
  refine tri_nil ?_
  refine tri_then ?_
  refine tri_seq ?_
  refine tri_seq ?_
  refine tri_region ?_
  refine tri_v (opv_assign rfl) rfl ?_
  refine tri_nil ?_
  refine tri_then ?_
  refine tri_block ?_
  refine tri_rounds 10 ?_
  refine tri_round ?_
  refine tri_seq ?_
  refine tri_seq ?_
  refine tri_region ?_
  refine tri_v (opv_move rfl) rfl ?_
  refine tri_v (opv_lss rfl rfl) rfl ?_
  refine tri_nil ?_
  refine tri_then ?_
  refine tri_cond_is rfl (by decide) ?_
  refine tri_skip ?_
  refine tri_then ?_
  refine tri_seq ?_
  refine tri_block ?_
  refine tri_seq ?_
  refine tri_cut (fun F' A' J => ∃ b11 d f, F' = [(1, .int .i64 n), (2, pt b2 0), (4, pt b4 0), (5, pt b5 0), (7, .slice a1 (R8.s16 ns n).length c1), (8, pt b8 0), (9, pt b9 0), (10, .int .i64 0), (11, pt b11 0), (12, .int .i64 p0.2.1), (13, .int .i64 p0.2.2)] ∧ A' = Box b11 [.slice d p0.1.length f, .int .i64 room] 26 :: Box b9 [.slice a ns.length cap, .int .i64 room] 26 :: Box b8 [.int .i64 0, .int .i64 0, .int .i64 0, .int .i64 0, .int .i64 0, .int .i64 0, .int .i64 0, .int .i64 0, .int .i64 0] 37 :: Box b5 [.int .i64 0, .int .i64 0, .int .i64 0, .int .i64 0, .int .i64 0, .int .i64 0, .int .i64 0, .int .i64 0, .int .i64 0] 37 :: Box b4 [.slice none 0 0, .int .i64 0] 26 :: Box b2 [.slice a ns.length cap, .int .i64 room] 26 :: A ∧ StA J d f p0.1 ∧ J0 ⊆ J) ?_ ?_
  · refine tri_draw [0, 1, 2, 3, 4, 5, 6, 7, 8, 9, 10, 11, 12, 13, 14, 15] rfl [] rfl mixed ?_
    refine th_take rfl rfl (by kernel_rfl)  (opv_loadA rfl rfl rfl) ?_
    refine th_take rfl rfl (by kernel_rfl)  (opv_move rfl) ?_
    refine th_take rfl rfl (by kernel_rfl)  (opv_move rfl) ?_
    refine th_take rfl rfl (by kernel_rfl)  (opv_quoE rfl rfl (by omega) (by omega) (by omega)) ?_
    refine th_take rfl rfl (by kernel_rfl)  (opv_move rfl) ?_
    refine th_take rfl rfl (by kernel_rfl)  (opv_remE rfl rfl (by omega) (by omega)) ?_
    refine th_two (j := 12) [6, 7, 8, 9, 10, 11, 13, 14, 15] (by kernel_rfl) rfl ?_ ?_
    · refine (step_m rfl rfl (opg_call (xs := [_, _, _]) rfl (ref08_square hq1 rfl (by omega) (by omega) (by omega) (by omega))) ?_)
      rintro _ _ _ ⟨rfl, rfl, rfl⟩
      refine ⟨Suf.h, (fun _ h => h), ?_⟩
      skip
      refine th_two (j := 12) [7, 8, 9, 10, 11, 13, 14, 15] (by kernel_rfl) rfl ?_ ?_
      · refine (step_m rfl rfl (opg_call (xs := [_, _]) rfl (ref06_putSq (hs.mono hJ0) hg e0)) ?_)
        rintro _ _ J1 ⟨d0, f0, rfl, hd0, rfl, hJ1⟩
        refine ⟨Suf.h, hJ1, ?_⟩
        refine th_take rfl rfl (by kernel_rfl)  (opv_move rfl) ?_
        refine th_take rfl rfl (by kernel_rfl)  (opv_extract rfl rfl) ?_
        refine th_take rfl rfl (by kernel_rfl)  (opv_extract rfl rfl) ?_
        refine th_take rfl rfl (by kernel_rfl)  (opv_extract rfl rfl) ?_
        refine th_one (by kernel_rfl) (step_m rfl rfl opg_alloc ?_)
        rintro _ _ _ ⟨b11, rfl, rfl, rfl⟩
        refine ⟨Suf.h, (by assumption), ?_⟩
        refine th_one (by kernel_rfl) (step_m rfl rfl (opg_store rfl rfl rfl rfl rfl rfl) ?_)
        rintro _ _ _ ⟨rfl, rfl⟩
        refine ⟨Suf.h, (by assumption), ?_⟩
        refine th_take rfl rfl (by kernel_rfl)  (opv_assign rfl) ?_
        refine th_take rfl rfl (by kernel_rfl)  (opv_assign rfl) ?_
        refine th_done (by kernel_rfl) ?_
        exact tri_cutEnd _ ⟨b11, d0, f0, rfl, rfl, hd0, hJ1⟩ ⟨rfl, rfl, rfl, rfl, rfl, rfl, rfl, rfl, rfl, rfl, rfl, trivial⟩
      · refine (step_m rfl rfl opg_alloc ?_)
        rintro _ _ _ ⟨b11, rfl, rfl, rfl⟩
        refine ⟨Suf.h, (fun _ h => h), ?_⟩
        refine th_one (by kernel_rfl) (step_m rfl rfl (opg_call (xs := [_, _]) rfl (ref06_putSq (hs.mono hJ0) hg e0)) ?_)
        rintro _ _ J1 ⟨d0, f0, rfl, hd0, rfl, hJ1⟩
        refine ⟨Suf.h, hJ1, ?_⟩
        refine th_take rfl rfl (by kernel_rfl)  (opv_move rfl) ?_
        refine th_take rfl rfl (by kernel_rfl)  (opv_extract rfl rfl) ?_
        refine th_take rfl rfl (by kernel_rfl)  (opv_extract rfl rfl) ?_
        refine th_take rfl rfl (by kernel_rfl)  (opv_extract rfl rfl) ?_
        refine th_one (by kernel_rfl) (step_m rfl rfl (opg_store rfl rfl rfl rfl rfl rfl) ?_)
        rintro _ _ _ ⟨rfl, rfl⟩
        refine ⟨Suf.h, (by assumption), ?_⟩
        refine th_take rfl rfl (by kernel_rfl)  (opv_assign rfl) ?_
        refine th_take rfl rfl (by kernel_rfl)  (opv_assign rfl) ?_
        refine th_done (by kernel_rfl) ?_
        exact tri_cutEnd _ ⟨b11, d0, f0, rfl, rfl, hd0, hJ1⟩ ⟨rfl, rfl, rfl, rfl, rfl, rfl, rfl, rfl, rfl, rfl, rfl, trivial⟩
    · refine (step_m rfl rfl opg_alloc ?_)
      rintro _ _ _ ⟨b11, rfl, rfl, rfl⟩
      refine ⟨Suf.h, (fun _ h => h), ?_⟩
      refine th_one (by kernel_rfl) (step_m rfl rfl (opg_call (xs := [_, _, _]) rfl (ref08_square hq1 rfl (by omega) (by omega) (by omega) (by omega))) ?_)
      rintro _ _ _ ⟨rfl, rfl, rfl⟩
      refine ⟨Suf.h, (fun _ h => h), ?_⟩
      skip
      refine th_one (by kernel_rfl) (step_m rfl rfl (opg_call (xs := [_, _]) rfl (ref06_putSq (hs.mono hJ0) hg e0)) ?_)
      rintro _ _ J1 ⟨d0, f0, rfl, hd0, rfl, hJ1⟩
      refine ⟨Suf.h, hJ1, ?_⟩
      refine th_take rfl rfl (by kernel_rfl)  (opv_move rfl) ?_
      refine th_take rfl rfl (by kernel_rfl)  (opv_extract rfl rfl) ?_
      refine th_take rfl rfl (by kernel_rfl)  (opv_extract rfl rfl) ?_
      refine th_take rfl rfl (by kernel_rfl)  (opv_extract rfl rfl) ?_
      refine th_one (by kernel_rfl) (step_m rfl rfl (opg_store rfl rfl rfl rfl rfl rfl) ?_)
      rintro _ _ _ ⟨rfl, rfl⟩
      refine ⟨Suf.h, (by assumption), ?_⟩
      refine th_take rfl rfl (by kernel_rfl)  (opv_assign rfl) ?_
      refine th_take rfl rfl (by kernel_rfl)  (opv_assign rfl) ?_
      refine th_done (by kernel_rfl) ?_
      exact tri_cutEnd _ ⟨b11, d0, f0, rfl, rfl, hd0, hJ1⟩ ⟨rfl, rfl, rfl, rfl, rfl, rfl, rfl, rfl, rfl, rfl, rfl, trivial⟩
  rintro _ _ J1 ⟨b11, d0, f0, rfl, rfl, hd0, hJ1⟩
  skip
  refine tri_then ?_
  refine tri_seq ?_
  refine tri_seq ?_
  refine tri_region ?_
  refine tri_v (opv_move rfl) rfl ?_
  refine tri_v (opv_neq rfl rfl) rfl ?_
  refine tri_nil ?_
  refine tri_then ?_
  refine tri_cond_dec rfl (fun x0 => ?_) (fun x0 => ?_)
  · rw [if_pos x0]
    refine tri_seq ?_
    refine tri_region ?_
    refine tri_v (opv_loadA rfl rfl rfl) rfl ?_
    refine tri_v (opv_buildA rfl rfl) rfl ?_
    refine tri_v (opv_move rfl) rfl ?_
    refine tri_g (opg_store rfl rfl rfl rfl rfl rfl) rfl ?_
    rintro _ _ _ ⟨rfl, rfl⟩
    refine tri_g (opg_store rfl rfl rfl rfl rfl rfl) rfl ?_
    rintro _ _ _ ⟨rfl, rfl⟩
    refine tri_v (opv_assign rfl) rfl ?_
    refine tri_nil ?_
    refine tri_then ?_
    refine tri_ret ?_
    refine tri_then_ret ?_
    refine tri_inBlock_ret ?_
    refine tri_then_ret ?_
    refine tri_then_ret ?_
    refine tri_inBlock_ret ?_
    refine tri_then_ret ?_
    refine tri_end A Suf.h rfl (.cons (rv_cellA rfl rfl rfl) (.cons (rv_cellA rfl rfl rfl) (.cons (rv_tmp rfl) .nil))) ?_
    exact ⟨a, cap, _, _, _, _, _, _, _, _, _, rfl, rfl, hs.mono (fun _ h => hJ1 (hJ0 (h))), rfl, (fun _ h => hJ1 (hJ0 (h)))⟩
  skip
  refine tri_skip ?_
  refine tri_then ?_
  refine tri_seq ?_
  refine tri_region ?_
  refine tri_v (opv_loadA rfl rfl rfl) rfl ?_
  refine tri_g (opg_store rfl rfl rfl rfl rfl rfl) rfl ?_
  rintro _ _ _ ⟨rfl, rfl⟩
  refine tri_nil ?_
  refine tri_then ?_
  refine tri_region ?_
  refine tri_v (opv_move rfl) rfl ?_
  refine tri_v (opv_move rfl) rfl ?_
  refine tri_v (opv_indexAddrA rfl rfl (by decide) (by decide)) rfl ?_
  refine tri_g (opg_store rfl rfl rfl rfl rfl rfl) rfl ?_
  rintro _ _ _ ⟨rfl, rfl⟩
  refine tri_nil ?_
  refine tri_inBlock ?_
  refine tri_then ?_
  refine tri_drop ?_
  refine tri_region ?_
  refine tri_v (opv_move rfl) rfl ?_
  refine tri_v (opv_add rfl rfl (w64 (by omega) (by omega))) rfl ?_
  refine tri_v (opv_assign rfl) rfl ?_
  refine tri_nil ?_
  refine tri_then ?_
  refine tri_round ?_
  refine tri_seq ?_
  refine tri_seq ?_
  refine tri_region ?_
  refine tri_v (opv_move rfl) rfl ?_
  refine tri_v (opv_lss rfl rfl) rfl ?_
  refine tri_nil ?_
  refine tri_then ?_
  refine tri_cond_is rfl (by decide) ?_
  refine tri_skip ?_
  refine tri_then ?_
  refine tri_seq ?_
  refine tri_block ?_
  refine tri_seq ?_
  refine tri_cut (fun F' A' J => ∃ b11 d f, F' = [(1, .int .i64 n), (2, pt b2 0), (4, pt b4 0), (5, pt b5 0), (7, .slice a1 (R8.s16 ns n).length c1), (8, pt b8 0), (9, pt b9 0), (10, .int .i64 1), (11, pt b11 0), (12, .int .i64 p1.2.1), (13, .int .i64 p1.2.2)] ∧ A' = Box b11 [.slice d p1.1.length f, .int .i64 room] 26 :: Box b9 [.slice d0 p0.1.length f0, .int .i64 room] 26 :: Box b8 [.int .i64 p0.2.1, .int .i64 0, .int .i64 0, .int .i64 0, .int .i64 0, .int .i64 0, .int .i64 0, .int .i64 0, .int .i64 0] 37 :: Box b5 [.int .i64 0, .int .i64 0, .int .i64 0, .int .i64 0, .int .i64 0, .int .i64 0, .int .i64 0, .int .i64 0, .int .i64 0] 37 :: Box b4 [.slice none 0 0, .int .i64 0] 26 :: Box b2 [.slice a ns.length cap, .int .i64 room] 26 :: A ∧ StA J d f p1.1 ∧ J1 ⊆ J) ?_ ?_
  · refine tri_draw [0, 1, 2, 3, 4, 5, 6, 7, 8, 9, 10, 11, 12, 13, 14, 15] rfl [] rfl mixed ?_
    refine th_take rfl rfl (by kernel_rfl)  (opv_loadA rfl rfl rfl) ?_
    refine th_take rfl rfl (by kernel_rfl)  (opv_move rfl) ?_
    refine th_take rfl rfl (by kernel_rfl)  (opv_move rfl) ?_
    refine th_take rfl rfl (by kernel_rfl)  (opv_quoE rfl rfl (by omega) (by omega) (by omega)) ?_
    refine th_take rfl rfl (by kernel_rfl)  (opv_move rfl) ?_
    refine th_take rfl rfl (by kernel_rfl)  (opv_remE rfl rfl (by omega) (by omega)) ?_
    refine th_two (j := 12) [6, 7, 8, 9, 10, 11, 13, 14, 15] (by kernel_rfl) rfl ?_ ?_
    · refine (step_m rfl rfl (opg_call (xs := [_, _, _]) rfl (ref08_square (hq1.mono (fun _ h => hJ1 (h))) rfl (by omega) (by omega) (by omega) (by omega))) ?_)
      rintro _ _ _ ⟨rfl, rfl, rfl⟩
      refine ⟨Suf.h, (fun _ h => h), ?_⟩
      skip
      refine th_two (j := 12) [7, 8, 9, 10, 11, 13, 14, 15] (by kernel_rfl) rfl ?_ ?_
      · refine (step_m rfl rfl (opg_call (xs := [_, _]) rfl (ref06_putSq hd0 g0 e1)) ?_)
        rintro _ _ J2 ⟨d1, f1, rfl, hd1, rfl, hJ2⟩
        refine ⟨Suf.h, hJ2, ?_⟩
        refine th_take rfl rfl (by kernel_rfl)  (opv_move rfl) ?_
        refine th_take rfl rfl (by kernel_rfl)  (opv_extract rfl rfl) ?_
        refine th_take rfl rfl (by kernel_rfl)  (opv_extract rfl rfl) ?_
        refine th_take rfl rfl (by kernel_rfl)  (opv_extract rfl rfl) ?_
        refine th_one (by kernel_rfl) (step_m rfl rfl opg_alloc ?_)
        rintro _ _ _ ⟨b11, rfl, rfl, rfl⟩
        refine ⟨Suf.h, (by assumption), ?_⟩
        refine th_one (by kernel_rfl) (step_m rfl rfl (opg_store rfl rfl rfl rfl rfl rfl) ?_)
        rintro _ _ _ ⟨rfl, rfl⟩
        refine ⟨Suf.h, (by assumption), ?_⟩
        refine th_take rfl rfl (by kernel_rfl)  (opv_assign rfl) ?_
        refine th_take rfl rfl (by kernel_rfl)  (opv_assign rfl) ?_
        refine th_done (by kernel_rfl) ?_
        exact tri_cutEnd _ ⟨b11, d1, f1, rfl, rfl, hd1, hJ2⟩ ⟨rfl, rfl, rfl, rfl, rfl, rfl, rfl, rfl, rfl, rfl, rfl, trivial⟩
      · refine (step_m rfl rfl opg_alloc ?_)
        rintro _ _ _ ⟨b11, rfl, rfl, rfl⟩
        refine ⟨Suf.h, (fun _ h => h), ?_⟩
        refine th_one (by kernel_rfl) (step_m rfl rfl (opg_call (xs := [_, _]) rfl (ref06_putSq hd0 g0 e1)) ?_)
        rintro _ _ J2 ⟨d1, f1, rfl, hd1, rfl, hJ2⟩
        refine ⟨Suf.h, hJ2, ?_⟩
        refine th_take rfl rfl (by kernel_rfl)  (opv_move rfl) ?_
        refine th_take rfl rfl (by kernel_rfl)  (opv_extract rfl rfl) ?_
        refine th_take rfl rfl (by kernel_rfl)  (opv_extract rfl rfl) ?_
        refine th_take rfl rfl (by kernel_rfl)  (opv_extract rfl rfl) ?_
        refine th_one (by kernel_rfl) (step_m rfl rfl (opg_store rfl rfl rfl rfl rfl rfl) ?_)
        rintro _ _ _ ⟨rfl, rfl⟩
        refine ⟨Suf.h, (by assumption), ?_⟩
        refine th_take rfl rfl (by kernel_rfl)  (opv_assign rfl) ?_
        refine th_take rfl rfl (by kernel_rfl)  (opv_assign rfl) ?_
        refine th_done (by kernel_rfl) ?_
        exact tri_cutEnd _ ⟨b11, d1, f1, rfl, rfl, hd1, hJ2⟩ ⟨rfl, rfl, rfl, rfl, rfl, rfl, rfl, rfl, rfl, rfl, rfl, trivial⟩
    · refine (step_m rfl rfl opg_alloc ?_)
      rintro _ _ _ ⟨b11, rfl, rfl, rfl⟩
      refine ⟨Suf.h, (fun _ h => h), ?_⟩
      refine th_one (by kernel_rfl) (step_m rfl rfl (opg_call (xs := [_, _, _]) rfl (ref08_square (hq1.mono (fun _ h => hJ1 (h))) rfl (by omega) (by omega) (by omega) (by omega))) ?_)
      rintro _ _ _ ⟨rfl, rfl, rfl⟩
      refine ⟨Suf.h, (fun _ h => h), ?_⟩
      skip
      refine th_one (by kernel_rfl) (step_m rfl rfl (opg_call (xs := [_, _]) rfl (ref06_putSq hd0 g0 e1)) ?_)
      rintro _ _ J2 ⟨d1, f1, rfl, hd1, rfl, hJ2⟩
      refine ⟨Suf.h, hJ2, ?_⟩
      refine th_take rfl rfl (by kernel_rfl)  (opv_move rfl) ?_
      refine th_take rfl rfl (by kernel_rfl)  (opv_extract rfl rfl) ?_
      refine th_take rfl rfl (by kernel_rfl)  (opv_extract rfl rfl) ?_
      refine th_take rfl rfl (by kernel_rfl)  (opv_extract rfl rfl) ?_
      refine th_one (by kernel_rfl) (step_m rfl rfl (opg_store rfl rfl rfl rfl rfl rfl) ?_)
      rintro _ _ _ ⟨rfl, rfl⟩
      refine ⟨Suf.h, (by assumption), ?_⟩
      refine th_take rfl rfl (by kernel_rfl)  (opv_assign rfl) ?_
      refine th_take rfl rfl (by kernel_rfl)  (opv_assign rfl) ?_
      refine th_done (by kernel_rfl) ?_
      exact tri_cutEnd _ ⟨b11, d1, f1, rfl, rfl, hd1, hJ2⟩ ⟨rfl, rfl, rfl, rfl, rfl, rfl, rfl, rfl, rfl, rfl, rfl, trivial⟩
  rintro _ _ J2 ⟨b11, d1, f1, rfl, rfl, hd1, hJ2⟩
  skip
  refine tri_then ?_
  refine tri_seq ?_
  refine tri_seq ?_
  refine tri_region ?_
  refine tri_v (opv_move rfl) rfl ?_
  refine tri_v (opv_neq rfl rfl) rfl ?_
  refine tri_nil ?_
  refine tri_then ?_
  refine tri_cond_dec rfl (fun x1 => ?_) (fun x1 => ?_)
  · rw [if_neg x0, if_pos x1]
    refine tri_seq ?_
    refine tri_region ?_
    refine tri_v (opv_loadA rfl rfl rfl) rfl ?_
    refine tri_v (opv_buildA rfl rfl) rfl ?_
    refine tri_v (opv_move rfl) rfl ?_
    refine tri_g (opg_store rfl rfl rfl rfl rfl rfl) rfl ?_
    rintro _ _ _ ⟨rfl, rfl⟩
    refine tri_g (opg_store rfl rfl rfl rfl rfl rfl) rfl ?_
    rintro _ _ _ ⟨rfl, rfl⟩
    refine tri_v (opv_assign rfl) rfl ?_
    refine tri_nil ?_
    refine tri_then ?_
    refine tri_ret ?_
    refine tri_then_ret ?_
    refine tri_inBlock_ret ?_
    refine tri_then_ret ?_
    refine tri_then_ret ?_
    refine tri_inBlock_ret ?_
    refine tri_then_ret ?_
    refine tri_end A Suf.h rfl (.cons (rv_cellA rfl rfl rfl) (.cons (rv_cellA rfl rfl rfl) (.cons (rv_tmp rfl) .nil))) ?_
    exact ⟨a, cap, _, _, _, _, _, _, _, _, _, rfl, rfl, hs.mono (fun _ h => hJ2 (hJ1 (hJ0 (h)))), rfl, (fun _ h => hJ2 (hJ1 (hJ0 (h))))⟩
  skip
  refine tri_skip ?_
  refine tri_then ?_
  refine tri_seq ?_
  refine tri_region ?_
  refine tri_v (opv_loadA rfl rfl rfl) rfl ?_
  refine tri_g (opg_store rfl rfl rfl rfl rfl rfl) rfl ?_
  rintro _ _ _ ⟨rfl, rfl⟩
  refine tri_nil ?_
  refine tri_then ?_
  refine tri_region ?_
  refine tri_v (opv_move rfl) rfl ?_
  refine tri_v (opv_move rfl) rfl ?_
  refine tri_v (opv_indexAddrA rfl rfl (by decide) (by decide)) rfl ?_
  refine tri_g (opg_store rfl rfl rfl rfl rfl rfl) rfl ?_
  rintro _ _ _ ⟨rfl, rfl⟩
  refine tri_nil ?_
  refine tri_inBlock ?_
  refine tri_then ?_
  refine tri_drop ?_
  refine tri_region ?_
  refine tri_v (opv_move rfl) rfl ?_
  refine tri_v (opv_add rfl rfl (w64 (by omega) (by omega))) rfl ?_
  refine tri_v (opv_assign rfl) rfl ?_
  refine tri_nil ?_
  refine tri_then ?_
  refine tri_round ?_
  refine tri_seq ?_
  refine tri_seq ?_
  refine tri_region ?_
  refine tri_v (opv_move rfl) rfl ?_
  refine tri_v (opv_lss rfl rfl) rfl ?_
  refine tri_nil ?_
  refine tri_then ?_
  refine tri_cond_is rfl (by decide) ?_
  refine tri_skip ?_
  refine tri_then ?_
  refine tri_seq ?_
  refine tri_block ?_
  refine tri_seq ?_
  refine tri_cut (fun F' A' J => ∃ b11 d f, F' = [(1, .int .i64 n), (2, pt b2 0), (4, pt b4 0), (5, pt b5 0), (7, .slice a1 (R8.s16 ns n).length c1), (8, pt b8 0), (9, pt b9 0), (10, .int .i64 2), (11, pt b11 0), (12, .int .i64 p2.2.1), (13, .int .i64 p2.2.2)] ∧ A' = Box b11 [.slice d p2.1.length f, .int .i64 room] 26 :: Box b9 [.slice d1 p1.1.length f1, .int .i64 room] 26 :: Box b8 [.int .i64 p0.2.1, .int .i64 p1.2.1, .int .i64 0, .int .i64 0, .int .i64 0, .int .i64 0, .int .i64 0, .int .i64 0, .int .i64 0] 37 :: Box b5 [.int .i64 0, .int .i64 0, .int .i64 0, .int .i64 0, .int .i64 0, .int .i64 0, .int .i64 0, .int .i64 0, .int .i64 0] 37 :: Box b4 [.slice none 0 0, .int .i64 0] 26 :: Box b2 [.slice a ns.length cap, .int .i64 room] 26 :: A ∧ StA J d f p2.1 ∧ J2 ⊆ J) ?_ ?_
  · refine tri_draw [0, 1, 2, 3, 4, 5, 6, 7, 8, 9, 10, 11, 12, 13, 14, 15] rfl [] rfl mixed ?_
    refine th_take rfl rfl (by kernel_rfl)  (opv_loadA rfl rfl rfl) ?_
    refine th_take rfl rfl (by kernel_rfl)  (opv_move rfl) ?_
    refine th_take rfl rfl (by kernel_rfl)  (opv_move rfl) ?_
    refine th_take rfl rfl (by kernel_rfl)  (opv_quoE rfl rfl (by omega) (by omega) (by omega)) ?_
    refine th_take rfl rfl (by kernel_rfl)  (opv_move rfl) ?_
    refine th_take rfl rfl (by kernel_rfl)  (opv_remE rfl rfl (by omega) (by omega)) ?_
    refine th_two (j := 12) [6, 7, 8, 9, 10, 11, 13, 14, 15] (by kernel_rfl) rfl ?_ ?_
    · refine (step_m rfl rfl (opg_call (xs := [_, _, _]) rfl (ref08_square (hq1.mono (fun _ h => hJ2 (hJ1 (h)))) rfl (by omega) (by omega) (by omega) (by omega))) ?_)
      rintro _ _ _ ⟨rfl, rfl, rfl⟩
      refine ⟨Suf.h, (fun _ h => h), ?_⟩
      skip
      refine th_two (j := 12) [7, 8, 9, 10, 11, 13, 14, 15] (by kernel_rfl) rfl ?_ ?_
      · refine (step_m rfl rfl (opg_call (xs := [_, _]) rfl (ref06_putSq hd1 g1 e2)) ?_)
        rintro _ _ J3 ⟨d2, f2, rfl, hd2, rfl, hJ3⟩
        refine ⟨Suf.h, hJ3, ?_⟩
        refine th_take rfl rfl (by kernel_rfl)  (opv_move rfl) ?_
        refine th_take rfl rfl (by kernel_rfl)  (opv_extract rfl rfl) ?_
        refine th_take rfl rfl (by kernel_rfl)  (opv_extract rfl rfl) ?_
        refine th_take rfl rfl (by kernel_rfl)  (opv_extract rfl rfl) ?_
        refine th_one (by kernel_rfl) (step_m rfl rfl opg_alloc ?_)
        rintro _ _ _ ⟨b11, rfl, rfl, rfl⟩
        refine ⟨Suf.h, (by assumption), ?_⟩
        refine th_one (by kernel_rfl) (step_m rfl rfl (opg_store rfl rfl rfl rfl rfl rfl) ?_)
        rintro _ _ _ ⟨rfl, rfl⟩
        refine ⟨Suf.h, (by assumption), ?_⟩
        refine th_take rfl rfl (by kernel_rfl)  (opv_assign rfl) ?_
        refine th_take rfl rfl (by kernel_rfl)  (opv_assign rfl) ?_
        refine th_done (by kernel_rfl) ?_
        exact tri_cutEnd _ ⟨b11, d2, f2, rfl, rfl, hd2, hJ3⟩ ⟨rfl, rfl, rfl, rfl, rfl, rfl, rfl, rfl, rfl, rfl, rfl, trivial⟩
      · refine (step_m rfl rfl opg_alloc ?_)
        rintro _ _ _ ⟨b11, rfl, rfl, rfl⟩
        refine ⟨Suf.h, (fun _ h => h), ?_⟩
        refine th_one (by kernel_rfl) (step_m rfl rfl (opg_call (xs := [_, _]) rfl (ref06_putSq hd1 g1 e2)) ?_)
        rintro _ _ J3 ⟨d2, f2, rfl, hd2, rfl, hJ3⟩
        refine ⟨Suf.h, hJ3, ?_⟩
        refine th_take rfl rfl (by kernel_rfl)  (opv_move rfl) ?_
        refine th_take rfl rfl (by kernel_rfl)  (opv_extract rfl rfl) ?_
        refine th_take rfl rfl (by kernel_rfl)  (opv_extract rfl rfl) ?_
        refine th_take rfl rfl (by kernel_rfl)  (opv_extract rfl rfl) ?_
        refine th_one (by kernel_rfl) (step_m rfl rfl (opg_store rfl rfl rfl rfl rfl rfl) ?_)
        rintro _ _ _ ⟨rfl, rfl⟩
        refine ⟨Suf.h, (by assumption), ?_⟩
        refine th_take rfl rfl (by kernel_rfl)  (opv_assign rfl) ?_
        refine th_take rfl rfl (by kernel_rfl)  (opv_assign rfl) ?_
        refine th_done (by kernel_rfl) ?_
        exact tri_cutEnd _ ⟨b11, d2, f2, rfl, rfl, hd2, hJ3⟩ ⟨rfl, rfl, rfl, rfl, rfl, rfl, rfl, rfl, rfl, rfl, rfl, trivial⟩
    · refine (step_m rfl rfl opg_alloc ?_)
      rintro _ _ _ ⟨b11, rfl, rfl, rfl⟩
      refine ⟨Suf.h, (fun _ h => h), ?_⟩
      refine th_one (by kernel_rfl) (step_m rfl rfl (opg_call (xs := [_, _, _]) rfl (ref08_square (hq1.mono (fun _ h => hJ2 (hJ1 (h)))) rfl (by omega) (by omega) (by omega) (by omega))) ?_)
      rintro _ _ _ ⟨rfl, rfl, rfl⟩
      refine ⟨Suf.h, (fun _ h => h), ?_⟩
      skip
      refine th_one (by kernel_rfl) (step_m rfl rfl (opg_call (xs := [_, _]) rfl (ref06_putSq hd1 g1 e2)) ?_)
      rintro _ _ J3 ⟨d2, f2, rfl, hd2, rfl, hJ3⟩
      refine ⟨Suf.h, hJ3, ?_⟩
      refine th_take rfl rfl (by kernel_rfl)  (opv_move rfl) ?_
      refine th_take rfl rfl (by kernel_rfl)  (opv_extract rfl rfl) ?_
      refine th_take rfl rfl (by kernel_rfl)  (opv_extract rfl rfl) ?_
      refine th_take rfl rfl (by kernel_rfl)  (opv_extract rfl rfl) ?_
      refine th_one (by kernel_rfl) (step_m rfl rfl (opg_store rfl rfl rfl rfl rfl rfl) ?_)
      rintro _ _ _ ⟨rfl, rfl⟩
      refine ⟨Suf.h, (by assumption), ?_⟩
      refine th_take rfl rfl (by kernel_rfl)  (opv_assign rfl) ?_
      refine th_take rfl rfl (by kernel_rfl)  (opv_assign rfl) ?_
      refine th_done (by kernel_rfl) ?_
      exact tri_cutEnd _ ⟨b11, d2, f2, rfl, rfl, hd2, hJ3⟩ ⟨rfl, rfl, rfl, rfl, rfl, rfl, rfl, rfl, rfl, rfl, rfl, trivial⟩
  rintro _ _ J3 ⟨b11, d2, f2, rfl, rfl, hd2, hJ3⟩
  skip
  refine tri_then ?_
  refine tri_seq ?_
  refine tri_seq ?_
  refine tri_region ?_
  refine tri_v (opv_move rfl) rfl ?_
  refine tri_v (opv_neq rfl rfl) rfl ?_
  refine tri_nil ?_
  refine tri_then ?_
  refine tri_cond_dec rfl (fun x2 => ?_) (fun x2 => ?_)
  · rw [if_neg x0, if_neg x1, if_pos x2]
    refine tri_seq ?_
    refine tri_region ?_
    refine tri_v (opv_loadA rfl rfl rfl) rfl ?_
    refine tri_v (opv_buildA rfl rfl) rfl ?_
    refine tri_v (opv_move rfl) rfl ?_
    refine tri_g (opg_store rfl rfl rfl rfl rfl rfl) rfl ?_
    rintro _ _ _ ⟨rfl, rfl⟩
    refine tri_g (opg_store rfl rfl rfl rfl rfl rfl) rfl ?_
    rintro _ _ _ ⟨rfl, rfl⟩
    refine tri_v (opv_assign rfl) rfl ?_
    refine tri_nil ?_
    refine tri_then ?_
    refine tri_ret ?_
    refine tri_then_ret ?_
    refine tri_inBlock_ret ?_
    refine tri_then_ret ?_
    refine tri_then_ret ?_
    refine tri_inBlock_ret ?_
    refine tri_then_ret ?_
    refine tri_end A Suf.h rfl (.cons (rv_cellA rfl rfl rfl) (.cons (rv_cellA rfl rfl rfl) (.cons (rv_tmp rfl) .nil))) ?_
    exact ⟨a, cap, _, _, _, _, _, _, _, _, _, rfl, rfl, hs.mono (fun _ h => hJ3 (hJ2 (hJ1 (hJ0 (h))))), rfl, (fun _ h => hJ3 (hJ2 (hJ1 (hJ0 (h)))))⟩
  skip
  refine tri_skip ?_
  refine tri_then ?_
  refine tri_seq ?_
  refine tri_region ?_
  refine tri_v (opv_loadA rfl rfl rfl) rfl ?_
  refine tri_g (opg_store rfl rfl rfl rfl rfl rfl) rfl ?_
  rintro _ _ _ ⟨rfl, rfl⟩
  refine tri_nil ?_
  refine tri_then ?_
  refine tri_region ?_
  refine tri_v (opv_move rfl) rfl ?_
  refine tri_v (opv_move rfl) rfl ?_
  refine tri_v (opv_indexAddrA rfl rfl (by decide) (by decide)) rfl ?_
  refine tri_g (opg_store rfl rfl rfl rfl rfl rfl) rfl ?_
  rintro _ _ _ ⟨rfl, rfl⟩
  refine tri_nil ?_
  refine tri_inBlock ?_
  refine tri_then ?_
  refine tri_drop ?_
  refine tri_region ?_
  refine tri_v (opv_move rfl) rfl ?_
  refine tri_v (opv_add rfl rfl (w64 (by omega) (by omega))) rfl ?_
  refine tri_v (opv_assign rfl) rfl ?_
  refine tri_nil ?_
  refine tri_then ?_
  refine tri_round ?_
  refine tri_seq ?_
  refine tri_seq ?_
  refine tri_region ?_
  refine tri_v (opv_move rfl) rfl ?_
  refine tri_v (opv_lss rfl rfl) rfl ?_
  refine tri_nil ?_
  refine tri_then ?_
  refine tri_cond_is rfl (by decide) ?_
  refine tri_skip ?_
  refine tri_then ?_
  refine tri_seq ?_
  refine tri_block ?_
  refine tri_seq ?_
  refine tri_cut (fun F' A' J => ∃ b11 d f, F' = [(1, .int .i64 n), (2, pt b2 0), (4, pt b4 0), (5, pt b5 0), (7, .slice a1 (R8.s16 ns n).length c1), (8, pt b8 0), (9, pt b9 0), (10, .int .i64 3), (11, pt b11 0), (12, .int .i64 p3.2.1), (13, .int .i64 p3.2.2)] ∧ A' = Box b11 [.slice d p3.1.length f, .int .i64 room] 26 :: Box b9 [.slice d2 p2.1.length f2, .int .i64 room] 26 :: Box b8 [.int .i64 p0.2.1, .int .i64 p1.2.1, .int .i64 p2.2.1, .int .i64 0, .int .i64 0, .int .i64 0, .int .i64 0, .int .i64 0, .int .i64 0] 37 :: Box b5 [.int .i64 0, .int .i64 0, .int .i64 0, .int .i64 0, .int .i64 0, .int .i64 0, .int .i64 0, .int .i64 0, .int .i64 0] 37 :: Box b4 [.slice none 0 0, .int .i64 0] 26 :: Box b2 [.slice a ns.length cap, .int .i64 room] 26 :: A ∧ StA J d f p3.1 ∧ J3 ⊆ J) ?_ ?_
  · refine tri_draw [0, 1, 2, 3, 4, 5, 6, 7, 8, 9, 10, 11, 12, 13, 14, 15] rfl [] rfl mixed ?_
    refine th_take rfl rfl (by kernel_rfl)  (opv_loadA rfl rfl rfl) ?_
    refine th_take rfl rfl (by kernel_rfl)  (opv_move rfl) ?_
    refine th_take rfl rfl (by kernel_rfl)  (opv_move rfl) ?_
    refine th_take rfl rfl (by kernel_rfl)  (opv_quoE rfl rfl (by omega) (by omega) (by omega)) ?_
    refine th_take rfl rfl (by kernel_rfl)  (opv_move rfl) ?_
    refine th_take rfl rfl (by kernel_rfl)  (opv_remE rfl rfl (by omega) (by omega)) ?_
    refine th_two (j := 12) [6, 7, 8, 9, 10, 11, 13, 14, 15] (by kernel_rfl) rfl ?_ ?_
    · refine (step_m rfl rfl (opg_call (xs := [_, _, _]) rfl (ref08_square (hq1.mono (fun _ h => hJ3 (hJ2 (hJ1 (h))))) rfl (by omega) (by omega) (by omega) (by omega))) ?_)
      rintro _ _ _ ⟨rfl, rfl, rfl⟩
      refine ⟨Suf.h, (fun _ h => h), ?_⟩
      skip
      refine th_two (j := 12) [7, 8, 9, 10, 11, 13, 14, 15] (by kernel_rfl) rfl ?_ ?_
      · refine (step_m rfl rfl (opg_call (xs := [_, _]) rfl (ref06_putSq hd2 g2 e3)) ?_)
        rintro _ _ J4 ⟨d3, f3, rfl, hd3, rfl, hJ4⟩
        refine ⟨Suf.h, hJ4, ?_⟩
        refine th_take rfl rfl (by kernel_rfl)  (opv_move rfl) ?_
        refine th_take rfl rfl (by kernel_rfl)  (opv_extract rfl rfl) ?_
        refine th_take rfl rfl (by kernel_rfl)  (opv_extract rfl rfl) ?_
        refine th_take rfl rfl (by kernel_rfl)  (opv_extract rfl rfl) ?_
        refine th_one (by kernel_rfl) (step_m rfl rfl opg_alloc ?_)
        rintro _ _ _ ⟨b11, rfl, rfl, rfl⟩
        refine ⟨Suf.h, (by assumption), ?_⟩
        refine th_one (by kernel_rfl) (step_m rfl rfl (opg_store rfl rfl rfl rfl rfl rfl) ?_)
        rintro _ _ _ ⟨rfl, rfl⟩
        refine ⟨Suf.h, (by assumption), ?_⟩
        refine th_take rfl rfl (by kernel_rfl)  (opv_assign rfl) ?_
        refine th_take rfl rfl (by kernel_rfl)  (opv_assign rfl) ?_
        refine th_done (by kernel_rfl) ?_
        exact tri_cutEnd _ ⟨b11, d3, f3, rfl, rfl, hd3, hJ4⟩ ⟨rfl, rfl, rfl, rfl, rfl, rfl, rfl, rfl, rfl, rfl, rfl, trivial⟩
      · refine (step_m rfl rfl opg_alloc ?_)
        rintro _ _ _ ⟨b11, rfl, rfl, rfl⟩
        refine ⟨Suf.h, (fun _ h => h), ?_⟩
        refine th_one (by kernel_rfl) (step_m rfl rfl (opg_call (xs := [_, _]) rfl (ref06_putSq hd2 g2 e3)) ?_)
        rintro _ _ J4 ⟨d3, f3, rfl, hd3, rfl, hJ4⟩
        refine ⟨Suf.h, hJ4, ?_⟩
        refine th_take rfl rfl (by kernel_rfl)  (opv_move rfl) ?_
        refine th_take rfl rfl (by kernel_rfl)  (opv_extract rfl rfl) ?_
        refine th_take rfl rfl (by kernel_rfl)  (opv_extract rfl rfl) ?_
        refine th_take rfl rfl (by kernel_rfl)  (opv_extract rfl rfl) ?_
        refine th_one (by kernel_rfl) (step_m rfl rfl (opg_store rfl rfl rfl rfl rfl rfl) ?_)
        rintro _ _ _ ⟨rfl, rfl⟩
        refine ⟨Suf.h, (by assumption), ?_⟩
        refine th_take rfl rfl (by kernel_rfl)  (opv_assign rfl) ?_
        refine th_take rfl rfl (by kernel_rfl)  (opv_assign rfl) ?_
        refine th_done (by kernel_rfl) ?_
        exact tri_cutEnd _ ⟨b11, d3, f3, rfl, rfl, hd3, hJ4⟩ ⟨rfl, rfl, rfl, rfl, rfl, rfl, rfl, rfl, rfl, rfl, rfl, trivial⟩
    · refine (step_m rfl rfl opg_alloc ?_)
      rintro _ _ _ ⟨b11, rfl, rfl, rfl⟩
      refine ⟨Suf.h, (fun _ h => h), ?_⟩
      refine th_one (by kernel_rfl) (step_m rfl rfl (opg_call (xs := [_, _, _]) rfl (ref08_square (hq1.mono (fun _ h => hJ3 (hJ2 (hJ1 (h))))) rfl (by omega) (by omega) (by omega) (by omega))) ?_)
      rintro _ _ _ ⟨rfl, rfl, rfl⟩
      refine ⟨Suf.h, (fun _ h => h), ?_⟩
      skip
      refine th_one (by kernel_rfl) (step_m rfl rfl (opg_call (xs := [_, _]) rfl (ref06_putSq hd2 g2 e3)) ?_)
      rintro _ _ J4 ⟨d3, f3, rfl, hd3, rfl, hJ4⟩
      refine ⟨Suf.h, hJ4, ?_⟩
      refine th_take rfl rfl (by kernel_rfl)  (opv_move rfl) ?_
      refine th_take rfl rfl (by kernel_rfl)  (opv_extract rfl rfl) ?_
      refine th_take rfl rfl (by kernel_rfl)  (opv_extract rfl rfl) ?_
      refine th_take rfl rfl (by kernel_rfl)  (opv_extract rfl rfl) ?_
      refine th_one (by kernel_rfl) (step_m rfl rfl (opg_store rfl rfl rfl rfl rfl rfl) ?_)
      rintro _ _ _ ⟨rfl, rfl⟩
      refine ⟨Suf.h, (by assumption), ?_⟩
      refine th_take rfl rfl (by kernel_rfl)  (opv_assign rfl) ?_
      refine th_take rfl rfl (by kernel_rfl)  (opv_assign rfl) ?_
      refine th_done (by kernel_rfl) ?_
      exact tri_cutEnd _ ⟨b11, d3, f3, rfl, rfl, hd3, hJ4⟩ ⟨rfl, rfl, rfl, rfl, rfl, rfl, rfl, rfl, rfl, rfl, rfl, trivial⟩
  rintro _ _ J4 ⟨b11, d3, f3, rfl, rfl, hd3, hJ4⟩
  skip
  refine tri_then ?_
  refine tri_seq ?_
  refine tri_seq ?_
  refine tri_region ?_
  refine tri_v (opv_move rfl) rfl ?_
  refine tri_v (opv_neq rfl rfl) rfl ?_
  refine tri_nil ?_
  refine tri_then ?_
  refine tri_cond_dec rfl (fun x3 => ?_) (fun x3 => ?_)
  · rw [if_neg x0, if_neg x1, if_neg x2, if_pos x3]
    refine tri_seq ?_
    refine tri_region ?_
    refine tri_v (opv_loadA rfl rfl rfl) rfl ?_
    refine tri_v (opv_buildA rfl rfl) rfl ?_
    refine tri_v (opv_move rfl) rfl ?_
    refine tri_g (opg_store rfl rfl rfl rfl rfl rfl) rfl ?_
    rintro _ _ _ ⟨rfl, rfl⟩
    refine tri_g (opg_store rfl rfl rfl rfl rfl rfl) rfl ?_
    rintro _ _ _ ⟨rfl, rfl⟩
    refine tri_v (opv_assign rfl) rfl ?_
    refine tri_nil ?_
    refine tri_then ?_
    refine tri_ret ?_
    refine tri_then_ret ?_
    refine tri_inBlock_ret ?_
    refine tri_then_ret ?_
    refine tri_then_ret ?_
    refine tri_inBlock_ret ?_
    refine tri_then_ret ?_
    refine tri_end A Suf.h rfl (.cons (rv_cellA rfl rfl rfl) (.cons (rv_cellA rfl rfl rfl) (.cons (rv_tmp rfl) .nil))) ?_
    exact ⟨a, cap, _, _, _, _, _, _, _, _, _, rfl, rfl, hs.mono (fun _ h => hJ4 (hJ3 (hJ2 (hJ1 (hJ0 (h)))))), rfl, (fun _ h => hJ4 (hJ3 (hJ2 (hJ1 (hJ0 (h))))))⟩
  skip
  refine tri_skip ?_
  refine tri_then ?_
  refine tri_seq ?_
  refine tri_region ?_
  refine tri_v (opv_loadA rfl rfl rfl) rfl ?_
  refine tri_g (opg_store rfl rfl rfl rfl rfl rfl) rfl ?_
  rintro _ _ _ ⟨rfl, rfl⟩
  refine tri_nil ?_
  refine tri_then ?_
  refine tri_region ?_
  refine tri_v (opv_move rfl) rfl ?_
  refine tri_v (opv_move rfl) rfl ?_
  refine tri_v (opv_indexAddrA rfl rfl (by decide) (by decide)) rfl ?_
  refine tri_g (opg_store rfl rfl rfl rfl rfl rfl) rfl ?_
  rintro _ _ _ ⟨rfl, rfl⟩
  refine tri_nil ?_
  refine tri_inBlock ?_
  refine tri_then ?_
  refine tri_drop ?_
  refine tri_region ?_
  refine tri_v (opv_move rfl) rfl ?_
  refine tri_v (opv_add rfl rfl (w64 (by omega) (by omega))) rfl ?_
  refine tri_v (opv_assign rfl) rfl ?_
  refine tri_nil ?_
  refine tri_then ?_
  refine tri_round ?_
  refine tri_seq ?_
  refine tri_seq ?_
  refine tri_region ?_
  refine tri_v (opv_move rfl) rfl ?_
  refine tri_v (opv_lss rfl rfl) rfl ?_
  refine tri_nil ?_
  refine tri_then ?_
  refine tri_cond_is rfl (by decide) ?_
  refine tri_skip ?_
  refine tri_then ?_
  refine tri_seq ?_
  refine tri_block ?_
  refine tri_seq ?_
  refine tri_cut (fun F' A' J => ∃ b11 d f, F' = [(1, .int .i64 n), (2, pt b2 0), (4, pt b4 0), (5, pt b5 0), (7, .slice a1 (R8.s16 ns n).length c1), (8, pt b8 0), (9, pt b9 0), (10, .int .i64 4), (11, pt b11 0), (12, .int .i64 p4.2.1), (13, .int .i64 p4.2.2)] ∧ A' = Box b11 [.slice d p4.1.length f, .int .i64 room] 26 :: Box b9 [.slice d3 p3.1.length f3, .int .i64 room] 26 :: Box b8 [.int .i64 p0.2.1, .int .i64 p1.2.1, .int .i64 p2.2.1, .int .i64 p3.2.1, .int .i64 0, .int .i64 0, .int .i64 0, .int .i64 0, .int .i64 0] 37 :: Box b5 [.int .i64 0, .int .i64 0, .int .i64 0, .int .i64 0, .int .i64 0, .int .i64 0, .int .i64 0, .int .i64 0, .int .i64 0] 37 :: Box b4 [.slice none 0 0, .int .i64 0] 26 :: Box b2 [.slice a ns.length cap, .int .i64 room] 26 :: A ∧ StA J d f p4.1 ∧ J4 ⊆ J) ?_ ?_
  · refine tri_draw [0, 1, 2, 3, 4, 5, 6, 7, 8, 9, 10, 11, 12, 13, 14, 15] rfl [] rfl mixed ?_
    refine th_take rfl rfl (by kernel_rfl)  (opv_loadA rfl rfl rfl) ?_
    refine th_take rfl rfl (by kernel_rfl)  (opv_move rfl) ?_
    refine th_take rfl rfl (by kernel_rfl)  (opv_move rfl) ?_
    refine th_take rfl rfl (by kernel_rfl)  (opv_quoE rfl rfl (by omega) (by omega) (by omega)) ?_
    refine th_take rfl rfl (by kernel_rfl)  (opv_move rfl) ?_
    refine th_take rfl rfl (by kernel_rfl)  (opv_remE rfl rfl (by omega) (by omega)) ?_
    refine th_two (j := 12) [6, 7, 8, 9, 10, 11, 13, 14, 15] (by kernel_rfl) rfl ?_ ?_
    · refine (step_m rfl rfl (opg_call (xs := [_, _, _]) rfl (ref08_square (hq1.mono (fun _ h => hJ4 (hJ3 (hJ2 (hJ1 (h)))))) rfl (by omega) (by omega) (by omega) (by omega))) ?_)
      rintro _ _ _ ⟨rfl, rfl, rfl⟩
      refine ⟨Suf.h, (fun _ h => h), ?_⟩
      skip
      refine th_two (j := 12) [7, 8, 9, 10, 11, 13, 14, 15] (by kernel_rfl) rfl ?_ ?_
      · refine (step_m rfl rfl (opg_call (xs := [_, _]) rfl (ref06_putSq hd3 g3 e4)) ?_)
        rintro _ _ J5 ⟨d4, f4, rfl, hd4, rfl, hJ5⟩
        refine ⟨Suf.h, hJ5, ?_⟩
        refine th_take rfl rfl (by kernel_rfl)  (opv_move rfl) ?_
        refine th_take rfl rfl (by kernel_rfl)  (opv_extract rfl rfl) ?_
        refine th_take rfl rfl (by kernel_rfl)  (opv_extract rfl rfl) ?_
        refine th_take rfl rfl (by kernel_rfl)  (opv_extract rfl rfl) ?_
        refine th_one (by kernel_rfl) (step_m rfl rfl opg_alloc ?_)
        rintro _ _ _ ⟨b11, rfl, rfl, rfl⟩
        refine ⟨Suf.h, (by assumption), ?_⟩
        refine th_one (by kernel_rfl) (step_m rfl rfl (opg_store rfl rfl rfl rfl rfl rfl) ?_)
        rintro _ _ _ ⟨rfl, rfl⟩
        refine ⟨Suf.h, (by assumption), ?_⟩
        refine th_take rfl rfl (by kernel_rfl)  (opv_assign rfl) ?_
        refine th_take rfl rfl (by kernel_rfl)  (opv_assign rfl) ?_
        refine th_done (by kernel_rfl) ?_
        exact tri_cutEnd _ ⟨b11, d4, f4, rfl, rfl, hd4, hJ5⟩ ⟨rfl, rfl, rfl, rfl, rfl, rfl, rfl, rfl, rfl, rfl, rfl, trivial⟩
      · refine (step_m rfl rfl opg_alloc ?_)
        rintro _ _ _ ⟨b11, rfl, rfl, rfl⟩
        refine ⟨Suf.h, (fun _ h => h), ?_⟩
        refine th_one (by kernel_rfl) (step_m rfl rfl (opg_call (xs := [_, _]) rfl (ref06_putSq hd3 g3 e4)) ?_)
        rintro _ _ J5 ⟨d4, f4, rfl, hd4, rfl, hJ5⟩
        refine ⟨Suf.h, hJ5, ?_⟩
        refine th_take rfl rfl (by kernel_rfl)  (opv_move rfl) ?_
        refine th_take rfl rfl (by kernel_rfl)  (opv_extract rfl rfl) ?_
        refine th_take rfl rfl (by kernel_rfl)  (opv_extract rfl rfl) ?_
        refine th_take rfl rfl (by kernel_rfl)  (opv_extract rfl rfl) ?_
        refine th_one (by kernel_rfl) (step_m rfl rfl (opg_store rfl rfl rfl rfl rfl rfl) ?_)
        rintro _ _ _ ⟨rfl, rfl⟩
        refine ⟨Suf.h, (by assumption), ?_⟩
        refine th_take rfl rfl (by kernel_rfl)  (opv_assign rfl) ?_
        refine th_take rfl rfl (by kernel_rfl)  (opv_assign rfl) ?_
        refine th_done (by kernel_rfl) ?_
        exact tri_cutEnd _ ⟨b11, d4, f4, rfl, rfl, hd4, hJ5⟩ ⟨rfl, rfl, rfl, rfl, rfl, rfl, rfl, rfl, rfl, rfl, rfl, trivial⟩
    · refine (step_m rfl rfl opg_alloc ?_)
      rintro _ _ _ ⟨b11, rfl, rfl, rfl⟩
      refine ⟨Suf.h, (fun _ h => h), ?_⟩
      refine th_one (by kernel_rfl) (step_m rfl rfl (opg_call (xs := [_, _, _]) rfl (ref08_square (hq1.mono (fun _ h => hJ4 (hJ3 (hJ2 (hJ1 (h)))))) rfl (by omega) (by omega) (by omega) (by omega))) ?_)
      rintro _ _ _ ⟨rfl, rfl, rfl⟩
      refine ⟨Suf.h, (fun _ h => h), ?_⟩
      skip
      refine th_one (by kernel_rfl) (step_m rfl rfl (opg_call (xs := [_, _]) rfl (ref06_putSq hd3 g3 e4)) ?_)
      rintro _ _ J5 ⟨d4, f4, rfl, hd4, rfl, hJ5⟩
      refine ⟨Suf.h, hJ5, ?_⟩
      refine th_take rfl rfl (by kernel_rfl)  (opv_move rfl) ?_
      refine th_take rfl rfl (by kernel_rfl)  (opv_extract rfl rfl) ?_
      refine th_take rfl rfl (by kernel_rfl)  (opv_extract rfl rfl) ?_
      refine th_take rfl rfl (by kernel_rfl)  (opv_extract rfl rfl) ?_
      refine th_one (by kernel_rfl) (step_m rfl rfl (opg_store rfl rfl rfl rfl rfl rfl) ?_)
      rintro _ _ _ ⟨rfl, rfl⟩
      refine ⟨Suf.h, (by assumption), ?_⟩
      refine th_take rfl rfl (by kernel_rfl)  (opv_assign rfl) ?_
      refine th_take rfl rfl (by kernel_rfl)  (opv_assign rfl) ?_
      refine th_done (by kernel_rfl) ?_
      exact tri_cutEnd _ ⟨b11, d4, f4, rfl, rfl, hd4, hJ5⟩ ⟨rfl, rfl, rfl, rfl, rfl, rfl, rfl, rfl, rfl, rfl, rfl, trivial⟩
  rintro _ _ J5 ⟨b11, d4, f4, rfl, rfl, hd4, hJ5⟩
  skip
  refine tri_then ?_
  refine tri_seq ?_
  refine tri_seq ?_
  refine tri_region ?_
  refine tri_v (opv_move rfl) rfl ?_
  refine tri_v (opv_neq rfl rfl) rfl ?_
  refine tri_nil ?_
  refine tri_then ?_
  refine tri_cond_dec rfl (fun x4 => ?_) (fun x4 => ?_)
  · rw [if_neg x0, if_neg x1, if_neg x2, if_neg x3, if_pos x4]
    refine tri_seq ?_
    refine tri_region ?_
    refine tri_v (opv_loadA rfl rfl rfl) rfl ?_
    refine tri_v (opv_buildA rfl rfl) rfl ?_
    refine tri_v (opv_move rfl) rfl ?_
    refine tri_g (opg_store rfl rfl rfl rfl rfl rfl) rfl ?_
    rintro _ _ _ ⟨rfl, rfl⟩
    refine tri_g (opg_store rfl rfl rfl rfl rfl rfl) rfl ?_
    rintro _ _ _ ⟨rfl, rfl⟩
    refine tri_v (opv_assign rfl) rfl ?_
    refine tri_nil ?_
    refine tri_then ?_
    refine tri_ret ?_
    refine tri_then_ret ?_
    refine tri_inBlock_ret ?_
    refine tri_then_ret ?_
    refine tri_then_ret ?_
    refine tri_inBlock_ret ?_
    refine tri_then_ret ?_
    refine tri_end A Suf.h rfl (.cons (rv_cellA rfl rfl rfl) (.cons (rv_cellA rfl rfl rfl) (.cons (rv_tmp rfl) .nil))) ?_
    exact ⟨a, cap, _, _, _, _, _, _, _, _, _, rfl, rfl, hs.mono (fun _ h => hJ5 (hJ4 (hJ3 (hJ2 (hJ1 (hJ0 (h))))))), rfl, (fun _ h => hJ5 (hJ4 (hJ3 (hJ2 (hJ1 (hJ0 (h)))))))⟩
  skip
  refine tri_skip ?_
  refine tri_then ?_
  refine tri_seq ?_
  refine tri_region ?_
  refine tri_v (opv_loadA rfl rfl rfl) rfl ?_
  refine tri_g (opg_store rfl rfl rfl rfl rfl rfl) rfl ?_
  rintro _ _ _ ⟨rfl, rfl⟩
  refine tri_nil ?_
  refine tri_then ?_
  refine tri_region ?_
  refine tri_v (opv_move rfl) rfl ?_
  refine tri_v (opv_move rfl) rfl ?_
  refine tri_v (opv_indexAddrA rfl rfl (by decide) (by decide)) rfl ?_
  refine tri_g (opg_store rfl rfl rfl rfl rfl rfl) rfl ?_
  rintro _ _ _ ⟨rfl, rfl⟩
  refine tri_nil ?_
  refine tri_inBlock ?_
  refine tri_then ?_
  refine tri_drop ?_
  refine tri_region ?_
  refine tri_v (opv_move rfl) rfl ?_
  refine tri_v (opv_add rfl rfl (w64 (by omega) (by omega))) rfl ?_
  refine tri_v (opv_assign rfl) rfl ?_
  refine tri_nil ?_
  refine tri_then ?_
  refine tri_round ?_
  refine tri_seq ?_
  refine tri_seq ?_
  refine tri_region ?_
  refine tri_v (opv_move rfl) rfl ?_
  refine tri_v (opv_lss rfl rfl) rfl ?_
  refine tri_nil ?_
  refine tri_then ?_
  refine tri_cond_is rfl (by decide) ?_
  refine tri_skip ?_
  refine tri_then ?_
  refine tri_seq ?_
  refine tri_block ?_
  refine tri_seq ?_
  refine tri_cut (fun F' A' J => ∃ b11 d f, F' = [(1, .int .i64 n), (2, pt b2 0), (4, pt b4 0), (5, pt b5 0), (7, .slice a1 (R8.s16 ns n).length c1), (8, pt b8 0), (9, pt b9 0), (10, .int .i64 5), (11, pt b11 0), (12, .int .i64 p5.2.1), (13, .int .i64 p5.2.2)] ∧ A' = Box b11 [.slice d p5.1.length f, .int .i64 room] 26 :: Box b9 [.slice d4 p4.1.length f4, .int .i64 room] 26 :: Box b8 [.int .i64 p0.2.1, .int .i64 p1.2.1, .int .i64 p2.2.1, .int .i64 p3.2.1, .int .i64 p4.2.1, .int .i64 0, .int .i64 0, .int .i64 0, .int .i64 0] 37 :: Box b5 [.int .i64 0, .int .i64 0, .int .i64 0, .int .i64 0, .int .i64 0, .int .i64 0, .int .i64 0, .int .i64 0, .int .i64 0] 37 :: Box b4 [.slice none 0 0, .int .i64 0] 26 :: Box b2 [.slice a ns.length cap, .int .i64 room] 26 :: A ∧ StA J d f p5.1 ∧ J5 ⊆ J) ?_ ?_
  · refine tri_draw [0, 1, 2, 3, 4, 5, 6, 7, 8, 9, 10, 11, 12, 13, 14, 15] rfl [] rfl mixed ?_
    refine th_take rfl rfl (by kernel_rfl)  (opv_loadA rfl rfl rfl) ?_
    refine th_take rfl rfl (by kernel_rfl)  (opv_move rfl) ?_
    refine th_take rfl rfl (by kernel_rfl)  (opv_move rfl) ?_
    refine th_take rfl rfl (by kernel_rfl)  (opv_quoE rfl rfl (by omega) (by omega) (by omega)) ?_
    refine th_take rfl rfl (by kernel_rfl)  (opv_move rfl) ?_
    refine th_take rfl rfl (by kernel_rfl)  (opv_remE rfl rfl (by omega) (by omega)) ?_
    refine th_two (j := 12) [6, 7, 8, 9, 10, 11, 13, 14, 15] (by kernel_rfl) rfl ?_ ?_
    · refine (step_m rfl rfl (opg_call (xs := [_, _, _]) rfl (ref08_square (hq1.mono (fun _ h => hJ5 (hJ4 (hJ3 (hJ2 (hJ1 (h))))))) rfl (by omega) (by omega) (by omega) (by omega))) ?_)
      rintro _ _ _ ⟨rfl, rfl, rfl⟩
      refine ⟨Suf.h, (fun _ h => h), ?_⟩
      skip
      refine th_two (j := 12) [7, 8, 9, 10, 11, 13, 14, 15] (by kernel_rfl) rfl ?_ ?_
      · refine (step_m rfl rfl (opg_call (xs := [_, _]) rfl (ref06_putSq hd4 g4 e5)) ?_)
        rintro _ _ J6 ⟨d5, f5, rfl, hd5, rfl, hJ6⟩
        refine ⟨Suf.h, hJ6, ?_⟩
        refine th_take rfl rfl (by kernel_rfl)  (opv_move rfl) ?_
        refine th_take rfl rfl (by kernel_rfl)  (opv_extract rfl rfl) ?_
        refine th_take rfl rfl (by kernel_rfl)  (opv_extract rfl rfl) ?_
        refine th_take rfl rfl (by kernel_rfl)  (opv_extract rfl rfl) ?_
        refine th_one (by kernel_rfl) (step_m rfl rfl opg_alloc ?_)
        rintro _ _ _ ⟨b11, rfl, rfl, rfl⟩
        refine ⟨Suf.h, (by assumption), ?_⟩
        refine th_one (by kernel_rfl) (step_m rfl rfl (opg_store rfl rfl rfl rfl rfl rfl) ?_)
        rintro _ _ _ ⟨rfl, rfl⟩
        refine ⟨Suf.h, (by assumption), ?_⟩
        refine th_take rfl rfl (by kernel_rfl)  (opv_assign rfl) ?_
        refine th_take rfl rfl (by kernel_rfl)  (opv_assign rfl) ?_
        refine th_done (by kernel_rfl) ?_
        exact tri_cutEnd _ ⟨b11, d5, f5, rfl, rfl, hd5, hJ6⟩ ⟨rfl, rfl, rfl, rfl, rfl, rfl, rfl, rfl, rfl, rfl, rfl, trivial⟩
      · refine (step_m rfl rfl opg_alloc ?_)
        rintro _ _ _ ⟨b11, rfl, rfl, rfl⟩
        refine ⟨Suf.h, (fun _ h => h), ?_⟩
        refine th_one (by kernel_rfl) (step_m rfl rfl (opg_call (xs := [_, _]) rfl (ref06_putSq hd4 g4 e5)) ?_)
        rintro _ _ J6 ⟨d5, f5, rfl, hd5, rfl, hJ6⟩
        refine ⟨Suf.h, hJ6, ?_⟩
        refine th_take rfl rfl (by kernel_rfl)  (opv_move rfl) ?_
        refine th_take rfl rfl (by kernel_rfl)  (opv_extract rfl rfl) ?_
        refine th_take rfl rfl (by kernel_rfl)  (opv_extract rfl rfl) ?_
        refine th_take rfl rfl (by kernel_rfl)  (opv_extract rfl rfl) ?_
        refine th_one (by kernel_rfl) (step_m rfl rfl (opg_store rfl rfl rfl rfl rfl rfl) ?_)
        rintro _ _ _ ⟨rfl, rfl⟩
        refine ⟨Suf.h, (by assumption), ?_⟩
        refine th_take rfl rfl (by kernel_rfl)  (opv_assign rfl) ?_
        refine th_take rfl rfl (by kernel_rfl)  (opv_assign rfl) ?_
        refine th_done (by kernel_rfl) ?_
        exact tri_cutEnd _ ⟨b11, d5, f5, rfl, rfl, hd5, hJ6⟩ ⟨rfl, rfl, rfl, rfl, rfl, rfl, rfl, rfl, rfl, rfl, rfl, trivial⟩
    · refine (step_m rfl rfl opg_alloc ?_)
      rintro _ _ _ ⟨b11, rfl, rfl, rfl⟩
      refine ⟨Suf.h, (fun _ h => h), ?_⟩
      refine th_one (by kernel_rfl) (step_m rfl rfl (opg_call (xs := [_, _, _]) rfl (ref08_square (hq1.mono (fun _ h => hJ5 (hJ4 (hJ3 (hJ2 (hJ1 (h))))))) rfl (by omega) (by omega) (by omega) (by omega))) ?_)
      rintro _ _ _ ⟨rfl, rfl, rfl⟩
      refine ⟨Suf.h, (fun _ h => h), ?_⟩
      skip
      refine th_one (by kernel_rfl) (step_m rfl rfl (opg_call (xs := [_, _]) rfl (ref06_putSq hd4 g4 e5)) ?_)
      rintro _ _ J6 ⟨d5, f5, rfl, hd5, rfl, hJ6⟩
      refine ⟨Suf.h, hJ6, ?_⟩
      refine th_take rfl rfl (by kernel_rfl)  (opv_move rfl) ?_
      refine th_take rfl rfl (by kernel_rfl)  (opv_extract rfl rfl) ?_
      refine th_take rfl rfl (by kernel_rfl)  (opv_extract rfl rfl) ?_
      refine th_take rfl rfl (by kernel_rfl)  (opv_extract rfl rfl) ?_
      refine th_one (by kernel_rfl) (step_m rfl rfl (opg_store rfl rfl rfl rfl rfl rfl) ?_)
      rintro _ _ _ ⟨rfl, rfl⟩
      refine ⟨Suf.h, (by assumption), ?_⟩
      refine th_take rfl rfl (by kernel_rfl)  (opv_assign rfl) ?_
      refine th_take rfl rfl (by kernel_rfl)  (opv_assign rfl) ?_
      refine th_done (by kernel_rfl) ?_
      exact tri_cutEnd _ ⟨b11, d5, f5, rfl, rfl, hd5, hJ6⟩ ⟨rfl, rfl, rfl, rfl, rfl, rfl, rfl, rfl, rfl, rfl, rfl, trivial⟩
  rintro _ _ J6 ⟨b11, d5, f5, rfl, rfl, hd5, hJ6⟩
  skip
  refine tri_then ?_
  refine tri_seq ?_
  refine tri_seq ?_
  refine tri_region ?_
  refine tri_v (opv_move rfl) rfl ?_
  refine tri_v (opv_neq rfl rfl) rfl ?_
  refine tri_nil ?_
  refine tri_then ?_
  refine tri_cond_dec rfl (fun x5 => ?_) (fun x5 => ?_)
  · rw [if_neg x0, if_neg x1, if_neg x2, if_neg x3, if_neg x4, if_pos x5]
    refine tri_seq ?_
    refine tri_region ?_
    refine tri_v (opv_loadA rfl rfl rfl) rfl ?_
    refine tri_v (opv_buildA rfl rfl) rfl ?_
    refine tri_v (opv_move rfl) rfl ?_
    refine tri_g (opg_store rfl rfl rfl rfl rfl rfl) rfl ?_
    rintro _ _ _ ⟨rfl, rfl⟩
    refine tri_g (opg_store rfl rfl rfl rfl rfl rfl) rfl ?_
    rintro _ _ _ ⟨rfl, rfl⟩
    refine tri_v (opv_assign rfl) rfl ?_
    refine tri_nil ?_
    refine tri_then ?_
    refine tri_ret ?_
    refine tri_then_ret ?_
    refine tri_inBlock_ret ?_
    refine tri_then_ret ?_
    refine tri_then_ret ?_
    refine tri_inBlock_ret ?_
    refine tri_then_ret ?_
    refine tri_end A Suf.h rfl (.cons (rv_cellA rfl rfl rfl) (.cons (rv_cellA rfl rfl rfl) (.cons (rv_tmp rfl) .nil))) ?_
    exact ⟨a, cap, _, _, _, _, _, _, _, _, _, rfl, rfl, hs.mono (fun _ h => hJ6 (hJ5 (hJ4 (hJ3 (hJ2 (hJ1 (hJ0 (h)))))))), rfl, (fun _ h => hJ6 (hJ5 (hJ4 (hJ3 (hJ2 (hJ1 (hJ0 (h))))))))⟩
  skip
  refine tri_skip ?_
  refine tri_then ?_
  refine tri_seq ?_
  refine tri_region ?_
  refine tri_v (opv_loadA rfl rfl rfl) rfl ?_
  refine tri_g (opg_store rfl rfl rfl rfl rfl rfl) rfl ?_
  rintro _ _ _ ⟨rfl, rfl⟩
  refine tri_nil ?_
  refine tri_then ?_
  refine tri_region ?_
  refine tri_v (opv_move rfl) rfl ?_
  refine tri_v (opv_move rfl) rfl ?_
  refine tri_v (opv_indexAddrA rfl rfl (by decide) (by decide)) rfl ?_
  refine tri_g (opg_store rfl rfl rfl rfl rfl rfl) rfl ?_
  rintro _ _ _ ⟨rfl, rfl⟩
  refine tri_nil ?_
  refine tri_inBlock ?_
  refine tri_then ?_
  refine tri_drop ?_
  refine tri_region ?_
  refine tri_v (opv_move rfl) rfl ?_
  refine tri_v (opv_add rfl rfl (w64 (by omega) (by omega))) rfl ?_
  refine tri_v (opv_assign rfl) rfl ?_
  refine tri_nil ?_
  refine tri_then ?_
  refine tri_round ?_
  refine tri_seq ?_
  refine tri_seq ?_
  refine tri_region ?_
  refine tri_v (opv_move rfl) rfl ?_
  refine tri_v (opv_lss rfl rfl) rfl ?_
  refine tri_nil ?_
  refine tri_then ?_
  refine tri_cond_is rfl (by decide) ?_
  refine tri_skip ?_
  refine tri_then ?_
  refine tri_seq ?_
  refine tri_block ?_
  refine tri_seq ?_
  refine tri_cut (fun F' A' J => ∃ b11 d f, F' = [(1, .int .i64 n), (2, pt b2 0), (4, pt b4 0), (5, pt b5 0), (7, .slice a1 (R8.s16 ns n).length c1), (8, pt b8 0), (9, pt b9 0), (10, .int .i64 6), (11, pt b11 0), (12, .int .i64 p6.2.1), (13, .int .i64 p6.2.2)] ∧ A' = Box b11 [.slice d p6.1.length f, .int .i64 room] 26 :: Box b9 [.slice d5 p5.1.length f5, .int .i64 room] 26 :: Box b8 [.int .i64 p0.2.1, .int .i64 p1.2.1, .int .i64 p2.2.1, .int .i64 p3.2.1, .int .i64 p4.2.1, .int .i64 p5.2.1, .int .i64 0, .int .i64 0, .int .i64 0] 37 :: Box b5 [.int .i64 0, .int .i64 0, .int .i64 0, .int .i64 0, .int .i64 0, .int .i64 0, .int .i64 0, .int .i64 0, .int .i64 0] 37 :: Box b4 [.slice none 0 0, .int .i64 0] 26 :: Box b2 [.slice a ns.length cap, .int .i64 room] 26 :: A ∧ StA J d f p6.1 ∧ J6 ⊆ J) ?_ ?_
  · refine tri_draw [0, 1, 2, 3, 4, 5, 6, 7, 8, 9, 10, 11, 12, 13, 14, 15] rfl [] rfl mixed ?_
    refine th_take rfl rfl (by kernel_rfl)  (opv_loadA rfl rfl rfl) ?_
    refine th_take rfl rfl (by kernel_rfl)  (opv_move rfl) ?_
    refine th_take rfl rfl (by kernel_rfl)  (opv_move rfl) ?_
    refine th_take rfl rfl (by kernel_rfl)  (opv_quoE rfl rfl (by omega) (by omega) (by omega)) ?_
    refine th_take rfl rfl (by kernel_rfl)  (opv_move rfl) ?_
    refine th_take rfl rfl (by kernel_rfl)  (opv_remE rfl rfl (by omega) (by omega)) ?_
    refine th_two (j := 12) [6, 7, 8, 9, 10, 11, 13, 14, 15] (by kernel_rfl) rfl ?_ ?_
    · refine (step_m rfl rfl (opg_call (xs := [_, _, _]) rfl (ref08_square (hq1.mono (fun _ h => hJ6 (hJ5 (hJ4 (hJ3 (hJ2 (hJ1 (h)))))))) rfl (by omega) (by omega) (by omega) (by omega))) ?_)
      rintro _ _ _ ⟨rfl, rfl, rfl⟩
      refine ⟨Suf.h, (fun _ h => h), ?_⟩
      skip
      refine th_two (j := 12) [7, 8, 9, 10, 11, 13, 14, 15] (by kernel_rfl) rfl ?_ ?_
      · refine (step_m rfl rfl (opg_call (xs := [_, _]) rfl (ref06_putSq hd5 g5 e6)) ?_)
        rintro _ _ J7 ⟨d6, f6, rfl, hd6, rfl, hJ7⟩
        refine ⟨Suf.h, hJ7, ?_⟩
        refine th_take rfl rfl (by kernel_rfl)  (opv_move rfl) ?_
        refine th_take rfl rfl (by kernel_rfl)  (opv_extract rfl rfl) ?_
        refine th_take rfl rfl (by kernel_rfl)  (opv_extract rfl rfl) ?_
        refine th_take rfl rfl (by kernel_rfl)  (opv_extract rfl rfl) ?_
        refine th_one (by kernel_rfl) (step_m rfl rfl opg_alloc ?_)
        rintro _ _ _ ⟨b11, rfl, rfl, rfl⟩
        refine ⟨Suf.h, (by assumption), ?_⟩
        refine th_one (by kernel_rfl) (step_m rfl rfl (opg_store rfl rfl rfl rfl rfl rfl) ?_)
        rintro _ _ _ ⟨rfl, rfl⟩
        refine ⟨Suf.h, (by assumption), ?_⟩
        refine th_take rfl rfl (by kernel_rfl)  (opv_assign rfl) ?_
        refine th_take rfl rfl (by kernel_rfl)  (opv_assign rfl) ?_
        refine th_done (by kernel_rfl) ?_
        exact tri_cutEnd _ ⟨b11, d6, f6, rfl, rfl, hd6, hJ7⟩ ⟨rfl, rfl, rfl, rfl, rfl, rfl, rfl, rfl, rfl, rfl, rfl, trivial⟩
      · refine (step_m rfl rfl opg_alloc ?_)
        rintro _ _ _ ⟨b11, rfl, rfl, rfl⟩
        refine ⟨Suf.h, (fun _ h => h), ?_⟩
        refine th_one (by kernel_rfl) (step_m rfl rfl (opg_call (xs := [_, _]) rfl (ref06_putSq hd5 g5 e6)) ?_)
        rintro _ _ J7 ⟨d6, f6, rfl, hd6, rfl, hJ7⟩
        refine ⟨Suf.h, hJ7, ?_⟩
        refine th_take rfl rfl (by kernel_rfl)  (opv_move rfl) ?_
        refine th_take rfl rfl (by kernel_rfl)  (opv_extract rfl rfl) ?_
        refine th_take rfl rfl (by kernel_rfl)  (opv_extract rfl rfl) ?_
        refine th_take rfl rfl (by kernel_rfl)  (opv_extract rfl rfl) ?_
        refine th_one (by kernel_rfl) (step_m rfl rfl (opg_store rfl rfl rfl rfl rfl rfl) ?_)
        rintro _ _ _ ⟨rfl, rfl⟩
        refine ⟨Suf.h, (by assumption), ?_⟩
        refine th_take rfl rfl (by kernel_rfl)  (opv_assign rfl) ?_
        refine th_take rfl rfl (by kernel_rfl)  (opv_assign rfl) ?_
        refine th_done (by kernel_rfl) ?_
        exact tri_cutEnd _ ⟨b11, d6, f6, rfl, rfl, hd6, hJ7⟩ ⟨rfl, rfl, rfl, rfl, rfl, rfl, rfl, rfl, rfl, rfl, rfl, trivial⟩
    · refine (step_m rfl rfl opg_alloc ?_)
      rintro _ _ _ ⟨b11, rfl, rfl, rfl⟩
      refine ⟨Suf.h, (fun _ h => h), ?_⟩
      refine th_one (by kernel_rfl) (step_m rfl rfl (opg_call (xs := [_, _, _]) rfl (ref08_square (hq1.mono (fun _ h => hJ6 (hJ5 (hJ4 (hJ3 (hJ2 (hJ1 (h)))))))) rfl (by omega) (by omega) (by omega) (by omega))) ?_)
      rintro _ _ _ ⟨rfl, rfl, rfl⟩
      refine ⟨Suf.h, (fun _ h => h), ?_⟩
      skip
      refine th_one (by kernel_rfl) (step_m rfl rfl (opg_call (xs := [_, _]) rfl (ref06_putSq hd5 g5 e6)) ?_)
      rintro _ _ J7 ⟨d6, f6, rfl, hd6, rfl, hJ7⟩
      refine ⟨Suf.h, hJ7, ?_⟩
      refine th_take rfl rfl (by kernel_rfl)  (opv_move rfl) ?_
      refine th_take rfl rfl (by kernel_rfl)  (opv_extract rfl rfl) ?_
      refine th_take rfl rfl (by kernel_rfl)  (opv_extract rfl rfl) ?_
      refine th_take rfl rfl (by kernel_rfl)  (opv_extract rfl rfl) ?_
      refine th_one (by kernel_rfl) (step_m rfl rfl (opg_store rfl rfl rfl rfl rfl rfl) ?_)
      rintro _ _ _ ⟨rfl, rfl⟩
      refine ⟨Suf.h, (by assumption), ?_⟩
      refine th_take rfl rfl (by kernel_rfl)  (opv_assign rfl) ?_
      refine th_take rfl rfl (by kernel_rfl)  (opv_assign rfl) ?_
      refine th_done (by kernel_rfl) ?_
      exact tri_cutEnd _ ⟨b11, d6, f6, rfl, rfl, hd6, hJ7⟩ ⟨rfl, rfl, rfl, rfl, rfl, rfl, rfl, rfl, rfl, rfl, rfl, trivial⟩
  rintro _ _ J7 ⟨b11, d6, f6, rfl, rfl, hd6, hJ7⟩
  skip
  refine tri_then ?_
  refine tri_seq ?_
  refine tri_seq ?_
  refine tri_region ?_
  refine tri_v (opv_move rfl) rfl ?_
  refine tri_v (opv_neq rfl rfl) rfl ?_
  refine tri_nil ?_
  refine tri_then ?_
  refine tri_cond_dec rfl (fun x6 => ?_) (fun x6 => ?_)
  · rw [if_neg x0, if_neg x1, if_neg x2, if_neg x3, if_neg x4, if_neg x5, if_pos x6]
    refine tri_seq ?_
    refine tri_region ?_
    refine tri_v (opv_loadA rfl rfl rfl) rfl ?_
    refine tri_v (opv_buildA rfl rfl) rfl ?_
    refine tri_v (opv_move rfl) rfl ?_
    refine tri_g (opg_store rfl rfl rfl rfl rfl rfl) rfl ?_
    rintro _ _ _ ⟨rfl, rfl⟩
    refine tri_g (opg_store rfl rfl rfl rfl rfl rfl) rfl ?_
    rintro _ _ _ ⟨rfl, rfl⟩
    refine tri_v (opv_assign rfl) rfl ?_
    refine tri_nil ?_
    refine tri_then ?_
    refine tri_ret ?_
    refine tri_then_ret ?_
    refine tri_inBlock_ret ?_
    refine tri_then_ret ?_
    refine tri_then_ret ?_
    refine tri_inBlock_ret ?_
    refine tri_then_ret ?_
    refine tri_end A Suf.h rfl (.cons (rv_cellA rfl rfl rfl) (.cons (rv_cellA rfl rfl rfl) (.cons (rv_tmp rfl) .nil))) ?_
    exact ⟨a, cap, _, _, _, _, _, _, _, _, _, rfl, rfl, hs.mono (fun _ h => hJ7 (hJ6 (hJ5 (hJ4 (hJ3 (hJ2 (hJ1 (hJ0 (h))))))))), rfl, (fun _ h => hJ7 (hJ6 (hJ5 (hJ4 (hJ3 (hJ2 (hJ1 (hJ0 (h)))))))))⟩
  skip
  refine tri_skip ?_
  refine tri_then ?_
  refine tri_seq ?_
  refine tri_region ?_
  refine tri_v (opv_loadA rfl rfl rfl) rfl ?_
  refine tri_g (opg_store rfl rfl rfl rfl rfl rfl) rfl ?_
  rintro _ _ _ ⟨rfl, rfl⟩
  refine tri_nil ?_
  refine tri_then ?_
  refine tri_region ?_
  refine tri_v (opv_move rfl) rfl ?_
  refine tri_v (opv_move rfl) rfl ?_
  refine tri_v (opv_indexAddrA rfl rfl (by decide) (by decide)) rfl ?_
  refine tri_g (opg_store rfl rfl rfl rfl rfl rfl) rfl ?_
  rintro _ _ _ ⟨rfl, rfl⟩
  refine tri_nil ?_
  refine tri_inBlock ?_
  refine tri_then ?_
  refine tri_drop ?_
  refine tri_region ?_
  refine tri_v (opv_move rfl) rfl ?_
  refine tri_v (opv_add rfl rfl (w64 (by omega) (by omega))) rfl ?_
  refine tri_v (opv_assign rfl) rfl ?_
  refine tri_nil ?_
  refine tri_then ?_
  refine tri_round ?_
  refine tri_seq ?_
  refine tri_seq ?_
  refine tri_region ?_
  refine tri_v (opv_move rfl) rfl ?_
  refine tri_v (opv_lss rfl rfl) rfl ?_
  refine tri_nil ?_
  refine tri_then ?_
  refine tri_cond_is rfl (by decide) ?_
  refine tri_skip ?_
  refine tri_then ?_
  refine tri_seq ?_
  refine tri_block ?_
  refine tri_seq ?_
  refine tri_cut (fun F' A' J => ∃ b11 d f, F' = [(1, .int .i64 n), (2, pt b2 0), (4, pt b4 0), (5, pt b5 0), (7, .slice a1 (R8.s16 ns n).length c1), (8, pt b8 0), (9, pt b9 0), (10, .int .i64 7), (11, pt b11 0), (12, .int .i64 p7.2.1), (13, .int .i64 p7.2.2)] ∧ A' = Box b11 [.slice d p7.1.length f, .int .i64 room] 26 :: Box b9 [.slice d6 p6.1.length f6, .int .i64 room] 26 :: Box b8 [.int .i64 p0.2.1, .int .i64 p1.2.1, .int .i64 p2.2.1, .int .i64 p3.2.1, .int .i64 p4.2.1, .int .i64 p5.2.1, .int .i64 p6.2.1, .int .i64 0, .int .i64 0] 37 :: Box b5 [.int .i64 0, .int .i64 0, .int .i64 0, .int .i64 0, .int .i64 0, .int .i64 0, .int .i64 0, .int .i64 0, .int .i64 0] 37 :: Box b4 [.slice none 0 0, .int .i64 0] 26 :: Box b2 [.slice a ns.length cap, .int .i64 room] 26 :: A ∧ StA J d f p7.1 ∧ J7 ⊆ J) ?_ ?_
  · refine tri_draw [0, 1, 2, 3, 4, 5, 6, 7, 8, 9, 10, 11, 12, 13, 14, 15] rfl [] rfl mixed ?_
    refine th_take rfl rfl (by kernel_rfl)  (opv_loadA rfl rfl rfl) ?_
    refine th_take rfl rfl (by kernel_rfl)  (opv_move rfl) ?_
    refine th_take rfl rfl (by kernel_rfl)  (opv_move rfl) ?_
    refine th_take rfl rfl (by kernel_rfl)  (opv_quoE rfl rfl (by omega) (by omega) (by omega)) ?_
    refine th_take rfl rfl (by kernel_rfl)  (opv_move rfl) ?_
    refine th_take rfl rfl (by kernel_rfl)  (opv_remE rfl rfl (by omega) (by omega)) ?_
    refine th_two (j := 12) [6, 7, 8, 9, 10, 11, 13, 14, 15] (by kernel_rfl) rfl ?_ ?_
    · refine (step_m rfl rfl (opg_call (xs := [_, _, _]) rfl (ref08_square (hq1.mono (fun _ h => hJ7 (hJ6 (hJ5 (hJ4 (hJ3 (hJ2 (hJ1 (h))))))))) rfl (by omega) (by omega) (by omega) (by omega))) ?_)
      rintro _ _ _ ⟨rfl, rfl, rfl⟩
      refine ⟨Suf.h, (fun _ h => h), ?_⟩
      skip
      refine th_two (j := 12) [7, 8, 9, 10, 11, 13, 14, 15] (by kernel_rfl) rfl ?_ ?_
      · refine (step_m rfl rfl (opg_call (xs := [_, _]) rfl (ref06_putSq hd6 g6 e7)) ?_)
        rintro _ _ J8 ⟨d7, f7, rfl, hd7, rfl, hJ8⟩
        refine ⟨Suf.h, hJ8, ?_⟩
        refine th_take rfl rfl (by kernel_rfl)  (opv_move rfl) ?_
        refine th_take rfl rfl (by kernel_rfl)  (opv_extract rfl rfl) ?_
        refine th_take rfl rfl (by kernel_rfl)  (opv_extract rfl rfl) ?_
        refine th_take rfl rfl (by kernel_rfl)  (opv_extract rfl rfl) ?_
        refine th_one (by kernel_rfl) (step_m rfl rfl opg_alloc ?_)
        rintro _ _ _ ⟨b11, rfl, rfl, rfl⟩
        refine ⟨Suf.h, (by assumption), ?_⟩
        refine th_one (by kernel_rfl) (step_m rfl rfl (opg_store rfl rfl rfl rfl rfl rfl) ?_)
        rintro _ _ _ ⟨rfl, rfl⟩
        refine ⟨Suf.h, (by assumption), ?_⟩
        refine th_take rfl rfl (by kernel_rfl)  (opv_assign rfl) ?_
        refine th_take rfl rfl (by kernel_rfl)  (opv_assign rfl) ?_
        refine th_done (by kernel_rfl) ?_
        exact tri_cutEnd _ ⟨b11, d7, f7, rfl, rfl, hd7, hJ8⟩ ⟨rfl, rfl, rfl, rfl, rfl, rfl, rfl, rfl, rfl, rfl, rfl, trivial⟩
      · refine (step_m rfl rfl opg_alloc ?_)
        rintro _ _ _ ⟨b11, rfl, rfl, rfl⟩
        refine ⟨Suf.h, (fun _ h => h), ?_⟩
        refine th_one (by kernel_rfl) (step_m rfl rfl (opg_call (xs := [_, _]) rfl (ref06_putSq hd6 g6 e7)) ?_)
        rintro _ _ J8 ⟨d7, f7, rfl, hd7, rfl, hJ8⟩
        refine ⟨Suf.h, hJ8, ?_⟩
        refine th_take rfl rfl (by kernel_rfl)  (opv_move rfl) ?_
        refine th_take rfl rfl (by kernel_rfl)  (opv_extract rfl rfl) ?_
        refine th_take rfl rfl (by kernel_rfl)  (opv_extract rfl rfl) ?_
        refine th_take rfl rfl (by kernel_rfl)  (opv_extract rfl rfl) ?_
        refine th_one (by kernel_rfl) (step_m rfl rfl (opg_store rfl rfl rfl rfl rfl rfl) ?_)
        rintro _ _ _ ⟨rfl, rfl⟩
        refine ⟨Suf.h, (by assumption), ?_⟩
        refine th_take rfl rfl (by kernel_rfl)  (opv_assign rfl) ?_
        refine th_take rfl rfl (by kernel_rfl)  (opv_assign rfl) ?_
        refine th_done (by kernel_rfl) ?_
        exact tri_cutEnd _ ⟨b11, d7, f7, rfl, rfl, hd7, hJ8⟩ ⟨rfl, rfl, rfl, rfl, rfl, rfl, rfl, rfl, rfl, rfl, rfl, trivial⟩
    · refine (step_m rfl rfl opg_alloc ?_)
      rintro _ _ _ ⟨b11, rfl, rfl, rfl⟩
      refine ⟨Suf.h, (fun _ h => h), ?_⟩
      refine th_one (by kernel_rfl) (step_m rfl rfl (opg_call (xs := [_, _, _]) rfl (ref08_square (hq1.mono (fun _ h => hJ7 (hJ6 (hJ5 (hJ4 (hJ3 (hJ2 (hJ1 (h))))))))) rfl (by omega) (by omega) (by omega) (by omega))) ?_)
      rintro _ _ _ ⟨rfl, rfl, rfl⟩
      refine ⟨Suf.h, (fun _ h => h), ?_⟩
      skip
      refine th_one (by kernel_rfl) (step_m rfl rfl (opg_call (xs := [_, _]) rfl (ref06_putSq hd6 g6 e7)) ?_)
      rintro _ _ J8 ⟨d7, f7, rfl, hd7, rfl, hJ8⟩
      refine ⟨Suf.h, hJ8, ?_⟩
      refine th_take rfl rfl (by kernel_rfl)  (opv_move rfl) ?_
      refine th_take rfl rfl (by kernel_rfl)  (opv_extract rfl rfl) ?_
      refine th_take rfl rfl (by kernel_rfl)  (opv_extract rfl rfl) ?_
      refine th_take rfl rfl (by kernel_rfl)  (opv_extract rfl rfl) ?_
      refine th_one (by kernel_rfl) (step_m rfl rfl (opg_store rfl rfl rfl rfl rfl rfl) ?_)
      rintro _ _ _ ⟨rfl, rfl⟩
      refine ⟨Suf.h, (by assumption), ?_⟩
      refine th_take rfl rfl (by kernel_rfl)  (opv_assign rfl) ?_
      refine th_take rfl rfl (by kernel_rfl)  (opv_assign rfl) ?_
      refine th_done (by kernel_rfl) ?_
      exact tri_cutEnd _ ⟨b11, d7, f7, rfl, rfl, hd7, hJ8⟩ ⟨rfl, rfl, rfl, rfl, rfl, rfl, rfl, rfl, rfl, rfl, rfl, trivial⟩
  rintro _ _ J8 ⟨b11, d7, f7, rfl, rfl, hd7, hJ8⟩
  skip
  refine tri_then ?_
  refine tri_seq ?_
  refine tri_seq ?_
  refine tri_region ?_
  refine tri_v (opv_move rfl) rfl ?_
  refine tri_v (opv_neq rfl rfl) rfl ?_
  refine tri_nil ?_
  refine tri_then ?_
  refine tri_cond_dec rfl (fun x7 => ?_) (fun x7 => ?_)
  · rw [if_neg x0, if_neg x1, if_neg x2, if_neg x3, if_neg x4, if_neg x5, if_neg x6, if_pos x7]
    refine tri_seq ?_
    refine tri_region ?_
    refine tri_v (opv_loadA rfl rfl rfl) rfl ?_
    refine tri_v (opv_buildA rfl rfl) rfl ?_
    refine tri_v (opv_move rfl) rfl ?_
    refine tri_g (opg_store rfl rfl rfl rfl rfl rfl) rfl ?_
    rintro _ _ _ ⟨rfl, rfl⟩
    refine tri_g (opg_store rfl rfl rfl rfl rfl rfl) rfl ?_
    rintro _ _ _ ⟨rfl, rfl⟩
    refine tri_v (opv_assign rfl) rfl ?_
    refine tri_nil ?_
    refine tri_then ?_
    refine tri_ret ?_
    refine tri_then_ret ?_
    refine tri_inBlock_ret ?_
    refine tri_then_ret ?_
    refine tri_then_ret ?_
    refine tri_inBlock_ret ?_
    refine tri_then_ret ?_
    refine tri_end A Suf.h rfl (.cons (rv_cellA rfl rfl rfl) (.cons (rv_cellA rfl rfl rfl) (.cons (rv_tmp rfl) .nil))) ?_
    exact ⟨a, cap, _, _, _, _, _, _, _, _, _, rfl, rfl, hs.mono (fun _ h => hJ8 (hJ7 (hJ6 (hJ5 (hJ4 (hJ3 (hJ2 (hJ1 (hJ0 (h)))))))))), rfl, (fun _ h => hJ8 (hJ7 (hJ6 (hJ5 (hJ4 (hJ3 (hJ2 (hJ1 (hJ0 (h))))))))))⟩
  skip
  refine tri_skip ?_
  refine tri_then ?_
  refine tri_seq ?_
  refine tri_region ?_
  refine tri_v (opv_loadA rfl rfl rfl) rfl ?_
  refine tri_g (opg_store rfl rfl rfl rfl rfl rfl) rfl ?_
  rintro _ _ _ ⟨rfl, rfl⟩
  refine tri_nil ?_
  refine tri_then ?_
  refine tri_region ?_
  refine tri_v (opv_move rfl) rfl ?_
  refine tri_v (opv_move rfl) rfl ?_
  refine tri_v (opv_indexAddrA rfl rfl (by decide) (by decide)) rfl ?_
  refine tri_g (opg_store rfl rfl rfl rfl rfl rfl) rfl ?_
  rintro _ _ _ ⟨rfl, rfl⟩
  refine tri_nil ?_
  refine tri_inBlock ?_
  refine tri_then ?_
  refine tri_drop ?_
  refine tri_region ?_
  refine tri_v (opv_move rfl) rfl ?_
  refine tri_v (opv_add rfl rfl (w64 (by omega) (by omega))) rfl ?_
  refine tri_v (opv_assign rfl) rfl ?_
  refine tri_nil ?_
  refine tri_then ?_
  refine tri_round ?_
  refine tri_seq ?_
  refine tri_seq ?_
  refine tri_region ?_
  refine tri_v (opv_move rfl) rfl ?_
  refine tri_v (opv_lss rfl rfl) rfl ?_
  refine tri_nil ?_
  refine tri_then ?_
  refine tri_cond_is rfl (by decide) ?_
  refine tri_skip ?_
  refine tri_then ?_
  refine tri_seq ?_
  refine tri_block ?_
  refine tri_seq ?_
  refine tri_cut (fun F' A' J => ∃ b11 d f, F' = [(1, .int .i64 n), (2, pt b2 0), (4, pt b4 0), (5, pt b5 0), (7, .slice a1 (R8.s16 ns n).length c1), (8, pt b8 0), (9, pt b9 0), (10, .int .i64 8), (11, pt b11 0), (12, .int .i64 p8.2.1), (13, .int .i64 p8.2.2)] ∧ A' = Box b11 [.slice d p8.1.length f, .int .i64 room] 26 :: Box b9 [.slice d7 p7.1.length f7, .int .i64 room] 26 :: Box b8 [.int .i64 p0.2.1, .int .i64 p1.2.1, .int .i64 p2.2.1, .int .i64 p3.2.1, .int .i64 p4.2.1, .int .i64 p5.2.1, .int .i64 p6.2.1, .int .i64 p7.2.1, .int .i64 0] 37 :: Box b5 [.int .i64 0, .int .i64 0, .int .i64 0, .int .i64 0, .int .i64 0, .int .i64 0, .int .i64 0, .int .i64 0, .int .i64 0] 37 :: Box b4 [.slice none 0 0, .int .i64 0] 26 :: Box b2 [.slice a ns.length cap, .int .i64 room] 26 :: A ∧ StA J d f p8.1 ∧ J8 ⊆ J) ?_ ?_
  · refine tri_draw [0, 1, 2, 3, 4, 5, 6, 7, 8, 9, 10, 11, 12, 13, 14, 15] rfl [] rfl mixed ?_
    refine th_take rfl rfl (by kernel_rfl)  (opv_loadA rfl rfl rfl) ?_
    refine th_take rfl rfl (by kernel_rfl)  (opv_move rfl) ?_
    refine th_take rfl rfl (by kernel_rfl)  (opv_move rfl) ?_
    refine th_take rfl rfl (by kernel_rfl)  (opv_quoE rfl rfl (by omega) (by omega) (by omega)) ?_
    refine th_take rfl rfl (by kernel_rfl)  (opv_move rfl) ?_
    refine th_take rfl rfl (by kernel_rfl)  (opv_remE rfl rfl (by omega) (by omega)) ?_
    refine th_two (j := 12) [6, 7, 8, 9, 10, 11, 13, 14, 15] (by kernel_rfl) rfl ?_ ?_
    · refine (step_m rfl rfl (opg_call (xs := [_, _, _]) rfl (ref08_square (hq1.mono (fun _ h => hJ8 (hJ7 (hJ6 (hJ5 (hJ4 (hJ3 (hJ2 (hJ1 (h)))))))))) rfl (by omega) (by omega) (by omega) (by omega))) ?_)
      rintro _ _ _ ⟨rfl, rfl, rfl⟩
      refine ⟨Suf.h, (fun _ h => h), ?_⟩
      skip
      refine th_two (j := 12) [7, 8, 9, 10, 11, 13, 14, 15] (by kernel_rfl) rfl ?_ ?_
      · refine (step_m rfl rfl (opg_call (xs := [_, _]) rfl (ref06_putSq hd7 g7 e8)) ?_)
        rintro _ _ J9 ⟨d8, f8, rfl, hd8, rfl, hJ9⟩
        refine ⟨Suf.h, hJ9, ?_⟩
        refine th_take rfl rfl (by kernel_rfl)  (opv_move rfl) ?_
        refine th_take rfl rfl (by kernel_rfl)  (opv_extract rfl rfl) ?_
        refine th_take rfl rfl (by kernel_rfl)  (opv_extract rfl rfl) ?_
        refine th_take rfl rfl (by kernel_rfl)  (opv_extract rfl rfl) ?_
        refine th_one (by kernel_rfl) (step_m rfl rfl opg_alloc ?_)
        rintro _ _ _ ⟨b11, rfl, rfl, rfl⟩
        refine ⟨Suf.h, (by assumption), ?_⟩
        refine th_one (by kernel_rfl) (step_m rfl rfl (opg_store rfl rfl rfl rfl rfl rfl) ?_)
        rintro _ _ _ ⟨rfl, rfl⟩
        refine ⟨Suf.h, (by assumption), ?_⟩
        refine th_take rfl rfl (by kernel_rfl)  (opv_assign rfl) ?_
        refine th_take rfl rfl (by kernel_rfl)  (opv_assign rfl) ?_
        refine th_done (by kernel_rfl) ?_
        exact tri_cutEnd _ ⟨b11, d8, f8, rfl, rfl, hd8, hJ9⟩ ⟨rfl, rfl, rfl, rfl, rfl, rfl, rfl, rfl, rfl, rfl, rfl, trivial⟩
      · refine (step_m rfl rfl opg_alloc ?_)
        rintro _ _ _ ⟨b11, rfl, rfl, rfl⟩
        refine ⟨Suf.h, (fun _ h => h), ?_⟩
        refine th_one (by kernel_rfl) (step_m rfl rfl (opg_call (xs := [_, _]) rfl (ref06_putSq hd7 g7 e8)) ?_)
        rintro _ _ J9 ⟨d8, f8, rfl, hd8, rfl, hJ9⟩
        refine ⟨Suf.h, hJ9, ?_⟩
        refine th_take rfl rfl (by kernel_rfl)  (opv_move rfl) ?_
        refine th_take rfl rfl (by kernel_rfl)  (opv_extract rfl rfl) ?_
        refine th_take rfl rfl (by kernel_rfl)  (opv_extract rfl rfl) ?_
        refine th_take rfl rfl (by kernel_rfl)  (opv_extract rfl rfl) ?_
        refine th_one (by kernel_rfl) (step_m rfl rfl (opg_store rfl rfl rfl rfl rfl rfl) ?_)
        rintro _ _ _ ⟨rfl, rfl⟩
        refine ⟨Suf.h, (by assumption), ?_⟩
        refine th_take rfl rfl (by kernel_rfl)  (opv_assign rfl) ?_
        refine th_take rfl rfl (by kernel_rfl)  (opv_assign rfl) ?_
        refine th_done (by kernel_rfl) ?_
        exact tri_cutEnd _ ⟨b11, d8, f8, rfl, rfl, hd8, hJ9⟩ ⟨rfl, rfl, rfl, rfl, rfl, rfl, rfl, rfl, rfl, rfl, rfl, trivial⟩
    · refine (step_m rfl rfl opg_alloc ?_)
      rintro _ _ _ ⟨b11, rfl, rfl, rfl⟩
      refine ⟨Suf.h, (fun _ h => h), ?_⟩
      refine th_one (by kernel_rfl) (step_m rfl rfl (opg_call (xs := [_, _, _]) rfl (ref08_square (hq1.mono (fun _ h => hJ8 (hJ7 (hJ6 (hJ5 (hJ4 (hJ3 (hJ2 (hJ1 (h)))))))))) rfl (by omega) (by omega) (by omega) (by omega))) ?_)
      rintro _ _ _ ⟨rfl, rfl, rfl⟩
      refine ⟨Suf.h, (fun _ h => h), ?_⟩
      skip
      refine th_one (by kernel_rfl) (step_m rfl rfl (opg_call (xs := [_, _]) rfl (ref06_putSq hd7 g7 e8)) ?_)
      rintro _ _ J9 ⟨d8, f8, rfl, hd8, rfl, hJ9⟩
      refine ⟨Suf.h, hJ9, ?_⟩
      refine th_take rfl rfl (by kernel_rfl)  (opv_move rfl) ?_
      refine th_take rfl rfl (by kernel_rfl)  (opv_extract rfl rfl) ?_
      refine th_take rfl rfl (by kernel_rfl)  (opv_extract rfl rfl) ?_
      refine th_take rfl rfl (by kernel_rfl)  (opv_extract rfl rfl) ?_
      refine th_one (by kernel_rfl) (step_m rfl rfl (opg_store rfl rfl rfl rfl rfl rfl) ?_)
      rintro _ _ _ ⟨rfl, rfl⟩
      refine ⟨Suf.h, (by assumption), ?_⟩
      refine th_take rfl rfl (by kernel_rfl)  (opv_assign rfl) ?_
      refine th_take rfl rfl (by kernel_rfl)  (opv_assign rfl) ?_
      refine th_done (by kernel_rfl) ?_
      exact tri_cutEnd _ ⟨b11, d8, f8, rfl, rfl, hd8, hJ9⟩ ⟨rfl, rfl, rfl, rfl, rfl, rfl, rfl, rfl, rfl, rfl, rfl, trivial⟩
  rintro _ _ J9 ⟨b11, d8, f8, rfl, rfl, hd8, hJ9⟩
  skip
  refine tri_then ?_
  refine tri_seq ?_
  refine tri_seq ?_
  refine tri_region ?_
  refine tri_v (opv_move rfl) rfl ?_
  refine tri_v (opv_neq rfl rfl) rfl ?_
  refine tri_nil ?_
  refine tri_then ?_
  refine tri_cond_dec rfl (fun x8 => ?_) (fun x8 => ?_)
  · rw [if_neg x0, if_neg x1, if_neg x2, if_neg x3, if_neg x4, if_neg x5, if_neg x6, if_neg x7, if_pos x8]
    refine tri_seq ?_
    refine tri_region ?_
    refine tri_v (opv_loadA rfl rfl rfl) rfl ?_
    refine tri_v (opv_buildA rfl rfl) rfl ?_
    refine tri_v (opv_move rfl) rfl ?_
    refine tri_g (opg_store rfl rfl rfl rfl rfl rfl) rfl ?_
    rintro _ _ _ ⟨rfl, rfl⟩
    refine tri_g (opg_store rfl rfl rfl rfl rfl rfl) rfl ?_
    rintro _ _ _ ⟨rfl, rfl⟩
    refine tri_v (opv_assign rfl) rfl ?_
    refine tri_nil ?_
    refine tri_then ?_
    refine tri_ret ?_
    refine tri_then_ret ?_
    refine tri_inBlock_ret ?_
    refine tri_then_ret ?_
    refine tri_then_ret ?_
    refine tri_inBlock_ret ?_
    refine tri_then_ret ?_
    refine tri_end A Suf.h rfl (.cons (rv_cellA rfl rfl rfl) (.cons (rv_cellA rfl rfl rfl) (.cons (rv_tmp rfl) .nil))) ?_
    exact ⟨a, cap, _, _, _, _, _, _, _, _, _, rfl, rfl, hs.mono (fun _ h => hJ9 (hJ8 (hJ7 (hJ6 (hJ5 (hJ4 (hJ3 (hJ2 (hJ1 (hJ0 (h))))))))))), rfl, (fun _ h => hJ9 (hJ8 (hJ7 (hJ6 (hJ5 (hJ4 (hJ3 (hJ2 (hJ1 (hJ0 (h)))))))))))⟩
  skip
  refine tri_skip ?_
  refine tri_then ?_
  refine tri_seq ?_
  refine tri_region ?_
  refine tri_v (opv_loadA rfl rfl rfl) rfl ?_
  refine tri_g (opg_store rfl rfl rfl rfl rfl rfl) rfl ?_
  rintro _ _ _ ⟨rfl, rfl⟩
  refine tri_nil ?_
  refine tri_then ?_
  refine tri_region ?_
  refine tri_v (opv_move rfl) rfl ?_
  refine tri_v (opv_move rfl) rfl ?_
  refine tri_v (opv_indexAddrA rfl rfl (by decide) (by decide)) rfl ?_
  refine tri_g (opg_store rfl rfl rfl rfl rfl rfl) rfl ?_
  rintro _ _ _ ⟨rfl, rfl⟩
  refine tri_nil ?_
  refine tri_inBlock ?_
  refine tri_then ?_
  refine tri_drop ?_
  rw [if_neg x0, if_neg x1, if_neg x2, if_neg x3, if_neg x4, if_neg x5, if_neg x6, if_neg x7, if_neg x8]
  refine tri_region ?_
  refine tri_v (opv_move rfl) rfl ?_
  refine tri_v (opv_add rfl rfl (w64 (by omega) (by omega))) rfl ?_
  refine tri_v (opv_assign rfl) rfl ?_
  refine tri_nil ?_
  refine tri_then ?_
  refine tri_round ?_
  refine tri_seq ?_
  refine tri_seq ?_
  refine tri_region ?_
  refine tri_v (opv_move rfl) rfl ?_
  refine tri_v (opv_lss rfl rfl) rfl ?_
  refine tri_nil ?_
  refine tri_then ?_
  refine tri_cond_not rfl (by decide) ?_
  refine tri_exit ?_
  refine tri_then_exit ?_
  refine tri_then_exit ?_
  refine tri_inBlock_hit rfl ?_
  refine tri_then ?_
  refine tri_seq ?_
  refine tri_perm (A := ?a1_0 :: ?a1_1 :: ?a1_2 :: ?a1_3 :: ?T1) (B := ?a1_2 :: ?a1_3 :: ?a1_0 :: ?a1_1 :: ?T1) (by exact permL [2, 3, 0, 1] [?a1_0, ?a1_1, ?a1_2, ?a1_3] ?T1 (by decide) rfl) ?_
  skip
  refine tri_draw [0, 1, 2, 3, 4] rfl [_, _] rfl mixed ?_
  refine th_take rfl rfl (by kernel_rfl)  (opv_loadA rfl rfl rfl) ?_
  refine th_take rfl rfl (by kernel_rfl)  (opv_loadA rfl rfl rfl) ?_
  refine th_one (by kernel_rfl) (step_m rfl rfl (opg_store rfl rfl rfl rfl rfl rfl) ?_)
  rintro _ _ _ ⟨rfl, rfl⟩
  refine ⟨Suf.h, (fun _ h => h), ?_⟩
  refine th_one (by kernel_rfl) (step_m rfl rfl (opg_store rfl rfl rfl rfl rfl rfl) ?_)
  rintro _ _ _ ⟨rfl, rfl⟩
  refine ⟨Suf.h, (fun _ h => h), ?_⟩
  refine th_take rfl rfl (by kernel_rfl)  (opv_assign rfl) ?_
  refine th_done (by kernel_rfl) ?_
  refine tri_then ?_
  refine tri_ret ?_
  refine tri_end A Suf.h rfl (.cons (rv_cellA rfl rfl rfl) (.cons (rv_cellA rfl rfl rfl) (.cons (rv_tmp rfl) .nil))) ?_
  exact ⟨d8, f8, _, _, _, _, _, _, _, _, _, rfl, rfl, hd8, rfl, (fun _ h => hJ9 (hJ8 (hJ7 (hJ6 (hJ5 (hJ4 (hJ3 (hJ2 (hJ1 (hJ0 h))))))))))⟩
set_option maxRecDepth 100000 in
theorem ref08_nine {ns : List Node} {a : Option Addr} {cap : Nat} {room n : Int} (hs : StA I a cap ns) (hn : ns.length ≤ 1000000000) (hr : R6.Rng ns) :
    FnC Try.prog 18 [storeV a ns.length cap room, .int .i64 n].toArray A I (Nine (R8.nine ns room n) room A I) := by
  skip
  refine fn_enter2 Try.func18 rfl Try.ntmps18 rfl fun w0 => ?_
  refine tri_seq ?_
  refine tri_region ?_
  refine tri_g (opg_box_agg rfl) rfl ?_
  rintro _ _ _ ⟨b2, rfl, rfl, rfl⟩
  refine tri_g opg_alloc rfl ?_
  rintro _ _ _ ⟨b4, rfl, rfl, rfl⟩
  refine tri_g opg_alloc rfl ?_
  rintro _ _ _ ⟨b5, rfl, rfl, rfl⟩
  refine tri_v (opv_assign rfl) rfl ?_
  refine tri_nil ?_
  refine tri_then ?_
  refine tri_seq ?_
  refine tri_seq ?_
  refine tri_region ?_
  refine tri_v (opv_loadA rfl rfl rfl) rfl ?_
  refine tri_v (opv_move rfl) rfl ?_
  refine tri_g (opg_call (xs := [_, _, _]) rfl (ref08_may (lv := 2) hs.sl hn hr)) rfl ?_
  rintro _ _ _ ⟨rfl, rfl, rfl⟩
  refine tri_v (opv_notD rfl) rfl ?_
  refine tri_nil ?_
  refine tri_then ?_
  refine tri_cond_dec rfl (fun h => ?_) (fun h => ?_)
  · refine tri_seq ?_
    refine tri_region ?_
    refine tri_v (opv_loadA rfl rfl rfl) rfl ?_
    refine tri_v (opv_buildA rfl rfl) rfl ?_
    refine tri_g (opg_store rfl rfl rfl rfl rfl rfl) rfl ?_
    rintro _ _ _ ⟨rfl, rfl⟩
    refine tri_g (opg_store rfl rfl rfl rfl rfl rfl) rfl ?_
    rintro _ _ _ ⟨rfl, rfl⟩
    refine tri_v (opv_assign rfl) rfl ?_
    refine tri_nil ?_
    refine tri_then ?_
    refine tri_ret ?_
    refine tri_then_ret ?_
    refine tri_end A Suf.h rfl (.cons (rv_cellA rfl rfl rfl) (.cons (rv_cellA rfl rfl rfl) (.cons (rv_tmp rfl) .nil))) ?_
    rw [show R8.nine ns room n = (ns, R8.z9, 1) from if_neg h]
    exact ⟨a, cap, _, _, _, _, _, _, _, _, _, rfl, rfl, hs, rfl, fun _ h => h⟩
  · have h' : R8.may ns room n 2 := Decidable.not_not.1 h
    rw [show R8.nine ns room n = R8.all ns room n from if_pos h']
    have hk := h'.1.kids h'.2.1 (by have := h'.2.2; omega)
    refine tri_skip ?_
    refine tri_then ?_
    refine tri_seq ?_
    refine tri_region ?_
    refine tri_v (opv_loadA rfl rfl rfl) rfl ?_
    refine tri_v (opv_move rfl) rfl ?_
    refine tri_g (opg_call (xs := [_, _]) rfl (ref08_all hs (h'.1.good (by have := h'.1.1.2.1; omega)) hk)) rfl ?_
    rintro _ _ J ⟨a2, c2, q0, q1, q2, q3, q4, q5, q6, q7, q8, hq9, rfl, hq2, rfl, hJ⟩
    refine tri_v (opv_extract rfl rfl) rfl ?_
    refine tri_v (opv_extract rfl rfl) rfl ?_
    refine tri_v (opv_extract rfl rfl) rfl ?_
    refine tri_g (opg_store rfl rfl rfl rfl rfl rfl) rfl ?_
    rintro _ _ _ ⟨rfl, rfl⟩
    refine tri_g (opg_store rfl rfl rfl rfl rfl rfl) rfl ?_
    rintro _ _ _ ⟨rfl, rfl⟩
    refine tri_v (opv_assign rfl) rfl ?_
    refine tri_nil ?_
    refine tri_then ?_
    refine tri_ret ?_
    refine tri_end A Suf.h rfl (.cons (rv_cellA rfl rfl rfl) (.cons (rv_cellA rfl rfl rfl) (.cons (rv_tmp rfl) .nil))) ?_
    exact ⟨a2, c2, q0, q1, q2, q3, q4, q5, q6, q7, q8, hq9, rfl, hq2, rfl, hJ⟩
end Go.GL

set_option linter.unusedVariables false
namespace Go.GL
open Go.Proofs
attribute [local irreducible] wpList Code.wp Exit.then Exit.inBlock Ends Tri TriH OpV OpG FnC epf wpAnyH
variable {A : List Asrt} {I : List Chunk}
set_option maxHeartbeats 2000000 in
set_option maxRecDepth 100000 in
theorem base_sixteen {ns : List Node} {a : Option Addr} {cap bx : Nat} {room n : Int} {mv : Value} (hk : R8.Kid ns n) :
    FnC Try.prog 60 [.agg [pt bx 0].toArray, .int .i64 n].toArray (Box bx [.slice a ns.length cap, .int .i64 room, mv] 73 :: Row a cap ns.length 45 6 (encs ns) :: A) I (fun v A' I' => v = .agg (ints (R8.s16 ns n)).toArray ∧ A' = (Box bx [.slice a ns.length cap, .int .i64 room, mv] 73 :: Row a cap ns.length 45 6 (encs ns) :: A) ∧ I = I') := by
  obtain ⟨⟨hn0, hn1⟩, ⟨ha0, ha1⟩, ⟨hb0, hb1⟩, ⟨hc0, hc1⟩, ⟨hd0, hd1⟩⟩ := hk
  unfold R6.nd at ha0 ha1 hb0 hb1 hc0 hc1 hd0 hd1
  skip
  refine fn_enter2 Try.func60 rfl Try.ntmps60 rfl fun w0 => ?_
  refine tri_seq ?_
  refine tri_region ?_
  refine tri_g (opg_box_agg rfl) rfl ?_
  rintro _ _ _ ⟨b2, rfl, rfl, rfl⟩
  refine tri_g opg_alloc rfl ?_
  rintro _ _ _ ⟨b4, rfl, rfl, rfl⟩
  refine tri_nil ?_
  refine tri_then ?_
  refine tri_seq ?_
  refine tri_seq ?_
  refine tri_region ?_
  refine tri_v (opv_fieldAddr rfl rfl) rfl ?_
  refine tri_v (opv_load1 rfl rfl rfl) rfl ?_
  refine tri_v (opv_nilCheck rfl) rfl ?_
  refine tri_v (opv_fieldAddr rfl rfl) rfl ?_
  refine tri_v (opv_fieldAddr rfl rfl) rfl ?_
  refine tri_v (opv_load1 rfl rfl rfl) rfl ?_
  refine tri_v (opv_move rfl) rfl ?_
  refine tri_v (opv_indexAddrR rfl rfl (by omega) (by omega)) rfl ?_
  refine tri_v (opv_fieldAddrR rfl (by omega) rfl) rfl ?_
  refine tri_v (opv_loadRXA rfl rfl (by omega) rfl rfl rfl) rfl ?_
  refine tri_v (opv_move rfl) rfl ?_
  refine tri_nil ?_
  refine tri_then ?_
  refine tri_block ?_
  refine tri_rounds 5 ?_
  refine tri_round ?_
  refine tri_seq ?_
  refine tri_region ?_
  refine tri_v (opv_lss rfl rfl) rfl ?_
  refine tri_nil ?_
  refine tri_then ?_
  refine tri_seq ?_
  refine tri_cond_is rfl (by decide) ?_
  refine tri_skip ?_
  refine tri_then ?_
  refine tri_seq ?_
  refine tri_block ?_
  refine tri_seq ?_
  refine tri_region ?_
  refine tri_v (opv_move rfl) rfl ?_
  refine tri_v (opv_index rfl rfl (by decide) (by decide) rfl rfl) rfl ?_
  refine tri_v (opv_assign rfl) rfl ?_
  refine tri_v (opv_assign rfl) rfl ?_
  refine tri_nil ?_
  refine tri_then ?_
  refine tri_seq ?_
  refine tri_region ?_
  refine tri_v (opv_fieldAddr rfl rfl) rfl ?_
  refine tri_v (opv_load1 rfl rfl rfl) rfl ?_
  refine tri_v (opv_nilCheck rfl) rfl ?_
  refine tri_v (opv_fieldAddr rfl rfl) rfl ?_
  refine tri_v (opv_fieldAddr rfl rfl) rfl ?_
  refine tri_v (opv_load1 rfl rfl rfl) rfl ?_
  refine tri_v (opv_move rfl) rfl ?_
  refine tri_v (opv_indexAddrR rfl rfl (by omega) (by omega)) rfl ?_
  refine tri_v (opv_fieldAddrR rfl (by omega) rfl) rfl ?_
  refine tri_v (opv_loadRXA rfl rfl (by omega) rfl rfl rfl) rfl ?_
  refine tri_v (opv_move rfl) rfl ?_
  refine tri_nil ?_
  refine tri_then ?_
  refine tri_block ?_
  refine tri_rounds 5 ?_
  refine tri_round ?_
  refine tri_seq ?_
  refine tri_region ?_
  refine tri_v (opv_lss rfl rfl) rfl ?_
  refine tri_nil ?_
  refine tri_then ?_
  refine tri_seq ?_
  refine tri_cond_is rfl (by decide) ?_
  refine tri_skip ?_
  refine tri_then ?_
  refine tri_seq ?_
  refine tri_block ?_
  refine tri_seq ?_
  refine tri_region ?_
  refine tri_v (opv_move rfl) rfl ?_
  refine tri_v (opv_index rfl rfl (by decide) (by decide) rfl rfl) rfl ?_
  refine tri_v (opv_assign rfl) rfl ?_
  refine tri_v (opv_assign rfl) rfl ?_
  refine tri_nil ?_
  refine tri_then ?_
  refine tri_region ?_
  refine tri_v (opv_move rfl) rfl ?_
  refine tri_v (opv_quoE rfl rfl (by omega) (by omega) (by omega)) rfl ?_
  refine tri_v (opv_mul rfl rfl (w64 (by omega) (by omega))) rfl ?_
  refine tri_v (opv_move rfl) rfl ?_
  refine tri_v (opv_quoE rfl rfl (by omega) (by omega) (by omega)) rfl ?_
  refine tri_v (opv_add rfl rfl (w64 (by omega) (by omega))) rfl ?_
  refine tri_v (opv_mul rfl rfl (w64 (by omega) (by omega))) rfl ?_
  refine tri_v (opv_move rfl) rfl ?_
  refine tri_v (opv_remE rfl rfl (by omega) (by omega)) rfl ?_
  refine tri_v (opv_mul rfl rfl (w64 (by omega) (by omega))) rfl ?_
  refine tri_v (opv_add rfl rfl (w64 (by omega) (by omega))) rfl ?_
  refine tri_v (opv_move rfl) rfl ?_
  refine tri_v (opv_remE rfl rfl (by omega) (by omega)) rfl ?_
  refine tri_v (opv_add rfl rfl (w64 (by omega) (by omega))) rfl ?_
  refine tri_v (opv_move rfl) rfl ?_
  refine tri_v (opv_indexAddrA rfl rfl (by decide) (by decide)) rfl ?_
  refine tri_g (opg_store rfl rfl rfl rfl rfl rfl) rfl ?_
  rintro _ _ _ ⟨rfl, rfl⟩
  refine tri_nil ?_
  refine tri_inBlock ?_
  refine tri_then ?_
  refine tri_region ?_
  refine tri_v (opv_add rfl rfl (w64 (by omega) (by omega))) rfl ?_
  refine tri_v (opv_move rfl) rfl ?_
  refine tri_nil ?_
  refine tri_then ?_
  refine tri_round ?_
  refine tri_seq ?_
  refine tri_region ?_
  refine tri_v (opv_lss rfl rfl) rfl ?_
  refine tri_nil ?_
  refine tri_then ?_
  refine tri_seq ?_
  skip
  refine tri_cond_is rfl (by decide) ?_
  refine tri_skip ?_
  refine tri_then ?_
  refine tri_seq ?_
  refine tri_block ?_
  refine tri_seq ?_
  refine tri_region ?_
  refine tri_v (opv_move rfl) rfl ?_
  refine tri_v (opv_index rfl rfl (by decide) (by decide) rfl rfl) rfl ?_
  refine tri_v (opv_assign rfl) rfl ?_
  refine tri_v (opv_assign rfl) rfl ?_
  refine tri_nil ?_
  refine tri_then ?_
  refine tri_region ?_
  refine tri_v (opv_move rfl) rfl ?_
  refine tri_v (opv_quoE rfl rfl (by omega) (by omega) (by omega)) rfl ?_
  refine tri_v (opv_mul rfl rfl (w64 (by omega) (by omega))) rfl ?_
  refine tri_v (opv_move rfl) rfl ?_
  refine tri_v (opv_quoE rfl rfl (by omega) (by omega) (by omega)) rfl ?_
  refine tri_v (opv_add rfl rfl (w64 (by omega) (by omega))) rfl ?_
  refine tri_v (opv_mul rfl rfl (w64 (by omega) (by omega))) rfl ?_
  refine tri_v (opv_move rfl) rfl ?_
  refine tri_v (opv_remE rfl rfl (by omega) (by omega)) rfl ?_
  refine tri_v (opv_mul rfl rfl (w64 (by omega) (by omega))) rfl ?_
  refine tri_v (opv_add rfl rfl (w64 (by omega) (by omega))) rfl ?_
  refine tri_v (opv_move rfl) rfl ?_
  refine tri_v (opv_remE rfl rfl (by omega) (by omega)) rfl ?_
  refine tri_v (opv_add rfl rfl (w64 (by omega) (by omega))) rfl ?_
  refine tri_v (opv_move rfl) rfl ?_
  refine tri_v (opv_indexAddrA rfl rfl (by decide) (by decide)) rfl ?_
  refine tri_g (opg_store rfl rfl rfl rfl rfl rfl) rfl ?_
  rintro _ _ _ ⟨rfl, rfl⟩
  refine tri_nil ?_
  refine tri_inBlock ?_
  refine tri_then ?_
  refine tri_region ?_
  refine tri_v (opv_add rfl rfl (w64 (by omega) (by omega))) rfl ?_
  refine tri_v (opv_move rfl) rfl ?_
  refine tri_nil ?_
  refine tri_then ?_
  refine tri_round ?_
  refine tri_seq ?_
  refine tri_region ?_
  refine tri_v (opv_lss rfl rfl) rfl ?_
  refine tri_nil ?_
  refine tri_then ?_
  refine tri_seq ?_
  skip
  refine tri_cond_is rfl (by decide) ?_
  refine tri_skip ?_
  refine tri_then ?_
  refine tri_seq ?_
  refine tri_block ?_
  refine tri_seq ?_
  refine tri_region ?_
  refine tri_v (opv_move rfl) rfl ?_
  refine tri_v (opv_index rfl rfl (by decide) (by decide) rfl rfl) rfl ?_
  refine tri_v (opv_assign rfl) rfl ?_
  refine tri_v (opv_assign rfl) rfl ?_
  refine tri_nil ?_
  refine tri_then ?_
  refine tri_region ?_
  refine tri_v (opv_move rfl) rfl ?_
  refine tri_v (opv_quoE rfl rfl (by omega) (by omega) (by omega)) rfl ?_
  refine tri_v (opv_mul rfl rfl (w64 (by omega) (by omega))) rfl ?_
  refine tri_v (opv_move rfl) rfl ?_
  refine tri_v (opv_quoE rfl rfl (by omega) (by omega) (by omega)) rfl ?_
  refine tri_v (opv_add rfl rfl (w64 (by omega) (by omega))) rfl ?_
  refine tri_v (opv_mul rfl rfl (w64 (by omega) (by omega))) rfl ?_
  refine tri_v (opv_move rfl) rfl ?_
  refine tri_v (opv_remE rfl rfl (by omega) (by omega)) rfl ?_
  refine tri_v (opv_mul rfl rfl (w64 (by omega) (by omega))) rfl ?_
  refine tri_v (opv_add rfl rfl (w64 (by omega) (by omega))) rfl ?_
  refine tri_v (opv_move rfl) rfl ?_
  refine tri_v (opv_remE rfl rfl (by omega) (by omega)) rfl ?_
  refine tri_v (opv_add rfl rfl (w64 (by omega) (by omega))) rfl ?_
  refine tri_v (opv_move rfl) rfl ?_
  refine tri_v (opv_indexAddrA rfl rfl (by decide) (by decide)) rfl ?_
  refine tri_g (opg_store rfl rfl rfl rfl rfl rfl) rfl ?_
  rintro _ _ _ ⟨rfl, rfl⟩
  refine tri_nil ?_
  refine tri_inBlock ?_
  refine tri_then ?_
  refine tri_region ?_
  refine tri_v (opv_add rfl rfl (w64 (by omega) (by omega))) rfl ?_
  refine tri_v (opv_move rfl) rfl ?_
  refine tri_nil ?_
  refine tri_then ?_
  refine tri_round ?_
  refine tri_seq ?_
  refine tri_region ?_
  refine tri_v (opv_lss rfl rfl) rfl ?_
  refine tri_nil ?_
  refine tri_then ?_
  refine tri_seq ?_
  skip
  refine tri_cond_is rfl (by decide) ?_
  refine tri_skip ?_
  refine tri_then ?_
  refine tri_seq ?_
  refine tri_block ?_
  refine tri_seq ?_
  refine tri_region ?_
  refine tri_v (opv_move rfl) rfl ?_
  refine tri_v (opv_index rfl rfl (by decide) (by decide) rfl rfl) rfl ?_
  refine tri_v (opv_assign rfl) rfl ?_
  refine tri_v (opv_assign rfl) rfl ?_
  refine tri_nil ?_
  refine tri_then ?_
  refine tri_region ?_
  refine tri_v (opv_move rfl) rfl ?_
  refine tri_v (opv_quoE rfl rfl (by omega) (by omega) (by omega)) rfl ?_
  refine tri_v (opv_mul rfl rfl (w64 (by omega) (by omega))) rfl ?_
  refine tri_v (opv_move rfl) rfl ?_
  refine tri_v (opv_quoE rfl rfl (by omega) (by omega) (by omega)) rfl ?_
  refine tri_v (opv_add rfl rfl (w64 (by omega) (by omega))) rfl ?_
  refine tri_v (opv_mul rfl rfl (w64 (by omega) (by omega))) rfl ?_
  refine tri_v (opv_move rfl) rfl ?_
  refine tri_v (opv_remE rfl rfl (by omega) (by omega)) rfl ?_
  refine tri_v (opv_mul rfl rfl (w64 (by omega) (by omega))) rfl ?_
  refine tri_v (opv_add rfl rfl (w64 (by omega) (by omega))) rfl ?_
  refine tri_v (opv_move rfl) rfl ?_
  refine tri_v (opv_remE rfl rfl (by omega) (by omega)) rfl ?_
  refine tri_v (opv_add rfl rfl (w64 (by omega) (by omega))) rfl ?_
  refine tri_v (opv_move rfl) rfl ?_
  refine tri_v (opv_indexAddrA rfl rfl (by decide) (by decide)) rfl ?_
  refine tri_g (opg_store rfl rfl rfl rfl rfl rfl) rfl ?_
  rintro _ _ _ ⟨rfl, rfl⟩
  refine tri_nil ?_
  refine tri_inBlock ?_
  refine tri_then ?_
  refine tri_region ?_
  refine tri_v (opv_add rfl rfl (w64 (by omega) (by omega))) rfl ?_
  refine tri_v (opv_move rfl) rfl ?_
  refine tri_nil ?_
  refine tri_then ?_
  refine tri_round ?_
  refine tri_seq ?_
  refine tri_region ?_
  refine tri_v (opv_lss rfl rfl) rfl ?_
  refine tri_nil ?_
  refine tri_then ?_
  refine tri_seq ?_
  refine tri_cond_not rfl (by decide) ?_
  refine tri_exit ?_
  refine tri_then_exit ?_
  refine tri_then_exit ?_
  refine tri_inBlock_hit rfl ?_
  refine tri_inBlock ?_
  refine tri_then ?_
  refine tri_region ?_
  refine tri_v (opv_add rfl rfl (w64 (by omega) (by omega))) rfl ?_
  refine tri_v (opv_move rfl) rfl ?_
  refine tri_nil ?_
  refine tri_then ?_
  refine tri_round ?_
  refine tri_seq ?_
  refine tri_region ?_
  refine tri_v (opv_lss rfl rfl) rfl ?_
  refine tri_nil ?_
  refine tri_then ?_
  refine tri_seq ?_
  refine tri_cond_is rfl (by decide) ?_
  refine tri_skip ?_
  refine tri_then ?_
  refine tri_seq ?_
  refine tri_block ?_
  refine tri_seq ?_
  refine tri_region ?_
  refine tri_v (opv_move rfl) rfl ?_
  refine tri_v (opv_index rfl rfl (by decide) (by decide) rfl rfl) rfl ?_
  refine tri_v (opv_assign rfl) rfl ?_
  refine tri_v (opv_assign rfl) rfl ?_
  refine tri_nil ?_
  refine tri_then ?_
  refine tri_seq ?_
  refine tri_region ?_
  refine tri_v (opv_fieldAddr rfl rfl) rfl ?_
  refine tri_v (opv_load1 rfl rfl rfl) rfl ?_
  refine tri_v (opv_nilCheck rfl) rfl ?_
  refine tri_v (opv_fieldAddr rfl rfl) rfl ?_
  refine tri_v (opv_fieldAddr rfl rfl) rfl ?_
  refine tri_v (opv_load1 rfl rfl rfl) rfl ?_
  refine tri_v (opv_move rfl) rfl ?_
  refine tri_v (opv_indexAddrR rfl rfl (by omega) (by omega)) rfl ?_
  refine tri_v (opv_fieldAddrR rfl (by omega) rfl) rfl ?_
  refine tri_v (opv_loadRXA rfl rfl (by omega) rfl rfl rfl) rfl ?_
  refine tri_v (opv_move rfl) rfl ?_
  refine tri_nil ?_
  refine tri_then ?_
  refine tri_block ?_
  refine tri_rounds 5 ?_
  refine tri_round ?_
  refine tri_seq ?_
  refine tri_region ?_
  refine tri_v (opv_lss rfl rfl) rfl ?_
  refine tri_nil ?_
  refine tri_then ?_
  refine tri_seq ?_
  refine tri_cond_is rfl (by decide) ?_
  refine tri_skip ?_
  refine tri_then ?_
  refine tri_seq ?_
  refine tri_block ?_
  refine tri_seq ?_
  refine tri_region ?_
  refine tri_v (opv_move rfl) rfl ?_
  refine tri_v (opv_index rfl rfl (by decide) (by decide) rfl rfl) rfl ?_
  refine tri_v (opv_assign rfl) rfl ?_
  refine tri_v (opv_assign rfl) rfl ?_
  refine tri_nil ?_
  refine tri_then ?_
  refine tri_region ?_
  refine tri_v (opv_move rfl) rfl ?_
  refine tri_v (opv_quoE rfl rfl (by omega) (by omega) (by omega)) rfl ?_
  refine tri_v (opv_mul rfl rfl (w64 (by omega) (by omega))) rfl ?_
  refine tri_v (opv_move rfl) rfl ?_
  refine tri_v (opv_quoE rfl rfl (by omega) (by omega) (by omega)) rfl ?_
  refine tri_v (opv_add rfl rfl (w64 (by omega) (by omega))) rfl ?_
  refine tri_v (opv_mul rfl rfl (w64 (by omega) (by omega))) rfl ?_
  refine tri_v (opv_move rfl) rfl ?_
  refine tri_v (opv_remE rfl rfl (by omega) (by omega)) rfl ?_
  refine tri_v (opv_mul rfl rfl (w64 (by omega) (by omega))) rfl ?_
  refine tri_v (opv_add rfl rfl (w64 (by omega) (by omega))) rfl ?_
  refine tri_v (opv_move rfl) rfl ?_
  refine tri_v (opv_remE rfl rfl (by omega) (by omega)) rfl ?_
  refine tri_v (opv_add rfl rfl (w64 (by omega) (by omega))) rfl ?_
  refine tri_v (opv_move rfl) rfl ?_
  refine tri_v (opv_indexAddrA rfl rfl (by decide) (by decide)) rfl ?_
  refine tri_g (opg_store rfl rfl rfl rfl rfl rfl) rfl ?_
  rintro _ _ _ ⟨rfl, rfl⟩
  refine tri_nil ?_
  refine tri_inBlock ?_
  refine tri_then ?_
  refine tri_region ?_
  refine tri_v (opv_add rfl rfl (w64 (by omega) (by omega))) rfl ?_
  refine tri_v (opv_move rfl) rfl ?_
  refine tri_nil ?_
  refine tri_then ?_
  refine tri_round ?_
  refine tri_seq ?_
  refine tri_region ?_
  refine tri_v (opv_lss rfl rfl) rfl ?_
  refine tri_nil ?_
  refine tri_then ?_
  refine tri_seq ?_
  skip
  refine tri_cond_is rfl (by decide) ?_
  refine tri_skip ?_
  refine tri_then ?_
  refine tri_seq ?_
  refine tri_block ?_
  refine tri_seq ?_
  refine tri_region ?_
  refine tri_v (opv_move rfl) rfl ?_
  refine tri_v (opv_index rfl rfl (by decide) (by decide) rfl rfl) rfl ?_
  refine tri_v (opv_assign rfl) rfl ?_
  refine tri_v (opv_assign rfl) rfl ?_
  refine tri_nil ?_
  refine tri_then ?_
  refine tri_region ?_
  refine tri_v (opv_move rfl) rfl ?_
  refine tri_v (opv_quoE rfl rfl (by omega) (by omega) (by omega)) rfl ?_
  refine tri_v (opv_mul rfl rfl (w64 (by omega) (by omega))) rfl ?_
  refine tri_v (opv_move rfl) rfl ?_
  refine tri_v (opv_quoE rfl rfl (by omega) (by omega) (by omega)) rfl ?_
  refine tri_v (opv_add rfl rfl (w64 (by omega) (by omega))) rfl ?_
  refine tri_v (opv_mul rfl rfl (w64 (by omega) (by omega))) rfl ?_
  refine tri_v (opv_move rfl) rfl ?_
  refine tri_v (opv_remE rfl rfl (by omega) (by omega)) rfl ?_
  refine tri_v (opv_mul rfl rfl (w64 (by omega) (by omega))) rfl ?_
  refine tri_v (opv_add rfl rfl (w64 (by omega) (by omega))) rfl ?_
  refine tri_v (opv_move rfl) rfl ?_
  refine tri_v (opv_remE rfl rfl (by omega) (by omega)) rfl ?_
  refine tri_v (opv_add rfl rfl (w64 (by omega) (by omega))) rfl ?_
  refine tri_v (opv_move rfl) rfl ?_
  refine tri_v (opv_indexAddrA rfl rfl (by decide) (by decide)) rfl ?_
  refine tri_g (opg_store rfl rfl rfl rfl rfl rfl) rfl ?_
  rintro _ _ _ ⟨rfl, rfl⟩
  refine tri_nil ?_
  refine tri_inBlock ?_
  refine tri_then ?_
  refine tri_region ?_
  refine tri_v (opv_add rfl rfl (w64 (by omega) (by omega))) rfl ?_
  refine tri_v (opv_move rfl) rfl ?_
  refine tri_nil ?_
  refine tri_then ?_
  refine tri_round ?_
  refine tri_seq ?_
  refine tri_region ?_
  refine tri_v (opv_lss rfl rfl) rfl ?_
  refine tri_nil ?_
  refine tri_then ?_
  refine tri_seq ?_
  skip
  refine tri_cond_is rfl (by decide) ?_
  refine tri_skip ?_
  refine tri_then ?_
  refine tri_seq ?_
  refine tri_block ?_
  refine tri_seq ?_
  refine tri_region ?_
  refine tri_v (opv_move rfl) rfl ?_
  refine tri_v (opv_index rfl rfl (by decide) (by decide) rfl rfl) rfl ?_
  refine tri_v (opv_assign rfl) rfl ?_
  refine tri_v (opv_assign rfl) rfl ?_
  refine tri_nil ?_
  refine tri_then ?_
  refine tri_region ?_
  refine tri_v (opv_move rfl) rfl ?_
  refine tri_v (opv_quoE rfl rfl (by omega) (by omega) (by omega)) rfl ?_
  refine tri_v (opv_mul rfl rfl (w64 (by omega) (by omega))) rfl ?_
  refine tri_v (opv_move rfl) rfl ?_
  refine tri_v (opv_quoE rfl rfl (by omega) (by omega) (by omega)) rfl ?_
  refine tri_v (opv_add rfl rfl (w64 (by omega) (by omega))) rfl ?_
  refine tri_v (opv_mul rfl rfl (w64 (by omega) (by omega))) rfl ?_
  refine tri_v (opv_move rfl) rfl ?_
  refine tri_v (opv_remE rfl rfl (by omega) (by omega)) rfl ?_
  refine tri_v (opv_mul rfl rfl (w64 (by omega) (by omega))) rfl ?_
  refine tri_v (opv_add rfl rfl (w64 (by omega) (by omega))) rfl ?_
  refine tri_v (opv_move rfl) rfl ?_
  refine tri_v (opv_remE rfl rfl (by omega) (by omega)) rfl ?_
  refine tri_v (opv_add rfl rfl (w64 (by omega) (by omega))) rfl ?_
  refine tri_v (opv_move rfl) rfl ?_
  refine tri_v (opv_indexAddrA rfl rfl (by decide) (by decide)) rfl ?_
  refine tri_g (opg_store rfl rfl rfl rfl rfl rfl) rfl ?_
  rintro _ _ _ ⟨rfl, rfl⟩
  refine tri_nil ?_
  refine tri_inBlock ?_
  refine tri_then ?_
  refine tri_region ?_
  refine tri_v (opv_add rfl rfl (w64 (by omega) (by omega))) rfl ?_
  refine tri_v (opv_move rfl) rfl ?_
  refine tri_nil ?_
  refine tri_then ?_
  refine tri_round ?_
  refine tri_seq ?_
  refine tri_region ?_
  refine tri_v (opv_lss rfl rfl) rfl ?_
  refine tri_nil ?_
  refine tri_then ?_
  refine tri_seq ?_
  skip
  refine tri_cond_is rfl (by decide) ?_
  refine tri_skip ?_
  refine tri_then ?_
  refine tri_seq ?_
  refine tri_block ?_
  refine tri_seq ?_
  refine tri_region ?_
  refine tri_v (opv_move rfl) rfl ?_
  refine tri_v (opv_index rfl rfl (by decide) (by decide) rfl rfl) rfl ?_
  refine tri_v (opv_assign rfl) rfl ?_
  refine tri_v (opv_assign rfl) rfl ?_
  refine tri_nil ?_
  refine tri_then ?_
  refine tri_region ?_
  refine tri_v (opv_move rfl) rfl ?_
  refine tri_v (opv_quoE rfl rfl (by omega) (by omega) (by omega)) rfl ?_
  refine tri_v (opv_mul rfl rfl (w64 (by omega) (by omega))) rfl ?_
  refine tri_v (opv_move rfl) rfl ?_
  refine tri_v (opv_quoE rfl rfl (by omega) (by omega) (by omega)) rfl ?_
  refine tri_v (opv_add rfl rfl (w64 (by omega) (by omega))) rfl ?_
  refine tri_v (opv_mul rfl rfl (w64 (by omega) (by omega))) rfl ?_
  refine tri_v (opv_move rfl) rfl ?_
  refine tri_v (opv_remE rfl rfl (by omega) (by omega)) rfl ?_
  refine tri_v (opv_mul rfl rfl (w64 (by omega) (by omega))) rfl ?_
  refine tri_v (opv_add rfl rfl (w64 (by omega) (by omega))) rfl ?_
  refine tri_v (opv_move rfl) rfl ?_
  refine tri_v (opv_remE rfl rfl (by omega) (by omega)) rfl ?_
  refine tri_v (opv_add rfl rfl (w64 (by omega) (by omega))) rfl ?_
  refine tri_v (opv_move rfl) rfl ?_
  refine tri_v (opv_indexAddrA rfl rfl (by decide) (by decide)) rfl ?_
  refine tri_g (opg_store rfl rfl rfl rfl rfl rfl) rfl ?_
  rintro _ _ _ ⟨rfl, rfl⟩
  refine tri_nil ?_
  refine tri_inBlock ?_
  refine tri_then ?_
  refine tri_region ?_
  refine tri_v (opv_add rfl rfl (w64 (by omega) (by omega))) rfl ?_
  refine tri_v (opv_move rfl) rfl ?_
  refine tri_nil ?_
  refine tri_then ?_
  refine tri_round ?_
  refine tri_seq ?_
  refine tri_region ?_
  refine tri_v (opv_lss rfl rfl) rfl ?_
  refine tri_nil ?_
  refine tri_then ?_
  refine tri_seq ?_
  refine tri_cond_not rfl (by decide) ?_
  refine tri_exit ?_
  refine tri_then_exit ?_
  refine tri_then_exit ?_
  refine tri_inBlock_hit rfl ?_
  refine tri_inBlock ?_
  refine tri_then ?_
  refine tri_region ?_
  refine tri_v (opv_add rfl rfl (w64 (by omega) (by omega))) rfl ?_
  refine tri_v (opv_move rfl) rfl ?_
  refine tri_nil ?_
  refine tri_then ?_
  refine tri_round ?_
  refine tri_seq ?_
  refine tri_region ?_
  refine tri_v (opv_lss rfl rfl) rfl ?_
  refine tri_nil ?_
  refine tri_then ?_
  refine tri_seq ?_
  refine tri_cond_is rfl (by decide) ?_
  refine tri_skip ?_
  refine tri_then ?_
  refine tri_seq ?_
  refine tri_block ?_
  refine tri_seq ?_
  refine tri_region ?_
  refine tri_v (opv_move rfl) rfl ?_
  refine tri_v (opv_index rfl rfl (by decide) (by decide) rfl rfl) rfl ?_
  refine tri_v (opv_assign rfl) rfl ?_
  refine tri_v (opv_assign rfl) rfl ?_
  refine tri_nil ?_
  refine tri_then ?_
  refine tri_seq ?_
  refine tri_region ?_
  refine tri_v (opv_fieldAddr rfl rfl) rfl ?_
  refine tri_v (opv_load1 rfl rfl rfl) rfl ?_
  refine tri_v (opv_nilCheck rfl) rfl ?_
  refine tri_v (opv_fieldAddr rfl rfl) rfl ?_
  refine tri_v (opv_fieldAddr rfl rfl) rfl ?_
  refine tri_v (opv_load1 rfl rfl rfl) rfl ?_
  refine tri_v (opv_move rfl) rfl ?_
  refine tri_v (opv_indexAddrR rfl rfl (by omega) (by omega)) rfl ?_
  refine tri_v (opv_fieldAddrR rfl (by omega) rfl) rfl ?_
  refine tri_v (opv_loadRXA rfl rfl (by omega) rfl rfl rfl) rfl ?_
  refine tri_v (opv_move rfl) rfl ?_
  refine tri_nil ?_
  refine tri_then ?_
  refine tri_block ?_
  refine tri_rounds 5 ?_
  refine tri_round ?_
  refine tri_seq ?_
  refine tri_region ?_
  refine tri_v (opv_lss rfl rfl) rfl ?_
  refine tri_nil ?_
  refine tri_then ?_
  refine tri_seq ?_
  refine tri_cond_is rfl (by decide) ?_
  refine tri_skip ?_
  refine tri_then ?_
  refine tri_seq ?_
  refine tri_block ?_
  refine tri_seq ?_
  refine tri_region ?_
  refine tri_v (opv_move rfl) rfl ?_
  refine tri_v (opv_index rfl rfl (by decide) (by decide) rfl rfl) rfl ?_
  refine tri_v (opv_assign rfl) rfl ?_
  refine tri_v (opv_assign rfl) rfl ?_
  refine tri_nil ?_
  refine tri_then ?_
  refine tri_region ?_
  refine tri_v (opv_move rfl) rfl ?_
  refine tri_v (opv_quoE rfl rfl (by omega) (by omega) (by omega)) rfl ?_
  refine tri_v (opv_mul rfl rfl (w64 (by omega) (by omega))) rfl ?_
  refine tri_v (opv_move rfl) rfl ?_
  refine tri_v (opv_quoE rfl rfl (by omega) (by omega) (by omega)) rfl ?_
  refine tri_v (opv_add rfl rfl (w64 (by omega) (by omega))) rfl ?_
  refine tri_v (opv_mul rfl rfl (w64 (by omega) (by omega))) rfl ?_
  refine tri_v (opv_move rfl) rfl ?_
  refine tri_v (opv_remE rfl rfl (by omega) (by omega)) rfl ?_
  refine tri_v (opv_mul rfl rfl (w64 (by omega) (by omega))) rfl ?_
  refine tri_v (opv_add rfl rfl (w64 (by omega) (by omega))) rfl ?_
  refine tri_v (opv_move rfl) rfl ?_
  refine tri_v (opv_remE rfl rfl (by omega) (by omega)) rfl ?_
  refine tri_v (opv_add rfl rfl (w64 (by omega) (by omega))) rfl ?_
  refine tri_v (opv_move rfl) rfl ?_
  refine tri_v (opv_indexAddrA rfl rfl (by decide) (by decide)) rfl ?_
  refine tri_g (opg_store rfl rfl rfl rfl rfl rfl) rfl ?_
  rintro _ _ _ ⟨rfl, rfl⟩
  refine tri_nil ?_
  refine tri_inBlock ?_
  refine tri_then ?_
  refine tri_region ?_
  refine tri_v (opv_add rfl rfl (w64 (by omega) (by omega))) rfl ?_
  refine tri_v (opv_move rfl) rfl ?_
  refine tri_nil ?_
  refine tri_then ?_
  refine tri_round ?_
  refine tri_seq ?_
  refine tri_region ?_
  refine tri_v (opv_lss rfl rfl) rfl ?_
  refine tri_nil ?_
  refine tri_then ?_
  refine tri_seq ?_
  skip
  refine tri_cond_is rfl (by decide) ?_
  refine tri_skip ?_
  refine tri_then ?_
  refine tri_seq ?_
  refine tri_block ?_
  refine tri_seq ?_
  refine tri_region ?_
  refine tri_v (opv_move rfl) rfl ?_
  refine tri_v (opv_index rfl rfl (by decide) (by decide) rfl rfl) rfl ?_
  refine tri_v (opv_assign rfl) rfl ?_
  refine tri_v (opv_assign rfl) rfl ?_
  refine tri_nil ?_
  refine tri_then ?_
  refine tri_region ?_
  refine tri_v (opv_move rfl) rfl ?_
  refine tri_v (opv_quoE rfl rfl (by omega) (by omega) (by omega)) rfl ?_
  refine tri_v (opv_mul rfl rfl (w64 (by omega) (by omega))) rfl ?_
  refine tri_v (opv_move rfl) rfl ?_
  refine tri_v (opv_quoE rfl rfl (by omega) (by omega) (by omega)) rfl ?_
  refine tri_v (opv_add rfl rfl (w64 (by omega) (by omega))) rfl ?_
  refine tri_v (opv_mul rfl rfl (w64 (by omega) (by omega))) rfl ?_
  refine tri_v (opv_move rfl) rfl ?_
  refine tri_v (opv_remE rfl rfl (by omega) (by omega)) rfl ?_
  refine tri_v (opv_mul rfl rfl (w64 (by omega) (by omega))) rfl ?_
  refine tri_v (opv_add rfl rfl (w64 (by omega) (by omega))) rfl ?_
  refine tri_v (opv_move rfl) rfl ?_
  refine tri_v (opv_remE rfl rfl (by omega) (by omega)) rfl ?_
  refine tri_v (opv_add rfl rfl (w64 (by omega) (by omega))) rfl ?_
  refine tri_v (opv_move rfl) rfl ?_
  refine tri_v (opv_indexAddrA rfl rfl (by decide) (by decide)) rfl ?_
  refine tri_g (opg_store rfl rfl rfl rfl rfl rfl) rfl ?_
  rintro _ _ _ ⟨rfl, rfl⟩
  refine tri_nil ?_
  refine tri_inBlock ?_
  refine tri_then ?_
  refine tri_region ?_
  refine tri_v (opv_add rfl rfl (w64 (by omega) (by omega))) rfl ?_
  refine tri_v (opv_move rfl) rfl ?_
  refine tri_nil ?_
  refine tri_then ?_
  refine tri_round ?_
  refine tri_seq ?_
  refine tri_region ?_
  refine tri_v (opv_lss rfl rfl) rfl ?_
  refine tri_nil ?_
  refine tri_then ?_
  refine tri_seq ?_
  skip
  refine tri_cond_is rfl (by decide) ?_
  refine tri_skip ?_
  refine tri_then ?_
  refine tri_seq ?_
  refine tri_block ?_
  refine tri_seq ?_
  refine tri_region ?_
  refine tri_v (opv_move rfl) rfl ?_
  refine tri_v (opv_index rfl rfl (by decide) (by decide) rfl rfl) rfl ?_
  refine tri_v (opv_assign rfl) rfl ?_
  refine tri_v (opv_assign rfl) rfl ?_
  refine tri_nil ?_
  refine tri_then ?_
  refine tri_region ?_
  refine tri_v (opv_move rfl) rfl ?_
  refine tri_v (opv_quoE rfl rfl (by omega) (by omega) (by omega)) rfl ?_
  refine tri_v (opv_mul rfl rfl (w64 (by omega) (by omega))) rfl ?_
  refine tri_v (opv_move rfl) rfl ?_
  refine tri_v (opv_quoE rfl rfl (by omega) (by omega) (by omega)) rfl ?_
  refine tri_v (opv_add rfl rfl (w64 (by omega) (by omega))) rfl ?_
  refine tri_v (opv_mul rfl rfl (w64 (by omega) (by omega))) rfl ?_
  refine tri_v (opv_move rfl) rfl ?_
  refine tri_v (opv_remE rfl rfl (by omega) (by omega)) rfl ?_
  refine tri_v (opv_mul rfl rfl (w64 (by omega) (by omega))) rfl ?_
  refine tri_v (opv_add rfl rfl (w64 (by omega) (by omega))) rfl ?_
  refine tri_v (opv_move rfl) rfl ?_
  refine tri_v (opv_remE rfl rfl (by omega) (by omega)) rfl ?_
  refine tri_v (opv_add rfl rfl (w64 (by omega) (by omega))) rfl ?_
  refine tri_v (opv_move rfl) rfl ?_
  refine tri_v (opv_indexAddrA rfl rfl (by decide) (by decide)) rfl ?_
  refine tri_g (opg_store rfl rfl rfl rfl rfl rfl) rfl ?_
  rintro _ _ _ ⟨rfl, rfl⟩
  refine tri_nil ?_
  refine tri_inBlock ?_
  refine tri_then ?_
  refine tri_region ?_
  refine tri_v (opv_add rfl rfl (w64 (by omega) (by omega))) rfl ?_
  refine tri_v (opv_move rfl) rfl ?_
  refine tri_nil ?_
  refine tri_then ?_
  refine tri_round ?_
  refine tri_seq ?_
  refine tri_region ?_
  refine tri_v (opv_lss rfl rfl) rfl ?_
  refine tri_nil ?_
  refine tri_then ?_
  refine tri_seq ?_
  skip
  refine tri_cond_is rfl (by decide) ?_
  refine tri_skip ?_
  refine tri_then ?_
  refine tri_seq ?_
  refine tri_block ?_
  refine tri_seq ?_
  refine tri_region ?_
  refine tri_v (opv_move rfl) rfl ?_
  refine tri_v (opv_index rfl rfl (by decide) (by decide) rfl rfl) rfl ?_
  refine tri_v (opv_assign rfl) rfl ?_
  refine tri_v (opv_assign rfl) rfl ?_
  refine tri_nil ?_
  refine tri_then ?_
  refine tri_region ?_
  refine tri_v (opv_move rfl) rfl ?_
  refine tri_v (opv_quoE rfl rfl (by omega) (by omega) (by omega)) rfl ?_
  refine tri_v (opv_mul rfl rfl (w64 (by omega) (by omega))) rfl ?_
  refine tri_v (opv_move rfl) rfl ?_
  refine tri_v (opv_quoE rfl rfl (by omega) (by omega) (by omega)) rfl ?_
  refine tri_v (opv_add rfl rfl (w64 (by omega) (by omega))) rfl ?_
  refine tri_v (opv_mul rfl rfl (w64 (by omega) (by omega))) rfl ?_
  refine tri_v (opv_move rfl) rfl ?_
  refine tri_v (opv_remE rfl rfl (by omega) (by omega)) rfl ?_
  refine tri_v (opv_mul rfl rfl (w64 (by omega) (by omega))) rfl ?_
  refine tri_v (opv_add rfl rfl (w64 (by omega) (by omega))) rfl ?_
  refine tri_v (opv_move rfl) rfl ?_
  refine tri_v (opv_remE rfl rfl (by omega) (by omega)) rfl ?_
  refine tri_v (opv_add rfl rfl (w64 (by omega) (by omega))) rfl ?_
  refine tri_v (opv_move rfl) rfl ?_
  refine tri_v (opv_indexAddrA rfl rfl (by decide) (by decide)) rfl ?_
  refine tri_g (opg_store rfl rfl rfl rfl rfl rfl) rfl ?_
  rintro _ _ _ ⟨rfl, rfl⟩
  refine tri_nil ?_
  refine tri_inBlock ?_
  refine tri_then ?_
  refine tri_region ?_
  refine tri_v (opv_add rfl rfl (w64 (by omega) (by omega))) rfl ?_
  refine tri_v (opv_move rfl) rfl ?_
  refine tri_nil ?_
  refine tri_then ?_
  refine tri_round ?_
  refine tri_seq ?_
  refine tri_region ?_
  refine tri_v (opv_lss rfl rfl) rfl ?_
  refine tri_nil ?_
  refine tri_then ?_
  refine tri_seq ?_
  refine tri_cond_not rfl (by decide) ?_
  refine tri_exit ?_
  refine tri_then_exit ?_
  refine tri_then_exit ?_
  refine tri_inBlock_hit rfl ?_
  refine tri_inBlock ?_
  refine tri_then ?_
  refine tri_region ?_
  refine tri_v (opv_add rfl rfl (w64 (by omega) (by omega))) rfl ?_
  refine tri_v (opv_move rfl) rfl ?_
  refine tri_nil ?_
  refine tri_then ?_
  refine tri_round ?_
  refine tri_seq ?_
  refine tri_region ?_
  refine tri_v (opv_lss rfl rfl) rfl ?_
  refine tri_nil ?_
  refine tri_then ?_
  refine tri_seq ?_
  refine tri_cond_is rfl (by decide) ?_
  refine tri_skip ?_
  refine tri_then ?_
  refine tri_seq ?_
  refine tri_block ?_
  refine tri_seq ?_
  refine tri_region ?_
  refine tri_v (opv_move rfl) rfl ?_
  refine tri_v (opv_index rfl rfl (by decide) (by decide) rfl rfl) rfl ?_
  refine tri_v (opv_assign rfl) rfl ?_
  refine tri_v (opv_assign rfl) rfl ?_
  refine tri_nil ?_
  refine tri_then ?_
  refine tri_seq ?_
  refine tri_region ?_
  refine tri_v (opv_fieldAddr rfl rfl) rfl ?_
  refine tri_v (opv_load1 rfl rfl rfl) rfl ?_
  refine tri_v (opv_nilCheck rfl) rfl ?_
  refine tri_v (opv_fieldAddr rfl rfl) rfl ?_
  refine tri_v (opv_fieldAddr rfl rfl) rfl ?_
  refine tri_v (opv_load1 rfl rfl rfl) rfl ?_
  refine tri_v (opv_move rfl) rfl ?_
  refine tri_v (opv_indexAddrR rfl rfl (by omega) (by omega)) rfl ?_
  refine tri_v (opv_fieldAddrR rfl (by omega) rfl) rfl ?_
  refine tri_v (opv_loadRXA rfl rfl (by omega) rfl rfl rfl) rfl ?_
  refine tri_v (opv_move rfl) rfl ?_
  refine tri_nil ?_
  refine tri_then ?_
  refine tri_block ?_
  refine tri_rounds 5 ?_
  refine tri_round ?_
  refine tri_seq ?_
  refine tri_region ?_
  refine tri_v (opv_lss rfl rfl) rfl ?_
  refine tri_nil ?_
  refine tri_then ?_
  refine tri_seq ?_
  refine tri_cond_is rfl (by decide) ?_
  refine tri_skip ?_
  refine tri_then ?_
  refine tri_seq ?_
  refine tri_block ?_
  refine tri_seq ?_
  refine tri_region ?_
  refine tri_v (opv_move rfl) rfl ?_
  refine tri_v (opv_index rfl rfl (by decide) (by decide) rfl rfl) rfl ?_
  refine tri_v (opv_assign rfl) rfl ?_
  refine tri_v (opv_assign rfl) rfl ?_
  refine tri_nil ?_
  refine tri_then ?_
  refine tri_region ?_
  refine tri_v (opv_move rfl) rfl ?_
  refine tri_v (opv_quoE rfl rfl (by omega) (by omega) (by omega)) rfl ?_
  refine tri_v (opv_mul rfl rfl (w64 (by omega) (by omega))) rfl ?_
  refine tri_v (opv_move rfl) rfl ?_
  refine tri_v (opv_quoE rfl rfl (by omega) (by omega) (by omega)) rfl ?_
  refine tri_v (opv_add rfl rfl (w64 (by omega) (by omega))) rfl ?_
  refine tri_v (opv_mul rfl rfl (w64 (by omega) (by omega))) rfl ?_
  refine tri_v (opv_move rfl) rfl ?_
  refine tri_v (opv_remE rfl rfl (by omega) (by omega)) rfl ?_
  refine tri_v (opv_mul rfl rfl (w64 (by omega) (by omega))) rfl ?_
  refine tri_v (opv_add rfl rfl (w64 (by omega) (by omega))) rfl ?_
  refine tri_v (opv_move rfl) rfl ?_
  refine tri_v (opv_remE rfl rfl (by omega) (by omega)) rfl ?_
  refine tri_v (opv_add rfl rfl (w64 (by omega) (by omega))) rfl ?_
  refine tri_v (opv_move rfl) rfl ?_
  refine tri_v (opv_indexAddrA rfl rfl (by decide) (by decide)) rfl ?_
  refine tri_g (opg_store rfl rfl rfl rfl rfl rfl) rfl ?_
  rintro _ _ _ ⟨rfl, rfl⟩
  refine tri_nil ?_
  refine tri_inBlock ?_
  refine tri_then ?_
  refine tri_region ?_
  refine tri_v (opv_add rfl rfl (w64 (by omega) (by omega))) rfl ?_
  refine tri_v (opv_move rfl) rfl ?_
  refine tri_nil ?_
  refine tri_then ?_
  refine tri_round ?_
  refine tri_seq ?_
  refine tri_region ?_
  refine tri_v (opv_lss rfl rfl) rfl ?_
  refine tri_nil ?_
  refine tri_then ?_
  refine tri_seq ?_
  skip
  refine tri_cond_is rfl (by decide) ?_
  refine tri_skip ?_
  refine tri_then ?_
  refine tri_seq ?_
  refine tri_block ?_
  refine tri_seq ?_
  refine tri_region ?_
  refine tri_v (opv_move rfl) rfl ?_
  refine tri_v (opv_index rfl rfl (by decide) (by decide) rfl rfl) rfl ?_
  refine tri_v (opv_assign rfl) rfl ?_
  refine tri_v (opv_assign rfl) rfl ?_
  refine tri_nil ?_
  refine tri_then ?_
  refine tri_region ?_
  refine tri_v (opv_move rfl) rfl ?_
  refine tri_v (opv_quoE rfl rfl (by omega) (by omega) (by omega)) rfl ?_
  refine tri_v (opv_mul rfl rfl (w64 (by omega) (by omega))) rfl ?_
  refine tri_v (opv_move rfl) rfl ?_
  refine tri_v (opv_quoE rfl rfl (by omega) (by omega) (by omega)) rfl ?_
  refine tri_v (opv_add rfl rfl (w64 (by omega) (by omega))) rfl ?_
  refine tri_v (opv_mul rfl rfl (w64 (by omega) (by omega))) rfl ?_
  refine tri_v (opv_move rfl) rfl ?_
  refine tri_v (opv_remE rfl rfl (by omega) (by omega)) rfl ?_
  refine tri_v (opv_mul rfl rfl (w64 (by omega) (by omega))) rfl ?_
  refine tri_v (opv_add rfl rfl (w64 (by omega) (by omega))) rfl ?_
  refine tri_v (opv_move rfl) rfl ?_
  refine tri_v (opv_remE rfl rfl (by omega) (by omega)) rfl ?_
  refine tri_v (opv_add rfl rfl (w64 (by omega) (by omega))) rfl ?_
  refine tri_v (opv_move rfl) rfl ?_
  refine tri_v (opv_indexAddrA rfl rfl (by decide) (by decide)) rfl ?_
  refine tri_g (opg_store rfl rfl rfl rfl rfl rfl) rfl ?_
  rintro _ _ _ ⟨rfl, rfl⟩
  refine tri_nil ?_
  refine tri_inBlock ?_
  refine tri_then ?_
  refine tri_region ?_
  refine tri_v (opv_add rfl rfl (w64 (by omega) (by omega))) rfl ?_
  refine tri_v (opv_move rfl) rfl ?_
  refine tri_nil ?_
  refine tri_then ?_
  refine tri_round ?_
  refine tri_seq ?_
  refine tri_region ?_
  refine tri_v (opv_lss rfl rfl) rfl ?_
  refine tri_nil ?_
  refine tri_then ?_
  refine tri_seq ?_
  skip
  refine tri_cond_is rfl (by decide) ?_
  refine tri_skip ?_
  refine tri_then ?_
  refine tri_seq ?_
  refine tri_block ?_
  refine tri_seq ?_
  refine tri_region ?_
  refine tri_v (opv_move rfl) rfl ?_
  refine tri_v (opv_index rfl rfl (by decide) (by decide) rfl rfl) rfl ?_
  refine tri_v (opv_assign rfl) rfl ?_
  refine tri_v (opv_assign rfl) rfl ?_
  refine tri_nil ?_
  refine tri_then ?_
  refine tri_region ?_
  refine tri_v (opv_move rfl) rfl ?_
  refine tri_v (opv_quoE rfl rfl (by omega) (by omega) (by omega)) rfl ?_
  refine tri_v (opv_mul rfl rfl (w64 (by omega) (by omega))) rfl ?_
  refine tri_v (opv_move rfl) rfl ?_
  refine tri_v (opv_quoE rfl rfl (by omega) (by omega) (by omega)) rfl ?_
  refine tri_v (opv_add rfl rfl (w64 (by omega) (by omega))) rfl ?_
  refine tri_v (opv_mul rfl rfl (w64 (by omega) (by omega))) rfl ?_
  refine tri_v (opv_move rfl) rfl ?_
  refine tri_v (opv_remE rfl rfl (by omega) (by omega)) rfl ?_
  refine tri_v (opv_mul rfl rfl (w64 (by omega) (by omega))) rfl ?_
  refine tri_v (opv_add rfl rfl (w64 (by omega) (by omega))) rfl ?_
  refine tri_v (opv_move rfl) rfl ?_
  refine tri_v (opv_remE rfl rfl (by omega) (by omega)) rfl ?_
  refine tri_v (opv_add rfl rfl (w64 (by omega) (by omega))) rfl ?_
  refine tri_v (opv_move rfl) rfl ?_
  refine tri_v (opv_indexAddrA rfl rfl (by decide) (by decide)) rfl ?_
  refine tri_g (opg_store rfl rfl rfl rfl rfl rfl) rfl ?_
  rintro _ _ _ ⟨rfl, rfl⟩
  refine tri_nil ?_
  refine tri_inBlock ?_
  refine tri_then ?_
  refine tri_region ?_
  refine tri_v (opv_add rfl rfl (w64 (by omega) (by omega))) rfl ?_
  refine tri_v (opv_move rfl) rfl ?_
  refine tri_nil ?_
  refine tri_then ?_
  refine tri_round ?_
  refine tri_seq ?_
  refine tri_region ?_
  refine tri_v (opv_lss rfl rfl) rfl ?_
  refine tri_nil ?_
  refine tri_then ?_
  refine tri_seq ?_
  skip
  refine tri_cond_is rfl (by decide) ?_
  refine tri_skip ?_
  refine tri_then ?_
  refine tri_seq ?_
  refine tri_block ?_
  refine tri_seq ?_
  refine tri_region ?_
  refine tri_v (opv_move rfl) rfl ?_
  refine tri_v (opv_index rfl rfl (by decide) (by decide) rfl rfl) rfl ?_
  refine tri_v (opv_assign rfl) rfl ?_
  refine tri_v (opv_assign rfl) rfl ?_
  refine tri_nil ?_
  refine tri_then ?_
  refine tri_region ?_
  refine tri_v (opv_move rfl) rfl ?_
  refine tri_v (opv_quoE rfl rfl (by omega) (by omega) (by omega)) rfl ?_
  refine tri_v (opv_mul rfl rfl (w64 (by omega) (by omega))) rfl ?_
  refine tri_v (opv_move rfl) rfl ?_
  refine tri_v (opv_quoE rfl rfl (by omega) (by omega) (by omega)) rfl ?_
  refine tri_v (opv_add rfl rfl (w64 (by omega) (by omega))) rfl ?_
  refine tri_v (opv_mul rfl rfl (w64 (by omega) (by omega))) rfl ?_
  refine tri_v (opv_move rfl) rfl ?_
  refine tri_v (opv_remE rfl rfl (by omega) (by omega)) rfl ?_
  refine tri_v (opv_mul rfl rfl (w64 (by omega) (by omega))) rfl ?_
  refine tri_v (opv_add rfl rfl (w64 (by omega) (by omega))) rfl ?_
  refine tri_v (opv_move rfl) rfl ?_
  refine tri_v (opv_remE rfl rfl (by omega) (by omega)) rfl ?_
  refine tri_v (opv_add rfl rfl (w64 (by omega) (by omega))) rfl ?_
  refine tri_v (opv_move rfl) rfl ?_
  refine tri_v (opv_indexAddrA rfl rfl (by decide) (by decide)) rfl ?_
  refine tri_g (opg_store rfl rfl rfl rfl rfl rfl) rfl ?_
  rintro _ _ _ ⟨rfl, rfl⟩
  refine tri_nil ?_
  refine tri_inBlock ?_
  refine tri_then ?_
  refine tri_region ?_
  refine tri_v (opv_add rfl rfl (w64 (by omega) (by omega))) rfl ?_
  refine tri_v (opv_move rfl) rfl ?_
  refine tri_nil ?_
  refine tri_then ?_
  refine tri_round ?_
  refine tri_seq ?_
  refine tri_region ?_
  refine tri_v (opv_lss rfl rfl) rfl ?_
  refine tri_nil ?_
  refine tri_then ?_
  refine tri_seq ?_
  refine tri_cond_not rfl (by decide) ?_
  refine tri_exit ?_
  refine tri_then_exit ?_
  refine tri_then_exit ?_
  refine tri_inBlock_hit rfl ?_
  refine tri_inBlock ?_
  refine tri_then ?_
  refine tri_region ?_
  refine tri_v (opv_add rfl rfl (w64 (by omega) (by omega))) rfl ?_
  refine tri_v (opv_move rfl) rfl ?_
  refine tri_nil ?_
  refine tri_then ?_
  refine tri_round ?_
  refine tri_seq ?_
  refine tri_region ?_
  refine tri_v (opv_lss rfl rfl) rfl ?_
  refine tri_nil ?_
  refine tri_then ?_
  refine tri_seq ?_
  refine tri_cond_not rfl (by decide) ?_
  refine tri_exit ?_
  refine tri_then_exit ?_
  refine tri_then_exit ?_
  refine tri_inBlock_hit rfl ?_
  refine tri_then ?_
  refine tri_seq ?_
  refine tri_region ?_
  refine tri_v (opv_loadA rfl rfl rfl) rfl ?_
  refine tri_g (opg_store rfl rfl rfl rfl rfl rfl) rfl ?_
  rintro _ _ _ ⟨rfl, rfl⟩
  refine tri_nil ?_
  refine tri_then ?_
  refine tri_ret ?_
  refine tri_end _ (⟨[_, _], rfl⟩) rfl (.cons (rv_cellA rfl rfl rfl) .nil) ⟨rfl, rfl, rfl⟩
end Go.GL

set_option linter.unusedVariables false
namespace Go.GL
open Go.Proofs
attribute [local irreducible] wpList Code.wp Exit.then Exit.inBlock Ends Tri TriH OpV OpG FnC epf wpAnyH
variable {A : List Asrt} {I : List Chunk}
/-- What a function on an index tells and leaves behind. -/
def IxR (bx mb : Nat) (r : List Node × Int × Int) (room : Int) (A : List Asrt) (I : List Chunk) : Value → List Asrt → List Chunk → Prop :=
  fun v A' I' => ∃ a' cap' es', v = .tuple [.int .i64 r.2.1, .int .i64 r.2.2].toArray ∧ A' = IxA bx mb a' cap' r.1 room es' A ∧ Idx r.1 es' ∧ I = I'
theorem node_putR {A : List Asrt} {I : List Chunk} {ns : List Node} {a : Option Addr} {cap bx mb : Nat} {room q0 q1 q2 q3 : Int} {es : KVs} {r : List Node × Int × Int} (hg : R6.Good ns room) (h2 : 2 ≤ ns.length) (hi : Idx ns es) (hr : R6.put ns room q0 q1 q2 q3 = r) :
    FnC Try.prog 59 [pt bx 0, int4V q0 q1 q2 q3].toArray (IxA bx mb a cap ns room es A) I (IxR bx mb r room A I) := by
  subst hr
  exact node_put hg h2 hi
set_option maxRecDepth 100000 in
theorem maker_centre {ns : List Node} {a : Option Addr} {cap bx mb : Nat} {room n : Int} {es : KVs} (hg : R6.Good ns room) (h2 : 2 ≤ ns.length) (hi : Idx ns es) (hk : R8.Kid ns n) :
    FnC Try.prog 33 [.agg [pt bx 0].toArray, .int .i64 n].toArray (IxA bx mb a cap ns room es A) I (IxR bx mb (R8.putSq ns room (R8.s16 ns n) 1 1) room A I) := by
  skip
  refine fn_enter2 Try.func33 rfl Try.ntmps33 rfl fun w0 => ?_
  refine tri_seq ?_
  refine tri_region ?_
  refine tri_g (opg_box_agg rfl) rfl ?_
  rintro _ _ _ ⟨b2, rfl, rfl, rfl⟩
  refine tri_v (opv_assign rfl) rfl ?_
  refine tri_v (opv_assign rfl) rfl ?_
  refine tri_nil ?_
  refine tri_then ?_
  refine tri_seq ?_
  refine tri_perm (A := ?a1_0 :: ?a1_1 :: ?a1_2 :: ?a1_3 :: ?T1) (B := ?a1_1 :: ?a1_2 :: ?a1_3 :: ?a1_0 :: ?T1) (by exact permL [1, 2, 3, 0] [?a1_0, ?a1_1, ?a1_2, ?a1_3] ?T1 (by decide) rfl) ?_
  skip
  refine tri_draw [0, 1, 2, 3, 4, 5, 6, 7, 8, 9, 10] rfl [_, _, _] rfl mixed ?_
  refine th_take rfl rfl (by kernel_rfl)  (opv_fieldAddr rfl rfl) ?_
  refine th_take rfl rfl (by kernel_rfl)  (opv_load1 rfl rfl rfl) ?_
  refine th_take rfl rfl (by kernel_rfl)  (opv_loadA rfl rfl rfl) ?_
  refine th_take rfl rfl (by kernel_rfl)  (opv_move rfl) ?_
  refine th_one (by kernel_rfl) (step_m rfl rfl (opg_call (xs := [_, _]) rfl (base_sixteen hk)) ?_)
  rintro _ _ _ ⟨rfl, rfl, rfl⟩
  refine ⟨Suf.h, (fun _ h => h), ?_⟩
  skip
  refine th_one (by kernel_rfl) (step_m rfl rfl (opg_call (xs := [_, _, _]) rfl (base_square (R8.s16_len ns n) (by omega) (by omega) (by omega) (by omega))) ?_)
  rintro _ _ _ ⟨rfl, rfl, rfl⟩
  refine ⟨Suf.h, (fun _ h => h), ?_⟩
  skip
  refine th_one (by kernel_rfl) (step_m rfl rfl (opg_call (xs := [_, _]) rfl (node_putR (r := R8.putSq ns room (R8.s16 ns n) 1 1) hg h2 hi rfl)) ?_)
  rintro _ _ _ ⟨a1, c1, es1, rfl, rfl, hi1, rfl⟩
  refine ⟨Suf.h, (fun _ h => h), ?_⟩
  refine th_take rfl rfl (by kernel_rfl)  (opv_extract rfl rfl) ?_
  refine th_take rfl rfl (by kernel_rfl)  (opv_extract rfl rfl) ?_
  refine th_take rfl rfl (by kernel_rfl)  (opv_assign rfl) ?_
  refine th_take rfl rfl (by kernel_rfl)  (opv_assign rfl) ?_
  refine th_done (by kernel_rfl) ?_
  refine tri_then ?_
  refine tri_ret ?_
  refine tri_perm (A := ?a2_0 :: ?a2_1 :: ?a2_2 :: ?a2_3 :: ?T2) (B := ?a2_3 :: ?a2_0 :: ?a2_1 :: ?a2_2 :: ?T2) (by exact permL [3, 0, 1, 2] [?a2_0, ?a2_1, ?a2_2, ?a2_3] ?T2 (by decide) rfl) ?_
  refine tri_end (IxA bx mb a1 c1 (R8.putSq ns room (R8.s16 ns n) 1 1).1 room es1 A) Suf.h rfl (.cons (rv_tmp rfl) (.cons (rv_tmp rfl) .nil)) ⟨a1, c1, es1, rfl, rfl, hi1, rfl⟩
theorem R8.ar_eq (l : List Int) : R8.ar l 5 = R8.about l 1 1 9 ∧ R8.ar l 6 = R8.about l 1 2 9 ∧ R8.ar l 9 = R8.about l 2 1 9 ∧ R8.ar l 10 = R8.about l 2 2 9 := by
  refine ⟨?_, ?_, ?_, ?_⟩ <;> simp [R8.about, R8.ar] <;> omega
theorem R8.bit_ar (l : List Int) : R8.bit l 1 1 = (if R2.lives (decide (R8.g l 5 = 1)) (R8.ar l 5) = true then 1 else 0) ∧ R8.bit l 1 2 = (if R2.lives (decide (R8.g l 6 = 1)) (R8.ar l 6) = true then 1 else 0) ∧ R8.bit l 2 1 = (if R2.lives (decide (R8.g l 9 = 1)) (R8.ar l 9) = true then 1 else 0) ∧ R8.bit l 2 2 = (if R2.lives (decide (R8.g l 10 = 1)) (R8.ar l 10) = true then 1 else 0) := by
  obtain ⟨h1, h2, h3, h4⟩ := R8.ar_eq l
  rw [h1, h2, h3, h4]
  exact ⟨rfl, rfl, rfl, rfl⟩
set_option maxHeartbeats 2000000 in
set_option maxRecDepth 100000 in
theorem maker_step {ns : List Node} {a : Option Addr} {cap bx mb : Nat} {room n : Int} {es : KVs} (hg : R6.Good ns room) (h2 : 2 ≤ ns.length) (hi : Idx ns es) (hk : R8.Kid ns n) (hb : ∀ i, 0 ≤ R8.g (R8.s16 ns n) i ∧ R8.g (R8.s16 ns n) i ≤ 1) :
    FnC Try.prog 37 [.agg [pt bx 0].toArray, .int .i64 n].toArray (IxA bx mb a cap ns room es A) I (IxR bx mb (R8.one ns room n) room A I) := by
  have hlen := R8.s16_len ns n
  obtain ⟨hb0, hb1, hb2, hb3⟩ := R8.bit_ar (R8.s16 ns n)
  skip
  refine fn_enter2 Try.func37 rfl Try.ntmps37 rfl fun w0 => ?_
  refine tri_seq ?_
  refine tri_region ?_
  refine tri_g (opg_box_agg rfl) rfl ?_
  rintro _ _ _ ⟨b2, rfl, rfl, rfl⟩
  refine tri_v (opv_assign rfl) rfl ?_
  refine tri_v (opv_assign rfl) rfl ?_
  refine tri_nil ?_
  refine tri_then ?_
  refine tri_seq ?_
  refine tri_perm (A := ?a3_0 :: ?a3_1 :: ?a3_2 :: ?T3) (B := ?a3_1 :: ?a3_2 :: ?a3_0 :: ?T3) (by exact permL [1, 2, 0] [?a3_0, ?a3_1, ?a3_2] ?T3 (by decide) rfl) ?_
  refine tri_region ?_
  refine tri_v (opv_loadA rfl rfl rfl) rfl ?_
  refine tri_v (opv_move rfl) rfl ?_
  refine tri_g (opg_call (xs := [_, _]) rfl (base_sixteen hk)) rfl ?_
  rintro _ _ _ ⟨rfl, rfl, rfl⟩
  refine tri_g opg_alloc rfl ?_
  rintro _ _ _ ⟨b6, rfl, rfl, rfl⟩
  refine tri_g (opg_store rfl rfl rfl rfl rfl rfl) rfl ?_
  rintro _ _ _ ⟨rfl, rfl⟩
  refine tri_nil ?_
  refine tri_then ?_
  refine tri_seq ?_
  refine tri_region ?_
  refine tri_g opg_alloc rfl ?_
  rintro _ _ _ ⟨b7, rfl, rfl, rfl⟩
  refine tri_nil ?_
  refine tri_then ?_
  refine tri_seq ?_
  refine tri_seq ?_
  refine tri_region ?_
  refine tri_v (opv_move rfl) rfl ?_
  refine tri_nil ?_
  refine tri_then ?_
  refine tri_block ?_
  refine tri_rounds 5 ?_
  refine tri_round ?_
  refine tri_seq ?_
  refine tri_region ?_
  refine tri_v (opv_lss rfl rfl) rfl ?_
  refine tri_nil ?_
  refine tri_then ?_
  refine tri_seq ?_
  refine tri_cond_is rfl (by decide) ?_
  refine tri_skip ?_
  refine tri_then ?_
  refine tri_seq ?_
  refine tri_block ?_
  refine tri_seq ?_
  refine tri_region ?_
  refine tri_v (opv_move rfl) rfl ?_
  refine tri_v (opv_assign rfl) rfl ?_
  refine tri_nil ?_
  refine tri_then ?_
  refine tri_seq ?_
  refine tri_region ?_
  refine tri_v (opv_move rfl) rfl ?_
  refine tri_v (opv_quoE rfl rfl (by omega) (by omega) (by omega)) rfl ?_
  refine tri_v (opv_add rfl rfl (w64 (by omega) (by omega))) rfl ?_
  refine tri_v (opv_mul rfl rfl (w64 (by omega) (by omega))) rfl ?_
  refine tri_v (opv_add rfl rfl (w64 (by omega) (by omega))) rfl ?_
  refine tri_v (opv_move rfl) rfl ?_
  refine tri_v (opv_remE rfl rfl (by omega) (by omega)) rfl ?_
  refine tri_v (opv_add rfl rfl (w64 (by omega) (by omega))) rfl ?_
  refine tri_v (opv_assign rfl) rfl ?_
  refine tri_nil ?_
  refine tri_then ?_
  refine tri_seq ?_
  refine tri_draw [0, 1, 2, 3, 4, 5, 6, 7] rfl [] rfl mixed ?_
  refine th_take rfl rfl (by kernel_rfl)  (opv_move rfl) ?_
  refine th_take rfl rfl (by kernel_rfl)  (opv_indexAddrA rfl rfl (by decide) (by decide)) ?_
  refine th_take rfl rfl (by kernel_rfl)  (opv_load1 rfl rfl rfl) ?_
  refine th_take rfl rfl (by kernel_rfl)  (opv_eql rfl rfl) ?_
  refine th_take rfl rfl (by kernel_rfl)  (opv_loadA rfl rfl rfl) ?_
  refine th_take rfl rfl (by kernel_rfl)  (opv_move rfl) ?_
  refine th_one (by kernel_rfl) (step_m rfl rfl (opg_call (xs := [_, _]) rfl (base_around (i := 5) hlen hb (by omega) (by omega))) ?_)
  rintro _ _ _ ⟨rfl, rfl, rfl⟩
  refine ⟨Suf.h, (fun _ h => h), ?_⟩
  skip
  refine th_one (by kernel_rfl) (step_m rfl rfl (opg_call (xs := [_, _]) rfl (life_lives)) ?_)
  rintro _ _ _ ⟨rfl, rfl, rfl⟩
  refine ⟨Suf.h, (fun _ h => h), ?_⟩
  refine th_done (by kernel_rfl) ?_
  refine tri_then ?_
  refine tri_cut (fun F' A' J => F' = [(1, .int .i64 n), (2, pt b2 0), (6, pt b6 0), (7, pt b7 0), (8, .int .i64 0), (13, .int .i64 0)] ∧ A' = Box b7 [.int .i64 (R8.bit (R8.s16 ns n) 1 1), .int .i64 (0), .int .i64 (0), .int .i64 (0)] 43 :: Box b6 (ints (R8.s16 ns n)) 95 :: Box bx [.slice a ns.length cap, .int .i64 room, .map (some mb)] 73 :: Row a cap ns.length 45 6 (encs ns) :: Box b2 [pt bx 0] 66 :: MapA Try.prog 43 mb es :: A ∧ I = J) ?_ ?_
  · refine tri_cond rfl (fun hv => ?_) (fun hv => ?_)
    · refine tri_region ?_
      refine tri_v (opv_move rfl) rfl ?_
      refine tri_v (opv_indexAddrA rfl rfl (by decide) (by decide)) rfl ?_
      refine tri_g (opg_store rfl rfl rfl rfl rfl rfl) rfl ?_
      rintro _ _ _ ⟨rfl, rfl⟩
      refine tri_nil ?_
      have hv' : R2.lives (decide (R8.g (R8.s16 ns n) 5 = 1)) (R8.ar (R8.s16 ns n) 5) = true := hv
      exact tri_cutEnd _ ⟨rfl, by rw [hb0, if_pos hv'] <;> rfl, rfl⟩ ⟨rfl, rfl, rfl, rfl, rfl, rfl, trivial⟩
    · refine tri_skip ?_
      have hv' : ¬ R2.lives (decide (R8.g (R8.s16 ns n) 5 = 1)) (R8.ar (R8.s16 ns n) 5) = true := fun h => Bool.false_ne_true (hv.symm.trans h)
      exact tri_cutEnd _ ⟨rfl, by rw [hb0, if_neg hv'] <;> rfl, rfl⟩ ⟨rfl, rfl, rfl, rfl, rfl, rfl, trivial⟩
  rintro _ _ _ ⟨rfl, rfl, rfl⟩
  skip
  refine tri_inBlock ?_
  refine tri_then ?_
  refine tri_region ?_
  refine tri_v (opv_add rfl rfl (w64 (by omega) (by omega))) rfl ?_
  refine tri_v (opv_move rfl) rfl ?_
  refine tri_nil ?_
  refine tri_then ?_
  refine tri_round ?_
  refine tri_seq ?_
  refine tri_region ?_
  refine tri_v (opv_lss rfl rfl) rfl ?_
  refine tri_nil ?_
  refine tri_then ?_
  refine tri_seq ?_
  skip
  refine tri_cond_is rfl (by decide) ?_
  refine tri_skip ?_
  refine tri_then ?_
  refine tri_seq ?_
  refine tri_block ?_
  refine tri_seq ?_
  refine tri_region ?_
  refine tri_v (opv_move rfl) rfl ?_
  refine tri_v (opv_assign rfl) rfl ?_
  refine tri_nil ?_
  refine tri_then ?_
  refine tri_seq ?_
  refine tri_region ?_
  refine tri_v (opv_move rfl) rfl ?_
  refine tri_v (opv_quoE rfl rfl (by omega) (by omega) (by omega)) rfl ?_
  refine tri_v (opv_add rfl rfl (w64 (by omega) (by omega))) rfl ?_
  refine tri_v (opv_mul rfl rfl (w64 (by omega) (by omega))) rfl ?_
  refine tri_v (opv_add rfl rfl (w64 (by omega) (by omega))) rfl ?_
  refine tri_v (opv_move rfl) rfl ?_
  refine tri_v (opv_remE rfl rfl (by omega) (by omega)) rfl ?_
  refine tri_v (opv_add rfl rfl (w64 (by omega) (by omega))) rfl ?_
  refine tri_v (opv_assign rfl) rfl ?_
  refine tri_nil ?_
  refine tri_then ?_
  refine tri_seq ?_
  refine tri_draw [0, 1, 2, 3, 4, 5, 6, 7] rfl [] rfl mixed ?_
  refine th_take rfl rfl (by kernel_rfl)  (opv_move rfl) ?_
  refine th_take rfl rfl (by kernel_rfl)  (opv_indexAddrA rfl rfl (by decide) (by decide)) ?_
  refine th_take rfl rfl (by kernel_rfl)  (opv_load1 rfl rfl rfl) ?_
  refine th_take rfl rfl (by kernel_rfl)  (opv_eql rfl rfl) ?_
  refine th_take rfl rfl (by kernel_rfl)  (opv_loadA rfl rfl rfl) ?_
  refine th_take rfl rfl (by kernel_rfl)  (opv_move rfl) ?_
  refine th_one (by kernel_rfl) (step_m rfl rfl (opg_call (xs := [_, _]) rfl (base_around (i := 6) hlen hb (by omega) (by omega))) ?_)
  rintro _ _ _ ⟨rfl, rfl, rfl⟩
  refine ⟨Suf.h, (fun _ h => h), ?_⟩
  skip
  refine th_one (by kernel_rfl) (step_m rfl rfl (opg_call (xs := [_, _]) rfl (life_lives)) ?_)
  rintro _ _ _ ⟨rfl, rfl, rfl⟩
  refine ⟨Suf.h, (fun _ h => h), ?_⟩
  refine th_done (by kernel_rfl) ?_
  refine tri_then ?_
  refine tri_cut (fun F' A' J => F' = [(1, .int .i64 n), (2, pt b2 0), (6, pt b6 0), (7, pt b7 0), (8, .int .i64 1), (13, .int .i64 1)] ∧ A' = Box b7 [.int .i64 (R8.bit (R8.s16 ns n) 1 1), .int .i64 (R8.bit (R8.s16 ns n) 1 2), .int .i64 (0), .int .i64 (0)] 43 :: Box b6 (ints (R8.s16 ns n)) 95 :: Box bx [.slice a ns.length cap, .int .i64 room, .map (some mb)] 73 :: Row a cap ns.length 45 6 (encs ns) :: Box b2 [pt bx 0] 66 :: MapA Try.prog 43 mb es :: A ∧ I = J) ?_ ?_
  · refine tri_cond rfl (fun hv => ?_) (fun hv => ?_)
    · refine tri_region ?_
      refine tri_v (opv_move rfl) rfl ?_
      refine tri_v (opv_indexAddrA rfl rfl (by decide) (by decide)) rfl ?_
      refine tri_g (opg_store rfl rfl rfl rfl rfl rfl) rfl ?_
      rintro _ _ _ ⟨rfl, rfl⟩
      refine tri_nil ?_
      have hv' : R2.lives (decide (R8.g (R8.s16 ns n) 6 = 1)) (R8.ar (R8.s16 ns n) 6) = true := hv
      exact tri_cutEnd _ ⟨rfl, by rw [hb1, if_pos hv'] <;> rfl, rfl⟩ ⟨rfl, rfl, rfl, rfl, rfl, rfl, trivial⟩
    · refine tri_skip ?_
      have hv' : ¬ R2.lives (decide (R8.g (R8.s16 ns n) 6 = 1)) (R8.ar (R8.s16 ns n) 6) = true := fun h => Bool.false_ne_true (hv.symm.trans h)
      exact tri_cutEnd _ ⟨rfl, by rw [hb1, if_neg hv'] <;> rfl, rfl⟩ ⟨rfl, rfl, rfl, rfl, rfl, rfl, trivial⟩
  rintro _ _ _ ⟨rfl, rfl, rfl⟩
  skip
  refine tri_inBlock ?_
  refine tri_then ?_
  refine tri_region ?_
  refine tri_v (opv_add rfl rfl (w64 (by omega) (by omega))) rfl ?_
  refine tri_v (opv_move rfl) rfl ?_
  refine tri_nil ?_
  refine tri_then ?_
  refine tri_round ?_
  refine tri_seq ?_
  refine tri_region ?_
  refine tri_v (opv_lss rfl rfl) rfl ?_
  refine tri_nil ?_
  refine tri_then ?_
  refine tri_seq ?_
  skip
  refine tri_cond_is rfl (by decide) ?_
  refine tri_skip ?_
  refine tri_then ?_
  refine tri_seq ?_
  refine tri_block ?_
  refine tri_seq ?_
  refine tri_region ?_
  refine tri_v (opv_move rfl) rfl ?_
  refine tri_v (opv_assign rfl) rfl ?_
  refine tri_nil ?_
  refine tri_then ?_
  refine tri_seq ?_
  refine tri_region ?_
  refine tri_v (opv_move rfl) rfl ?_
  refine tri_v (opv_quoE rfl rfl (by omega) (by omega) (by omega)) rfl ?_
  refine tri_v (opv_add rfl rfl (w64 (by omega) (by omega))) rfl ?_
  refine tri_v (opv_mul rfl rfl (w64 (by omega) (by omega))) rfl ?_
  refine tri_v (opv_add rfl rfl (w64 (by omega) (by omega))) rfl ?_
  refine tri_v (opv_move rfl) rfl ?_
  refine tri_v (opv_remE rfl rfl (by omega) (by omega)) rfl ?_
  refine tri_v (opv_add rfl rfl (w64 (by omega) (by omega))) rfl ?_
  refine tri_v (opv_assign rfl) rfl ?_
  refine tri_nil ?_
  refine tri_then ?_
  refine tri_seq ?_
  refine tri_draw [0, 1, 2, 3, 4, 5, 6, 7] rfl [] rfl mixed ?_
  refine th_take rfl rfl (by kernel_rfl)  (opv_move rfl) ?_
  refine th_take rfl rfl (by kernel_rfl)  (opv_indexAddrA rfl rfl (by decide) (by decide)) ?_
  refine th_take rfl rfl (by kernel_rfl)  (opv_load1 rfl rfl rfl) ?_
  refine th_take rfl rfl (by kernel_rfl)  (opv_eql rfl rfl) ?_
  refine th_take rfl rfl (by kernel_rfl)  (opv_loadA rfl rfl rfl) ?_
  refine th_take rfl rfl (by kernel_rfl)  (opv_move rfl) ?_
  refine th_one (by kernel_rfl) (step_m rfl rfl (opg_call (xs := [_, _]) rfl (base_around (i := 9) hlen hb (by omega) (by omega))) ?_)
  rintro _ _ _ ⟨rfl, rfl, rfl⟩
  refine ⟨Suf.h, (fun _ h => h), ?_⟩
  skip
  refine th_one (by kernel_rfl) (step_m rfl rfl (opg_call (xs := [_, _]) rfl (life_lives)) ?_)
  rintro _ _ _ ⟨rfl, rfl, rfl⟩
  refine ⟨Suf.h, (fun _ h => h), ?_⟩
  refine th_done (by kernel_rfl) ?_
  refine tri_then ?_
  refine tri_cut (fun F' A' J => F' = [(1, .int .i64 n), (2, pt b2 0), (6, pt b6 0), (7, pt b7 0), (8, .int .i64 2), (13, .int .i64 2)] ∧ A' = Box b7 [.int .i64 (R8.bit (R8.s16 ns n) 1 1), .int .i64 (R8.bit (R8.s16 ns n) 1 2), .int .i64 (R8.bit (R8.s16 ns n) 2 1), .int .i64 (0)] 43 :: Box b6 (ints (R8.s16 ns n)) 95 :: Box bx [.slice a ns.length cap, .int .i64 room, .map (some mb)] 73 :: Row a cap ns.length 45 6 (encs ns) :: Box b2 [pt bx 0] 66 :: MapA Try.prog 43 mb es :: A ∧ I = J) ?_ ?_
  · refine tri_cond rfl (fun hv => ?_) (fun hv => ?_)
    · refine tri_region ?_
      refine tri_v (opv_move rfl) rfl ?_
      refine tri_v (opv_indexAddrA rfl rfl (by decide) (by decide)) rfl ?_
      refine tri_g (opg_store rfl rfl rfl rfl rfl rfl) rfl ?_
      rintro _ _ _ ⟨rfl, rfl⟩
      refine tri_nil ?_
      have hv' : R2.lives (decide (R8.g (R8.s16 ns n) 9 = 1)) (R8.ar (R8.s16 ns n) 9) = true := hv
      exact tri_cutEnd _ ⟨rfl, by rw [hb2, if_pos hv'] <;> rfl, rfl⟩ ⟨rfl, rfl, rfl, rfl, rfl, rfl, trivial⟩
    · refine tri_skip ?_
      have hv' : ¬ R2.lives (decide (R8.g (R8.s16 ns n) 9 = 1)) (R8.ar (R8.s16 ns n) 9) = true := fun h => Bool.false_ne_true (hv.symm.trans h)
      exact tri_cutEnd _ ⟨rfl, by rw [hb2, if_neg hv'] <;> rfl, rfl⟩ ⟨rfl, rfl, rfl, rfl, rfl, rfl, trivial⟩
  rintro _ _ _ ⟨rfl, rfl, rfl⟩
  skip
  refine tri_inBlock ?_
  refine tri_then ?_
  refine tri_region ?_
  refine tri_v (opv_add rfl rfl (w64 (by omega) (by omega))) rfl ?_
  refine tri_v (opv_move rfl) rfl ?_
  refine tri_nil ?_
  refine tri_then ?_
  refine tri_round ?_
  refine tri_seq ?_
  refine tri_region ?_
  refine tri_v (opv_lss rfl rfl) rfl ?_
  refine tri_nil ?_
  refine tri_then ?_
  refine tri_seq ?_
  skip
  refine tri_cond_is rfl (by decide) ?_
  refine tri_skip ?_
  refine tri_then ?_
  refine tri_seq ?_
  refine tri_block ?_
  refine tri_seq ?_
  refine tri_region ?_
  refine tri_v (opv_move rfl) rfl ?_
  refine tri_v (opv_assign rfl) rfl ?_
  refine tri_nil ?_
  refine tri_then ?_
  refine tri_seq ?_
  refine tri_region ?_
  refine tri_v (opv_move rfl) rfl ?_
  refine tri_v (opv_quoE rfl rfl (by omega) (by omega) (by omega)) rfl ?_
  refine tri_v (opv_add rfl rfl (w64 (by omega) (by omega))) rfl ?_
  refine tri_v (opv_mul rfl rfl (w64 (by omega) (by omega))) rfl ?_
  refine tri_v (opv_add rfl rfl (w64 (by omega) (by omega))) rfl ?_
  refine tri_v (opv_move rfl) rfl ?_
  refine tri_v (opv_remE rfl rfl (by omega) (by omega)) rfl ?_
  refine tri_v (opv_add rfl rfl (w64 (by omega) (by omega))) rfl ?_
  refine tri_v (opv_assign rfl) rfl ?_
  refine tri_nil ?_
  refine tri_then ?_
  refine tri_seq ?_
  refine tri_draw [0, 1, 2, 3, 4, 5, 6, 7] rfl [] rfl mixed ?_
  refine th_take rfl rfl (by kernel_rfl)  (opv_move rfl) ?_
  refine th_take rfl rfl (by kernel_rfl)  (opv_indexAddrA rfl rfl (by decide) (by decide)) ?_
  refine th_take rfl rfl (by kernel_rfl)  (opv_load1 rfl rfl rfl) ?_
  refine th_take rfl rfl (by kernel_rfl)  (opv_eql rfl rfl) ?_
  refine th_take rfl rfl (by kernel_rfl)  (opv_loadA rfl rfl rfl) ?_
  refine th_take rfl rfl (by kernel_rfl)  (opv_move rfl) ?_
  refine th_one (by kernel_rfl) (step_m rfl rfl (opg_call (xs := [_, _]) rfl (base_around (i := 10) hlen hb (by omega) (by omega))) ?_)
  rintro _ _ _ ⟨rfl, rfl, rfl⟩
  refine ⟨Suf.h, (fun _ h => h), ?_⟩
  skip
  refine th_one (by kernel_rfl) (step_m rfl rfl (opg_call (xs := [_, _]) rfl (life_lives)) ?_)
  rintro _ _ _ ⟨rfl, rfl, rfl⟩
  refine ⟨Suf.h, (fun _ h => h), ?_⟩
  refine th_done (by kernel_rfl) ?_
  refine tri_then ?_
  refine tri_cut (fun F' A' J => F' = [(1, .int .i64 n), (2, pt b2 0), (6, pt b6 0), (7, pt b7 0), (8, .int .i64 3), (13, .int .i64 3)] ∧ A' = Box b7 [.int .i64 (R8.bit (R8.s16 ns n) 1 1), .int .i64 (R8.bit (R8.s16 ns n) 1 2), .int .i64 (R8.bit (R8.s16 ns n) 2 1), .int .i64 (R8.bit (R8.s16 ns n) 2 2)] 43 :: Box b6 (ints (R8.s16 ns n)) 95 :: Box bx [.slice a ns.length cap, .int .i64 room, .map (some mb)] 73 :: Row a cap ns.length 45 6 (encs ns) :: Box b2 [pt bx 0] 66 :: MapA Try.prog 43 mb es :: A ∧ I = J) ?_ ?_
  · refine tri_cond rfl (fun hv => ?_) (fun hv => ?_)
    · refine tri_region ?_
      refine tri_v (opv_move rfl) rfl ?_
      refine tri_v (opv_indexAddrA rfl rfl (by decide) (by decide)) rfl ?_
      refine tri_g (opg_store rfl rfl rfl rfl rfl rfl) rfl ?_
      rintro _ _ _ ⟨rfl, rfl⟩
      refine tri_nil ?_
      have hv' : R2.lives (decide (R8.g (R8.s16 ns n) 10 = 1)) (R8.ar (R8.s16 ns n) 10) = true := hv
      exact tri_cutEnd _ ⟨rfl, by rw [hb3, if_pos hv'] <;> rfl, rfl⟩ ⟨rfl, rfl, rfl, rfl, rfl, rfl, trivial⟩
    · refine tri_skip ?_
      have hv' : ¬ R2.lives (decide (R8.g (R8.s16 ns n) 10 = 1)) (R8.ar (R8.s16 ns n) 10) = true := fun h => Bool.false_ne_true (hv.symm.trans h)
      exact tri_cutEnd _ ⟨rfl, by rw [hb3, if_neg hv'] <;> rfl, rfl⟩ ⟨rfl, rfl, rfl, rfl, rfl, rfl, trivial⟩
  rintro _ _ _ ⟨rfl, rfl, rfl⟩
  skip
  refine tri_inBlock ?_
  refine tri_then ?_
  refine tri_region ?_
  refine tri_v (opv_add rfl rfl (w64 (by omega) (by omega))) rfl ?_
  refine tri_v (opv_move rfl) rfl ?_
  refine tri_nil ?_
  refine tri_then ?_
  refine tri_round ?_
  refine tri_seq ?_
  refine tri_region ?_
  refine tri_v (opv_lss rfl rfl) rfl ?_
  refine tri_nil ?_
  refine tri_then ?_
  refine tri_seq ?_
  refine tri_cond_not rfl (by decide) ?_
  refine tri_exit ?_
  refine tri_then_exit ?_
  refine tri_then_exit ?_
  refine tri_inBlock_hit rfl ?_
  refine tri_then ?_
  refine tri_seq ?_
  refine tri_perm (A := ?a4_0 :: ?a4_1 :: ?a4_2 :: ?a4_3 :: ?a4_4 :: ?a4_5 :: ?T4) (B := ?a4_2 :: ?a4_3 :: ?a4_5 :: ?a4_0 :: ?a4_1 :: ?a4_4 :: ?T4) (by exact permL [2, 3, 5, 0, 1, 4] [?a4_0, ?a4_1, ?a4_2, ?a4_3, ?a4_4, ?a4_5] ?T4 (by decide) rfl) ?_
  refine tri_region ?_
  refine tri_v (opv_fieldAddr rfl rfl) rfl ?_
  refine tri_v (opv_load1 rfl rfl rfl) rfl ?_
  refine tri_v (opv_loadA rfl rfl rfl) rfl ?_
  refine tri_g (opg_call (xs := [_, _]) rfl (node_putR (r := R8.one ns room n) hg h2 hi rfl)) rfl ?_
  rintro _ _ _ ⟨a1, c1, es1, rfl, rfl, hi1, rfl⟩
  refine tri_v (opv_extract rfl rfl) rfl ?_
  refine tri_v (opv_extract rfl rfl) rfl ?_
  refine tri_v (opv_assign rfl) rfl ?_
  refine tri_v (opv_assign rfl) rfl ?_
  refine tri_nil ?_
  refine tri_then ?_
  refine tri_ret ?_
  refine tri_perm (A := ?a5_0 :: ?a5_1 :: ?a5_2 :: ?a5_3 :: ?a5_4 :: ?a5_5 :: ?T5) (B := ?a5_3 :: ?a5_4 :: ?a5_5 :: ?a5_0 :: ?a5_1 :: ?a5_2 :: ?T5) (by exact permL [3, 4, 5, 0, 1, 2] [?a5_0, ?a5_1, ?a5_2, ?a5_3, ?a5_4, ?a5_5] ?T5 (by decide) rfl) ?_
  refine tri_end (IxA bx mb a1 c1 (R8.one ns room n).1 room es1 A) Suf.h rfl (.cons (rv_tmp rfl) (.cons (rv_tmp rfl) .nil)) ⟨a1, c1, es1, rfl, rfl, hi1, rfl⟩
end Go.GL

set_option linter.unusedVariables false
namespace Go.GL
open Go.Proofs
attribute [local irreducible] wpList Code.wp Exit.then Exit.inBlock Ends Tri TriH OpV OpG FnC epf wpAnyH
def BaseOfR (ns : List Node) (room n lv : Int) (A : List Asrt) (I : List Chunk) : Value → List Asrt → List Chunk → Prop := fun v A' I' =>
  (R8.may ns room n lv ∧ ∃ bx mb a' cap' es, v = .tuple [.agg [pt bx 0].toArray, .bool true].toArray ∧ A' = IxA bx mb a' cap' ns room es A ∧ Idx ns es ∧ I = I') ∨ (¬ R8.may ns room n lv ∧ ∃ p, v = .tuple [.agg [.pointer p].toArray, .bool false].toArray ∧ A = A' ∧ I = I')
set_option maxHeartbeats 1000000 in
set_option maxRecDepth 100000 in
theorem base_of {A : List Asrt} {I : List Chunk} {ns : List Node} {a : Option Addr} {cap : Nat} {room n lv : Int} (hs : StA I a cap ns) (hn : ns.length ≤ 1000000000) :
    FnC Try.prog 58 [storeV a ns.length cap room, .int .i64 n, .int .i64 lv].toArray A I (BaseOfR ns room n lv A I) := by
  have hsl := hs.sl
  skip
  refine fn_enter3 Try.func58 rfl Try.ntmps58 rfl fun w0 => ?_
  refine tri_seq ?_
  refine tri_region ?_
  refine tri_g (opg_box_agg rfl) rfl ?_
  rintro _ _ _ ⟨b3, rfl, rfl, rfl⟩
  refine tri_g opg_alloc rfl ?_
  rintro _ _ _ ⟨b6, rfl, rfl, rfl⟩
  refine tri_v (opv_assign rfl) rfl ?_
  refine tri_nil ?_
  refine tri_then ?_
  refine tri_seq ?_
  refine tri_region ?_
  refine tri_v (opv_loadA rfl rfl rfl) rfl ?_
  refine tri_g (opg_call (xs := [_]) rfl (node_of hs hn)) rfl ?_
  rintro v A1 I1 hR
  rcases hR with ⟨hr, bx, mb, a1, c1, es, rfl, rfl, hix, rfl⟩ | ⟨hr, rfl, rfl, rfl⟩
  · refine tri_v (opv_move rfl) rfl ?_
    refine tri_v (opv_extract rfl rfl) rfl ?_
    refine tri_v (opv_extract rfl rfl) rfl ?_
    refine tri_v (opv_assign rfl) rfl ?_
    refine tri_v (opv_assign rfl) rfl ?_
    refine tri_nil ?_
    refine tri_then ?_
    refine tri_seq ?_
    refine tri_perm (A := ?a1_0 :: ?a1_1 :: ?a1_2 :: ?a1_3 :: ?T1) (B := ?a1_3 :: ?a1_0 :: ?a1_1 :: ?a1_2 :: ?T1) (by exact permL [3, 0, 1, 2] [?a1_0, ?a1_1, ?a1_2, ?a1_3] ?T1 (by decide) rfl) ?_
    skip
    refine tri_draw [0, 1, 2, 3, 4, 5, 6, 7, 8, 9, 10, 11, 12, 13, 14, 15, 16, 17, 18, 19, 20, 21, 22, 23, 24, 25] rfl [_] rfl mixed ?_
    refine th_take rfl rfl (by kernel_rfl)  (opv_move rfl) ?_
    refine th_take rfl rfl (by kernel_rfl)  (opv_buildS rfl rfl) ?_
    refine th_take rfl rfl (by kernel_rfl)  (opv_move rfl) ?_
    refine th_take rfl rfl (by kernel_rfl)  (opv_move rfl) ?_
    skip
    refine th_take_g rfl rfl rfl rfl rfl (by kernel_rfl)  (opv_move rfl) ?_
    refine th_take_g rfl rfl rfl rfl rfl (by kernel_rfl)  (opv_geq rfl rfl) ?_
    refine th_take rfl rfl (by kernel_rfl)  (opv_pick_t rfl rfl) ?_
    refine th_take rfl rfl (by kernel_rfl)  (opv_move rfl) ?_
    refine th_split rfl rfl rfl (fun h1 => ?_) (fun h1 => ?_)
    · refine th_take_g rfl rfl rfl rfl rfl (by kernel_rfl)  (opv_move rfl) ?_
      refine th_take_g rfl rfl rfl rfl rfl (by kernel_rfl)  (opv_fieldAddr rfl rfl) ?_
      refine th_take_g rfl rfl rfl rfl rfl (by kernel_rfl)  (opv_load1 rfl rfl rfl) ?_
      refine th_take_g rfl rfl rfl rfl rfl (by kernel_rfl)  (opv_len rfl) ?_
      refine th_take_g rfl rfl rfl rfl rfl (by kernel_rfl)  (opv_lss rfl rfl) ?_
      refine th_take rfl rfl (by kernel_rfl)  (opv_pick_t rfl rfl) ?_
      refine th_take rfl rfl (by kernel_rfl)  (opv_move rfl) ?_
      refine th_split rfl rfl rfl (fun h2 => ?_) (fun h2 => ?_)
      · refine th_take_g rfl rfl rfl rfl rfl (by kernel_rfl)  (opv_fieldAddr rfl rfl) ?_
        refine th_take_g rfl rfl rfl rfl rfl (by kernel_rfl)  (opv_load1 rfl rfl rfl) ?_
        refine th_take_g rfl rfl rfl rfl rfl (by kernel_rfl)  (opv_move rfl) ?_
        refine th_take_g rfl rfl rfl rfl rfl (by kernel_rfl)  (opv_indexAddrS rfl rfl (by omega) (by omega) (by assumption) rfl) ?_
        refine th_take_g rfl rfl rfl rfl rfl (by kernel_rfl)  (opv_fieldAddrE rfl (by assumption) (by omega) rfl) ?_
        refine th_take_g rfl rfl rfl rfl rfl (by kernel_rfl)  (opv_loadE1 rfl (by assumption) rfl (by omega) rfl rfl) ?_
        refine th_take_g rfl rfl rfl rfl rfl (by kernel_rfl)  (opv_move rfl) ?_
        refine th_take_g rfl rfl rfl rfl rfl (by kernel_rfl)  (opv_geq rfl rfl) ?_
        refine th_take rfl rfl (by kernel_rfl)  (opv_pick_t rfl rfl) ?_
        refine th_one (by kernel_rfl) (step_m rfl rfl (opg_store rfl rfl rfl rfl rfl rfl) ?_)
        rintro _ _ _ ⟨rfl, rfl⟩
        refine ⟨Suf.h, (fun _ h => h), ?_⟩
        refine th_take rfl rfl (by kernel_rfl)  (opv_assign rfl) ?_
        refine th_done (by kernel_rfl) ?_
        refine tri_then ?_
        refine tri_ret ?_
        refine tri_perm (A := ?a2_0 :: ?a2_1 :: ?a2_2 :: ?a2_3 :: ?a2_4 :: ?T2) (B := ?a2_0 :: ?a2_4 :: ?a2_1 :: ?a2_2 :: ?a2_3 :: ?T2) (by exact permL [0, 4, 1, 2, 3] [?a2_0, ?a2_1, ?a2_2, ?a2_3, ?a2_4] ?T2 (by decide) rfl) ?_
        by_cases h3 : lv ≤ (ns.getD n.toNat default).lv
        · rw [decide_eq_true h3]
          refine tri_end _ (⟨[_, _], rfl⟩) rfl (.cons (rv_cellA rfl rfl rfl) (.cons (rv_tmp rfl) .nil)) (.inl ⟨⟨hr, ⟨h1, h2⟩, h3⟩, bx, mb, a1, c1, es, rfl, rfl, hix, rfl⟩)
        · rw [decide_eq_false h3]
          refine tri_end A Suf.h rfl (.cons (rv_cellA rfl rfl rfl) (.cons (rv_tmp rfl) .nil)) (.inr ⟨fun h => h3 h.2.2, _, rfl, rfl, rfl⟩)
      · refine th_skip rfl rfl rfl rfl rfl (by kernel_rfl)  ?_
        refine th_skip rfl rfl rfl rfl rfl (by kernel_rfl)  ?_
        refine th_skip rfl rfl rfl rfl rfl (by kernel_rfl)  ?_
        refine th_skip rfl rfl rfl rfl rfl (by kernel_rfl)  ?_
        refine th_skip rfl rfl rfl rfl rfl (by kernel_rfl)  ?_
        refine th_skip rfl rfl rfl rfl rfl (by kernel_rfl)  ?_
        refine th_skip rfl rfl rfl rfl rfl (by kernel_rfl)  ?_
        refine th_skip rfl rfl rfl rfl rfl (by kernel_rfl)  ?_
        refine th_take rfl rfl (by kernel_rfl)  (opv_pick_f rfl rfl) ?_
        refine th_one (by kernel_rfl) (step_m rfl rfl (opg_store rfl rfl rfl rfl rfl rfl) ?_)
        rintro _ _ _ ⟨rfl, rfl⟩
        refine ⟨Suf.h, (fun _ h => h), ?_⟩
        refine th_take rfl rfl (by kernel_rfl)  (opv_assign rfl) ?_
        refine th_done (by kernel_rfl) ?_
        refine tri_then ?_
        refine tri_ret ?_
        refine tri_end A Suf.h rfl (.cons (rv_cellA rfl rfl rfl) (.cons (rv_tmp rfl) .nil)) (.inr ⟨fun h => h2 h.2.1.2, _, rfl, rfl, rfl⟩)
    · refine th_skip rfl rfl rfl rfl rfl (by kernel_rfl)  ?_
      refine th_skip rfl rfl rfl rfl rfl (by kernel_rfl)  ?_
      refine th_skip rfl rfl rfl rfl rfl (by kernel_rfl)  ?_
      refine th_skip rfl rfl rfl rfl rfl (by kernel_rfl)  ?_
      refine th_skip rfl rfl rfl rfl rfl (by kernel_rfl)  ?_
      refine th_take rfl rfl (by kernel_rfl)  (opv_pick_f rfl rfl) ?_
      refine th_take rfl rfl (by kernel_rfl)  (opv_move rfl) ?_
      refine th_skip rfl rfl rfl rfl rfl (by kernel_rfl)  ?_
      refine th_skip rfl rfl rfl rfl rfl (by kernel_rfl)  ?_
      refine th_skip rfl rfl rfl rfl rfl (by kernel_rfl)  ?_
      refine th_skip rfl rfl rfl rfl rfl (by kernel_rfl)  ?_
      refine th_skip rfl rfl rfl rfl rfl (by kernel_rfl)  ?_
      refine th_skip rfl rfl rfl rfl rfl (by kernel_rfl)  ?_
      refine th_skip rfl rfl rfl rfl rfl (by kernel_rfl)  ?_
      refine th_skip rfl rfl rfl rfl rfl (by kernel_rfl)  ?_
      refine th_take rfl rfl (by kernel_rfl)  (opv_pick_f rfl rfl) ?_
      refine th_one (by kernel_rfl) (step_m rfl rfl (opg_store rfl rfl rfl rfl rfl rfl) ?_)
      rintro _ _ _ ⟨rfl, rfl⟩
      refine ⟨Suf.h, (fun _ h => h), ?_⟩
      refine th_take rfl rfl (by kernel_rfl)  (opv_assign rfl) ?_
      refine th_done (by kernel_rfl) ?_
      refine tri_then ?_
      refine tri_ret ?_
      refine tri_end A Suf.h rfl (.cons (rv_cellA rfl rfl rfl) (.cons (rv_tmp rfl) .nil)) (.inr ⟨fun h => h1 h.2.1.1, _, rfl, rfl, rfl⟩)
  · refine tri_v (opv_move rfl) rfl ?_
    refine tri_v (opv_extract rfl rfl) rfl ?_
    refine tri_v (opv_extract rfl rfl) rfl ?_
    refine tri_v (opv_assign rfl) rfl ?_
    refine tri_v (opv_assign rfl) rfl ?_
    refine tri_nil ?_
    refine tri_then ?_
    refine tri_seq ?_
    skip
    refine tri_draw [0, 1, 2, 3, 4, 5, 6, 7, 8, 9, 10, 11, 12, 13, 14, 15, 16, 17, 18, 19, 20, 21, 22, 23, 24, 25] rfl [_] rfl mixed ?_
    refine th_take rfl rfl (by kernel_rfl)  (opv_move rfl) ?_
    refine th_take rfl rfl (by kernel_rfl)  (opv_buildS rfl rfl) ?_
    refine th_take rfl rfl (by kernel_rfl)  (opv_move rfl) ?_
    refine th_take rfl rfl (by kernel_rfl)  (opv_move rfl) ?_
    skip
    refine th_skip rfl rfl rfl rfl rfl (by kernel_rfl)  ?_
    refine th_skip rfl rfl rfl rfl rfl (by kernel_rfl)  ?_
    refine th_take rfl rfl (by kernel_rfl)  (opv_pick_f rfl rfl) ?_
    refine th_take rfl rfl (by kernel_rfl)  (opv_move rfl) ?_
    refine th_skip rfl rfl rfl rfl rfl (by kernel_rfl)  ?_
    refine th_skip rfl rfl rfl rfl rfl (by kernel_rfl)  ?_
    refine th_skip rfl rfl rfl rfl rfl (by kernel_rfl)  ?_
    refine th_skip rfl rfl rfl rfl rfl (by kernel_rfl)  ?_
    refine th_skip rfl rfl rfl rfl rfl (by kernel_rfl)  ?_
    refine th_take rfl rfl (by kernel_rfl)  (opv_pick_f rfl rfl) ?_
    refine th_take rfl rfl (by kernel_rfl)  (opv_move rfl) ?_
    refine th_skip rfl rfl rfl rfl rfl (by kernel_rfl)  ?_
    refine th_skip rfl rfl rfl rfl rfl (by kernel_rfl)  ?_
    refine th_skip rfl rfl rfl rfl rfl (by kernel_rfl)  ?_
    refine th_skip rfl rfl rfl rfl rfl (by kernel_rfl)  ?_
    refine th_skip rfl rfl rfl rfl rfl (by kernel_rfl)  ?_
    refine th_skip rfl rfl rfl rfl rfl (by kernel_rfl)  ?_
    refine th_skip rfl rfl rfl rfl rfl (by kernel_rfl)  ?_
    refine th_skip rfl rfl rfl rfl rfl (by kernel_rfl)  ?_
    refine th_take rfl rfl (by kernel_rfl)  (opv_pick_f rfl rfl) ?_
    refine th_one (by kernel_rfl) (step_m rfl rfl (opg_store rfl rfl rfl rfl rfl rfl) ?_)
    rintro _ _ _ ⟨rfl, rfl⟩
    refine ⟨Suf.h, (fun _ h => h), ?_⟩
    refine th_take rfl rfl (by kernel_rfl)  (opv_assign rfl) ?_
    refine th_done (by kernel_rfl) ?_
    refine tri_then ?_
    refine tri_ret ?_
    refine tri_end A Suf.h rfl (.cons (rv_cellA rfl rfl rfl) (.cons (rv_tmp rfl) .nil)) (.inr ⟨fun h => hr h.1, _, rfl, rfl, rfl⟩)
end Go.GL

set_option linter.unusedVariables false
namespace Go.GL
open Go.Proofs
attribute [local irreducible] wpList Code.wp Exit.then Exit.inBlock Ends Tri TriH OpV OpG FnC epf wpAnyH
/-- What told makes of what a maker told. -/
def toldR (ns : List Node) (room n : Int) (r : List Node × Int × Int) : List Node × Int × Int := if R8.may ns room n 2 then (if r.2.2 ≠ 0 then (ns, 0, r.2.2) else r) else (ns, 0, 1)
set_option maxHeartbeats 1000000 in
set_option maxRecDepth 100000 in
theorem told_int {A : List Asrt} {I : List Chunk} {ns : List Node} {a : Option Addr} {cap bn f : Nat} {room n : Int} {r : List Node × Int × Int} [FnI Try.prog f] (hs : StA I a cap ns) (hn : ns.length ≤ 1000000000)
    (hc : R8.may ns room n 2 → ∀ bx mb a cap es (X Y Z : Asrt), Idx ns es → FnC Try.prog f [.agg [pt bx 0].toArray, pt bn 0].toArray (IxA bx mb a cap ns room es (X :: Y :: Z :: Box bn [.int .i64 n] 3 :: A)) I (IxR bx mb r room (X :: Y :: Z :: Box bn [.int .i64 n] 3 :: A) I)) :
    FnC Try.prog 31 [storeV a ns.length cap room, .int .i64 n, .func (.func f) [].toArray [pt bn 0].toArray].toArray (Box bn [.int .i64 n] 3 :: A) I (StoreR (toldR ns room n r) room (Box bn [.int .i64 n] 3 :: A) I) := by
  skip
  refine fn_enter3 Try.func31 rfl Try.ntmps31 rfl fun w0 => ?_
  refine tri_seq ?_
  refine tri_region ?_
  refine tri_g (opg_box_agg rfl) rfl ?_
  rintro _ _ _ ⟨b3, rfl, rfl, rfl⟩
  refine tri_g opg_alloc rfl ?_
  rintro _ _ _ ⟨b6, rfl, rfl, rfl⟩
  refine tri_v (opv_assign rfl) rfl ?_
  refine tri_v (opv_assign rfl) rfl ?_
  refine tri_nil ?_
  refine tri_then ?_
  refine tri_seq ?_
  refine tri_region ?_
  refine tri_v (opv_loadA rfl rfl rfl) rfl ?_
  refine tri_v (opv_move rfl) rfl ?_
  refine tri_g (opg_call (xs := [_, _, _]) rfl (base_of (lv := 2) hs hn)) rfl ?_
  rintro v A1 I1 hR
  rcases hR with ⟨hr, bx, mb, a1, c1, es, rfl, rfl, hix, rfl⟩ | ⟨hr, p, rfl, rfl, rfl⟩
  · refine tri_v (opv_move rfl) rfl ?_
    refine tri_v (opv_extract rfl rfl) rfl ?_
    refine tri_v (opv_extract rfl rfl) rfl ?_
    refine tri_g opg_alloc rfl ?_
    rintro _ _ _ ⟨b9, rfl, rfl, rfl⟩
    refine tri_g (opg_store rfl rfl rfl rfl rfl rfl) rfl ?_
    rintro _ _ _ ⟨rfl, rfl⟩
    refine tri_v (opv_assign rfl) rfl ?_
    refine tri_nil ?_
    refine tri_then ?_
    refine tri_seq ?_
    refine tri_seq ?_
    refine tri_region ?_
    refine tri_v (opv_move rfl) rfl ?_
    refine tri_v (opv_not rfl) rfl ?_
    refine tri_nil ?_
    refine tri_then ?_
    refine tri_cond_false (by rfl) ?_
    refine tri_skip ?_
    refine tri_then ?_
    refine tri_seq ?_
    refine tri_perm (A := ?a1_0 :: ?a1_1 :: ?a1_2 :: ?a1_3 :: ?a1_4 :: ?a1_5 :: ?T1) (B := ?a1_1 :: ?a1_2 :: ?a1_3 :: ?a1_0 :: ?a1_4 :: ?a1_5 :: ?T1) (by exact permL [1, 2, 3, 0, 4, 5] [?a1_0, ?a1_1, ?a1_2, ?a1_3, ?a1_4, ?a1_5] ?T1 (by decide) rfl) ?_
    refine tri_region ?_
    refine tri_v (opv_move rfl) rfl ?_
    refine tri_v (opv_loadA rfl rfl rfl) rfl ?_
    refine tri_g (opg_callv (vs := [.agg [pt bx 0].toArray]) (xs := [_]) rfl rfl (hc hr bx mb a1 c1 es _ _ _ hix)) rfl ?_
    rintro _ _ _ ⟨a2, c2, es2, rfl, rfl, hix2, rfl⟩
    refine tri_v (opv_move rfl) rfl ?_
    refine tri_v (opv_extract rfl rfl) rfl ?_
    refine tri_v (opv_extract rfl rfl) rfl ?_
    refine tri_v (opv_assign rfl) rfl ?_
    refine tri_v (opv_assign rfl) rfl ?_
    refine tri_nil ?_
    refine tri_then ?_
    refine tri_seq ?_
    refine tri_seq ?_
    refine tri_region ?_
    refine tri_v (opv_move rfl) rfl ?_
    refine tri_v (opv_neq rfl rfl) rfl ?_
    refine tri_nil ?_
    refine tri_then ?_
    refine tri_cond_dec rfl (fun h => ?_) (fun h => ?_)
    · refine tri_seq ?_
      refine tri_region ?_
      refine tri_v (opv_loadA rfl rfl rfl) rfl ?_
      refine tri_v (opv_move rfl) rfl ?_
      refine tri_v (opv_move rfl) rfl ?_
      refine tri_g (opg_store rfl rfl rfl rfl rfl rfl) rfl ?_
      rintro _ _ _ ⟨rfl, rfl⟩
      refine tri_v (opv_assign rfl) rfl ?_
      refine tri_v (opv_assign rfl) rfl ?_
      refine tri_nil ?_
      refine tri_then ?_
      refine tri_ret ?_
      refine tri_then_ret ?_
      refine tri_end (Box bn [.int .i64 n] 3 :: A) Suf.h rfl (.cons (rv_cellA rfl rfl rfl) (.cons (rv_tmp rfl) (.cons (rv_tmp rfl) .nil))) ?_
      rw [show toldR ns room n r = (ns, 0, r.2.2) from (if_pos hr).trans (if_pos h)]
      exact ⟨a, cap, rfl, hs, rfl, fun _ h => h⟩
    · refine tri_skip ?_
      refine tri_then ?_
      refine tri_seq ?_
      refine tri_region ?_
      refine tri_v (opv_fieldAddr rfl rfl) rfl ?_
      refine tri_v (opv_load1 rfl rfl rfl) rfl ?_
      refine tri_v (opv_nilCheck rfl) rfl ?_
      refine tri_v (opv_fieldAddr rfl rfl) rfl ?_
      refine tri_v (opv_loadA rfl rfl rfl) rfl ?_
      refine tri_v (opv_move rfl) rfl ?_
      refine tri_g (opg_store rfl rfl rfl rfl rfl rfl) rfl ?_
      rintro _ _ _ ⟨rfl, rfl⟩
      refine tri_v (opv_assign rfl) rfl ?_
      refine tri_v (opv_assign rfl) rfl ?_
      refine tri_nil ?_
      refine tri_then ?_
      refine tri_ret ?_
      refine tri_perm (A := ?a2_0 :: ?a2_1 :: ?T2) (B := ?a2_1 :: ?a2_0 :: ?T2) (by exact permL [1, 0] [?a2_0, ?a2_1] ?T2 (by decide) rfl) ?_
      refine tri_freezeRowC rfl fun I' hI hs' => ?_
      refine tri_end (Box bn [.int .i64 n] 3 :: A) Suf.h rfl (.cons (rv_cellA rfl rfl rfl) (.cons (rv_tmp rfl) (.cons (rv_tmp rfl) .nil))) ?_
      rw [show toldR ns room n r = r from (if_pos hr).trans (if_neg h)]
      have h0 : r.2.2 = 0 := Decidable.not_not.1 h
      exact ⟨a2, c2, by rw [h0]; rfl, hs', rfl, hI⟩
  · refine tri_v (opv_move rfl) rfl ?_
    refine tri_v (opv_extract rfl rfl) rfl ?_
    refine tri_v (opv_extract rfl rfl) rfl ?_
    refine tri_g opg_alloc rfl ?_
    rintro _ _ _ ⟨b9, rfl, rfl, rfl⟩
    refine tri_g (opg_store rfl rfl rfl rfl rfl rfl) rfl ?_
    rintro _ _ _ ⟨rfl, rfl⟩
    refine tri_v (opv_assign rfl) rfl ?_
    refine tri_nil ?_
    refine tri_then ?_
    refine tri_seq ?_
    refine tri_seq ?_
    refine tri_region ?_
    refine tri_v (opv_move rfl) rfl ?_
    refine tri_v (opv_not rfl) rfl ?_
    refine tri_nil ?_
    refine tri_then ?_
    refine tri_cond_true (by rfl) ?_
    refine tri_seq ?_
    refine tri_region ?_
    refine tri_v (opv_loadA rfl rfl rfl) rfl ?_
    refine tri_v (opv_move rfl) rfl ?_
    refine tri_g (opg_store rfl rfl rfl rfl rfl rfl) rfl ?_
    rintro _ _ _ ⟨rfl, rfl⟩
    refine tri_v (opv_assign rfl) rfl ?_
    refine tri_v (opv_assign rfl) rfl ?_
    refine tri_nil ?_
    refine tri_then ?_
    refine tri_ret ?_
    refine tri_then_ret ?_
    refine tri_end (Box bn [.int .i64 n] 3 :: A) Suf.h rfl (.cons (rv_cellA rfl rfl rfl) (.cons (rv_tmp rfl) (.cons (rv_tmp rfl) .nil))) ?_
    rw [show toldR ns room n r = (ns, 0, 1) from if_neg hr]
    exact ⟨a, cap, rfl, hs, rfl, fun _ h => h⟩
end Go.GL

set_option linter.unusedVariables false
namespace Go.GL
open Go.Proofs
attribute [local irreducible] wpList Code.wp Exit.then Exit.inBlock Ends Tri TriH OpV OpG FnC epf wpAnyH
theorem R6.put_err {ns : List Node} {room q0 q1 q2 q3 : Int} (h : (R6.put ns room q0 q1 q2 q3).2.2 ≠ 0) : R6.put ns room q0 q1 q2 q3 = (ns, 0, (R6.put ns room q0 q1 q2 q3).2.2) := by
  unfold R6.put at h ⊢
  split
  · split
    · rename_i h1 h2; rw [if_pos h1, if_pos h2] at h; exact absurd rfl h
    · split
      · rfl
      · rename_i h1 h2 h3; rw [if_pos h1, if_neg h2, if_neg h3] at h; exact absurd rfl h
  · rfl
theorem Idx_len {ns : List Node} {room : Int} (h : R6.right ns room) : 2 ≤ ns.length := h.1.2.2.1
set_option maxRecDepth 100000 in
theorem centre_clo {A : List Asrt} {I : List Chunk} {ns : List Node} {bn : Nat} {room n : Int} (hr : R8.may ns room n 2) (bx mb : Nat) (a : Option Addr) (cap : Nat) (es : KVs) (X Y Z : Asrt) (hix : Idx ns es) :
    FnC Try.prog 32 [.agg [pt bx 0].toArray, pt bn 0].toArray (IxA bx mb a cap ns room es (X :: Y :: Z :: Box bn [.int .i64 n] 3 :: A)) I (IxR bx mb (R8.putSq ns room (R8.s16 ns n) 1 1) room (X :: Y :: Z :: Box bn [.int .i64 n] 3 :: A) I) := by
  have hk := hr.1.kids hr.2.1 (by have := hr.2.2; omega)
  skip
  refine fn_enter2 Try.func32 rfl Try.ntmps32 rfl fun w0 => ?_
  refine tri_seq ?_
  refine tri_region ?_
  refine tri_g (opg_box_agg rfl) rfl ?_
  rintro _ _ _ ⟨b2, rfl, rfl, rfl⟩
  refine tri_v (opv_assign rfl) rfl ?_
  refine tri_v (opv_assign rfl) rfl ?_
  refine tri_nil ?_
  refine tri_then ?_
  refine tri_seq ?_
  refine tri_perm (A := ?a1_0 :: ?a1_1 :: ?a1_2 :: ?a1_3 :: ?T1) (B := ?a1_1 :: ?a1_2 :: ?a1_3 :: ?a1_0 :: ?T1) (by exact permL [1, 2, 3, 0] [?a1_0, ?a1_1, ?a1_2, ?a1_3] ?T1 (by decide) rfl) ?_
  refine tri_region ?_
  refine tri_v (opv_loadA rfl rfl rfl) rfl ?_
  refine tri_v (opv_load1 rfl rfl rfl) rfl ?_
  refine tri_g (opg_call (xs := [_, _]) rfl (maker_centre (hr.1.good (by have := hr.1.1.2.1; omega)) (Idx_len hr.1) hix hk)) rfl ?_
  rintro _ _ _ ⟨a1, c1, es1, rfl, rfl, hi1, rfl⟩
  refine tri_v (opv_extract rfl rfl) rfl ?_
  refine tri_v (opv_extract rfl rfl) rfl ?_
  refine tri_v (opv_assign rfl) rfl ?_
  refine tri_v (opv_assign rfl) rfl ?_
  refine tri_nil ?_
  refine tri_then ?_
  refine tri_ret ?_
  refine tri_perm (A := ?a2_0 :: ?a2_1 :: ?a2_2 :: ?a2_3 :: ?T2) (B := ?a2_3 :: ?a2_0 :: ?a2_1 :: ?a2_2 :: ?T2) (by exact permL [3, 0, 1, 2] [?a2_0, ?a2_1, ?a2_2, ?a2_3] ?T2 (by decide) rfl) ?_
  refine tri_end (IxA bx mb a1 c1 (R8.putSq ns room (R8.s16 ns n) 1 1).1 room es1 (X :: Y :: Z :: Box bn [.int .i64 n] 3 :: A)) Suf.h rfl (.cons (rv_tmp rfl) (.cons (rv_tmp rfl) .nil)) ⟨a1, c1, es1, rfl, rfl, hi1, rfl⟩
set_option maxRecDepth 100000 in
theorem base_centre {A : List Asrt} {I : List Chunk} {ns : List Node} {a : Option Addr} {cap : Nat} {room n : Int} (hs : StA I a cap ns) (hn : ns.length ≤ 1000000000) :
    FnC Try.prog 12 [storeV a ns.length cap room, .int .i64 n].toArray A I (StoreR (R8.centre ns room n) room A I) := by
  have e : R8.centre ns room n = toldR ns room n (R8.putSq ns room (R8.s16 ns n) 1 1) := by
    unfold R8.centre toldR
    split
    · split
      · rename_i h; exact R6.put_err h
      · rfl
    · rfl
  rw [e]
  skip
  refine fn_enter2 Try.func12 rfl Try.ntmps12 rfl fun w0 => ?_
  refine tri_seq ?_
  refine tri_region ?_
  refine tri_g (opg_box_agg rfl) rfl ?_
  rintro _ _ _ ⟨b2, rfl, rfl, rfl⟩
  refine tri_g (opg_box1 rfl rfl) rfl ?_
  rintro _ _ _ ⟨b3, rfl, rfl, rfl⟩
  refine tri_g opg_alloc rfl ?_
  rintro _ _ _ ⟨b4, rfl, rfl, rfl⟩
  refine tri_v (opv_assign rfl) rfl ?_
  refine tri_v (opv_assign rfl) rfl ?_
  refine tri_nil ?_
  refine tri_then ?_
  refine tri_seq ?_
  refine tri_region ?_
  refine tri_v (opv_loadA rfl rfl rfl) rfl ?_
  refine tri_v (opv_load1 rfl rfl rfl) rfl ?_
  refine tri_v (opv_makeFunc (fs := []) (cs := [_]) (vf := []) (vc := [_]) rfl rfl) rfl ?_
  refine tri_perm (A := ?a3_0 :: ?a3_1 :: ?a3_2 :: ?T3) (B := ?a3_1 :: ?a3_0 :: ?a3_2 :: ?T3) (by exact permL [1, 0, 2] [?a3_0, ?a3_1, ?a3_2] ?T3 (by decide) rfl) ?_
  refine tri_g (opg_call (xs := [_, _, _]) rfl (told_int hs hn (fun hr bx mb a cap es X Y Z hix => centre_clo hr bx mb a cap es X Y Z hix))) rfl ?_
  rintro _ _ _ ⟨a2, c2, rfl, hs2, rfl, hI⟩
  refine tri_v (opv_extract rfl rfl) rfl ?_
  refine tri_v (opv_extract rfl rfl) rfl ?_
  refine tri_v (opv_extract rfl rfl) rfl ?_
  refine tri_g (opg_store rfl rfl rfl rfl rfl rfl) rfl ?_
  rintro _ _ _ ⟨rfl, rfl⟩
  refine tri_v (opv_assign rfl) rfl ?_
  refine tri_v (opv_assign rfl) rfl ?_
  refine tri_nil ?_
  refine tri_then ?_
  refine tri_ret ?_
  refine tri_end A Suf.h rfl (.cons (rv_cellA rfl rfl rfl) (.cons (rv_tmp rfl) (.cons (rv_tmp rfl) .nil))) ⟨a2, c2, rfl, hs2, rfl, hI⟩
set_option maxRecDepth 100000 in
theorem step_clo {A : List Asrt} {I : List Chunk} {ns : List Node} {bn : Nat} {room n : Int} (hr : R8.may ns room n 2) (bx mb : Nat) (a : Option Addr) (cap : Nat) (es : KVs) (X Y Z : Asrt) (hix : Idx ns es) :
    FnC Try.prog 36 [.agg [pt bx 0].toArray, pt bn 0].toArray (IxA bx mb a cap ns room es (X :: Y :: Z :: Box bn [.int .i64 n] 3 :: A)) I (IxR bx mb (if (R6.nd ns n).lv = 2 then R8.one ns room n else (ns, 0, 1)) room (X :: Y :: Z :: Box bn [.int .i64 n] 3 :: A) I) := by
  have hk := hr.1.kids hr.2.1 (by have := hr.2.2; omega)
  obtain ⟨hn0, hn1⟩ := hr.2.1
  skip
  refine fn_enter2 Try.func36 rfl Try.ntmps36 rfl fun w0 => ?_
  refine tri_seq ?_
  refine tri_region ?_
  refine tri_g (opg_box_agg rfl) rfl ?_
  rintro _ _ _ ⟨b2, rfl, rfl, rfl⟩
  refine tri_v (opv_assign rfl) rfl ?_
  refine tri_v (opv_assign rfl) rfl ?_
  refine tri_nil ?_
  refine tri_then ?_
  refine tri_seq ?_
  refine tri_seq ?_
  refine tri_draw [0, 1, 2, 3, 4, 5, 6, 7, 8, 9, 10] rfl [] rfl mixed ?_
  refine th_take rfl rfl (by kernel_rfl)  (opv_fieldAddr rfl rfl) ?_
  refine th_take rfl rfl (by kernel_rfl)  (opv_load1 rfl rfl rfl) ?_
  refine th_take rfl rfl (by kernel_rfl)  (opv_nilCheck rfl) ?_
  refine th_take rfl rfl (by kernel_rfl)  (opv_fieldAddr rfl rfl) ?_
  refine th_take rfl rfl (by kernel_rfl)  (opv_fieldAddr rfl rfl) ?_
  refine th_take rfl rfl (by kernel_rfl)  (opv_load1 rfl rfl rfl) ?_
  refine th_take rfl rfl (by kernel_rfl)  (opv_load1 rfl rfl rfl) ?_
  refine th_take rfl rfl (by kernel_rfl)  (opv_indexAddrR rfl rfl (by omega) (by omega)) ?_
  refine th_take rfl rfl (by kernel_rfl)  (opv_fieldAddrR rfl (by omega) rfl) ?_
  refine th_take rfl rfl (by kernel_rfl)  (opv_loadRX1 rfl rfl (by omega) rfl rfl) ?_
  refine th_take rfl rfl (by kernel_rfl)  (opv_neq rfl rfl) ?_
  refine th_done (by kernel_rfl) ?_
  refine tri_then ?_
  refine tri_cond_dec rfl (fun h => ?_) (fun h => ?_)
  · rw [if_neg (show ¬ (R6.nd ns n).lv = 2 from h)]
    refine tri_seq ?_
    refine tri_region ?_
    refine tri_v (opv_assign rfl) rfl ?_
    refine tri_v (opv_assign rfl) rfl ?_
    refine tri_nil ?_
    refine tri_then ?_
    refine tri_ret ?_
    refine tri_then_ret ?_
    refine tri_end (IxA bx mb a cap ns room es (X :: Y :: Z :: Box bn [.int .i64 n] 3 :: A)) Suf.h rfl (.cons (rv_tmp rfl) (.cons (rv_tmp rfl) .nil)) ⟨a, cap, es, rfl, rfl, hix, rfl⟩
  · have hl : (R6.nd ns n).lv = 2 := Decidable.not_not.1 h
    rw [if_pos hl]
    refine tri_skip ?_
    refine tri_then ?_
    refine tri_seq ?_
    refine tri_perm (A := ?a4_0 :: ?a4_1 :: ?a4_2 :: ?a4_3 :: ?T4) (B := ?a4_1 :: ?a4_2 :: ?a4_3 :: ?a4_0 :: ?T4) (by exact permL [1, 2, 3, 0] [?a4_0, ?a4_1, ?a4_2, ?a4_3] ?T4 (by decide) rfl) ?_
    refine tri_region ?_
    refine tri_v (opv_loadA rfl rfl rfl) rfl ?_
    refine tri_v (opv_load1 rfl rfl rfl) rfl ?_
    refine tri_g (opg_call (xs := [_, _]) rfl (maker_step (hr.1.good (by have := hr.1.1.2.1; omega)) (Idx_len hr.1) hix hk (hr.1.bits hr.2.1 hl))) rfl ?_
    rintro _ _ _ ⟨a1, c1, es1, rfl, rfl, hi1, rfl⟩
    refine tri_v (opv_extract rfl rfl) rfl ?_
    refine tri_v (opv_extract rfl rfl) rfl ?_
    refine tri_v (opv_assign rfl) rfl ?_
    refine tri_v (opv_assign rfl) rfl ?_
    refine tri_nil ?_
    refine tri_then ?_
    refine tri_ret ?_
    refine tri_perm (A := ?a5_0 :: ?a5_1 :: ?a5_2 :: ?a5_3 :: ?T5) (B := ?a5_3 :: ?a5_0 :: ?a5_1 :: ?a5_2 :: ?T5) (by exact permL [3, 0, 1, 2] [?a5_0, ?a5_1, ?a5_2, ?a5_3] ?T5 (by decide) rfl) ?_
    refine tri_end (IxA bx mb a1 c1 (R8.one ns room n).1 room es1 (X :: Y :: Z :: Box bn [.int .i64 n] 3 :: A)) Suf.h rfl (.cons (rv_tmp rfl) (.cons (rv_tmp rfl) .nil)) ⟨a1, c1, es1, rfl, rfl, hi1, rfl⟩
set_option maxRecDepth 100000 in
theorem base_step {A : List Asrt} {I : List Chunk} {ns : List Node} {a : Option Addr} {cap : Nat} {room n : Int} (hs : StA I a cap ns) (hn : ns.length ≤ 1000000000) :
    FnC Try.prog 15 [storeV a ns.length cap room, .int .i64 n].toArray A I (StoreR (R8.step ns room n) room A I) := by
  have e : R8.step ns room n = toldR ns room n (if (R6.nd ns n).lv = 2 then R8.one ns room n else (ns, 0, 1)) := by
    unfold R8.step toldR
    by_cases h1 : R8.may ns room n 2
    · rw [if_pos h1]
      by_cases h2 : (R6.nd ns n).lv = 2
      · rw [if_pos ⟨h1, h2⟩, if_pos h2]
        split
        · rename_i h; exact R6.put_err h
        · rfl
      · rw [if_neg (fun h => h2 h.2), if_neg h2]
        rfl
    · rw [if_neg (fun h => h1 h.1), if_neg h1]
  rw [e]
  skip
  refine fn_enter2 Try.func15 rfl Try.ntmps15 rfl fun w0 => ?_
  refine tri_seq ?_
  refine tri_region ?_
  refine tri_g (opg_box_agg rfl) rfl ?_
  rintro _ _ _ ⟨b2, rfl, rfl, rfl⟩
  refine tri_g (opg_box1 rfl rfl) rfl ?_
  rintro _ _ _ ⟨b3, rfl, rfl, rfl⟩
  refine tri_g opg_alloc rfl ?_
  rintro _ _ _ ⟨b4, rfl, rfl, rfl⟩
  refine tri_v (opv_assign rfl) rfl ?_
  refine tri_v (opv_assign rfl) rfl ?_
  refine tri_nil ?_
  refine tri_then ?_
  refine tri_seq ?_
  refine tri_region ?_
  refine tri_v (opv_loadA rfl rfl rfl) rfl ?_
  refine tri_v (opv_load1 rfl rfl rfl) rfl ?_
  refine tri_v (opv_makeFunc (fs := []) (cs := [_]) (vf := []) (vc := [_]) rfl rfl) rfl ?_
  refine tri_perm (A := ?a6_0 :: ?a6_1 :: ?a6_2 :: ?T6) (B := ?a6_1 :: ?a6_0 :: ?a6_2 :: ?T6) (by exact permL [1, 0, 2] [?a6_0, ?a6_1, ?a6_2] ?T6 (by decide) rfl) ?_
  refine tri_g (opg_call (xs := [_, _, _]) rfl (told_int hs hn (fun hr bx mb a cap es X Y Z hix => step_clo hr bx mb a cap es X Y Z hix))) rfl ?_
  rintro _ _ _ ⟨a2, c2, rfl, hs2, rfl, hI⟩
  refine tri_v (opv_extract rfl rfl) rfl ?_
  refine tri_v (opv_extract rfl rfl) rfl ?_
  refine tri_v (opv_extract rfl rfl) rfl ?_
  refine tri_g (opg_store rfl rfl rfl rfl rfl rfl) rfl ?_
  rintro _ _ _ ⟨rfl, rfl⟩
  refine tri_v (opv_assign rfl) rfl ?_
  refine tri_v (opv_assign rfl) rfl ?_
  refine tri_nil ?_
  refine tri_then ?_
  refine tri_ret ?_
  refine tri_end A Suf.h rfl (.cons (rv_cellA rfl rfl rfl) (.cons (rv_tmp rfl) (.cons (rv_tmp rfl) .nil))) ⟨a2, c2, rfl, hs2, rfl, hI⟩
end Go.GL

set_option linter.unusedVariables false
namespace Go.GL
open Go.Proofs
attribute [local irreducible] wpList Code.wp Exit.then Exit.inBlock Ends Tri TriH OpV OpG FnC epf wpAnyH
variable {A : List Asrt} {I : List Chunk}
/-- What Maker.Nine tells and leaves behind. -/
def IxR9 (bx mb : Nat) (r : R8.R9) (room : Int) (A : List Asrt) (I : List Chunk) : Value → List Asrt → List Chunk → Prop :=
  fun v A' I' => ∃ a' cap' es' ns' q0 q1 q2 q3 q4 q5 q6 q7 q8, v = .tuple [.agg [.int .i64 q0, .int .i64 q1, .int .i64 q2, .int .i64 q3, .int .i64 q4, .int .i64 q5, .int .i64 q6, .int .i64 q7, .int .i64 q8].toArray, .int .i64 r.2.2].toArray ∧ A' = IxA bx mb a' cap' ns' room es' A ∧ (r.2.2 = 0 → ns' = r.1 ∧ r.2.1 = [q0, q1, q2, q3, q4, q5, q6, q7, q8]) ∧ I = I'
theorem R6.put_len {ns : List Node} {room q0 q1 q2 q3 : Int} (h : 2 ≤ ns.length) : 2 ≤ (R6.put ns room q0 q1 q2 q3).1.length := by
  unfold R6.put
  split
  · split
    · exact h
    · split
      · exact h
      · simp only [List.length_append]; omega
  · exact h
set_option maxHeartbeats 2000000 in
set_option maxRecDepth 100000 in
theorem maker_nine {ns : List Node} {a : Option Addr} {cap bx mb : Nat} {room n : Int} {es : KVs} (hg : R6.Good ns room) (h2 : 2 ≤ ns.length) (hi : Idx ns es) (hk : R8.Kid ns n) :
    FnC Try.prog 41 [.agg [pt bx 0].toArray, .int .i64 n].toArray (IxA bx mb a cap ns room es A) I (IxR9 bx mb (R8.all ns room n) room A I) := by
  obtain ⟨p0, e0⟩ : ∃ p, R8.putSq ns room (R8.s16 ns n) 0 0 = p := ⟨_, rfl⟩
  obtain ⟨p1, e1⟩ : ∃ p, R8.putSq p0.1 room (R8.s16 ns n) 0 1 = p := ⟨_, rfl⟩
  obtain ⟨p2, e2⟩ : ∃ p, R8.putSq p1.1 room (R8.s16 ns n) 0 2 = p := ⟨_, rfl⟩
  obtain ⟨p3, e3⟩ : ∃ p, R8.putSq p2.1 room (R8.s16 ns n) 1 0 = p := ⟨_, rfl⟩
  obtain ⟨p4, e4⟩ : ∃ p, R8.putSq p3.1 room (R8.s16 ns n) 1 1 = p := ⟨_, rfl⟩
  obtain ⟨p5, e5⟩ : ∃ p, R8.putSq p4.1 room (R8.s16 ns n) 1 2 = p := ⟨_, rfl⟩
  obtain ⟨p6, e6⟩ : ∃ p, R8.putSq p5.1 room (R8.s16 ns n) 2 0 = p := ⟨_, rfl⟩
  obtain ⟨p7, e7⟩ : ∃ p, R8.putSq p6.1 room (R8.s16 ns n) 2 1 = p := ⟨_, rfl⟩
  obtain ⟨p8, e8⟩ : ∃ p, R8.putSq p7.1 room (R8.s16 ns n) 2 2 = p := ⟨_, rfl⟩
  rw [R8.all_eq e0 e1 e2 e3 e4 e5 e6 e7 e8]
  have g0 : R6.Good p0.1 room := e0 ▸ hg.put ..
  have l0 : 2 ≤ p0.1.length := e0 ▸ R6.put_len h2
  have g1 : R6.Good p1.1 room := e1 ▸ g0.put ..
  have l1 : 2 ≤ p1.1.length := e1 ▸ R6.put_len l0
  have g2 : R6.Good p2.1 room := e2 ▸ g1.put ..
  have l2 : 2 ≤ p2.1.length := e2 ▸ R6.put_len l1
  have g3 : R6.Good p3.1 room := e3 ▸ g2.put ..
  have l3 : 2 ≤ p3.1.length := e3 ▸ R6.put_len l2
  have g4 : R6.Good p4.1 room := e4 ▸ g3.put ..
  have l4 : 2 ≤ p4.1.length := e4 ▸ R6.put_len l3
  have g5 : R6.Good p5.1 room := e5 ▸ g4.put ..
  have l5 : 2 ≤ p5.1.length := e5 ▸ R6.put_len l4
  have g6 : R6.Good p6.1 room := e6 ▸ g5.put ..
  have l6 : 2 ≤ p6.1.length := e6 ▸ R6.put_len l5
  have g7 : R6.Good p7.1 room := e7 ▸ g6.put ..
  have l7 : 2 ≤ p7.1.length := e7 ▸ R6.put_len l6
  have g8 : R6.Good p8.1 room := e8 ▸ g7.put ..
  have l8 : 2 ≤ p8.1.length := e8 ▸ R6.put_len l7
  skip
  refine fn_enter2 Try.func41 rfl Try.ntmps41 rfl fun w0 => ?_
  refine tri_seq ?_
  refine tri_region ?_
  refine tri_g (opg_box_agg rfl) rfl ?_
  rintro _ _ _ ⟨b2, rfl, rfl, rfl⟩
  refine tri_g opg_alloc rfl ?_
  rintro _ _ _ ⟨b4, rfl, rfl, rfl⟩
  refine tri_v (opv_assign rfl) rfl ?_
  refine tri_nil ?_
  refine tri_then ?_
  refine tri_seq ?_
  refine tri_perm (A := ?a1_0 :: ?a1_1 :: ?a1_2 :: ?a1_3 :: ?a1_4 :: ?T1) (B := ?a1_2 :: ?a1_3 :: ?a1_4 :: ?a1_0 :: ?a1_1 :: ?T1) (by exact permL [2, 3, 4, 0, 1] [?a1_0, ?a1_1, ?a1_2, ?a1_3, ?a1_4] ?T1 (by decide) rfl) ?_
  refine tri_region ?_
  refine tri_v (opv_loadA rfl rfl rfl) rfl ?_
  refine tri_v (opv_move rfl) rfl ?_
  refine tri_g (opg_call (xs := [_, _]) rfl (base_sixteen hk)) rfl ?_
  rintro _ _ _ ⟨rfl, rfl, rfl⟩
  refine tri_g opg_alloc rfl ?_
  rintro _ _ _ ⟨b6, rfl, rfl, rfl⟩
  refine tri_g (opg_store rfl rfl rfl rfl rfl rfl) rfl ?_
  rintro _ _ _ ⟨rfl, rfl⟩
  refine tri_nil ?_
  refine tri_then ?_
  refine tri_seq ?_
  refine tri_seq ?_
  refine tri_region ?_
  refine tri_v (opv_move rfl) rfl ?_
  refine tri_nil ?_
  refine tri_then ?_
  refine tri_block ?_
  refine tri_perm (A := ?a2_0 :: ?a2_1 :: ?a2_2 :: ?a2_3 :: ?a2_4 :: ?a2_5 :: ?T2) (B := ?a2_1 :: ?a2_2 :: ?a2_3 :: ?a2_4 :: ?a2_0 :: ?a2_5 :: ?T2) (by exact permL [1, 2, 3, 4, 0, 5] [?a2_0, ?a2_1, ?a2_2, ?a2_3, ?a2_4, ?a2_5] ?T2 (by decide) rfl) ?_
  refine tri_rounds 10 ?_
  refine tri_round ?_
  refine tri_seq ?_
  refine tri_region ?_
  refine tri_v (opv_lss rfl rfl) rfl ?_
  refine tri_nil ?_
  refine tri_then ?_
  refine tri_seq ?_
  refine tri_cond_is rfl (by decide) ?_
  skip
  refine tri_skip ?_
  refine tri_then ?_
  refine tri_seq ?_
  refine tri_block ?_
  refine tri_seq ?_
  refine tri_region ?_
  refine tri_v (opv_move rfl) rfl ?_
  refine tri_v (opv_assign rfl) rfl ?_
  refine tri_nil ?_
  refine tri_then ?_
  refine tri_seq ?_
  refine tri_draw [0, 1, 2, 3, 4, 5, 6, 7, 8, 9, 10, 11, 12, 13, 14, 15] rfl [_, _, _, _] rfl mixed ?_
  refine th_take rfl rfl (by kernel_rfl)  (opv_move rfl) ?_
  refine th_take rfl rfl (by kernel_rfl)  (opv_fieldAddr rfl rfl) ?_
  refine th_take rfl rfl (by kernel_rfl)  (opv_load1 rfl rfl rfl) ?_
  refine th_take rfl rfl (by kernel_rfl)  (opv_loadA rfl rfl rfl) ?_
  refine th_take rfl rfl (by kernel_rfl)  (opv_move rfl) ?_
  refine th_take rfl rfl (by kernel_rfl)  (opv_quoE rfl rfl (by omega) (by omega) (by omega)) ?_
  refine th_take rfl rfl (by kernel_rfl)  (opv_move rfl) ?_
  refine th_take rfl rfl (by kernel_rfl)  (opv_remE rfl rfl (by omega) (by omega)) ?_
  refine th_one (by kernel_rfl) (step_m rfl rfl (opg_call (xs := [_, _, _]) rfl (base_square (R8.s16_len ns n) (by omega) (by omega) (by omega) (by omega))) ?_)
  rintro _ _ _ ⟨rfl, rfl, rfl⟩
  refine ⟨Suf.h, (fun _ h => h), ?_⟩
  skip
  refine th_one (by kernel_rfl) (step_m rfl rfl (opg_call (xs := [_, _]) rfl (node_putR (r := p0) hg h2 hi e0)) ?_)
  rintro _ _ _ ⟨a0, c0, es0, rfl, rfl, hi0, rfl⟩
  refine ⟨Suf.h, (fun _ h => h), ?_⟩
  refine th_take rfl rfl (by kernel_rfl)  (opv_move rfl) ?_
  refine th_take rfl rfl (by kernel_rfl)  (opv_extract rfl rfl) ?_
  refine th_take rfl rfl (by kernel_rfl)  (opv_extract rfl rfl) ?_
  refine th_take rfl rfl (by kernel_rfl)  (opv_indexAddrA rfl rfl (by decide) (by decide)) ?_
  refine th_one (by kernel_rfl) (step_m rfl rfl (opg_store rfl rfl rfl rfl rfl rfl) ?_)
  rintro _ _ _ ⟨rfl, rfl⟩
  refine ⟨Suf.h, (fun _ h => h), ?_⟩
  refine th_take rfl rfl (by kernel_rfl)  (opv_assign rfl) ?_
  refine th_done (by kernel_rfl) ?_
  refine tri_then ?_
  refine tri_seq ?_
  refine tri_region ?_
  refine tri_v (opv_move rfl) rfl ?_
  refine tri_v (opv_neq rfl rfl) rfl ?_
  refine tri_nil ?_
  refine tri_then ?_
  refine tri_cond_dec rfl (fun x0 => ?_) (fun x0 => ?_)
  · rw [if_pos x0]
    refine tri_seq ?_
    refine tri_region ?_
    refine tri_v (opv_buildA rfl rfl) rfl ?_
    refine tri_v (opv_move rfl) rfl ?_
    refine tri_g (opg_store rfl rfl rfl rfl rfl rfl) rfl ?_
    rintro _ _ _ ⟨rfl, rfl⟩
    refine tri_v (opv_assign rfl) rfl ?_
    refine tri_nil ?_
    refine tri_then ?_
    refine tri_ret ?_
    refine tri_inBlock_ret ?_
    refine tri_then_ret ?_
    refine tri_then_ret ?_
    refine tri_inBlock_ret ?_
    refine tri_then_ret ?_
    refine tri_perm (A := ?a3_0 :: ?a3_1 :: ?a3_2 :: ?a3_3 :: ?a3_4 :: ?a3_5 :: ?T3) (B := ?a3_3 :: ?a3_4 :: ?a3_5 :: ?a3_0 :: ?a3_1 :: ?a3_2 :: ?T3) (by exact permL [3, 4, 5, 0, 1, 2] [?a3_0, ?a3_1, ?a3_2, ?a3_3, ?a3_4, ?a3_5] ?T3 (by decide) rfl) ?_
    refine tri_end (IxA bx mb a0 c0 p0.1 room es0 A) Suf.h rfl (.cons (rv_cellA rfl rfl rfl) (.cons (rv_tmp rfl) .nil)) ⟨a0, c0, es0, p0.1, _, _, _, _, _, _, _, _, _, rfl, rfl, fun h => absurd h x0, rfl⟩
  refine tri_skip ?_
  refine tri_inBlock ?_
  refine tri_then ?_
  refine tri_region ?_
  refine tri_v (opv_add rfl rfl (w64 (by omega) (by omega))) rfl ?_
  refine tri_v (opv_move rfl) rfl ?_
  refine tri_nil ?_
  refine tri_then ?_
  refine tri_round ?_
  refine tri_seq ?_
  refine tri_region ?_
  refine tri_v (opv_lss rfl rfl) rfl ?_
  refine tri_nil ?_
  refine tri_then ?_
  refine tri_seq ?_
  skip
  refine tri_cond_is rfl (by decide) ?_
  skip
  refine tri_skip ?_
  refine tri_then ?_
  refine tri_seq ?_
  refine tri_block ?_
  refine tri_seq ?_
  refine tri_region ?_
  refine tri_v (opv_move rfl) rfl ?_
  refine tri_v (opv_assign rfl) rfl ?_
  refine tri_nil ?_
  refine tri_then ?_
  refine tri_seq ?_
  refine tri_draw [0, 1, 2, 3, 4, 5, 6, 7, 8, 9, 10, 11, 12, 13, 14, 15] rfl [_, _, _, _] rfl mixed ?_
  refine th_take rfl rfl (by kernel_rfl)  (opv_move rfl) ?_
  refine th_take rfl rfl (by kernel_rfl)  (opv_fieldAddr rfl rfl) ?_
  refine th_take rfl rfl (by kernel_rfl)  (opv_load1 rfl rfl rfl) ?_
  refine th_take rfl rfl (by kernel_rfl)  (opv_loadA rfl rfl rfl) ?_
  refine th_take rfl rfl (by kernel_rfl)  (opv_move rfl) ?_
  refine th_take rfl rfl (by kernel_rfl)  (opv_quoE rfl rfl (by omega) (by omega) (by omega)) ?_
  refine th_take rfl rfl (by kernel_rfl)  (opv_move rfl) ?_
  refine th_take rfl rfl (by kernel_rfl)  (opv_remE rfl rfl (by omega) (by omega)) ?_
  refine th_one (by kernel_rfl) (step_m rfl rfl (opg_call (xs := [_, _, _]) rfl (base_square (R8.s16_len ns n) (by omega) (by omega) (by omega) (by omega))) ?_)
  rintro _ _ _ ⟨rfl, rfl, rfl⟩
  refine ⟨Suf.h, (fun _ h => h), ?_⟩
  skip
  refine th_one (by kernel_rfl) (step_m rfl rfl (opg_call (xs := [_, _]) rfl (node_putR (r := p1) g0 l0 hi0 e1)) ?_)
  rintro _ _ _ ⟨a1, c1, es1, rfl, rfl, hi1, rfl⟩
  refine ⟨Suf.h, (fun _ h => h), ?_⟩
  refine th_take rfl rfl (by kernel_rfl)  (opv_move rfl) ?_
  refine th_take rfl rfl (by kernel_rfl)  (opv_extract rfl rfl) ?_
  refine th_take rfl rfl (by kernel_rfl)  (opv_extract rfl rfl) ?_
  refine th_take rfl rfl (by kernel_rfl)  (opv_indexAddrA rfl rfl (by decide) (by decide)) ?_
  refine th_one (by kernel_rfl) (step_m rfl rfl (opg_store rfl rfl rfl rfl rfl rfl) ?_)
  rintro _ _ _ ⟨rfl, rfl⟩
  refine ⟨Suf.h, (fun _ h => h), ?_⟩
  refine th_take rfl rfl (by kernel_rfl)  (opv_assign rfl) ?_
  refine th_done (by kernel_rfl) ?_
  refine tri_then ?_
  refine tri_seq ?_
  refine tri_region ?_
  refine tri_v (opv_move rfl) rfl ?_
  refine tri_v (opv_neq rfl rfl) rfl ?_
  refine tri_nil ?_
  refine tri_then ?_
  refine tri_cond_dec rfl (fun x1 => ?_) (fun x1 => ?_)
  · rw [if_neg x0, if_pos x1]
    refine tri_seq ?_
    refine tri_region ?_
    refine tri_v (opv_buildA rfl rfl) rfl ?_
    refine tri_v (opv_move rfl) rfl ?_
    refine tri_g (opg_store rfl rfl rfl rfl rfl rfl) rfl ?_
    rintro _ _ _ ⟨rfl, rfl⟩
    refine tri_v (opv_assign rfl) rfl ?_
    refine tri_nil ?_
    refine tri_then ?_
    refine tri_ret ?_
    refine tri_inBlock_ret ?_
    refine tri_then_ret ?_
    refine tri_then_ret ?_
    refine tri_inBlock_ret ?_
    refine tri_then_ret ?_
    refine tri_perm (A := ?a4_0 :: ?a4_1 :: ?a4_2 :: ?a4_3 :: ?a4_4 :: ?a4_5 :: ?T4) (B := ?a4_3 :: ?a4_4 :: ?a4_5 :: ?a4_0 :: ?a4_1 :: ?a4_2 :: ?T4) (by exact permL [3, 4, 5, 0, 1, 2] [?a4_0, ?a4_1, ?a4_2, ?a4_3, ?a4_4, ?a4_5] ?T4 (by decide) rfl) ?_
    refine tri_end (IxA bx mb a1 c1 p1.1 room es1 A) Suf.h rfl (.cons (rv_cellA rfl rfl rfl) (.cons (rv_tmp rfl) .nil)) ⟨a1, c1, es1, p1.1, _, _, _, _, _, _, _, _, _, rfl, rfl, fun h => absurd h x1, rfl⟩
  refine tri_skip ?_
  refine tri_inBlock ?_
  refine tri_then ?_
  refine tri_region ?_
  refine tri_v (opv_add rfl rfl (w64 (by omega) (by omega))) rfl ?_
  refine tri_v (opv_move rfl) rfl ?_
  refine tri_nil ?_
  refine tri_then ?_
  refine tri_round ?_
  refine tri_seq ?_
  refine tri_region ?_
  refine tri_v (opv_lss rfl rfl) rfl ?_
  refine tri_nil ?_
  refine tri_then ?_
  refine tri_seq ?_
  skip
  refine tri_cond_is rfl (by decide) ?_
  skip
  refine tri_skip ?_
  refine tri_then ?_
  refine tri_seq ?_
  refine tri_block ?_
  refine tri_seq ?_
  refine tri_region ?_
  refine tri_v (opv_move rfl) rfl ?_
  refine tri_v (opv_assign rfl) rfl ?_
  refine tri_nil ?_
  refine tri_then ?_
  refine tri_seq ?_
  refine tri_draw [0, 1, 2, 3, 4, 5, 6, 7, 8, 9, 10, 11, 12, 13, 14, 15] rfl [_, _, _, _] rfl mixed ?_
  refine th_take rfl rfl (by kernel_rfl)  (opv_move rfl) ?_
  refine th_take rfl rfl (by kernel_rfl)  (opv_fieldAddr rfl rfl) ?_
  refine th_take rfl rfl (by kernel_rfl)  (opv_load1 rfl rfl rfl) ?_
  refine th_take rfl rfl (by kernel_rfl)  (opv_loadA rfl rfl rfl) ?_
  refine th_take rfl rfl (by kernel_rfl)  (opv_move rfl) ?_
  refine th_take rfl rfl (by kernel_rfl)  (opv_quoE rfl rfl (by omega) (by omega) (by omega)) ?_
  refine th_take rfl rfl (by kernel_rfl)  (opv_move rfl) ?_
  refine th_take rfl rfl (by kernel_rfl)  (opv_remE rfl rfl (by omega) (by omega)) ?_
  refine th_one (by kernel_rfl) (step_m rfl rfl (opg_call (xs := [_, _, _]) rfl (base_square (R8.s16_len ns n) (by omega) (by omega) (by omega) (by omega))) ?_)
  rintro _ _ _ ⟨rfl, rfl, rfl⟩
  refine ⟨Suf.h, (fun _ h => h), ?_⟩
  skip
  refine th_one (by kernel_rfl) (step_m rfl rfl (opg_call (xs := [_, _]) rfl (node_putR (r := p2) g1 l1 hi1 e2)) ?_)
  rintro _ _ _ ⟨a2, c2, es2, rfl, rfl, hi2, rfl⟩
  refine ⟨Suf.h, (fun _ h => h), ?_⟩
  refine th_take rfl rfl (by kernel_rfl)  (opv_move rfl) ?_
  refine th_take rfl rfl (by kernel_rfl)  (opv_extract rfl rfl) ?_
  refine th_take rfl rfl (by kernel_rfl)  (opv_extract rfl rfl) ?_
  refine th_take rfl rfl (by kernel_rfl)  (opv_indexAddrA rfl rfl (by decide) (by decide)) ?_
  refine th_one (by kernel_rfl) (step_m rfl rfl (opg_store rfl rfl rfl rfl rfl rfl) ?_)
  rintro _ _ _ ⟨rfl, rfl⟩
  refine ⟨Suf.h, (fun _ h => h), ?_⟩
  refine th_take rfl rfl (by kernel_rfl)  (opv_assign rfl) ?_
  refine th_done (by kernel_rfl) ?_
  refine tri_then ?_
  refine tri_seq ?_
  refine tri_region ?_
  refine tri_v (opv_move rfl) rfl ?_
  refine tri_v (opv_neq rfl rfl) rfl ?_
  refine tri_nil ?_
  refine tri_then ?_
  refine tri_cond_dec rfl (fun x2 => ?_) (fun x2 => ?_)
  · rw [if_neg x0, if_neg x1, if_pos x2]
    refine tri_seq ?_
    refine tri_region ?_
    refine tri_v (opv_buildA rfl rfl) rfl ?_
    refine tri_v (opv_move rfl) rfl ?_
    refine tri_g (opg_store rfl rfl rfl rfl rfl rfl) rfl ?_
    rintro _ _ _ ⟨rfl, rfl⟩
    refine tri_v (opv_assign rfl) rfl ?_
    refine tri_nil ?_
    refine tri_then ?_
    refine tri_ret ?_
    refine tri_inBlock_ret ?_
    refine tri_then_ret ?_
    refine tri_then_ret ?_
    refine tri_inBlock_ret ?_
    refine tri_then_ret ?_
    refine tri_perm (A := ?a5_0 :: ?a5_1 :: ?a5_2 :: ?a5_3 :: ?a5_4 :: ?a5_5 :: ?T5) (B := ?a5_3 :: ?a5_4 :: ?a5_5 :: ?a5_0 :: ?a5_1 :: ?a5_2 :: ?T5) (by exact permL [3, 4, 5, 0, 1, 2] [?a5_0, ?a5_1, ?a5_2, ?a5_3, ?a5_4, ?a5_5] ?T5 (by decide) rfl) ?_
    refine tri_end (IxA bx mb a2 c2 p2.1 room es2 A) Suf.h rfl (.cons (rv_cellA rfl rfl rfl) (.cons (rv_tmp rfl) .nil)) ⟨a2, c2, es2, p2.1, _, _, _, _, _, _, _, _, _, rfl, rfl, fun h => absurd h x2, rfl⟩
  refine tri_skip ?_
  refine tri_inBlock ?_
  refine tri_then ?_
  refine tri_region ?_
  refine tri_v (opv_add rfl rfl (w64 (by omega) (by omega))) rfl ?_
  refine tri_v (opv_move rfl) rfl ?_
  refine tri_nil ?_
  refine tri_then ?_
  refine tri_round ?_
  refine tri_seq ?_
  refine tri_region ?_
  refine tri_v (opv_lss rfl rfl) rfl ?_
  refine tri_nil ?_
  refine tri_then ?_
  refine tri_seq ?_
  skip
  refine tri_cond_is rfl (by decide) ?_
  skip
  refine tri_skip ?_
  refine tri_then ?_
  refine tri_seq ?_
  refine tri_block ?_
  refine tri_seq ?_
  refine tri_region ?_
  refine tri_v (opv_move rfl) rfl ?_
  refine tri_v (opv_assign rfl) rfl ?_
  refine tri_nil ?_
  refine tri_then ?_
  refine tri_seq ?_
  refine tri_draw [0, 1, 2, 3, 4, 5, 6, 7, 8, 9, 10, 11, 12, 13, 14, 15] rfl [_, _, _, _] rfl mixed ?_
  refine th_take rfl rfl (by kernel_rfl)  (opv_move rfl) ?_
  refine th_take rfl rfl (by kernel_rfl)  (opv_fieldAddr rfl rfl) ?_
  refine th_take rfl rfl (by kernel_rfl)  (opv_load1 rfl rfl rfl) ?_
  refine th_take rfl rfl (by kernel_rfl)  (opv_loadA rfl rfl rfl) ?_
  refine th_take rfl rfl (by kernel_rfl)  (opv_move rfl) ?_
  refine th_take rfl rfl (by kernel_rfl)  (opv_quoE rfl rfl (by omega) (by omega) (by omega)) ?_
  refine th_take rfl rfl (by kernel_rfl)  (opv_move rfl) ?_
  refine th_take rfl rfl (by kernel_rfl)  (opv_remE rfl rfl (by omega) (by omega)) ?_
  refine th_one (by kernel_rfl) (step_m rfl rfl (opg_call (xs := [_, _, _]) rfl (base_square (R8.s16_len ns n) (by omega) (by omega) (by omega) (by omega))) ?_)
  rintro _ _ _ ⟨rfl, rfl, rfl⟩
  refine ⟨Suf.h, (fun _ h => h), ?_⟩
  skip
  refine th_one (by kernel_rfl) (step_m rfl rfl (opg_call (xs := [_, _]) rfl (node_putR (r := p3) g2 l2 hi2 e3)) ?_)
  rintro _ _ _ ⟨a3, c3, es3, rfl, rfl, hi3, rfl⟩
  refine ⟨Suf.h, (fun _ h => h), ?_⟩
  refine th_take rfl rfl (by kernel_rfl)  (opv_move rfl) ?_
  refine th_take rfl rfl (by kernel_rfl)  (opv_extract rfl rfl) ?_
  refine th_take rfl rfl (by kernel_rfl)  (opv_extract rfl rfl) ?_
  refine th_take rfl rfl (by kernel_rfl)  (opv_indexAddrA rfl rfl (by decide) (by decide)) ?_
  refine th_one (by kernel_rfl) (step_m rfl rfl (opg_store rfl rfl rfl rfl rfl rfl) ?_)
  rintro _ _ _ ⟨rfl, rfl⟩
  refine ⟨Suf.h, (fun _ h => h), ?_⟩
  refine th_take rfl rfl (by kernel_rfl)  (opv_assign rfl) ?_
  refine th_done (by kernel_rfl) ?_
  refine tri_then ?_
  refine tri_seq ?_
  refine tri_region ?_
  refine tri_v (opv_move rfl) rfl ?_
  refine tri_v (opv_neq rfl rfl) rfl ?_
  refine tri_nil ?_
  refine tri_then ?_
  refine tri_cond_dec rfl (fun x3 => ?_) (fun x3 => ?_)
  · rw [if_neg x0, if_neg x1, if_neg x2, if_pos x3]
    refine tri_seq ?_
    refine tri_region ?_
    refine tri_v (opv_buildA rfl rfl) rfl ?_
    refine tri_v (opv_move rfl) rfl ?_
    refine tri_g (opg_store rfl rfl rfl rfl rfl rfl) rfl ?_
    rintro _ _ _ ⟨rfl, rfl⟩
    refine tri_v (opv_assign rfl) rfl ?_
    refine tri_nil ?_
    refine tri_then ?_
    refine tri_ret ?_
    refine tri_inBlock_ret ?_
    refine tri_then_ret ?_
    refine tri_then_ret ?_
    refine tri_inBlock_ret ?_
    refine tri_then_ret ?_
    refine tri_perm (A := ?a6_0 :: ?a6_1 :: ?a6_2 :: ?a6_3 :: ?a6_4 :: ?a6_5 :: ?T6) (B := ?a6_3 :: ?a6_4 :: ?a6_5 :: ?a6_0 :: ?a6_1 :: ?a6_2 :: ?T6) (by exact permL [3, 4, 5, 0, 1, 2] [?a6_0, ?a6_1, ?a6_2, ?a6_3, ?a6_4, ?a6_5] ?T6 (by decide) rfl) ?_
    refine tri_end (IxA bx mb a3 c3 p3.1 room es3 A) Suf.h rfl (.cons (rv_cellA rfl rfl rfl) (.cons (rv_tmp rfl) .nil)) ⟨a3, c3, es3, p3.1, _, _, _, _, _, _, _, _, _, rfl, rfl, fun h => absurd h x3, rfl⟩
  refine tri_skip ?_
  refine tri_inBlock ?_
  refine tri_then ?_
  refine tri_region ?_
  refine tri_v (opv_add rfl rfl (w64 (by omega) (by omega))) rfl ?_
  refine tri_v (opv_move rfl) rfl ?_
  refine tri_nil ?_
  refine tri_then ?_
  refine tri_round ?_
  refine tri_seq ?_
  refine tri_region ?_
  refine tri_v (opv_lss rfl rfl) rfl ?_
  refine tri_nil ?_
  refine tri_then ?_
  refine tri_seq ?_
  skip
  refine tri_cond_is rfl (by decide) ?_
  skip
  refine tri_skip ?_
  refine tri_then ?_
  refine tri_seq ?_
  refine tri_block ?_
  refine tri_seq ?_
  refine tri_region ?_
  refine tri_v (opv_move rfl) rfl ?_
  refine tri_v (opv_assign rfl) rfl ?_
  refine tri_nil ?_
  refine tri_then ?_
  refine tri_seq ?_
  refine tri_draw [0, 1, 2, 3, 4, 5, 6, 7, 8, 9, 10, 11, 12, 13, 14, 15] rfl [_, _, _, _] rfl mixed ?_
  refine th_take rfl rfl (by kernel_rfl)  (opv_move rfl) ?_
  refine th_take rfl rfl (by kernel_rfl)  (opv_fieldAddr rfl rfl) ?_
  refine th_take rfl rfl (by kernel_rfl)  (opv_load1 rfl rfl rfl) ?_
  refine th_take rfl rfl (by kernel_rfl)  (opv_loadA rfl rfl rfl) ?_
  refine th_take rfl rfl (by kernel_rfl)  (opv_move rfl) ?_
  refine th_take rfl rfl (by kernel_rfl)  (opv_quoE rfl rfl (by omega) (by omega) (by omega)) ?_
  refine th_take rfl rfl (by kernel_rfl)  (opv_move rfl) ?_
  refine th_take rfl rfl (by kernel_rfl)  (opv_remE rfl rfl (by omega) (by omega)) ?_
  refine th_one (by kernel_rfl) (step_m rfl rfl (opg_call (xs := [_, _, _]) rfl (base_square (R8.s16_len ns n) (by omega) (by omega) (by omega) (by omega))) ?_)
  rintro _ _ _ ⟨rfl, rfl, rfl⟩
  refine ⟨Suf.h, (fun _ h => h), ?_⟩
  skip
  refine th_one (by kernel_rfl) (step_m rfl rfl (opg_call (xs := [_, _]) rfl (node_putR (r := p4) g3 l3 hi3 e4)) ?_)
  rintro _ _ _ ⟨a4, c4, es4, rfl, rfl, hi4, rfl⟩
  refine ⟨Suf.h, (fun _ h => h), ?_⟩
  refine th_take rfl rfl (by kernel_rfl)  (opv_move rfl) ?_
  refine th_take rfl rfl (by kernel_rfl)  (opv_extract rfl rfl) ?_
  refine th_take rfl rfl (by kernel_rfl)  (opv_extract rfl rfl) ?_
  refine th_take rfl rfl (by kernel_rfl)  (opv_indexAddrA rfl rfl (by decide) (by decide)) ?_
  refine th_one (by kernel_rfl) (step_m rfl rfl (opg_store rfl rfl rfl rfl rfl rfl) ?_)
  rintro _ _ _ ⟨rfl, rfl⟩
  refine ⟨Suf.h, (fun _ h => h), ?_⟩
  refine th_take rfl rfl (by kernel_rfl)  (opv_assign rfl) ?_
  refine th_done (by kernel_rfl) ?_
  refine tri_then ?_
  refine tri_seq ?_
  refine tri_region ?_
  refine tri_v (opv_move rfl) rfl ?_
  refine tri_v (opv_neq rfl rfl) rfl ?_
  refine tri_nil ?_
  refine tri_then ?_
  refine tri_cond_dec rfl (fun x4 => ?_) (fun x4 => ?_)
  · rw [if_neg x0, if_neg x1, if_neg x2, if_neg x3, if_pos x4]
    refine tri_seq ?_
    refine tri_region ?_
    refine tri_v (opv_buildA rfl rfl) rfl ?_
    refine tri_v (opv_move rfl) rfl ?_
    refine tri_g (opg_store rfl rfl rfl rfl rfl rfl) rfl ?_
    rintro _ _ _ ⟨rfl, rfl⟩
    refine tri_v (opv_assign rfl) rfl ?_
    refine tri_nil ?_
    refine tri_then ?_
    refine tri_ret ?_
    refine tri_inBlock_ret ?_
    refine tri_then_ret ?_
    refine tri_then_ret ?_
    refine tri_inBlock_ret ?_
    refine tri_then_ret ?_
    refine tri_perm (A := ?a7_0 :: ?a7_1 :: ?a7_2 :: ?a7_3 :: ?a7_4 :: ?a7_5 :: ?T7) (B := ?a7_3 :: ?a7_4 :: ?a7_5 :: ?a7_0 :: ?a7_1 :: ?a7_2 :: ?T7) (by exact permL [3, 4, 5, 0, 1, 2] [?a7_0, ?a7_1, ?a7_2, ?a7_3, ?a7_4, ?a7_5] ?T7 (by decide) rfl) ?_
    refine tri_end (IxA bx mb a4 c4 p4.1 room es4 A) Suf.h rfl (.cons (rv_cellA rfl rfl rfl) (.cons (rv_tmp rfl) .nil)) ⟨a4, c4, es4, p4.1, _, _, _, _, _, _, _, _, _, rfl, rfl, fun h => absurd h x4, rfl⟩
  refine tri_skip ?_
  refine tri_inBlock ?_
  refine tri_then ?_
  refine tri_region ?_
  refine tri_v (opv_add rfl rfl (w64 (by omega) (by omega))) rfl ?_
  refine tri_v (opv_move rfl) rfl ?_
  refine tri_nil ?_
  refine tri_then ?_
  refine tri_round ?_
  refine tri_seq ?_
  refine tri_region ?_
  refine tri_v (opv_lss rfl rfl) rfl ?_
  refine tri_nil ?_
  refine tri_then ?_
  refine tri_seq ?_
  skip
  refine tri_cond_is rfl (by decide) ?_
  skip
  refine tri_skip ?_
  refine tri_then ?_
  refine tri_seq ?_
  refine tri_block ?_
  refine tri_seq ?_
  refine tri_region ?_
  refine tri_v (opv_move rfl) rfl ?_
  refine tri_v (opv_assign rfl) rfl ?_
  refine tri_nil ?_
  refine tri_then ?_
  refine tri_seq ?_
  refine tri_draw [0, 1, 2, 3, 4, 5, 6, 7, 8, 9, 10, 11, 12, 13, 14, 15] rfl [_, _, _, _] rfl mixed ?_
  refine th_take rfl rfl (by kernel_rfl)  (opv_move rfl) ?_
  refine th_take rfl rfl (by kernel_rfl)  (opv_fieldAddr rfl rfl) ?_
  refine th_take rfl rfl (by kernel_rfl)  (opv_load1 rfl rfl rfl) ?_
  refine th_take rfl rfl (by kernel_rfl)  (opv_loadA rfl rfl rfl) ?_
  refine th_take rfl rfl (by kernel_rfl)  (opv_move rfl) ?_
  refine th_take rfl rfl (by kernel_rfl)  (opv_quoE rfl rfl (by omega) (by omega) (by omega)) ?_
  refine th_take rfl rfl (by kernel_rfl)  (opv_move rfl) ?_
  refine th_take rfl rfl (by kernel_rfl)  (opv_remE rfl rfl (by omega) (by omega)) ?_
  refine th_one (by kernel_rfl) (step_m rfl rfl (opg_call (xs := [_, _, _]) rfl (base_square (R8.s16_len ns n) (by omega) (by omega) (by omega) (by omega))) ?_)
  rintro _ _ _ ⟨rfl, rfl, rfl⟩
  refine ⟨Suf.h, (fun _ h => h), ?_⟩
  skip
  refine th_one (by kernel_rfl) (step_m rfl rfl (opg_call (xs := [_, _]) rfl (node_putR (r := p5) g4 l4 hi4 e5)) ?_)
  rintro _ _ _ ⟨a5, c5, es5, rfl, rfl, hi5, rfl⟩
  refine ⟨Suf.h, (fun _ h => h), ?_⟩
  refine th_take rfl rfl (by kernel_rfl)  (opv_move rfl) ?_
  refine th_take rfl rfl (by kernel_rfl)  (opv_extract rfl rfl) ?_
  refine th_take rfl rfl (by kernel_rfl)  (opv_extract rfl rfl) ?_
  refine th_take rfl rfl (by kernel_rfl)  (opv_indexAddrA rfl rfl (by decide) (by decide)) ?_
  refine th_one (by kernel_rfl) (step_m rfl rfl (opg_store rfl rfl rfl rfl rfl rfl) ?_)
  rintro _ _ _ ⟨rfl, rfl⟩
  refine ⟨Suf.h, (fun _ h => h), ?_⟩
  refine th_take rfl rfl (by kernel_rfl)  (opv_assign rfl) ?_
  refine th_done (by kernel_rfl) ?_
  refine tri_then ?_
  refine tri_seq ?_
  refine tri_region ?_
  refine tri_v (opv_move rfl) rfl ?_
  refine tri_v (opv_neq rfl rfl) rfl ?_
  refine tri_nil ?_
  refine tri_then ?_
  refine tri_cond_dec rfl (fun x5 => ?_) (fun x5 => ?_)
  · rw [if_neg x0, if_neg x1, if_neg x2, if_neg x3, if_neg x4, if_pos x5]
    refine tri_seq ?_
    refine tri_region ?_
    refine tri_v (opv_buildA rfl rfl) rfl ?_
    refine tri_v (opv_move rfl) rfl ?_
    refine tri_g (opg_store rfl rfl rfl rfl rfl rfl) rfl ?_
    rintro _ _ _ ⟨rfl, rfl⟩
    refine tri_v (opv_assign rfl) rfl ?_
    refine tri_nil ?_
    refine tri_then ?_
    refine tri_ret ?_
    refine tri_inBlock_ret ?_
    refine tri_then_ret ?_
    refine tri_then_ret ?_
    refine tri_inBlock_ret ?_
    refine tri_then_ret ?_
    refine tri_perm (A := ?a8_0 :: ?a8_1 :: ?a8_2 :: ?a8_3 :: ?a8_4 :: ?a8_5 :: ?T8) (B := ?a8_3 :: ?a8_4 :: ?a8_5 :: ?a8_0 :: ?a8_1 :: ?a8_2 :: ?T8) (by exact permL [3, 4, 5, 0, 1, 2] [?a8_0, ?a8_1, ?a8_2, ?a8_3, ?a8_4, ?a8_5] ?T8 (by decide) rfl) ?_
    refine tri_end (IxA bx mb a5 c5 p5.1 room es5 A) Suf.h rfl (.cons (rv_cellA rfl rfl rfl) (.cons (rv_tmp rfl) .nil)) ⟨a5, c5, es5, p5.1, _, _, _, _, _, _, _, _, _, rfl, rfl, fun h => absurd h x5, rfl⟩
  refine tri_skip ?_
  refine tri_inBlock ?_
  refine tri_then ?_
  refine tri_region ?_
  refine tri_v (opv_add rfl rfl (w64 (by omega) (by omega))) rfl ?_
  refine tri_v (opv_move rfl) rfl ?_
  refine tri_nil ?_
  refine tri_then ?_
  refine tri_round ?_
  refine tri_seq ?_
  refine tri_region ?_
  refine tri_v (opv_lss rfl rfl) rfl ?_
  refine tri_nil ?_
  refine tri_then ?_
  refine tri_seq ?_
  skip
  refine tri_cond_is rfl (by decide) ?_
  skip
  refine tri_skip ?_
  refine tri_then ?_
  refine tri_seq ?_
  refine tri_block ?_
  refine tri_seq ?_
  refine tri_region ?_
  refine tri_v (opv_move rfl) rfl ?_
  refine tri_v (opv_assign rfl) rfl ?_
  refine tri_nil ?_
  refine tri_then ?_
  refine tri_seq ?_
  refine tri_draw [0, 1, 2, 3, 4, 5, 6, 7, 8, 9, 10, 11, 12, 13, 14, 15] rfl [_, _, _, _] rfl mixed ?_
  refine th_take rfl rfl (by kernel_rfl)  (opv_move rfl) ?_
  refine th_take rfl rfl (by kernel_rfl)  (opv_fieldAddr rfl rfl) ?_
  refine th_take rfl rfl (by kernel_rfl)  (opv_load1 rfl rfl rfl) ?_
  refine th_take rfl rfl (by kernel_rfl)  (opv_loadA rfl rfl rfl) ?_
  refine th_take rfl rfl (by kernel_rfl)  (opv_move rfl) ?_
  refine th_take rfl rfl (by kernel_rfl)  (opv_quoE rfl rfl (by omega) (by omega) (by omega)) ?_
  refine th_take rfl rfl (by kernel_rfl)  (opv_move rfl) ?_
  refine th_take rfl rfl (by kernel_rfl)  (opv_remE rfl rfl (by omega) (by omega)) ?_
  refine th_one (by kernel_rfl) (step_m rfl rfl (opg_call (xs := [_, _, _]) rfl (base_square (R8.s16_len ns n) (by omega) (by omega) (by omega) (by omega))) ?_)
  rintro _ _ _ ⟨rfl, rfl, rfl⟩
  refine ⟨Suf.h, (fun _ h => h), ?_⟩
  skip
  refine th_one (by kernel_rfl) (step_m rfl rfl (opg_call (xs := [_, _]) rfl (node_putR (r := p6) g5 l5 hi5 e6)) ?_)
  rintro _ _ _ ⟨a6, c6, es6, rfl, rfl, hi6, rfl⟩
  refine ⟨Suf.h, (fun _ h => h), ?_⟩
  refine th_take rfl rfl (by kernel_rfl)  (opv_move rfl) ?_
  refine th_take rfl rfl (by kernel_rfl)  (opv_extract rfl rfl) ?_
  refine th_take rfl rfl (by kernel_rfl)  (opv_extract rfl rfl) ?_
  refine th_take rfl rfl (by kernel_rfl)  (opv_indexAddrA rfl rfl (by decide) (by decide)) ?_
  refine th_one (by kernel_rfl) (step_m rfl rfl (opg_store rfl rfl rfl rfl rfl rfl) ?_)
  rintro _ _ _ ⟨rfl, rfl⟩
  refine ⟨Suf.h, (fun _ h => h), ?_⟩
  refine th_take rfl rfl (by kernel_rfl)  (opv_assign rfl) ?_
  refine th_done (by kernel_rfl) ?_
  refine tri_then ?_
  refine tri_seq ?_
  refine tri_region ?_
  refine tri_v (opv_move rfl) rfl ?_
  refine tri_v (opv_neq rfl rfl) rfl ?_
  refine tri_nil ?_
  refine tri_then ?_
  refine tri_cond_dec rfl (fun x6 => ?_) (fun x6 => ?_)
  · rw [if_neg x0, if_neg x1, if_neg x2, if_neg x3, if_neg x4, if_neg x5, if_pos x6]
    refine tri_seq ?_
    refine tri_region ?_
    refine tri_v (opv_buildA rfl rfl) rfl ?_
    refine tri_v (opv_move rfl) rfl ?_
    refine tri_g (opg_store rfl rfl rfl rfl rfl rfl) rfl ?_
    rintro _ _ _ ⟨rfl, rfl⟩
    refine tri_v (opv_assign rfl) rfl ?_
    refine tri_nil ?_
    refine tri_then ?_
    refine tri_ret ?_
    refine tri_inBlock_ret ?_
    refine tri_then_ret ?_
    refine tri_then_ret ?_
    refine tri_inBlock_ret ?_
    refine tri_then_ret ?_
    refine tri_perm (A := ?a9_0 :: ?a9_1 :: ?a9_2 :: ?a9_3 :: ?a9_4 :: ?a9_5 :: ?T9) (B := ?a9_3 :: ?a9_4 :: ?a9_5 :: ?a9_0 :: ?a9_1 :: ?a9_2 :: ?T9) (by exact permL [3, 4, 5, 0, 1, 2] [?a9_0, ?a9_1, ?a9_2, ?a9_3, ?a9_4, ?a9_5] ?T9 (by decide) rfl) ?_
    refine tri_end (IxA bx mb a6 c6 p6.1 room es6 A) Suf.h rfl (.cons (rv_cellA rfl rfl rfl) (.cons (rv_tmp rfl) .nil)) ⟨a6, c6, es6, p6.1, _, _, _, _, _, _, _, _, _, rfl, rfl, fun h => absurd h x6, rfl⟩
  refine tri_skip ?_
  refine tri_inBlock ?_
  refine tri_then ?_
  refine tri_region ?_
  refine tri_v (opv_add rfl rfl (w64 (by omega) (by omega))) rfl ?_
  refine tri_v (opv_move rfl) rfl ?_
  refine tri_nil ?_
  refine tri_then ?_
  refine tri_round ?_
  refine tri_seq ?_
  refine tri_region ?_
  refine tri_v (opv_lss rfl rfl) rfl ?_
  refine tri_nil ?_
  refine tri_then ?_
  refine tri_seq ?_
  skip
  refine tri_cond_is rfl (by decide) ?_
  skip
  refine tri_skip ?_
  refine tri_then ?_
  refine tri_seq ?_
  refine tri_block ?_
  refine tri_seq ?_
  refine tri_region ?_
  refine tri_v (opv_move rfl) rfl ?_
  refine tri_v (opv_assign rfl) rfl ?_
  refine tri_nil ?_
  refine tri_then ?_
  refine tri_seq ?_
  refine tri_draw [0, 1, 2, 3, 4, 5, 6, 7, 8, 9, 10, 11, 12, 13, 14, 15] rfl [_, _, _, _] rfl mixed ?_
  refine th_take rfl rfl (by kernel_rfl)  (opv_move rfl) ?_
  refine th_take rfl rfl (by kernel_rfl)  (opv_fieldAddr rfl rfl) ?_
  refine th_take rfl rfl (by kernel_rfl)  (opv_load1 rfl rfl rfl) ?_
  refine th_take rfl rfl (by kernel_rfl)  (opv_loadA rfl rfl rfl) ?_
  refine th_take rfl rfl (by kernel_rfl)  (opv_move rfl) ?_
  refine th_take rfl rfl (by kernel_rfl)  (opv_quoE rfl rfl (by omega) (by omega) (by omega)) ?_
  refine th_take rfl rfl (by kernel_rfl)  (opv_move rfl) ?_
  refine th_take rfl rfl (by kernel_rfl)  (opv_remE rfl rfl (by omega) (by omega)) ?_
  refine th_one (by kernel_rfl) (step_m rfl rfl (opg_call (xs := [_, _, _]) rfl (base_square (R8.s16_len ns n) (by omega) (by omega) (by omega) (by omega))) ?_)
  rintro _ _ _ ⟨rfl, rfl, rfl⟩
  refine ⟨Suf.h, (fun _ h => h), ?_⟩
  skip
  refine th_one (by kernel_rfl) (step_m rfl rfl (opg_call (xs := [_, _]) rfl (node_putR (r := p7) g6 l6 hi6 e7)) ?_)
  rintro _ _ _ ⟨a7, c7, es7, rfl, rfl, hi7, rfl⟩
  refine ⟨Suf.h, (fun _ h => h), ?_⟩
  refine th_take rfl rfl (by kernel_rfl)  (opv_move rfl) ?_
  refine th_take rfl rfl (by kernel_rfl)  (opv_extract rfl rfl) ?_
  refine th_take rfl rfl (by kernel_rfl)  (opv_extract rfl rfl) ?_
  refine th_take rfl rfl (by kernel_rfl)  (opv_indexAddrA rfl rfl (by decide) (by decide)) ?_
  refine th_one (by kernel_rfl) (step_m rfl rfl (opg_store rfl rfl rfl rfl rfl rfl) ?_)
  rintro _ _ _ ⟨rfl, rfl⟩
  refine ⟨Suf.h, (fun _ h => h), ?_⟩
  refine th_take rfl rfl (by kernel_rfl)  (opv_assign rfl) ?_
  refine th_done (by kernel_rfl) ?_
  refine tri_then ?_
  refine tri_seq ?_
  refine tri_region ?_
  refine tri_v (opv_move rfl) rfl ?_
  refine tri_v (opv_neq rfl rfl) rfl ?_
  refine tri_nil ?_
  refine tri_then ?_
  refine tri_cond_dec rfl (fun x7 => ?_) (fun x7 => ?_)
  · rw [if_neg x0, if_neg x1, if_neg x2, if_neg x3, if_neg x4, if_neg x5, if_neg x6, if_pos x7]
    refine tri_seq ?_
    refine tri_region ?_
    refine tri_v (opv_buildA rfl rfl) rfl ?_
    refine tri_v (opv_move rfl) rfl ?_
    refine tri_g (opg_store rfl rfl rfl rfl rfl rfl) rfl ?_
    rintro _ _ _ ⟨rfl, rfl⟩
    refine tri_v (opv_assign rfl) rfl ?_
    refine tri_nil ?_
    refine tri_then ?_
    refine tri_ret ?_
    refine tri_inBlock_ret ?_
    refine tri_then_ret ?_
    refine tri_then_ret ?_
    refine tri_inBlock_ret ?_
    refine tri_then_ret ?_
    refine tri_perm (A := ?a10_0 :: ?a10_1 :: ?a10_2 :: ?a10_3 :: ?a10_4 :: ?a10_5 :: ?T10) (B := ?a10_3 :: ?a10_4 :: ?a10_5 :: ?a10_0 :: ?a10_1 :: ?a10_2 :: ?T10) (by exact permL [3, 4, 5, 0, 1, 2] [?a10_0, ?a10_1, ?a10_2, ?a10_3, ?a10_4, ?a10_5] ?T10 (by decide) rfl) ?_
    refine tri_end (IxA bx mb a7 c7 p7.1 room es7 A) Suf.h rfl (.cons (rv_cellA rfl rfl rfl) (.cons (rv_tmp rfl) .nil)) ⟨a7, c7, es7, p7.1, _, _, _, _, _, _, _, _, _, rfl, rfl, fun h => absurd h x7, rfl⟩
  refine tri_skip ?_
  refine tri_inBlock ?_
  refine tri_then ?_
  refine tri_region ?_
  refine tri_v (opv_add rfl rfl (w64 (by omega) (by omega))) rfl ?_
  refine tri_v (opv_move rfl) rfl ?_
  refine tri_nil ?_
  refine tri_then ?_
  refine tri_round ?_
  refine tri_seq ?_
  refine tri_region ?_
  refine tri_v (opv_lss rfl rfl) rfl ?_
  refine tri_nil ?_
  refine tri_then ?_
  refine tri_seq ?_
  skip
  refine tri_cond_is rfl (by decide) ?_
  skip
  refine tri_skip ?_
  refine tri_then ?_
  refine tri_seq ?_
  refine tri_block ?_
  refine tri_seq ?_
  refine tri_region ?_
  refine tri_v (opv_move rfl) rfl ?_
  refine tri_v (opv_assign rfl) rfl ?_
  refine tri_nil ?_
  refine tri_then ?_
  refine tri_seq ?_
  refine tri_draw [0, 1, 2, 3, 4, 5, 6, 7, 8, 9, 10, 11, 12, 13, 14, 15] rfl [_, _, _, _] rfl mixed ?_
  refine th_take rfl rfl (by kernel_rfl)  (opv_move rfl) ?_
  refine th_take rfl rfl (by kernel_rfl)  (opv_fieldAddr rfl rfl) ?_
  refine th_take rfl rfl (by kernel_rfl)  (opv_load1 rfl rfl rfl) ?_
  refine th_take rfl rfl (by kernel_rfl)  (opv_loadA rfl rfl rfl) ?_
  refine th_take rfl rfl (by kernel_rfl)  (opv_move rfl) ?_
  refine th_take rfl rfl (by kernel_rfl)  (opv_quoE rfl rfl (by omega) (by omega) (by omega)) ?_
  refine th_take rfl rfl (by kernel_rfl)  (opv_move rfl) ?_
  refine th_take rfl rfl (by kernel_rfl)  (opv_remE rfl rfl (by omega) (by omega)) ?_
  refine th_one (by kernel_rfl) (step_m rfl rfl (opg_call (xs := [_, _, _]) rfl (base_square (R8.s16_len ns n) (by omega) (by omega) (by omega) (by omega))) ?_)
  rintro _ _ _ ⟨rfl, rfl, rfl⟩
  refine ⟨Suf.h, (fun _ h => h), ?_⟩
  skip
  refine th_one (by kernel_rfl) (step_m rfl rfl (opg_call (xs := [_, _]) rfl (node_putR (r := p8) g7 l7 hi7 e8)) ?_)
  rintro _ _ _ ⟨a8, c8, es8, rfl, rfl, hi8, rfl⟩
  refine ⟨Suf.h, (fun _ h => h), ?_⟩
  refine th_take rfl rfl (by kernel_rfl)  (opv_move rfl) ?_
  refine th_take rfl rfl (by kernel_rfl)  (opv_extract rfl rfl) ?_
  refine th_take rfl rfl (by kernel_rfl)  (opv_extract rfl rfl) ?_
  refine th_take rfl rfl (by kernel_rfl)  (opv_indexAddrA rfl rfl (by decide) (by decide)) ?_
  refine th_one (by kernel_rfl) (step_m rfl rfl (opg_store rfl rfl rfl rfl rfl rfl) ?_)
  rintro _ _ _ ⟨rfl, rfl⟩
  refine ⟨Suf.h, (fun _ h => h), ?_⟩
  refine th_take rfl rfl (by kernel_rfl)  (opv_assign rfl) ?_
  refine th_done (by kernel_rfl) ?_
  refine tri_then ?_
  refine tri_seq ?_
  refine tri_region ?_
  refine tri_v (opv_move rfl) rfl ?_
  refine tri_v (opv_neq rfl rfl) rfl ?_
  refine tri_nil ?_
  refine tri_then ?_
  refine tri_cond_dec rfl (fun x8 => ?_) (fun x8 => ?_)
  · rw [if_neg x0, if_neg x1, if_neg x2, if_neg x3, if_neg x4, if_neg x5, if_neg x6, if_neg x7, if_pos x8]
    refine tri_seq ?_
    refine tri_region ?_
    refine tri_v (opv_buildA rfl rfl) rfl ?_
    refine tri_v (opv_move rfl) rfl ?_
    refine tri_g (opg_store rfl rfl rfl rfl rfl rfl) rfl ?_
    rintro _ _ _ ⟨rfl, rfl⟩
    refine tri_v (opv_assign rfl) rfl ?_
    refine tri_nil ?_
    refine tri_then ?_
    refine tri_ret ?_
    refine tri_inBlock_ret ?_
    refine tri_then_ret ?_
    refine tri_then_ret ?_
    refine tri_inBlock_ret ?_
    refine tri_then_ret ?_
    refine tri_perm (A := ?a11_0 :: ?a11_1 :: ?a11_2 :: ?a11_3 :: ?a11_4 :: ?a11_5 :: ?T11) (B := ?a11_3 :: ?a11_4 :: ?a11_5 :: ?a11_0 :: ?a11_1 :: ?a11_2 :: ?T11) (by exact permL [3, 4, 5, 0, 1, 2] [?a11_0, ?a11_1, ?a11_2, ?a11_3, ?a11_4, ?a11_5] ?T11 (by decide) rfl) ?_
    refine tri_end (IxA bx mb a8 c8 p8.1 room es8 A) Suf.h rfl (.cons (rv_cellA rfl rfl rfl) (.cons (rv_tmp rfl) .nil)) ⟨a8, c8, es8, p8.1, _, _, _, _, _, _, _, _, _, rfl, rfl, fun h => absurd h x8, rfl⟩
  refine tri_skip ?_
  refine tri_inBlock ?_
  refine tri_then ?_
  refine tri_region ?_
  refine tri_v (opv_add rfl rfl (w64 (by omega) (by omega))) rfl ?_
  refine tri_v (opv_move rfl) rfl ?_
  refine tri_nil ?_
  refine tri_then ?_
  refine tri_round ?_
  refine tri_seq ?_
  refine tri_region ?_
  refine tri_v (opv_lss rfl rfl) rfl ?_
  refine tri_nil ?_
  refine tri_then ?_
  refine tri_seq ?_
  rw [if_neg x0, if_neg x1, if_neg x2, if_neg x3, if_neg x4, if_neg x5, if_neg x6, if_neg x7, if_neg x8]
  refine tri_cond_not rfl (by decide) ?_
  refine tri_exit ?_
  refine tri_then_exit ?_
  refine tri_then_exit ?_
  refine tri_inBlock_hit rfl ?_
  refine tri_then ?_
  refine tri_seq ?_
  refine tri_region ?_
  refine tri_v (opv_loadA rfl rfl rfl) rfl ?_
  refine tri_g (opg_store rfl rfl rfl rfl rfl rfl) rfl ?_
  rintro _ _ _ ⟨rfl, rfl⟩
  refine tri_v (opv_assign rfl) rfl ?_
  refine tri_nil ?_
  refine tri_then ?_
  refine tri_ret ?_
  refine tri_perm (A := ?a12_0 :: ?a12_1 :: ?a12_2 :: ?a12_3 :: ?a12_4 :: ?a12_5 :: ?T12) (B := ?a12_3 :: ?a12_4 :: ?a12_5 :: ?a12_0 :: ?a12_1 :: ?a12_2 :: ?T12) (by exact permL [3, 4, 5, 0, 1, 2] [?a12_0, ?a12_1, ?a12_2, ?a12_3, ?a12_4, ?a12_5] ?T12 (by decide) rfl) ?_
  refine tri_end (IxA bx mb a8 c8 p8.1 room es8 A) Suf.h rfl (.cons (rv_cellA rfl rfl rfl) (.cons (rv_tmp rfl) .nil)) ⟨a8, c8, es8, p8.1, _, _, _, _, _, _, _, _, _, rfl, rfl, fun h => ⟨rfl, rfl⟩, rfl⟩
end Go.GL

set_option linter.unusedVariables false
namespace Go.GL
open Go.Proofs
attribute [local irreducible] wpList Code.wp Exit.then Exit.inBlock Ends Tri TriH OpV OpG FnC epf wpAnyH
def toldR9 (ns : List Node) (room n : Int) (r : R8.R9) : R8.R9 := if R8.may ns room n 2 then (if r.2.2 ≠ 0 then (ns, R8.z9, r.2.2) else r) else (ns, R8.z9, 1)
set_option maxHeartbeats 1000000 in
set_option maxRecDepth 100000 in
theorem told_nine {A : List Asrt} {I : List Chunk} {ns : List Node} {a : Option Addr} {cap bn f : Nat} {room n : Int} {r : R8.R9} [FnI Try.prog f] (hs : StA I a cap ns) (hn : ns.length ≤ 1000000000)
    (hc : R8.may ns room n 2 → ∀ bx mb a cap es (X Y Z W : Asrt), Idx ns es → FnC Try.prog f [.agg [pt bx 0].toArray, pt bn 0].toArray (IxA bx mb a cap ns room es (X :: Y :: Z :: W :: Box bn [.int .i64 n] 3 :: A)) I (IxR9 bx mb r room (X :: Y :: Z :: W :: Box bn [.int .i64 n] 3 :: A) I)) :
    FnC Try.prog 39 [storeV a ns.length cap room, .int .i64 n, .func (.func f) [].toArray [pt bn 0].toArray].toArray (Box bn [.int .i64 n] 3 :: A) I (Nine (toldR9 ns room n r) room (Box bn [.int .i64 n] 3 :: A) I) := by
  skip
  refine fn_enter3 Try.func39 rfl Try.ntmps39 rfl fun w0 => ?_
  refine tri_seq ?_
  refine tri_region ?_
  refine tri_g (opg_box_agg rfl) rfl ?_
  rintro _ _ _ ⟨b3, rfl, rfl, rfl⟩
  refine tri_g opg_alloc rfl ?_
  rintro _ _ _ ⟨b6, rfl, rfl, rfl⟩
  refine tri_g opg_alloc rfl ?_
  rintro _ _ _ ⟨b7, rfl, rfl, rfl⟩
  refine tri_v (opv_assign rfl) rfl ?_
  refine tri_nil ?_
  refine tri_then ?_
  refine tri_seq ?_
  refine tri_region ?_
  refine tri_v (opv_loadA rfl rfl rfl) rfl ?_
  refine tri_v (opv_move rfl) rfl ?_
  refine tri_g (opg_call (xs := [_, _, _]) rfl (base_of (lv := 2) hs hn)) rfl ?_
  rintro v A1 I1 hR
  rcases hR with ⟨hr, bx, mb, a1, c1, es, rfl, rfl, hix, rfl⟩ | ⟨hr, p, rfl, rfl, rfl⟩
  · refine tri_v (opv_move rfl) rfl ?_
    refine tri_v (opv_extract rfl rfl) rfl ?_
    refine tri_v (opv_extract rfl rfl) rfl ?_
    refine tri_g opg_alloc rfl ?_
    rintro _ _ _ ⟨b9, rfl, rfl, rfl⟩
    refine tri_g (opg_store rfl rfl rfl rfl rfl rfl) rfl ?_
    rintro _ _ _ ⟨rfl, rfl⟩
    refine tri_v (opv_assign rfl) rfl ?_
    refine tri_nil ?_
    refine tri_then ?_
    refine tri_seq ?_
    refine tri_seq ?_
    refine tri_region ?_
    refine tri_v (opv_move rfl) rfl ?_
    refine tri_v (opv_not rfl) rfl ?_
    refine tri_nil ?_
    refine tri_then ?_
    refine tri_cond_false (by rfl) ?_
    refine tri_skip ?_
    refine tri_then ?_
    refine tri_seq ?_
    refine tri_perm (A := ?a1_0 :: ?a1_1 :: ?a1_2 :: ?a1_3 :: ?a1_4 :: ?a1_5 :: ?a1_6 :: ?T1) (B := ?a1_1 :: ?a1_2 :: ?a1_3 :: ?a1_0 :: ?a1_4 :: ?a1_5 :: ?a1_6 :: ?T1) (by exact permL [1, 2, 3, 0, 4, 5, 6] [?a1_0, ?a1_1, ?a1_2, ?a1_3, ?a1_4, ?a1_5, ?a1_6] ?T1 (by decide) rfl) ?_
    refine tri_region ?_
    refine tri_v (opv_move rfl) rfl ?_
    refine tri_v (opv_loadA rfl rfl rfl) rfl ?_
    refine tri_g (opg_callv (vs := [.agg [pt bx 0].toArray]) (xs := [_]) rfl rfl (hc hr bx mb a1 c1 es _ _ _ _ hix)) rfl ?_
    rintro _ _ _ ⟨a2, c2, es2, ns2, q0, q1, q2, q3, q4, q5, q6, q7, q8, rfl, rfl, hq, rfl⟩
    refine tri_v (opv_move rfl) rfl ?_
    refine tri_v (opv_extract rfl rfl) rfl ?_
    refine tri_v (opv_extract rfl rfl) rfl ?_
    refine tri_g opg_alloc rfl ?_
    rintro _ _ _ ⟨b11, rfl, rfl, rfl⟩
    refine tri_g (opg_store rfl rfl rfl rfl rfl rfl) rfl ?_
    rintro _ _ _ ⟨rfl, rfl⟩
    refine tri_v (opv_assign rfl) rfl ?_
    refine tri_nil ?_
    refine tri_then ?_
    refine tri_seq ?_
    refine tri_seq ?_
    refine tri_region ?_
    refine tri_v (opv_move rfl) rfl ?_
    refine tri_v (opv_neq rfl rfl) rfl ?_
    refine tri_nil ?_
    refine tri_then ?_
    refine tri_cond_dec rfl (fun h => ?_) (fun h => ?_)
    · refine tri_seq ?_
      refine tri_perm (A := ?a2_0 :: ?a2_1 :: ?a2_2 :: ?a2_3 :: ?a2_4 :: ?a2_5 :: ?a2_6 :: ?T2) (B := ?a2_5 :: ?a2_6 :: ?a2_0 :: ?a2_1 :: ?a2_2 :: ?a2_3 :: ?a2_4 :: ?T2) (by exact permL [5, 6, 0, 1, 2, 3, 4] [?a2_0, ?a2_1, ?a2_2, ?a2_3, ?a2_4, ?a2_5, ?a2_6] ?T2 (by decide) rfl) ?_
      skip
      refine tri_draw [0, 2, 1, 3, 4, 5] rfl [_, _] rfl mixed ?_
      refine th_take rfl rfl (by kernel_rfl)  (opv_loadA rfl rfl rfl) ?_
      refine th_take rfl rfl (by kernel_rfl)  (opv_move rfl) ?_
      refine th_two (j := 3) [1, 4, 5] (by kernel_rfl) rfl ?_ ?_
      · refine (step_m rfl rfl (OpV.toG (opv_loadA rfl rfl rfl)) ?_)
        rintro _ _ _ ⟨rfl, rfl, rfl⟩
        refine ⟨Suf.h, (fun _ h => h), ?_⟩
        refine th_one (by kernel_rfl) (step_m rfl rfl (opg_store rfl rfl rfl rfl rfl rfl) ?_)
        rintro _ _ _ ⟨rfl, rfl⟩
        refine ⟨Suf.h, (fun _ h => h), ?_⟩
        refine th_one (by kernel_rfl) (step_m rfl rfl (opg_store rfl rfl rfl rfl rfl rfl) ?_)
        rintro _ _ _ ⟨rfl, rfl⟩
        refine ⟨Suf.h, (fun _ h => h), ?_⟩
        refine th_take rfl rfl (by kernel_rfl)  (opv_assign rfl) ?_
        refine th_done (by kernel_rfl) ?_
        refine tri_then ?_
        refine tri_ret ?_
        refine tri_then_ret ?_
        refine tri_end (Box bn [.int .i64 n] 3 :: A) Suf.h rfl (.cons (rv_cellA rfl rfl rfl) (.cons (rv_cellA rfl rfl rfl) (.cons (rv_tmp rfl) .nil))) ?_
        rw [show toldR9 ns room n r = (ns, R8.z9, r.2.2) from (if_pos hr).trans (if_pos h)]
        exact ⟨a, cap, _, _, _, _, _, _, _, _, _, rfl, rfl, hs, rfl, fun _ h => h⟩
      · refine (step_m rfl rfl (opg_store rfl rfl rfl rfl rfl rfl) ?_)
        rintro _ _ _ ⟨rfl, rfl⟩
        refine ⟨Suf.h, (fun _ h => h), ?_⟩
        refine th_one (by kernel_rfl) (step_m rfl rfl (OpV.toG (opv_loadA rfl rfl rfl)) ?_)
        rintro _ _ _ ⟨rfl, rfl, rfl⟩
        refine ⟨Suf.h, (fun _ h => h), ?_⟩
        refine th_one (by kernel_rfl) (step_m rfl rfl (opg_store rfl rfl rfl rfl rfl rfl) ?_)
        rintro _ _ _ ⟨rfl, rfl⟩
        refine ⟨Suf.h, (fun _ h => h), ?_⟩
        refine th_take rfl rfl (by kernel_rfl)  (opv_assign rfl) ?_
        refine th_done (by kernel_rfl) ?_
        refine tri_then ?_
        refine tri_ret ?_
        refine tri_then_ret ?_
        refine tri_end (Box bn [.int .i64 n] 3 :: A) Suf.h rfl (.cons (rv_cellA rfl rfl rfl) (.cons (rv_cellA rfl rfl rfl) (.cons (rv_tmp rfl) .nil))) ?_
        rw [show toldR9 ns room n r = (ns, R8.z9, r.2.2) from (if_pos hr).trans (if_pos h)]
        exact ⟨a, cap, _, _, _, _, _, _, _, _, _, rfl, rfl, hs, rfl, fun _ h => h⟩
    · have h0 : r.2.2 = 0 := Decidable.not_not.1 h
      obtain ⟨rfl, hq9⟩ := hq h0
      refine tri_skip ?_
      refine tri_then ?_
      refine tri_seq ?_
      refine tri_perm (A := ?a3_0 :: ?a3_1 :: ?a3_2 :: ?a3_3 :: ?a3_4 :: ?a3_5 :: ?a3_6 :: ?T3) (B := ?a3_5 :: ?a3_6 :: ?a3_0 :: ?a3_1 :: ?a3_2 :: ?a3_3 :: ?a3_4 :: ?T3) (by exact permL [5, 6, 0, 1, 2, 3, 4] [?a3_0, ?a3_1, ?a3_2, ?a3_3, ?a3_4, ?a3_5, ?a3_6] ?T3 (by decide) rfl) ?_
      skip
      refine tri_draw [0, 1, 2, 3, 4, 5, 6, 7, 8] rfl [_, _] rfl mixed ?_
      refine th_take rfl rfl (by kernel_rfl)  (opv_fieldAddr rfl rfl) ?_
      refine th_take rfl rfl (by kernel_rfl)  (opv_load1 rfl rfl rfl) ?_
      refine th_take rfl rfl (by kernel_rfl)  (opv_nilCheck rfl) ?_
      refine th_take rfl rfl (by kernel_rfl)  (opv_fieldAddr rfl rfl) ?_
      refine th_take rfl rfl (by kernel_rfl)  (opv_loadA rfl rfl rfl) ?_
      refine th_take rfl rfl (by kernel_rfl)  (opv_loadA rfl rfl rfl) ?_
      refine th_one (by kernel_rfl) (step_m rfl rfl (opg_store rfl rfl rfl rfl rfl rfl) ?_)
      rintro _ _ _ ⟨rfl, rfl⟩
      refine ⟨Suf.h, (fun _ h => h), ?_⟩
      refine th_one (by kernel_rfl) (step_m rfl rfl (opg_store rfl rfl rfl rfl rfl rfl) ?_)
      rintro _ _ _ ⟨rfl, rfl⟩
      refine ⟨Suf.h, (fun _ h => h), ?_⟩
      refine th_take rfl rfl (by kernel_rfl)  (opv_assign rfl) ?_
      refine th_done (by kernel_rfl) ?_
      refine tri_then ?_
      refine tri_ret ?_
      refine tri_perm (A := ?a4_0 :: ?a4_1 :: ?a4_2 :: ?a4_3 :: ?a4_4 :: ?T4) (B := ?a4_4 :: ?a4_0 :: ?a4_1 :: ?a4_2 :: ?a4_3 :: ?T4) (by exact permL [4, 0, 1, 2, 3] [?a4_0, ?a4_1, ?a4_2, ?a4_3, ?a4_4] ?T4 (by decide) rfl) ?_
      refine tri_freezeRowC rfl fun I' hI hs' => ?_
      refine tri_end (Box bn [.int .i64 n] 3 :: A) Suf.h rfl (.cons (rv_cellA rfl rfl rfl) (.cons (rv_cellA rfl rfl rfl) (.cons (rv_tmp rfl) .nil))) ?_
      rw [show toldR9 ns room n r = r from (if_pos hr).trans (if_neg h)]
      exact ⟨a2, c2, q0, q1, q2, q3, q4, q5, q6, q7, q8, hq9, by rw [h0]; rfl, hs', rfl, hI⟩
  · refine tri_v (opv_move rfl) rfl ?_
    refine tri_v (opv_extract rfl rfl) rfl ?_
    refine tri_v (opv_extract rfl rfl) rfl ?_
    refine tri_g opg_alloc rfl ?_
    rintro _ _ _ ⟨b9, rfl, rfl, rfl⟩
    refine tri_g (opg_store rfl rfl rfl rfl rfl rfl) rfl ?_
    rintro _ _ _ ⟨rfl, rfl⟩
    refine tri_v (opv_assign rfl) rfl ?_
    refine tri_nil ?_
    refine tri_then ?_
    refine tri_seq ?_
    refine tri_seq ?_
    refine tri_region ?_
    refine tri_v (opv_move rfl) rfl ?_
    refine tri_v (opv_not rfl) rfl ?_
    refine tri_nil ?_
    refine tri_then ?_
    refine tri_cond_true (by rfl) ?_
    refine tri_seq ?_
    refine tri_perm (A := ?a5_0 :: ?a5_1 :: ?a5_2 :: ?T5) (B := ?a5_1 :: ?a5_2 :: ?a5_0 :: ?T5) (by exact permL [1, 2, 0] [?a5_0, ?a5_1, ?a5_2] ?T5 (by decide) rfl) ?_
    skip
    refine tri_draw [0, 1, 2, 3, 4] rfl [_, _] rfl mixed ?_
    refine th_take rfl rfl (by kernel_rfl)  (opv_loadA rfl rfl rfl) ?_
    refine th_two (j := 2) [1, 3, 4] (by kernel_rfl) rfl ?_ ?_
    · refine (step_m rfl rfl (OpV.toG (opv_loadA rfl rfl rfl)) ?_)
      rintro _ _ _ ⟨rfl, rfl, rfl⟩
      refine ⟨Suf.h, (fun _ h => h), ?_⟩
      refine th_one (by kernel_rfl) (step_m rfl rfl (opg_store rfl rfl rfl rfl rfl rfl) ?_)
      rintro _ _ _ ⟨rfl, rfl⟩
      refine ⟨Suf.h, (fun _ h => h), ?_⟩
      refine th_one (by kernel_rfl) (step_m rfl rfl (opg_store rfl rfl rfl rfl rfl rfl) ?_)
      rintro _ _ _ ⟨rfl, rfl⟩
      refine ⟨Suf.h, (fun _ h => h), ?_⟩
      refine th_take rfl rfl (by kernel_rfl)  (opv_assign rfl) ?_
      refine th_done (by kernel_rfl) ?_
      refine tri_then ?_
      refine tri_ret ?_
      refine tri_then_ret ?_
      refine tri_end (Box bn [.int .i64 n] 3 :: A) Suf.h rfl (.cons (rv_cellA rfl rfl rfl) (.cons (rv_cellA rfl rfl rfl) (.cons (rv_tmp rfl) .nil))) ?_
      rw [show toldR9 ns room n r = (ns, R8.z9, 1) from if_neg hr]
      exact ⟨a, cap, _, _, _, _, _, _, _, _, _, rfl, rfl, hs, rfl, fun _ h => h⟩
    · refine (step_m rfl rfl (opg_store rfl rfl rfl rfl rfl rfl) ?_)
      rintro _ _ _ ⟨rfl, rfl⟩
      refine ⟨Suf.h, (fun _ h => h), ?_⟩
      refine th_one (by kernel_rfl) (step_m rfl rfl (OpV.toG (opv_loadA rfl rfl rfl)) ?_)
      rintro _ _ _ ⟨rfl, rfl, rfl⟩
      refine ⟨Suf.h, (fun _ h => h), ?_⟩
      refine th_one (by kernel_rfl) (step_m rfl rfl (opg_store rfl rfl rfl rfl rfl rfl) ?_)
      rintro _ _ _ ⟨rfl, rfl⟩
      refine ⟨Suf.h, (fun _ h => h), ?_⟩
      refine th_take rfl rfl (by kernel_rfl)  (opv_assign rfl) ?_
      refine th_done (by kernel_rfl) ?_
      refine tri_then ?_
      refine tri_ret ?_
      refine tri_then_ret ?_
      refine tri_end (Box bn [.int .i64 n] 3 :: A) Suf.h rfl (.cons (rv_cellA rfl rfl rfl) (.cons (rv_cellA rfl rfl rfl) (.cons (rv_tmp rfl) .nil))) ?_
      rw [show toldR9 ns room n r = (ns, R8.z9, 1) from if_neg hr]
      exact ⟨a, cap, _, _, _, _, _, _, _, _, _, rfl, rfl, hs, rfl, fun _ h => h⟩
set_option maxRecDepth 100000 in
theorem nine_clo {A : List Asrt} {I : List Chunk} {ns : List Node} {bn : Nat} {room n : Int} (hr : R8.may ns room n 2) (bx mb : Nat) (a : Option Addr) (cap : Nat) (es : KVs) (X Y Z W : Asrt) (hix : Idx ns es) :
    FnC Try.prog 40 [.agg [pt bx 0].toArray, pt bn 0].toArray (IxA bx mb a cap ns room es (X :: Y :: Z :: W :: Box bn [.int .i64 n] 3 :: A)) I (IxR9 bx mb (R8.all ns room n) room (X :: Y :: Z :: W :: Box bn [.int .i64 n] 3 :: A) I) := by
  have hk := hr.1.kids hr.2.1 (by have := hr.2.2; omega)
  skip
  refine fn_enter2 Try.func40 rfl Try.ntmps40 rfl fun w0 => ?_
  refine tri_seq ?_
  refine tri_region ?_
  refine tri_g (opg_box_agg rfl) rfl ?_
  rintro _ _ _ ⟨b2, rfl, rfl, rfl⟩
  refine tri_g opg_alloc rfl ?_
  rintro _ _ _ ⟨b3, rfl, rfl, rfl⟩
  refine tri_v (opv_assign rfl) rfl ?_
  refine tri_nil ?_
  refine tri_then ?_
  refine tri_seq ?_
  refine tri_perm (A := ?a6_0 :: ?a6_1 :: ?a6_2 :: ?a6_3 :: ?a6_4 :: ?T6) (B := ?a6_2 :: ?a6_3 :: ?a6_4 :: ?a6_0 :: ?a6_1 :: ?T6) (by exact permL [2, 3, 4, 0, 1] [?a6_0, ?a6_1, ?a6_2, ?a6_3, ?a6_4] ?T6 (by decide) rfl) ?_
  refine tri_region ?_
  refine tri_v (opv_loadA rfl rfl rfl) rfl ?_
  refine tri_v (opv_load1 rfl rfl rfl) rfl ?_
  refine tri_g (opg_call (xs := [_, _]) rfl (maker_nine (hr.1.good (by have := hr.1.1.2.1; omega)) (Idx_len hr.1) hix hk)) rfl ?_
  rintro _ _ _ ⟨a1, c1, es1, ns1, q0, q1, q2, q3, q4, q5, q6, q7, q8, rfl, rfl, hq, rfl⟩
  refine tri_v (opv_extract rfl rfl) rfl ?_
  refine tri_v (opv_extract rfl rfl) rfl ?_
  refine tri_g (opg_store rfl rfl rfl rfl rfl rfl) rfl ?_
  rintro _ _ _ ⟨rfl, rfl⟩
  refine tri_v (opv_assign rfl) rfl ?_
  refine tri_nil ?_
  refine tri_then ?_
  refine tri_ret ?_
  refine tri_perm (A := ?a7_0 :: ?a7_1 :: ?a7_2 :: ?a7_3 :: ?a7_4 :: ?T7) (B := ?a7_3 :: ?a7_4 :: ?a7_0 :: ?a7_1 :: ?a7_2 :: ?T7) (by exact permL [3, 4, 0, 1, 2] [?a7_0, ?a7_1, ?a7_2, ?a7_3, ?a7_4] ?T7 (by decide) rfl) ?_
  refine tri_end (IxA bx mb a1 c1 ns1 room es1 (X :: Y :: Z :: W :: Box bn [.int .i64 n] 3 :: A)) Suf.h rfl (.cons (rv_cellA rfl rfl rfl) (.cons (rv_tmp rfl) .nil)) ⟨a1, c1, es1, ns1, q0, q1, q2, q3, q4, q5, q6, q7, q8, rfl, rfl, hq, rfl⟩
set_option maxRecDepth 100000 in
theorem base_nine {A : List Asrt} {I : List Chunk} {ns : List Node} {a : Option Addr} {cap : Nat} {room n : Int} (hs : StA I a cap ns) (hn : ns.length ≤ 1000000000) :
    FnC Try.prog 17 [storeV a ns.length cap room, .int .i64 n].toArray A I (Nine (R8.nine ns room n) room A I) := by
  have ea : (R8.all ns room n).2.2 ≠ 0 → (ns, R8.z9, (R8.all ns room n).2.2) = R8.all ns room n := by
    intro h
    unfold R8.all at h ⊢
    simp only at h ⊢
    repeat' split
    all_goals first | rfl | (exfalso; simp_all)
  have e : R8.nine ns room n = toldR9 ns room n (R8.all ns room n) := by
    unfold R8.nine toldR9
    split
    · split
      · rename_i h; exact (ea h).symm
      · rfl
    · rfl
  rw [e]
  skip
  refine fn_enter2 Try.func17 rfl Try.ntmps17 rfl fun w0 => ?_
  refine tri_seq ?_
  refine tri_region ?_
  refine tri_g (opg_box_agg rfl) rfl ?_
  rintro _ _ _ ⟨b2, rfl, rfl, rfl⟩
  refine tri_g (opg_box1 rfl rfl) rfl ?_
  rintro _ _ _ ⟨b3, rfl, rfl, rfl⟩
  refine tri_g opg_alloc rfl ?_
  rintro _ _ _ ⟨b4, rfl, rfl, rfl⟩
  refine tri_g opg_alloc rfl ?_
  rintro _ _ _ ⟨b5, rfl, rfl, rfl⟩
  refine tri_v (opv_assign rfl) rfl ?_
  refine tri_nil ?_
  refine tri_then ?_
  refine tri_seq ?_
  refine tri_region ?_
  refine tri_v (opv_loadA rfl rfl rfl) rfl ?_
  refine tri_v (opv_load1 rfl rfl rfl) rfl ?_
  refine tri_v (opv_makeFunc (fs := []) (cs := [_]) (vf := []) (vc := [_]) rfl rfl) rfl ?_
  refine tri_perm (A := ?a8_0 :: ?a8_1 :: ?a8_2 :: ?a8_3 :: ?T8) (B := ?a8_2 :: ?a8_0 :: ?a8_1 :: ?a8_3 :: ?T8) (by exact permL [2, 0, 1, 3] [?a8_0, ?a8_1, ?a8_2, ?a8_3] ?T8 (by decide) rfl) ?_
  refine tri_g (opg_call (xs := [_, _, _]) rfl (told_nine hs hn (fun hr bx mb a cap es X Y Z W hix => nine_clo hr bx mb a cap es X Y Z W hix))) rfl ?_
  rintro _ _ _ ⟨a2, c2, q0, q1, q2, q3, q4, q5, q6, q7, q8, hq, rfl, hs2, rfl, hI⟩
  refine tri_v (opv_extract rfl rfl) rfl ?_
  refine tri_v (opv_extract rfl rfl) rfl ?_
  refine tri_v (opv_extract rfl rfl) rfl ?_
  refine tri_g (opg_store rfl rfl rfl rfl rfl rfl) rfl ?_
  rintro _ _ _ ⟨rfl, rfl⟩
  refine tri_g (opg_store rfl rfl rfl rfl rfl rfl) rfl ?_
  rintro _ _ _ ⟨rfl, rfl⟩
  refine tri_v (opv_assign rfl) rfl ?_
  refine tri_nil ?_
  refine tri_then ?_
  refine tri_ret ?_
  refine tri_end A Suf.h rfl (.cons (rv_cellA rfl rfl rfl) (.cons (rv_cellA rfl rfl rfl) (.cons (rv_tmp rfl) .nil))) ⟨a2, c2, q0, q1, q2, q3, q4, q5, q6, q7, q8, hq, rfl, hs2, rfl, hI⟩
end Go.GL

set_option linter.unusedVariables false
set_option linter.unusedSimpArgs false
/-
  From a contract to a row: a world's blocks as what may be read; arguments opened; what a law leaves.
-/
namespace Go.GL
open Enc (enc)
open Go.WideShapes Go.ChangeShapes Go.RowKit Go.Deep
def I64 (c : Int) : Prop := -9223372036854775808 ≤ c ∧ c ≤ 9223372036854775807
theorem wf_I64 {n : Int} (h : (Lit.int .i64 n).wf = true) : I64 n := by
  simp [Lit.wf, IntKind.min, IntKind.max, IntKind.signed, IntKind.bits] at h
  exact ⟨by omega, by omega⟩
/-! ### 1. The world as it came -/
def worldI (w : World) : List Chunk := (List.range w.heap.size).filterMap fun b => w.heap[b]?.map fun o => (b, o)
theorem mem_worldI {w : World} {b : Nat} {o : Obj} : (b, o) ∈ worldI w ↔ w.heap[b]? = some o := by
  unfold worldI
  simp only [List.mem_filterMap, List.mem_range, Option.map_eq_some_iff, Prod.mk.injEq]
  constructor
  · rintro ⟨b', _, o', h, rfl, rfl⟩; exact h
  · intro h; exact ⟨b, (Array.getElem?_eq_some_iff.1 h).1, o, h, rfl, rfl⟩
theorem worldI_fst (w : World) : (worldI w).map (·.1) = List.range w.heap.size := by
  unfold worldI
  have key : ∀ n, n ≤ w.heap.size → ((List.range n).filterMap fun b => w.heap[b]?.map fun o => (b, o)).map (·.1) = List.range n := by
    intro n
    induction n with
    | zero => intro _; rfl
    | succ n ih =>
      intro hn
      have hlt : n < w.heap.size := hn
      rw [List.range_succ, List.filterMap_append, List.map_append, ih (by omega)]
      simp [hlt]
  exact key _ (Nat.le_refl _)
theorem st_world (w : World) : St w w [] (worldI w) := by
  refine ⟨[], .nil, ⟨rfl, rfl, rfl, Nat.le_refl _, ?_, ?_⟩⟩
  · rw [List.nil_append, worldI_fst]; exact List.nodup_range
  · rintro ⟨b, o⟩ hc
    exact mem_worldI.1 hc
theorem below_of_st {w w' : World} {A' : List Asrt} {I' : List Chunk} (h : St w w' A' I') (hI : worldI w ⊆ I') : Below w.heap.size w w' := by
  obtain ⟨cs, _, h⟩ := h
  refine ⟨h.os, h.tape, h.output, h.size, fun k hk => ?_⟩
  have h1 : w.heap[k]? = some w.heap[k] := Array.getElem?_eq_getElem hk
  rw [h1]
  exact h.has _ (List.mem_append_right _ (hI (mem_worldI.2 h1)))
/-- A law's contract, as the kit has it. -/
theorem calls_of_fnC {P : Program} {f : FuncId} {args : Array Value} {w : World} {v0 : Value} (h : FnC P f args [] (worldI w) fun v A' I' => v = v0 ∧ [] = A' ∧ worldI w ⊆ I') : Calls P f args w fun e w' => e = .returned v0 ∧ Below w.heap.size w w' :=
  (h w w (st_world w)).mono fun e w' ⟨v, A', I', he, ⟨hv, _, hI⟩, hS⟩ => ⟨hv ▸ he, below_of_st hS hI⟩
/-! ### 2. Values that are whole numbers alone -/
def segsOk : List (Nat × Nat) → Nat → Nat → Bool
  | [], off, tot => Nat.beq off tot
  | (o, k) :: r, off, tot => Nat.beq o off && segsOk r (off + k) tot
def IntsL (cs : List Value) (n : Nat) : Prop := ∃ xs : List Int, cs = ints xs ∧ xs.length = n ∧ ∀ z ∈ xs, I64 z
theorem ints_of_segs {cs : List Value} {tot : Nat} : ∀ (segs : List (Nat × Nat)) (off : Nat), (∀ p ∈ segs, IntsL ((cs.drop p.1).take p.2) p.2) → segsOk segs off tot = true → cs.length = tot → IntsL (cs.drop off) (tot - off)
  | [], off, _, hs, hl => by
    have : off = tot := Nat.eq_of_beq_eq_true hs
    refine ⟨[], ?_, by simp; omega, by simp⟩
    rw [List.drop_of_length_le (by omega)]; rfl
  | (o, k) :: r, off, h, hs, hl => by
    simp only [segsOk, Bool.and_eq_true] at hs
    have ho : o = off := Nat.eq_of_beq_eq_true hs.1
    subst ho
    obtain ⟨ys, e1, l1, b1⟩ := h (o, k) List.mem_cons_self
    obtain ⟨zs, e2, l2, b2⟩ := ints_of_segs r (o + k) (fun p hp => h p (List.mem_cons_of_mem _ hp)) hs.2 hl
    have e : cs.drop o = (cs.drop o).take k ++ cs.drop (o + k) := by rw [← List.drop_drop, List.take_append_drop]
    refine ⟨ys ++ zs, ?_, ?_, ?_⟩
    · rw [e, e1, e2]; simp [ints]
    · have hk : ((cs.drop o).take k).length = k := by rw [e1]; simp [ints, l1]
      rw [List.length_take, List.length_drop] at hk
      rw [List.length_append, l1, l2]
      by_cases h0 : k = 0
      · omega
      · omega
    · intro z hz
      rcases List.mem_append.1 hz with hz | hz
      · exact b1 z hz
      · exact b2 z hz
/-- A type whose cells are whole numbers alone. -/
def NumTy (P : Program) (t : TypeId) (n : Nat) : Prop := P.cellsOf t = n ∧ ∀ (H : Type) (enc : TypeId × Value → H) (w : World) (base : Nat) (spare : Nat → Bool) (held : Bool) (fuel : Nat) (cs : List Value) (x : DataW H × List MemPlace), DataW.trod enc P w base spare held fuel t cs = some x → IntsL cs n
theorem cellsOf_tyI {P : Program} {t : TypeId} {d : TypeDesc} {s b : Nat} {z : List Value} [h : TyI P t d s b z] : P.cellsOf t = s := by
  obtain ⟨i, v, h1, h2, _⟩ := h.info
  simp [Program.cellsOf, h1, h2]
section
variable {P : Program} {t e : TypeId} {s b : Nat} {z : List Value}
theorem NumTy.int [h : TyI P t (.int .i64) 1 b z] : NumTy P t 1 := by
  refine ⟨cellsOf_tyI, fun H enc w base spare held fuel cs x hx => ?_⟩
  obtain ⟨n, rfl, _, hw⟩ := DataW.trod_int h.und hx
  exact ⟨[n], rfl, rfl, fun z hz => by rw [List.mem_singleton.1 hz]; exact wf_I64 hw⟩
theorem NumTy.arr {n m : Nat} [h : TyI P t (.array n e) s b z] (he : NumTy P e m) (hs : segsOk ((List.range n).map fun i => (i * m, m)) 0 s = true) : NumTy P t s := by
  refine ⟨cellsOf_tyI, fun H enc w base spare held fuel cs x hx => ?_⟩
  obtain ⟨xs, k, _, _, hl, hlen, hf⟩ := DataW.trod_array h.und hx
  rw [cellsOf_tyI] at hl
  have := ints_of_segs (cs := cs) (tot := s) _ 0 (fun p hp => ?_) hs hl
  · simpa using this
  · obtain ⟨i, hi, rfl⟩ := List.mem_map.1 hp
    have hi' := List.mem_range.1 hi
    have := hf i hi'
    rw [he.1, List.getElem?_eq_getElem (by omega)] at this
    exact he.2 _ _ _ _ _ _ _ _ _ this
/-- The fields, one by one. -/
def AllTy (P : Program) : List Field → List Nat → Prop
  | [], [] => True
  | f :: fs, n :: ns => NumTy P f.type n ∧ AllTy P fs ns
  | _, _ => False
theorem AllTy.at : ∀ {fs : List Field} {ns : List Nat}, AllTy P fs ns → ∀ p ∈ (fs.map (·.offset)).zip ns, ∃ (i : Nat) (f : Field), fs[i]? = some f ∧ f.offset = p.1 ∧ NumTy P f.type p.2
  | [], [], _, p, hp => by simp at hp
  | f :: fs, n :: ns, h, p, hp => by
    simp only [List.map_cons, List.zip_cons_cons] at hp
    rcases List.mem_cons.1 hp with rfl | hp
    · exact ⟨0, f, rfl, rfl, h.1⟩
    · obtain ⟨i, g, h1, h2, h3⟩ := AllTy.at h.2 p hp
      exact ⟨i + 1, g, by simpa using h1, h2, h3⟩
  | [], _ :: _, h, _, _ => h.elim
  | _ :: _, [], h, _, _ => h.elim
theorem NumTy.str {fs : Array Field} {ns : List Nat} [h : TyI P t (.struct fs) s b z] (hf : AllTy P fs.toList ns) (hs : segsOk ((fs.toList.map (·.offset)).zip ns) 0 s = true) : NumTy P t s := by
  refine ⟨cellsOf_tyI, fun H enc w base spare held fuel cs x hx => ?_⟩
  obtain ⟨xs, k, _, _, hl, hlen, hg⟩ := DataW.trod_struct h.und hx
  rw [cellsOf_tyI] at hl
  have := ints_of_segs (cs := cs) (tot := s) _ 0 (fun p hp => ?_) hs hl
  · simpa using this
  · obtain ⟨i, f, h1, h2, h3⟩ := hf.at p hp
    have h1' : fs[i]? = some f := by simpa using h1
    have hi : i < fs.size := (Array.getElem?_eq_some_iff.1 h1').1
    have := hg i f h1'
    rw [h2, h3.1, List.getElem?_eq_getElem (by omega)] at this
    exact h3.2 _ _ _ _ _ _ _ _ _ this
/-! ### 3. Slices and stores opened -/
/-- How a thing of n numbers is read. -/
class Dec (α : Type) [Enc α] where
  dec : List Int → α
  enc_dec : ∀ xs : List Int, xs.length = Enc.sz α → enc (dec xs) = ints xs
instance : Dec Int := ⟨fun xs => xs.getD 0 0, fun xs h => by
  match xs, h with
  | [x], _ => rfl⟩
def DecOk {α : Type} [Enc α] [Dec α] (x : α) : Prop := ∃ zs : List Int, zs.length = Enc.sz α ∧ (∀ z ∈ zs, I64 z) ∧ x = Dec.dec zs
/-- How many are read. -/
def dlen {H : Type} : DataW H → Nat | .slice es _ => es.length | _ => 0
theorem open_sl_cs {α : Type} [Enc α] [Dec α] [Inhabited α] [h : TyI P t (.slice e) s b z] (he : NumTy P e (Enc.sz α)) (hpos : 0 < Enc.sz α) {H : Type} {en : TypeId × Value → H} {w : World} {fuel : Nat} {cs : List Value} {x : DataW H × List MemPlace} {spare : Nat → Bool} {held : Bool}
    (hx : DataW.trod en P w 0 spare held fuel t cs = some x) : ∃ (a : Option Addr) (cap : Nat) (xs : List α), cs = [.slice a xs.length cap] ∧ StA (worldI w) a cap xs ∧ (∀ y ∈ xs, DecOk y) ∧ xs.length ≤ 9223372036854775807 ∧ xs.length = dlen x.1 := by
  rcases open_slice h.und hx with ⟨rfl, rfl⟩ | ⟨a, len, cap, m, n, D, Pl, rfl, _, hl, hm, hmm, rfl, hi⟩
  · exact ⟨none, 0, [], rfl, ⟨SlAt.nil, Nat.le_refl _⟩, by simp, by simp, rfl⟩
  · have hlm : len ≤ m := by rw [hmm]; split <;> omega
    have hcap : cap ≤ 9223372036854775807 := hm
    have each : ∀ i, i < len → ∃ y : α, DecOk y ∧ ∀ j, j < Enc.sz α → w.cell? ((a.add (i * Enc.sz α)).add j) = (enc y)[j]? := fun i hi' => by
      obtain ⟨cs', h1, h2⟩ := hi i (by omega)
      rw [he.1] at h1
      obtain ⟨_, h3, h4⟩ := World.cells?_some h1
      obtain ⟨zs, rfl, h5, h6⟩ := he.2 _ _ _ _ _ _ _ _ _ h2
      exact ⟨Dec.dec zs, ⟨zs, h5, h6, rfl⟩, fun j hj => by rw [h4 j hj, Dec.enc_dec zs h5]⟩
    obtain ⟨f, hf⟩ := choose_lt each
    refine ⟨some a, cap, (List.range len).map f, by simp, ⟨?_, by simpa using hl⟩, ?_, by simp; omega, by simp [dlen]⟩
    · by_cases h0 : len = 0
      · subst h0; exact .inl rfl
      · obtain ⟨bk, off, sp⟩ := a
        have h00 := (hf 0 (by omega)).2 0 hpos
        simp only [Nat.zero_mul, Addr.add, if_true] at h00
        have hz : (enc (f 0))[0]? = some ((enc (f 0))[0]'(by rw [Enc.hlen]; exact hpos)) := List.getElem?_eq_getElem _
        rw [hz] at h00
        unfold World.cell? at h00
        simp only at h00
        cases hb : w.heap[bk]? with
        | none => rw [hb] at h00; simp at h00
        | some o =>
          rw [hb] at h00
          cases o with
          | cells c T fz =>
            simp only at h00
            cases sp with
            | some q => simp at h00
            | none =>
              refine .inr ⟨bk, off, rfl, c, T, fz, mem_worldI.2 hb, fun j v hj => ?_⟩
              have hj2 : j < len * Enc.sz α := by
                have := (List.getElem?_eq_some_iff.1 hj).1
                rw [encs_length] at this
                simpa using this
              have hq : j / Enc.sz α < len := (Nat.div_lt_iff_lt_mul hpos).2 hj2
              have hr : j % Enc.sz α < Enc.sz α := Nat.mod_lt _ hpos
              have ej : j / Enc.sz α * Enc.sz α + j % Enc.sz α = j := by rw [Nat.mul_comm]; exact Nat.div_add_mod j (Enc.sz α)
              rw [← ej, encs_get _ _ _ (by simpa using hq) hr] at hj
              have hg : ((List.range len).map f).getD (j / Enc.sz α) default = f (j / Enc.sz α) := by simp [hq]
              rw [hg] at hj
              have h5 := (hf _ hq).2 _ hr
              rw [hj, Go.Deep.add_add, ej] at h5
              unfold World.cell? at h5
              have hblk : (({ block := bk, off := off, spot := none } : Addr).add j) = ⟨bk, off + j, none⟩ := by
                unfold Addr.add; split
                · rename_i h; subst h; rfl
                · rfl
              rw [hblk] at h5
              simpa [hb] using h5
          | _ => simp at h00
    · intro y hy
      obtain ⟨i, hi', rfl⟩ := List.mem_map.1 hy
      exact (hf i (List.mem_range.1 hi')).1
theorem open_slv {α : Type} [Enc α] [Dec α] [Inhabited α] [h : TyI P t (.slice e) s b z] (he : NumTy P e (Enc.sz α)) (hpos : 0 < Enc.sz α) {H : Type} {en : TypeId × Value → H} {w : World} {r : Reach} {b0 : Nat} {spare : Nat → Bool} {held : Bool} {v : Value} {d : DataW H} {ps : List MemPlace}
    (hval : Value.okWide P w r b0 t v) (hx : DataW.Trod en P w 0 spare held t v d ps) : ∃ (a : Option Addr) (cap : Nat) (xs : List α), v = .slice a xs.length cap ∧ StA (worldI w) a cap xs ∧ (∀ y ∈ xs, DecOk y) ∧ xs.length ≤ 9223372036854775807 ∧ xs.length = dlen d := by
  obtain ⟨a, len, cap, rfl⟩ := okWide_slice h.und hval
  obtain ⟨fuel, hf⟩ := hx
  obtain ⟨a', cap', xs, h1, h2⟩ := open_sl_cs he hpos hf
  simp only [Value.cells, List.cons.injEq, and_true] at h1
  exact ⟨a', cap', xs, h1, h2⟩
theorem open_i64 [h : TyI P t (.int .i64) s b z] {H : Type} {en : TypeId × Value → H} {w : World} {r : Reach} {b0 : Nat} {spare : Nat → Bool} {held : Bool} {v : Value} {d : DataW H} {ps : List MemPlace}
    (hval : Value.okWide P w r b0 t v) (hx : DataW.Trod en P w 0 spare held t v d ps) : ∃ n, v = .int .i64 n ∧ I64 n := by
  obtain ⟨n, rfl, _, _, hw⟩ := open_int h.und hval hx
  exact ⟨n, rfl, wf_I64 hw⟩
theorem okWide_agg {d : TypeDesc} (hd : isA d = true) [h : TyI P t d s b z] {w : World} {r : Reach} {b0 : Nat} {v : Value} (hval : Value.okWide P w r b0 t v) : ∃ cs : List Value, v = .agg cs.toArray := by
  unfold Value.okWide at hval
  rw [h.und] at hval
  cases d <;> simp [isA] at hd <;> (obtain ⟨cs, rfl, _⟩ := hval; exact ⟨cs.toList, by simp⟩)
theorem open_num {α : Type} [Enc α] [Dec α] {d : TypeDesc} (hd : isA d = true) [h : TyI P t d s b z] (he : NumTy P t (Enc.sz α)) {H : Type} {en : TypeId × Value → H} {w : World} {r : Reach} {b0 : Nat} {spare : Nat → Bool} {held : Bool} {v : Value} {dd : DataW H} {ps : List MemPlace}
    (hval : Value.okWide P w r b0 t v) (hx : DataW.Trod en P w 0 spare held t v dd ps) : ∃ x : α, v = .agg (enc x).toArray ∧ DecOk x := by
  obtain ⟨cs, rfl⟩ := okWide_agg hd hval
  obtain ⟨fuel, hf⟩ := hx
  obtain ⟨zs, h1, h2, h3⟩ := he.2 _ _ _ _ _ _ _ _ _ hf
  refine ⟨Dec.dec zs, ?_, ⟨zs, h2, h3, rfl⟩⟩
  rw [Dec.enc_dec zs h2]
  simp only [Value.cells] at h1
  rw [← h1]
/-- A struct of a slice and a number. -/
theorem open_slint {z' : List Value} {α : Type} [Enc α] [Dec α] [Inhabited α] {f0 f1 : Field} {t0 : TypeId} [h : TyI P t (.struct #[f0, f1]) s b z] [h0 : TyI P t0 (.slice e) 1 24 z'] (e0 : f0.type = t0) (he : NumTy P e (Enc.sz α)) (hpos : 0 < Enc.sz α) {t1 : TypeId} (h1 : NumTy P t1 1) (e1 : f1.type = t1) (o0 : f0.offset = 0) (o1 : f1.offset = 1) (hs : s = 2)
    {H : Type} {en : TypeId × Value → H} {w : World} {r : Reach} {b0 : Nat} {spare : Nat → Bool} {held : Bool} {v : Value} {d : DataW H} {ps : List MemPlace}
    (hval : Value.okWide P w r b0 t v) (hx : DataW.Trod en P w 0 spare held t v d ps) : ∃ (a : Option Addr) (cap : Nat) (xs : List α) (n : Int), v = .agg [.slice a xs.length cap, .int .i64 n].toArray ∧ StA (worldI w) a cap xs ∧ (∀ y ∈ xs, DecOk y) ∧ xs.length ≤ 9223372036854775807 ∧ I64 n := by
  obtain ⟨cs, rfl⟩ := okWide_agg rfl hval
  obtain ⟨fuel, hf⟩ := hx
  obtain ⟨y0, y1, n, _, hl, g0, g1⟩ := trod_struct2 h.und hf
  rw [cellsOf_tyI, hs] at hl
  simp only [Value.cells] at hl g0 g1
  subst e0; subst e1
  rw [o0, cellsOf_tyI (t := f0.type)] at g0
  rw [o1, h1.1] at g1
  match cs, hl with
  | [x, y], _ =>
    simp only [List.drop_zero, List.take_succ_cons, List.take_zero, List.drop_succ_cons] at g0 g1
    obtain ⟨a, cap, xs, k1, k2, k3, k4, _⟩ := open_sl_cs he hpos g0
    obtain ⟨zs, k5, k6, k7⟩ := h1.2 _ _ _ _ _ _ _ _ _ g1
    match zs, k6 with
    | [m], _ =>
      simp only [List.cons.injEq, and_true] at k1
      simp only [ints, List.map_cons, List.map_nil, List.cons.injEq, and_true] at k5
      subst k1; subst k5
      exact ⟨a, cap, xs, m, rfl, k2, k3, k4, k7 m (by simp)⟩
/-! ### 4. What a law leaves -/
theorem trodAll_stays {H : Type} {en : TypeId × Value → H} (hl : laidOutB P = true) {W W' : World} (hB : Below W.heap.size W W') : ∀ {ts : List TypeId} {vs : List Value} {ds : List (DataW H)} {ps : List MemPlace},
    (∀ t ∈ ts, P.readableRec t = true ∧ t < P.types.size) → DataW.TrodAll en P W 0 (fun _ => true) true ts vs ds ps → (∀ x ∈ ps, x.block < W.heap.size) → DataW.TrodAll en P W' 0 (fun b => decide (b < W.heap.size)) true ts vs ds ps
  | [], vs, ds, ps, _, h, _ => by
    obtain ⟨rfl, rfl, rfl⟩ := trodAll_nil h
    exact rfl
  | t :: ts, vs, ds, ps, hr, h, hlt => by
    obtain ⟨v, vs', d, ds', p, q, rfl, rfl, rfl, h1, h2⟩ := trodAll_cons h
    refine ⟨p, q, Below.trod hl (hr t List.mem_cons_self).1 (hr t List.mem_cons_self).2 h1 hB fun x hx => hlt x (List.mem_append_left _ hx), ?_, rfl⟩
    exact trodAll_stays hl hB (fun t' ht' => hr t' (List.mem_cons_of_mem _ ht')) h2 fun x hx => hlt x (List.mem_append_right _ hx)
theorem law_post {H : Type} {en : TypeId × Value → H} {f : Func} {sp : ChangeSpec} {apart fresh handsOn : Bool} {W W' : World} {args : Array Value} {ds gs : List (DataW H)} {before : List MemPlace} {tb : TypeId} [hb : TyI P tb .bool s b z]
    (hl : laidOutB P = true) (hts : ∀ t ∈ f.params.toList, P.readableRec t = true ∧ t < P.types.size) (hres : f.resultTypes = #[tb]) (hvars : sp.vars = [])
    (hW : DataW.Whole en P f.params.toList sp.vars apart W args.toList ds gs before) (hr : (sp.fn H (ds ++ gs)).results = [.lit (.bool true)]) (ha : (sp.fn H (ds ++ gs)).args = ds) (hv : (sp.fn H (ds ++ gs)).vars = [])
    (hB : Below W.heap.size W W') : sp.post en P f apart fresh handsOn false W args (.bool true) W' := by
  have hlt := hW.lt
  have hW2 := hW
  obtain ⟨p, q, h1, h2, e, h3, h4⟩ := hW2
  rw [hvars] at h2
  obtain ⟨_, rfl⟩ := trodVars_none h2
  rw [List.append_nil] at e
  subst e
  refine ⟨ds, gs, _, [], _, [], hW, ?_, ?_, ?_, World.keptBut_mono (fun x hx => ⟨hx, .inr (.inl hx)⟩) (hB.frame (· ∈ _)), fun h => by cases h⟩
  · rw [hr, hres]
    exact ⟨[], [], ⟨1, by simp [DataW.trod, Value.cells, hb.und]⟩, rfl, rfl⟩
  · rw [ha]
    exact trodAll_stays hl hB hts h1 hlt
  · rw [hv, hvars]; rfl
end
end Go.GL

set_option linter.unusedVariables false
namespace Go.GL
/-- Five raw numbers. -/
structure Five where
  r0 : Int
  r1 : Int
  r2 : Int
  r3 : Int
  r4 : Int
  deriving DecidableEq, Inhabited
instance : Enc Five := ⟨fun x => [.int .i64 x.r0, .int .i64 x.r1, .int .i64 x.r2, .int .i64 x.r3, .int .i64 x.r4], 5, fun _ => rfl, fun _ => rfl⟩
abbrev int5V (x : Five) : Value := .agg [.int .i64 x.r0, .int .i64 x.r1, .int .i64 x.r2, .int .i64 x.r3, .int .i64 x.r4].toArray
instance : Dec Cell := ⟨fun xs => ⟨xs.getD 0 0, xs.getD 1 0⟩, fun xs h => by
  match xs, h with
  | [a, b], _ => rfl⟩
instance : Dec Node := ⟨fun xs => ⟨xs.getD 0 0, xs.getD 1 0, xs.getD 2 0, xs.getD 3 0, xs.getD 4 0, xs.getD 5 0⟩, fun xs h => by
  match xs, h with
  | [a, b, c, d, e, f], _ => rfl⟩
instance : Dec Five := ⟨fun xs => ⟨xs.getD 0 0, xs.getD 1 0, xs.getD 2 0, xs.getD 3 0, xs.getD 4 0⟩, fun xs h => by
  match xs, h with
  | [a, b, c, d, e], _ => rfl⟩
theorem cell_ok {x : Cell} (h : DecOk x) : I64 x.x ∧ I64 x.y := by
  obtain ⟨zs, h1, h2, rfl⟩ := h
  match zs, h1 with
  | [a, b], _ => exact ⟨h2 a (by simp), h2 b (by simp)⟩
theorem node_ok {x : Node} (h : DecOk x) : I64 x.lv := by
  obtain ⟨zs, h1, h2, rfl⟩ := h
  match zs, h1 with
  | [a, b, c, d, e, f], _ => exact h2 a (by simp)
theorem five_ok {x : Five} (h : DecOk x) : I64 x.r0 ∧ I64 x.r1 ∧ I64 x.r2 ∧ I64 x.r3 ∧ I64 x.r4 := by
  obtain ⟨zs, h1, h2, rfl⟩ := h
  match zs, h1 with
  | [a, b, c, d, e], _ => exact ⟨h2 a (by simp), h2 b (by simp), h2 c (by simp), h2 d (by simp), h2 e (by simp)⟩
theorem rng_ok {l : List Node} (h : ∀ y ∈ l, DecOk y) : R6.Rng l := fun x hx => node_ok (h x hx)
/-- Which of n things a raw number speaks of. -/
def pk (c n : Int) : Int := (if c < 0 then -(c + 1) else c) % n
theorem pk_bd {c n : Int} (hn : 0 < n) : 0 ≤ pk c n ∧ pk c n < n := ⟨Int.emod_nonneg _ (by omega), Int.emod_lt_of_pos _ hn⟩
/-! ### What the laws make of raw numbers -/
namespace RL
/-- Raw numbers that a machine can hold. -/
def Cs (l : List Cell) : Prop := ∀ i, i < l.length → I64 (l.getD i default).x ∧ I64 (l.getD i default).y
def Fs (l : List Five) : Prop := ∀ i, i < l.length → I64 (l.getD i default).r0 ∧ I64 (l.getD i default).r1 ∧ I64 (l.getD i default).r2 ∧ I64 (l.getD i default).r3 ∧ I64 (l.getD i default).r4
theorem cs_ok {l : List Cell} (h : ∀ y ∈ l, DecOk y) : Cs l := fun i hi => by
  have := cell_ok (h l[i] (List.getElem_mem hi))
  simpa [hi] using this
theorem fs_ok {l : List Five} (h : ∀ y ∈ l, DecOk y) : Fs l := fun i hi => by
  have := five_ok (h l[i] (List.getElem_mem hi))
  simpa [hi] using this
def cell16 (r : Cell) : Cell := ⟨pk r.x 16 - 8, pk r.y 16 - 8⟩
def set (raw : List Cell) : List Cell := R1.puts ((raw.take 60).map cell16)
def lev (ns : List Node) (r : Five) : Int := if 0 < ns.length then (R6.nd ns (pk r.r4 ns.length)).lv else 0
def sameFrom (lv : Int) : Nat → List Node → List Int
  | _, [] => []
  | i, x :: ns => if x.lv = lv then (i : Int) :: sameFrom lv (i + 1) ns else sameFrom lv (i + 1) ns
def same (ns : List Node) (r : Five) : List Int := sameFrom (lev ns r) 0 ns
def one (s : List Int) (c : Int) : Int := if 0 < s.length then s.getD (pk c s.length).toNat default else 0
def kids (ns : List Node) (r : Five) : Int × Int × Int × Int := (one (same ns r) r.r0, one (same ns r) r.r1, one (same ns r) r.r2, one (same ns r) r.r3)
def room (c : Int) : Int := 2 + pk c 60
def putRaw (rm : Int) (ns : List Node) (r : Five) : List Node := (R6.intern ns rm (kids ns r).1 (kids ns r).2.1 (kids ns r).2.2.1 (kids ns r).2.2.2).1
def store (rm : Int) (raw : List Five) : List Node := (raw.take 40).foldl (putRaw rm) [R6.n0, R6.n1]
def square (rm : Int) (nodes : List Five) (raw : List Cell) (level : Int) : List Node × Int × Int := R7.make (store (room rm) nodes) (room rm + 500) (set raw) (4 + pk level 4)
def cropIn (half : Int) (c : Cell) : Prop := (-half ≤ c.x ∧ c.x < half) ∧ -half ≤ c.y ∧ c.y < half
instance (half : Int) (c : Cell) : Decidable (cropIn half c) := inferInstanceAs (Decidable (_ ∧ _))
def crop (l : List Cell) (x y half : Int) : List Cell := R1.puts ((l.map fun c => (⟨c.x - x, c.y - y⟩ : Cell)).filter fun c => decide (cropIn half c))
theorem room_bd (c : Int) : 2 ≤ room c ∧ room c < 62 := by
  have := pk_bd (c := c) (n := 60) (by omega)
  unfold room; omega
theorem sameFrom_append (lv : Int) (ys : List Node) : ∀ (xs : List Node) (i : Nat), sameFrom lv i (xs ++ ys) = sameFrom lv i xs ++ sameFrom lv (i + xs.length) ys
  | [], i => by simp [sameFrom]
  | x :: xs, i => by
    simp only [List.cons_append, sameFrom, List.length_cons]
    rw [sameFrom_append lv ys xs (i + 1), show i + 1 + xs.length = i + (xs.length + 1) by omega]
    split <;> simp
theorem sameFrom_len (lv : Int) : ∀ (xs : List Node) (i : Nat), (sameFrom lv i xs).length ≤ xs.length
  | [], i => by simp [sameFrom]
  | x :: xs, i => by
    have := sameFrom_len lv xs (i + 1)
    simp only [sameFrom]
    split <;> simp only [List.length_cons] <;> omega
theorem sameFrom_mem {lv : Int} : ∀ {xs : List Node} {i : Nat} {q : Int}, q ∈ sameFrom lv i xs → ∃ j : Nat, j < xs.length ∧ q = ((i + j : Nat) : Int) ∧ (xs.getD j default).lv = lv
  | [], i, q, h => by simp [sameFrom] at h
  | x :: xs, i, q, h => by
    simp only [sameFrom] at h
    have key : q ∈ sameFrom lv (i + 1) xs → ∃ j : Nat, j < (x :: xs).length ∧ q = ((i + j : Nat) : Int) ∧ ((x :: xs).getD j default).lv = lv := fun h => by
      obtain ⟨j, h1, h2, h3⟩ := sameFrom_mem h
      exact ⟨j + 1, by simp only [List.length_cons]; omega, by omega, by simpa using h3⟩
    split at h
    · rename_i hx
      rcases List.mem_cons.1 h with rfl | h
      · exact ⟨0, by simp, by simp, by simpa using hx⟩
      · exact key h
    · exact key h
theorem putRaw_good {rm : Int} (h2 : 2 ≤ rm) (h3 : rm ≤ 100000) {ns : List Node} (h : R6.Good ns rm) (r : Five) : R6.Good (putRaw rm ns r) rm := by
  unfold putRaw R6.intern
  split
  · exact h.put _ _ _ _
  · exact h
end RL
end Go.GL

set_option linter.unusedVariables false
namespace Go.GL
open Go.Proofs
attribute [local irreducible] wpList Code.wp Exit.then Exit.inBlock Ends Tri TriH OpV OpG FnC epf wpAnyH
variable {A : List Asrt} {I : List Chunk}
set_option maxRecDepth 100000 in
theorem law01_pick {c n : Int} (h0 : -9223372036854775808 ≤ c) (h1 : c ≤ 9223372036854775807) (hn : 0 < n) : FnC Try.prog 54 [.int .i64 c, .int .i64 n].toArray A I (fun v A' I' => v = .int .i64 (pk c n) ∧ A = A' ∧ I = I') := by
  refine fn_enter2 Try.func54 rfl Try.ntmps54 rfl fun w0 => ?_
  refine tri_seq ?_
  refine tri_region ?_
  refine tri_v (opv_assign rfl) rfl ?_
  refine tri_nil ?_
  refine tri_then ?_
  refine tri_seq ?_
  refine tri_seq ?_
  refine tri_region ?_
  refine tri_v (opv_move rfl) rfl ?_
  refine tri_v (opv_lss rfl rfl) rfl ?_
  refine tri_nil ?_
  refine tri_then ?_
  refine tri_cond_dec rfl (fun h => ?_) (fun h => ?_)
  · refine tri_region ?_
    refine tri_v (opv_move rfl) rfl ?_
    refine tri_v (opv_add rfl rfl (w64 (by omega) (by omega))) rfl ?_
    refine tri_v (opv_negE rfl (by omega) (by omega)) rfl ?_
    refine tri_v (opv_assign rfl) rfl ?_
    refine tri_nil ?_
    refine tri_then ?_
    refine tri_seq ?_
    refine tri_region ?_
    refine tri_v (opv_move rfl) rfl ?_
    refine tri_v (opv_move rfl) rfl ?_
    refine tri_v (opv_remE rfl rfl (by omega) (by omega)) rfl ?_
    refine tri_v (opv_assign rfl) rfl ?_
    refine tri_nil ?_
    refine tri_then ?_
    refine tri_ret ?_
    refine tri_end A Suf.h rfl (.cons (rv_tmp rfl) .nil) ⟨?_, rfl, rfl⟩
    rw [pk, if_pos h]; rfl
  · refine tri_skip ?_
    refine tri_then ?_
    refine tri_seq ?_
    refine tri_region ?_
    refine tri_v (opv_move rfl) rfl ?_
    refine tri_v (opv_move rfl) rfl ?_
    refine tri_v (opv_remE rfl rfl (by omega) (by omega)) rfl ?_
    refine tri_v (opv_assign rfl) rfl ?_
    refine tri_nil ?_
    refine tri_then ?_
    refine tri_ret ?_
    refine tri_end A Suf.h rfl (.cons (rv_tmp rfl) .nil) ⟨?_, rfl, rfl⟩
    rw [pk, if_neg h]; rfl
set_option maxRecDepth 100000 in
theorem law06_pick {c n : Int} (h0 : -9223372036854775808 ≤ c) (h1 : c ≤ 9223372036854775807) (hn : 0 < n) : FnC Try.prog 47 [.int .i64 c, .int .i64 n].toArray A I (fun v A' I' => v = .int .i64 (pk c n) ∧ A = A' ∧ I = I') := by
  refine fn_enter2 Try.func47 rfl Try.ntmps47 rfl fun w0 => ?_
  refine tri_seq ?_
  refine tri_region ?_
  refine tri_v (opv_assign rfl) rfl ?_
  refine tri_nil ?_
  refine tri_then ?_
  refine tri_seq ?_
  refine tri_seq ?_
  refine tri_region ?_
  refine tri_v (opv_move rfl) rfl ?_
  refine tri_v (opv_lss rfl rfl) rfl ?_
  refine tri_nil ?_
  refine tri_then ?_
  refine tri_cond_dec rfl (fun h => ?_) (fun h => ?_)
  · refine tri_region ?_
    refine tri_v (opv_move rfl) rfl ?_
    refine tri_v (opv_add rfl rfl (w64 (by omega) (by omega))) rfl ?_
    refine tri_v (opv_negE rfl (by omega) (by omega)) rfl ?_
    refine tri_v (opv_assign rfl) rfl ?_
    refine tri_nil ?_
    refine tri_then ?_
    refine tri_seq ?_
    refine tri_region ?_
    refine tri_v (opv_move rfl) rfl ?_
    refine tri_v (opv_move rfl) rfl ?_
    refine tri_v (opv_remE rfl rfl (by omega) (by omega)) rfl ?_
    refine tri_v (opv_assign rfl) rfl ?_
    refine tri_nil ?_
    refine tri_then ?_
    refine tri_ret ?_
    refine tri_end A Suf.h rfl (.cons (rv_tmp rfl) .nil) ⟨?_, rfl, rfl⟩
    rw [pk, if_pos h]; rfl
  · refine tri_skip ?_
    refine tri_then ?_
    refine tri_seq ?_
    refine tri_region ?_
    refine tri_v (opv_move rfl) rfl ?_
    refine tri_v (opv_move rfl) rfl ?_
    refine tri_v (opv_remE rfl rfl (by omega) (by omega)) rfl ?_
    refine tri_v (opv_assign rfl) rfl ?_
    refine tri_nil ?_
    refine tri_then ?_
    refine tri_ret ?_
    refine tri_end A Suf.h rfl (.cons (rv_tmp rfl) .nil) ⟨?_, rfl, rfl⟩
    rw [pk, if_neg h]; rfl
set_option maxRecDepth 100000 in
theorem law07_pick {c n : Int} (h0 : -9223372036854775808 ≤ c) (h1 : c ≤ 9223372036854775807) (hn : 0 < n) : FnC Try.prog 30 [.int .i64 c, .int .i64 n].toArray A I (fun v A' I' => v = .int .i64 (pk c n) ∧ A = A' ∧ I = I') := by
  refine fn_enter2 Try.func30 rfl Try.ntmps30 rfl fun w0 => ?_
  refine tri_seq ?_
  refine tri_region ?_
  refine tri_v (opv_assign rfl) rfl ?_
  refine tri_nil ?_
  refine tri_then ?_
  refine tri_seq ?_
  refine tri_seq ?_
  refine tri_region ?_
  refine tri_v (opv_move rfl) rfl ?_
  refine tri_v (opv_lss rfl rfl) rfl ?_
  refine tri_nil ?_
  refine tri_then ?_
  refine tri_cond_dec rfl (fun h => ?_) (fun h => ?_)
  · refine tri_region ?_
    refine tri_v (opv_move rfl) rfl ?_
    refine tri_v (opv_add rfl rfl (w64 (by omega) (by omega))) rfl ?_
    refine tri_v (opv_negE rfl (by omega) (by omega)) rfl ?_
    refine tri_v (opv_assign rfl) rfl ?_
    refine tri_nil ?_
    refine tri_then ?_
    refine tri_seq ?_
    refine tri_region ?_
    refine tri_v (opv_move rfl) rfl ?_
    refine tri_v (opv_move rfl) rfl ?_
    refine tri_v (opv_remE rfl rfl (by omega) (by omega)) rfl ?_
    refine tri_v (opv_assign rfl) rfl ?_
    refine tri_nil ?_
    refine tri_then ?_
    refine tri_ret ?_
    refine tri_end A Suf.h rfl (.cons (rv_tmp rfl) .nil) ⟨?_, rfl, rfl⟩
    rw [pk, if_pos h]; rfl
  · refine tri_skip ?_
    refine tri_then ?_
    refine tri_seq ?_
    refine tri_region ?_
    refine tri_v (opv_move rfl) rfl ?_
    refine tri_v (opv_move rfl) rfl ?_
    refine tri_v (opv_remE rfl rfl (by omega) (by omega)) rfl ?_
    refine tri_v (opv_assign rfl) rfl ?_
    refine tri_nil ?_
    refine tri_then ?_
    refine tri_ret ?_
    refine tri_end A Suf.h rfl (.cons (rv_tmp rfl) .nil) ⟨?_, rfl, rfl⟩
    rw [pk, if_neg h]; rfl
set_option maxRecDepth 100000 in
theorem law08_pick {c n : Int} (h0 : -9223372036854775808 ≤ c) (h1 : c ≤ 9223372036854775807) (hn : 0 < n) : FnC Try.prog 11 [.int .i64 c, .int .i64 n].toArray A I (fun v A' I' => v = .int .i64 (pk c n) ∧ A = A' ∧ I = I') := by
  refine fn_enter2 Try.func11 rfl Try.ntmps11 rfl fun w0 => ?_
  refine tri_seq ?_
  refine tri_region ?_
  refine tri_v (opv_assign rfl) rfl ?_
  refine tri_nil ?_
  refine tri_then ?_
  refine tri_seq ?_
  refine tri_seq ?_
  refine tri_region ?_
  refine tri_v (opv_move rfl) rfl ?_
  refine tri_v (opv_lss rfl rfl) rfl ?_
  refine tri_nil ?_
  refine tri_then ?_
  refine tri_cond_dec rfl (fun h => ?_) (fun h => ?_)
  · refine tri_region ?_
    refine tri_v (opv_move rfl) rfl ?_
    refine tri_v (opv_add rfl rfl (w64 (by omega) (by omega))) rfl ?_
    refine tri_v (opv_negE rfl (by omega) (by omega)) rfl ?_
    refine tri_v (opv_assign rfl) rfl ?_
    refine tri_nil ?_
    refine tri_then ?_
    refine tri_seq ?_
    refine tri_region ?_
    refine tri_v (opv_move rfl) rfl ?_
    refine tri_v (opv_move rfl) rfl ?_
    refine tri_v (opv_remE rfl rfl (by omega) (by omega)) rfl ?_
    refine tri_v (opv_assign rfl) rfl ?_
    refine tri_nil ?_
    refine tri_then ?_
    refine tri_ret ?_
    refine tri_end A Suf.h rfl (.cons (rv_tmp rfl) .nil) ⟨?_, rfl, rfl⟩
    rw [pk, if_pos h]; rfl
  · refine tri_skip ?_
    refine tri_then ?_
    refine tri_seq ?_
    refine tri_region ?_
    refine tri_v (opv_move rfl) rfl ?_
    refine tri_v (opv_move rfl) rfl ?_
    refine tri_v (opv_remE rfl rfl (by omega) (by omega)) rfl ?_
    refine tri_v (opv_assign rfl) rfl ?_
    refine tri_nil ?_
    refine tri_then ?_
    refine tri_ret ?_
    refine tri_end A Suf.h rfl (.cons (rv_tmp rfl) .nil) ⟨?_, rfl, rfl⟩
    rw [pk, if_neg h]; rfl
end Go.GL
