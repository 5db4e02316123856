/- Part 4: contracts of the functions that the law reaches: each answers as its model does. No condition beyond those that each theorem states. -/
import Derived.Test.YtcplhihffeociaaPart3
set_option linter.unusedVariables false
namespace Go.GL
open Go.Proofs
attribute [local irreducible] wpList Code.wp Exit.then Exit.inBlock Ends Tri TriH OpV OpG FnC epf wpAnyH
variable {A : List Asrt} {I : List Chunk}
/-- What Maker.Nine tells and leaves behind. -/
def IxR9 (bx mb : Nat) (r : R8.R9) (room : Int) (A : List Asrt) (I : List Chunk) : Value → List Asrt → List Chunk → Prop :=
 fun v A' I' => ∃ a' cap' es' ns' q0 q1 q2 q3 q4 q5 q6 q7 q8, v = .tuple [.agg [.int .i64 q0, .int .i64 q1, .int .i64 q2, .int .i64 q3, .int .i64 q4, .int .i64 q5, .int .i64 q6, .int .i64 q7, .int .i64 q8].toArray, .int .i64 r.2.2].toArray ∧ A' = IxA bx mb a' cap' ns' room es' A ∧ (r.2.2 = 0 → ns' = r.1 ∧ r.2.1 = [q0, q1, q2, q3, q4, q5, q6, q7, q8] ∧ Idx r.1 es') ∧ I = I'
set_option maxHeartbeats 2000000 in
set_option maxRecDepth 100000 in
theorem maker_nine {ns : List Node} {a : Option Addr} {cap bx mb : Nat} {room n : Int} {es : KVs} (hg : R6.Good ns room) (h2 : 2 ≤ ns.length) (hi : Idx ns es) (hk : R8.Kid ns n) :
  FnC Try.prog 84 [.agg [pt bx 0].toArray, .int .i64 n].toArray (IxA bx mb a cap ns room es A) I (IxR9 bx mb (R8.all ns room n) room A I) := by
 obtain ⟨p0, e0⟩ : ∃ p, R8.putSq ns room (R8.s16 ns n) 0 0 = p := ⟨_, rfl⟩
 obtain ⟨p1, e1⟩ : ∃ p, R8.putSq p0.1 room (R8.s16 ns n) 0 1 = p := ⟨_, rfl⟩
 obtain ⟨p2, e2⟩ : ∃ p, R8.putSq p1.1 room (R8.s16 ns n) 0 2 = p := ⟨_, rfl⟩
 obtain ⟨p3, e3⟩ : ∃ p, R8.putSq p2.1 room (R8.s16 ns n) 1 0 = p := ⟨_, rfl⟩
 obtain ⟨p4, e4⟩ : ∃ p, R8.putSq p3.1 room (R8.s16 ns n) 1 1 = p := ⟨_, rfl⟩
 obtain ⟨p5, e5⟩ : ∃ p, R8.putSq p4.1 room (R8.s16 ns n) 1 2 = p := ⟨_, rfl⟩
 obtain ⟨p6, e6⟩ : ∃ p, R8.putSq p5.1 room (R8.s16 ns n) 2 0 = p := ⟨_, rfl⟩
 obtain ⟨p7, e7⟩ : ∃ p, R8.putSq p6.1 room (R8.s16 ns n) 2 1 = p := ⟨_, rfl⟩
 obtain ⟨p8, e8⟩ : ∃ p, R8.putSq p7.1 room (R8.s16 ns n) 2 2 = p := ⟨_, rfl⟩
 rw [R8.all_eq e0 e1 e2 e3 e4 e5 e6 e7 e8]
 have g0 : R6.Good p0.1 room := e0 ▸ hg.put ..
 have l0 : 2 ≤ p0.1.length := e0 ▸ R6.put_len h2
 have g1 : R6.Good p1.1 room := e1 ▸ g0.put ..
 have l1 : 2 ≤ p1.1.length := e1 ▸ R6.put_len l0
 have g2 : R6.Good p2.1 room := e2 ▸ g1.put ..
 have l2 : 2 ≤ p2.1.length := e2 ▸ R6.put_len l1
 have g3 : R6.Good p3.1 room := e3 ▸ g2.put ..
 have l3 : 2 ≤ p3.1.length := e3 ▸ R6.put_len l2
 have g4 : R6.Good p4.1 room := e4 ▸ g3.put ..
 have l4 : 2 ≤ p4.1.length := e4 ▸ R6.put_len l3
 have g5 : R6.Good p5.1 room := e5 ▸ g4.put ..
 have l5 : 2 ≤ p5.1.length := e5 ▸ R6.put_len l4
 have g6 : R6.Good p6.1 room := e6 ▸ g5.put ..
 have l6 : 2 ≤ p6.1.length := e6 ▸ R6.put_len l5
 have g7 : R6.Good p7.1 room := e7 ▸ g6.put ..
 have l7 : 2 ≤ p7.1.length := e7 ▸ R6.put_len l6
 have g8 : R6.Good p8.1 room := e8 ▸ g7.put ..
 have l8 : 2 ≤ p8.1.length := e8 ▸ R6.put_len l7
 skip
 refine fn_enter2 Try.func84 rfl Try.ntmps84 rfl fun w0 => ?_
 refine tS (tR ?_)
 refine tri_g (opg_box_agg rfl) rfl ?_
 rintro _ _ _ ⟨b2, rfl, rfl, rfl⟩
 refine tri_g opg_alloc rfl ?_
 rintro _ _ _ ⟨b4, rfl, rfl, rfl⟩
 refine tA rfl rfl (tN (tT (tS ?_)))
 refine tri_perm (A := ?a1_0 :: ?a1_1 :: ?a1_2 :: ?a1_3 :: ?a1_4 :: ?T1) (B := ?a1_2 :: ?a1_3 :: ?a1_4 :: ?a1_0 :: ?a1_1 :: ?T1) (by exact permL [2, 3, 4, 0, 1] [?a1_0, ?a1_1, ?a1_2, ?a1_3, ?a1_4] ?T1 (by decide) rfl) ?_
 refine tR ?_
 refine yB rfl rfl ?_
 refine tM rfl rfl ?_
 refine tri_g (opg_call (xs := [_, _]) rfl (base_sixteen hk)) rfl ?_
 rintro _ _ _ ⟨rfl, rfl, rfl⟩
 refine tri_g opg_alloc rfl ?_
 rintro _ _ _ ⟨b6, rfl, rfl, rfl⟩
 refine yG rfl rfl rfl rfl rfl rfl ?_
 rintro _ _ _ ⟨rfl, rfl⟩
 refine tN (tT (tS (tS (tR (tM rfl rfl (tN (tT ?_)))))))
 refine tri_block ?_
 refine tri_perm (A := ?a2_0 :: ?a2_1 :: ?a2_2 :: ?a2_3 :: ?a2_4 :: ?a2_5 :: ?T2) (B := ?a2_1 :: ?a2_2 :: ?a2_3 :: ?a2_4 :: ?a2_0 :: ?a2_5 :: ?T2) (by exact permL [1, 2, 3, 4, 0, 5] [?a2_0, ?a2_1, ?a2_2, ?a2_3, ?a2_4, ?a2_5] ?T2 (by decide) rfl) ?_
 refine tri_rounds 10 ?_
 refine tri_round (tS (tR (yC rfl rfl (tN (tT (tS ?_))))))
 refine tri_cond_is rfl (by decide) ?_
 skip
 refine tri_skip (tT (tS (tri_block (tS (tR (tM rfl rfl (tA rfl rfl ?_)))))))
 refine tN (tT (tS ?_))
 refine tri_draw [0, 1, 2, 3, 4, 5, 6, 7, 8, 9, 10, 11, 12, 13, 14, 15] rfl [_, _, _, _] rfl mixed ?_
 refine yM rfl rfl (yf rfl rfl ?_)
 refine yl rfl rfl rfl ?_
 refine th_take rfl rfl (by kernel_rfl)  (opv_loadA rfl rfl rfl) ?_
 refine yM rfl rfl ?_
 refine th_take rfl rfl (by kernel_rfl)  (opv_quoE rfl rfl (by omega) (by omega) (by omega)) ?_
 refine yM rfl rfl ?_
 refine th_take rfl rfl (by kernel_rfl)  (opv_remE rfl rfl (by omega) (by omega)) ?_
 refine th_one (by kernel_rfl) (step_m rfl rfl (opg_call (xs := [_, _, _]) rfl (base_square (R8.s16_len ns n) (by omega) (by omega) (by omega) (by omega))) ?_)
 rintro _ _ _ ⟨rfl, rfl, rfl⟩
 refine ⟨Suf.h, (fun _ h => h), ?_⟩
 skip
 refine th_one (by kernel_rfl) (step_m rfl rfl (opg_call (xs := [_, _]) rfl (node_putR (r := p0) hg h2 hi e0)) ?_)
 rintro _ _ _ ⟨a0, c0, es0, rfl, rfl, hi0, rfl⟩
 refine ⟨Suf.h, (fun _ h => h), ?_⟩
 refine yM rfl rfl (yE rfl rfl rfl (yE rfl rfl rfl ?_))
 refine th_take rfl rfl (by kernel_rfl)  (opv_indexAddrA rfl rfl (by decide) (by decide)) ?_
 refine th_one (by kernel_rfl) (step_m rfl rfl (opg_store rfl rfl rfl rfl rfl rfl) ?_)
 rintro _ _ _ ⟨rfl, rfl⟩
 refine ⟨Suf.h, (fun _ h => h), ?_⟩
 refine yA rfl rfl (yD (tT (tS (tR (tM rfl rfl ?_)))))
 refine tri_v (opv_neq rfl rfl) rfl ?_
 refine tN (tT ?_)
 refine tri_cond_dec rfl (fun x0 => ?_) (fun x0 => ?_)
 ·rw [if_pos x0]
  refine tS (tR ?_)
  refine tri_v (opv_buildA rfl rfl) rfl ?_
  refine tM rfl rfl ?_
  refine yG rfl rfl rfl rfl rfl rfl ?_
  rintro _ _ _ ⟨rfl, rfl⟩
  refine tA rfl rfl (tN (tT (tri_ret (tri_inBlock_ret (tri_then_ret (tri_then_ret (tri_inBlock_ret ?_)))))))
  refine tri_then_ret ?_
  refine tri_perm (A := ?a3_0 :: ?a3_1 :: ?a3_2 :: ?a3_3 :: ?a3_4 :: ?a3_5 :: ?T3) (B := ?a3_3 :: ?a3_4 :: ?a3_5 :: ?a3_0 :: ?a3_1 :: ?a3_2 :: ?T3) (by exact permL [3, 4, 5, 0, 1, 2] [?a3_0, ?a3_1, ?a3_2, ?a3_3, ?a3_4, ?a3_5] ?T3 (by decide) rfl) ?_
  refine tri_end (IxA bx mb a0 c0 p0.1 room es0 A) Suf.h rfl (.cons (rv_cellA rfl rfl rfl) (.cons (rv_tmp rfl) .nil)) ⟨a0, c0, es0, p0.1, _, _, _, _, _, _, _, _, _, rfl, rfl, fun h => absurd h x0, rfl⟩
 refine tri_skip (tri_inBlock (tT (tR ?_)))
 refine yU rfl rfl ?_
 refine tM rfl rfl (tN (tT (tri_round (tS (tR (yC rfl rfl (tN ?_)))))))
 refine tT (tS ?_)
 skip
 refine tri_cond_is rfl (by decide) ?_
 skip
 refine tri_skip (tT (tS (tri_block (tS (tR (tM rfl rfl (tA rfl rfl ?_)))))))
 refine tN (tT (tS ?_))
 refine tri_draw [0, 1, 2, 3, 4, 5, 6, 7, 8, 9, 10, 11, 12, 13, 14, 15] rfl [_, _, _, _] rfl mixed ?_
 refine yM rfl rfl (yf rfl rfl ?_)
 refine yl rfl rfl rfl ?_
 refine th_take rfl rfl (by kernel_rfl)  (opv_loadA rfl rfl rfl) ?_
 refine yM rfl rfl ?_
 refine th_take rfl rfl (by kernel_rfl)  (opv_quoE rfl rfl (by omega) (by omega) (by omega)) ?_
 refine yM rfl rfl ?_
 refine th_take rfl rfl (by kernel_rfl)  (opv_remE rfl rfl (by omega) (by omega)) ?_
 refine th_one (by kernel_rfl) (step_m rfl rfl (opg_call (xs := [_, _, _]) rfl (base_square (R8.s16_len ns n) (by omega) (by omega) (by omega) (by omega))) ?_)
 rintro _ _ _ ⟨rfl, rfl, rfl⟩
 refine ⟨Suf.h, (fun _ h => h), ?_⟩
 skip
 refine th_one (by kernel_rfl) (step_m rfl rfl (opg_call (xs := [_, _]) rfl (node_putR (r := p1) g0 l0 hi0 e1)) ?_)
 rintro _ _ _ ⟨a1, c1, es1, rfl, rfl, hi1, rfl⟩
 refine ⟨Suf.h, (fun _ h => h), ?_⟩
 refine yM rfl rfl (yE rfl rfl rfl (yE rfl rfl rfl ?_))
 refine th_take rfl rfl (by kernel_rfl)  (opv_indexAddrA rfl rfl (by decide) (by decide)) ?_
 refine th_one (by kernel_rfl) (step_m rfl rfl (opg_store rfl rfl rfl rfl rfl rfl) ?_)
 rintro _ _ _ ⟨rfl, rfl⟩
 refine ⟨Suf.h, (fun _ h => h), ?_⟩
 refine yA rfl rfl (yD (tT (tS (tR (tM rfl rfl ?_)))))
 refine tri_v (opv_neq rfl rfl) rfl ?_
 refine tN (tT ?_)
 refine tri_cond_dec rfl (fun x1 => ?_) (fun x1 => ?_)
 ·rw [if_neg x0, if_pos x1]
  refine tS (tR ?_)
  refine tri_v (opv_buildA rfl rfl) rfl ?_
  refine tM rfl rfl ?_
  refine yG rfl rfl rfl rfl rfl rfl ?_
  rintro _ _ _ ⟨rfl, rfl⟩
  refine tA rfl rfl (tN (tT (tri_ret (tri_inBlock_ret (tri_then_ret (tri_then_ret (tri_inBlock_ret ?_)))))))
  refine tri_then_ret ?_
  refine tri_perm (A := ?a4_0 :: ?a4_1 :: ?a4_2 :: ?a4_3 :: ?a4_4 :: ?a4_5 :: ?T4) (B := ?a4_3 :: ?a4_4 :: ?a4_5 :: ?a4_0 :: ?a4_1 :: ?a4_2 :: ?T4) (by exact permL [3, 4, 5, 0, 1, 2] [?a4_0, ?a4_1, ?a4_2, ?a4_3, ?a4_4, ?a4_5] ?T4 (by decide) rfl) ?_
  refine tri_end (IxA bx mb a1 c1 p1.1 room es1 A) Suf.h rfl (.cons (rv_cellA rfl rfl rfl) (.cons (rv_tmp rfl) .nil)) ⟨a1, c1, es1, p1.1, _, _, _, _, _, _, _, _, _, rfl, rfl, fun h => absurd h x1, rfl⟩
 refine tri_skip (tri_inBlock (tT (tR ?_)))
 refine yU rfl rfl ?_
 refine tM rfl rfl (tN (tT (tri_round (tS (tR (yC rfl rfl (tN ?_)))))))
 refine tT (tS ?_)
 skip
 refine tri_cond_is rfl (by decide) ?_
 skip
 refine tri_skip (tT (tS (tri_block (tS (tR (tM rfl rfl (tA rfl rfl ?_)))))))
 refine tN (tT (tS ?_))
 refine tri_draw [0, 1, 2, 3, 4, 5, 6, 7, 8, 9, 10, 11, 12, 13, 14, 15] rfl [_, _, _, _] rfl mixed ?_
 refine yM rfl rfl (yf rfl rfl ?_)
 refine yl rfl rfl rfl ?_
 refine th_take rfl rfl (by kernel_rfl)  (opv_loadA rfl rfl rfl) ?_
 refine yM rfl rfl ?_
 refine th_take rfl rfl (by kernel_rfl)  (opv_quoE rfl rfl (by omega) (by omega) (by omega)) ?_
 refine yM rfl rfl ?_
 refine th_take rfl rfl (by kernel_rfl)  (opv_remE rfl rfl (by omega) (by omega)) ?_
 refine th_one (by kernel_rfl) (step_m rfl rfl (opg_call (xs := [_, _, _]) rfl (base_square (R8.s16_len ns n) (by omega) (by omega) (by omega) (by omega))) ?_)
 rintro _ _ _ ⟨rfl, rfl, rfl⟩
 refine ⟨Suf.h, (fun _ h => h), ?_⟩
 skip
 refine th_one (by kernel_rfl) (step_m rfl rfl (opg_call (xs := [_, _]) rfl (node_putR (r := p2) g1 l1 hi1 e2)) ?_)
 rintro _ _ _ ⟨a2, c2, es2, rfl, rfl, hi2, rfl⟩
 refine ⟨Suf.h, (fun _ h => h), ?_⟩
 refine yM rfl rfl (yE rfl rfl rfl (yE rfl rfl rfl ?_))
 refine th_take rfl rfl (by kernel_rfl)  (opv_indexAddrA rfl rfl (by decide) (by decide)) ?_
 refine th_one (by kernel_rfl) (step_m rfl rfl (opg_store rfl rfl rfl rfl rfl rfl) ?_)
 rintro _ _ _ ⟨rfl, rfl⟩
 refine ⟨Suf.h, (fun _ h => h), ?_⟩
 refine yA rfl rfl (yD (tT (tS (tR (tM rfl rfl ?_)))))
 refine tri_v (opv_neq rfl rfl) rfl ?_
 refine tN (tT ?_)
 refine tri_cond_dec rfl (fun x2 => ?_) (fun x2 => ?_)
 ·rw [if_neg x0, if_neg x1, if_pos x2]
  refine tS (tR ?_)
  refine tri_v (opv_buildA rfl rfl) rfl ?_
  refine tM rfl rfl ?_
  refine yG rfl rfl rfl rfl rfl rfl ?_
  rintro _ _ _ ⟨rfl, rfl⟩
  refine tA rfl rfl (tN (tT (tri_ret (tri_inBlock_ret (tri_then_ret (tri_then_ret (tri_inBlock_ret ?_)))))))
  refine tri_then_ret ?_
  refine tri_perm (A := ?a5_0 :: ?a5_1 :: ?a5_2 :: ?a5_3 :: ?a5_4 :: ?a5_5 :: ?T5) (B := ?a5_3 :: ?a5_4 :: ?a5_5 :: ?a5_0 :: ?a5_1 :: ?a5_2 :: ?T5) (by exact permL [3, 4, 5, 0, 1, 2] [?a5_0, ?a5_1, ?a5_2, ?a5_3, ?a5_4, ?a5_5] ?T5 (by decide) rfl) ?_
  refine tri_end (IxA bx mb a2 c2 p2.1 room es2 A) Suf.h rfl (.cons (rv_cellA rfl rfl rfl) (.cons (rv_tmp rfl) .nil)) ⟨a2, c2, es2, p2.1, _, _, _, _, _, _, _, _, _, rfl, rfl, fun h => absurd h x2, rfl⟩
 refine tri_skip (tri_inBlock (tT (tR ?_)))
 refine yU rfl rfl ?_
 refine tM rfl rfl (tN (tT (tri_round (tS (tR (yC rfl rfl (tN ?_)))))))
 refine tT (tS ?_)
 skip
 refine tri_cond_is rfl (by decide) ?_
 skip
 refine tri_skip (tT (tS (tri_block (tS (tR (tM rfl rfl (tA rfl rfl ?_)))))))
 refine tN (tT (tS ?_))
 refine tri_draw [0, 1, 2, 3, 4, 5, 6, 7, 8, 9, 10, 11, 12, 13, 14, 15] rfl [_, _, _, _] rfl mixed ?_
 refine yM rfl rfl (yf rfl rfl ?_)
 refine yl rfl rfl rfl ?_
 refine th_take rfl rfl (by kernel_rfl)  (opv_loadA rfl rfl rfl) ?_
 refine yM rfl rfl ?_
 refine th_take rfl rfl (by kernel_rfl)  (opv_quoE rfl rfl (by omega) (by omega) (by omega)) ?_
 refine yM rfl rfl ?_
 refine th_take rfl rfl (by kernel_rfl)  (opv_remE rfl rfl (by omega) (by omega)) ?_
 refine th_one (by kernel_rfl) (step_m rfl rfl (opg_call (xs := [_, _, _]) rfl (base_square (R8.s16_len ns n) (by omega) (by omega) (by omega) (by omega))) ?_)
 rintro _ _ _ ⟨rfl, rfl, rfl⟩
 refine ⟨Suf.h, (fun _ h => h), ?_⟩
 skip
 refine th_one (by kernel_rfl) (step_m rfl rfl (opg_call (xs := [_, _]) rfl (node_putR (r := p3) g2 l2 hi2 e3)) ?_)
 rintro _ _ _ ⟨a3, c3, es3, rfl, rfl, hi3, rfl⟩
 refine ⟨Suf.h, (fun _ h => h), ?_⟩
 refine yM rfl rfl (yE rfl rfl rfl (yE rfl rfl rfl ?_))
 refine th_take rfl rfl (by kernel_rfl)  (opv_indexAddrA rfl rfl (by decide) (by decide)) ?_
 refine th_one (by kernel_rfl) (step_m rfl rfl (opg_store rfl rfl rfl rfl rfl rfl) ?_)
 rintro _ _ _ ⟨rfl, rfl⟩
 refine ⟨Suf.h, (fun _ h => h), ?_⟩
 refine yA rfl rfl (yD (tT (tS (tR (tM rfl rfl ?_)))))
 refine tri_v (opv_neq rfl rfl) rfl ?_
 refine tN (tT ?_)
 refine tri_cond_dec rfl (fun x3 => ?_) (fun x3 => ?_)
 ·rw [if_neg x0, if_neg x1, if_neg x2, if_pos x3]
  refine tS (tR ?_)
  refine tri_v (opv_buildA rfl rfl) rfl ?_
  refine tM rfl rfl ?_
  refine yG rfl rfl rfl rfl rfl rfl ?_
  rintro _ _ _ ⟨rfl, rfl⟩
  refine tA rfl rfl (tN (tT (tri_ret (tri_inBlock_ret (tri_then_ret (tri_then_ret (tri_inBlock_ret ?_)))))))
  refine tri_then_ret ?_
  refine tri_perm (A := ?a6_0 :: ?a6_1 :: ?a6_2 :: ?a6_3 :: ?a6_4 :: ?a6_5 :: ?T6) (B := ?a6_3 :: ?a6_4 :: ?a6_5 :: ?a6_0 :: ?a6_1 :: ?a6_2 :: ?T6) (by exact permL [3, 4, 5, 0, 1, 2] [?a6_0, ?a6_1, ?a6_2, ?a6_3, ?a6_4, ?a6_5] ?T6 (by decide) rfl) ?_
  refine tri_end (IxA bx mb a3 c3 p3.1 room es3 A) Suf.h rfl (.cons (rv_cellA rfl rfl rfl) (.cons (rv_tmp rfl) .nil)) ⟨a3, c3, es3, p3.1, _, _, _, _, _, _, _, _, _, rfl, rfl, fun h => absurd h x3, rfl⟩
 refine tri_skip (tri_inBlock (tT (tR ?_)))
 refine yU rfl rfl ?_
 refine tM rfl rfl (tN (tT (tri_round (tS (tR (yC rfl rfl (tN ?_)))))))
 refine tT (tS ?_)
 skip
 refine tri_cond_is rfl (by decide) ?_
 skip
 refine tri_skip (tT (tS (tri_block (tS (tR (tM rfl rfl (tA rfl rfl ?_)))))))
 refine tN (tT (tS ?_))
 refine tri_draw [0, 1, 2, 3, 4, 5, 6, 7, 8, 9, 10, 11, 12, 13, 14, 15] rfl [_, _, _, _] rfl mixed ?_
 refine yM rfl rfl (yf rfl rfl ?_)
 refine yl rfl rfl rfl ?_
 refine th_take rfl rfl (by kernel_rfl)  (opv_loadA rfl rfl rfl) ?_
 refine yM rfl rfl ?_
 refine th_take rfl rfl (by kernel_rfl)  (opv_quoE rfl rfl (by omega) (by omega) (by omega)) ?_
 refine yM rfl rfl ?_
 refine th_take rfl rfl (by kernel_rfl)  (opv_remE rfl rfl (by omega) (by omega)) ?_
 refine th_one (by kernel_rfl) (step_m rfl rfl (opg_call (xs := [_, _, _]) rfl (base_square (R8.s16_len ns n) (by omega) (by omega) (by omega) (by omega))) ?_)
 rintro _ _ _ ⟨rfl, rfl, rfl⟩
 refine ⟨Suf.h, (fun _ h => h), ?_⟩
 skip
 refine th_one (by kernel_rfl) (step_m rfl rfl (opg_call (xs := [_, _]) rfl (node_putR (r := p4) g3 l3 hi3 e4)) ?_)
 rintro _ _ _ ⟨a4, c4, es4, rfl, rfl, hi4, rfl⟩
 refine ⟨Suf.h, (fun _ h => h), ?_⟩
 refine yM rfl rfl (yE rfl rfl rfl (yE rfl rfl rfl ?_))
 refine th_take rfl rfl (by kernel_rfl)  (opv_indexAddrA rfl rfl (by decide) (by decide)) ?_
 refine th_one (by kernel_rfl) (step_m rfl rfl (opg_store rfl rfl rfl rfl rfl rfl) ?_)
 rintro _ _ _ ⟨rfl, rfl⟩
 refine ⟨Suf.h, (fun _ h => h), ?_⟩
 refine yA rfl rfl (yD (tT (tS (tR (tM rfl rfl ?_)))))
 refine tri_v (opv_neq rfl rfl) rfl ?_
 refine tN (tT ?_)
 refine tri_cond_dec rfl (fun x4 => ?_) (fun x4 => ?_)
 ·rw [if_neg x0, if_neg x1, if_neg x2, if_neg x3, if_pos x4]
  refine tS (tR ?_)
  refine tri_v (opv_buildA rfl rfl) rfl ?_
  refine tM rfl rfl ?_
  refine yG rfl rfl rfl rfl rfl rfl ?_
  rintro _ _ _ ⟨rfl, rfl⟩
  refine tA rfl rfl (tN (tT (tri_ret (tri_inBlock_ret (tri_then_ret (tri_then_ret (tri_inBlock_ret ?_)))))))
  refine tri_then_ret ?_
  refine tri_perm (A := ?a7_0 :: ?a7_1 :: ?a7_2 :: ?a7_3 :: ?a7_4 :: ?a7_5 :: ?T7) (B := ?a7_3 :: ?a7_4 :: ?a7_5 :: ?a7_0 :: ?a7_1 :: ?a7_2 :: ?T7) (by exact permL [3, 4, 5, 0, 1, 2] [?a7_0, ?a7_1, ?a7_2, ?a7_3, ?a7_4, ?a7_5] ?T7 (by decide) rfl) ?_
  refine tri_end (IxA bx mb a4 c4 p4.1 room es4 A) Suf.h rfl (.cons (rv_cellA rfl rfl rfl) (.cons (rv_tmp rfl) .nil)) ⟨a4, c4, es4, p4.1, _, _, _, _, _, _, _, _, _, rfl, rfl, fun h => absurd h x4, rfl⟩
 refine tri_skip (tri_inBlock (tT (tR ?_)))
 refine yU rfl rfl ?_
 refine tM rfl rfl (tN (tT (tri_round (tS (tR (yC rfl rfl (tN ?_)))))))
 refine tT (tS ?_)
 skip
 refine tri_cond_is rfl (by decide) ?_
 skip
 refine tri_skip (tT (tS (tri_block (tS (tR (tM rfl rfl (tA rfl rfl ?_)))))))
 refine tN (tT (tS ?_))
 refine tri_draw [0, 1, 2, 3, 4, 5, 6, 7, 8, 9, 10, 11, 12, 13, 14, 15] rfl [_, _, _, _] rfl mixed ?_
 refine yM rfl rfl (yf rfl rfl ?_)
 refine yl rfl rfl rfl ?_
 refine th_take rfl rfl (by kernel_rfl)  (opv_loadA rfl rfl rfl) ?_
 refine yM rfl rfl ?_
 refine th_take rfl rfl (by kernel_rfl)  (opv_quoE rfl rfl (by omega) (by omega) (by omega)) ?_
 refine yM rfl rfl ?_
 refine th_take rfl rfl (by kernel_rfl)  (opv_remE rfl rfl (by omega) (by omega)) ?_
 refine th_one (by kernel_rfl) (step_m rfl rfl (opg_call (xs := [_, _, _]) rfl (base_square (R8.s16_len ns n) (by omega) (by omega) (by omega) (by omega))) ?_)
 rintro _ _ _ ⟨rfl, rfl, rfl⟩
 refine ⟨Suf.h, (fun _ h => h), ?_⟩
 skip
 refine th_one (by kernel_rfl) (step_m rfl rfl (opg_call (xs := [_, _]) rfl (node_putR (r := p5) g4 l4 hi4 e5)) ?_)
 rintro _ _ _ ⟨a5, c5, es5, rfl, rfl, hi5, rfl⟩
 refine ⟨Suf.h, (fun _ h => h), ?_⟩
 refine yM rfl rfl (yE rfl rfl rfl (yE rfl rfl rfl ?_))
 refine th_take rfl rfl (by kernel_rfl)  (opv_indexAddrA rfl rfl (by decide) (by decide)) ?_
 refine th_one (by kernel_rfl) (step_m rfl rfl (opg_store rfl rfl rfl rfl rfl rfl) ?_)
 rintro _ _ _ ⟨rfl, rfl⟩
 refine ⟨Suf.h, (fun _ h => h), ?_⟩
 refine yA rfl rfl (yD (tT (tS (tR (tM rfl rfl ?_)))))
 refine tri_v (opv_neq rfl rfl) rfl ?_
 refine tN (tT ?_)
 refine tri_cond_dec rfl (fun x5 => ?_) (fun x5 => ?_)
 ·rw [if_neg x0, if_neg x1, if_neg x2, if_neg x3, if_neg x4, if_pos x5]
  refine tS (tR ?_)
  refine tri_v (opv_buildA rfl rfl) rfl ?_
  refine tM rfl rfl ?_
  refine yG rfl rfl rfl rfl rfl rfl ?_
  rintro _ _ _ ⟨rfl, rfl⟩
  refine tA rfl rfl (tN (tT (tri_ret (tri_inBlock_ret (tri_then_ret (tri_then_ret (tri_inBlock_ret ?_)))))))
  refine tri_then_ret ?_
  refine tri_perm (A := ?a8_0 :: ?a8_1 :: ?a8_2 :: ?a8_3 :: ?a8_4 :: ?a8_5 :: ?T8) (B := ?a8_3 :: ?a8_4 :: ?a8_5 :: ?a8_0 :: ?a8_1 :: ?a8_2 :: ?T8) (by exact permL [3, 4, 5, 0, 1, 2] [?a8_0, ?a8_1, ?a8_2, ?a8_3, ?a8_4, ?a8_5] ?T8 (by decide) rfl) ?_
  refine tri_end (IxA bx mb a5 c5 p5.1 room es5 A) Suf.h rfl (.cons (rv_cellA rfl rfl rfl) (.cons (rv_tmp rfl) .nil)) ⟨a5, c5, es5, p5.1, _, _, _, _, _, _, _, _, _, rfl, rfl, fun h => absurd h x5, rfl⟩
 refine tri_skip (tri_inBlock (tT (tR ?_)))
 refine yU rfl rfl ?_
 refine tM rfl rfl (tN (tT (tri_round (tS (tR (yC rfl rfl (tN ?_)))))))
 refine tT (tS ?_)
 skip
 refine tri_cond_is rfl (by decide) ?_
 skip
 refine tri_skip (tT (tS (tri_block (tS (tR (tM rfl rfl (tA rfl rfl ?_)))))))
 refine tN (tT (tS ?_))
 refine tri_draw [0, 1, 2, 3, 4, 5, 6, 7, 8, 9, 10, 11, 12, 13, 14, 15] rfl [_, _, _, _] rfl mixed ?_
 refine yM rfl rfl (yf rfl rfl ?_)
 refine yl rfl rfl rfl ?_
 refine th_take rfl rfl (by kernel_rfl)  (opv_loadA rfl rfl rfl) ?_
 refine yM rfl rfl ?_
 refine th_take rfl rfl (by kernel_rfl)  (opv_quoE rfl rfl (by omega) (by omega) (by omega)) ?_
 refine yM rfl rfl ?_
 refine th_take rfl rfl (by kernel_rfl)  (opv_remE rfl rfl (by omega) (by omega)) ?_
 refine th_one (by kernel_rfl) (step_m rfl rfl (opg_call (xs := [_, _, _]) rfl (base_square (R8.s16_len ns n) (by omega) (by omega) (by omega) (by omega))) ?_)
 rintro _ _ _ ⟨rfl, rfl, rfl⟩
 refine ⟨Suf.h, (fun _ h => h), ?_⟩
 skip
 refine th_one (by kernel_rfl) (step_m rfl rfl (opg_call (xs := [_, _]) rfl (node_putR (r := p6) g5 l5 hi5 e6)) ?_)
 rintro _ _ _ ⟨a6, c6, es6, rfl, rfl, hi6, rfl⟩
 refine ⟨Suf.h, (fun _ h => h), ?_⟩
 refine yM rfl rfl (yE rfl rfl rfl (yE rfl rfl rfl ?_))
 refine th_take rfl rfl (by kernel_rfl)  (opv_indexAddrA rfl rfl (by decide) (by decide)) ?_
 refine th_one (by kernel_rfl) (step_m rfl rfl (opg_store rfl rfl rfl rfl rfl rfl) ?_)
 rintro _ _ _ ⟨rfl, rfl⟩
 refine ⟨Suf.h, (fun _ h => h), ?_⟩
 refine yA rfl rfl (yD (tT (tS (tR (tM rfl rfl ?_)))))
 refine tri_v (opv_neq rfl rfl) rfl ?_
 refine tN (tT ?_)
 refine tri_cond_dec rfl (fun x6 => ?_) (fun x6 => ?_)
 ·rw [if_neg x0, if_neg x1, if_neg x2, if_neg x3, if_neg x4, if_neg x5, if_pos x6]
  refine tS (tR ?_)
  refine tri_v (opv_buildA rfl rfl) rfl ?_
  refine tM rfl rfl ?_
  refine yG rfl rfl rfl rfl rfl rfl ?_
  rintro _ _ _ ⟨rfl, rfl⟩
  refine tA rfl rfl (tN (tT (tri_ret (tri_inBlock_ret (tri_then_ret (tri_then_ret (tri_inBlock_ret ?_)))))))
  refine tri_then_ret ?_
  refine tri_perm (A := ?a9_0 :: ?a9_1 :: ?a9_2 :: ?a9_3 :: ?a9_4 :: ?a9_5 :: ?T9) (B := ?a9_3 :: ?a9_4 :: ?a9_5 :: ?a9_0 :: ?a9_1 :: ?a9_2 :: ?T9) (by exact permL [3, 4, 5, 0, 1, 2] [?a9_0, ?a9_1, ?a9_2, ?a9_3, ?a9_4, ?a9_5] ?T9 (by decide) rfl) ?_
  refine tri_end (IxA bx mb a6 c6 p6.1 room es6 A) Suf.h rfl (.cons (rv_cellA rfl rfl rfl) (.cons (rv_tmp rfl) .nil)) ⟨a6, c6, es6, p6.1, _, _, _, _, _, _, _, _, _, rfl, rfl, fun h => absurd h x6, rfl⟩
 refine tri_skip (tri_inBlock (tT (tR ?_)))
 refine yU rfl rfl ?_
 refine tM rfl rfl (tN (tT (tri_round (tS (tR (yC rfl rfl (tN ?_)))))))
 refine tT (tS ?_)
 skip
 refine tri_cond_is rfl (by decide) ?_
 skip
 refine tri_skip (tT (tS (tri_block (tS (tR (tM rfl rfl (tA rfl rfl ?_)))))))
 refine tN (tT (tS ?_))
 refine tri_draw [0, 1, 2, 3, 4, 5, 6, 7, 8, 9, 10, 11, 12, 13, 14, 15] rfl [_, _, _, _] rfl mixed ?_
 refine yM rfl rfl (yf rfl rfl ?_)
 refine yl rfl rfl rfl ?_
 refine th_take rfl rfl (by kernel_rfl)  (opv_loadA rfl rfl rfl) ?_
 refine yM rfl rfl ?_
 refine th_take rfl rfl (by kernel_rfl)  (opv_quoE rfl rfl (by omega) (by omega) (by omega)) ?_
 refine yM rfl rfl ?_
 refine th_take rfl rfl (by kernel_rfl)  (opv_remE rfl rfl (by omega) (by omega)) ?_
 refine th_one (by kernel_rfl) (step_m rfl rfl (opg_call (xs := [_, _, _]) rfl (base_square (R8.s16_len ns n) (by omega) (by omega) (by omega) (by omega))) ?_)
 rintro _ _ _ ⟨rfl, rfl, rfl⟩
 refine ⟨Suf.h, (fun _ h => h), ?_⟩
 skip
 refine th_one (by kernel_rfl) (step_m rfl rfl (opg_call (xs := [_, _]) rfl (node_putR (r := p7) g6 l6 hi6 e7)) ?_)
 rintro _ _ _ ⟨a7, c7, es7, rfl, rfl, hi7, rfl⟩
 refine ⟨Suf.h, (fun _ h => h), ?_⟩
 refine yM rfl rfl (yE rfl rfl rfl (yE rfl rfl rfl ?_))
 refine th_take rfl rfl (by kernel_rfl)  (opv_indexAddrA rfl rfl (by decide) (by decide)) ?_
 refine th_one (by kernel_rfl) (step_m rfl rfl (opg_store rfl rfl rfl rfl rfl rfl) ?_)
 rintro _ _ _ ⟨rfl, rfl⟩
 refine ⟨Suf.h, (fun _ h => h), ?_⟩
 refine yA rfl rfl (yD (tT (tS (tR (tM rfl rfl ?_)))))
 refine tri_v (opv_neq rfl rfl) rfl ?_
 refine tN (tT ?_)
 refine tri_cond_dec rfl (fun x7 => ?_) (fun x7 => ?_)
 ·rw [if_neg x0, if_neg x1, if_neg x2, if_neg x3, if_neg x4, if_neg x5, if_neg x6, if_pos x7]
  refine tS (tR ?_)
  refine tri_v (opv_buildA rfl rfl) rfl ?_
  refine tM rfl rfl ?_
  refine yG rfl rfl rfl rfl rfl rfl ?_
  rintro _ _ _ ⟨rfl, rfl⟩
  refine tA rfl rfl (tN (tT (tri_ret (tri_inBlock_ret (tri_then_ret (tri_then_ret (tri_inBlock_ret ?_)))))))
  refine tri_then_ret ?_
  refine tri_perm (A := ?a10_0 :: ?a10_1 :: ?a10_2 :: ?a10_3 :: ?a10_4 :: ?a10_5 :: ?T10) (B := ?a10_3 :: ?a10_4 :: ?a10_5 :: ?a10_0 :: ?a10_1 :: ?a10_2 :: ?T10) (by exact permL [3, 4, 5, 0, 1, 2] [?a10_0, ?a10_1, ?a10_2, ?a10_3, ?a10_4, ?a10_5] ?T10 (by decide) rfl) ?_
  refine tri_end (IxA bx mb a7 c7 p7.1 room es7 A) Suf.h rfl (.cons (rv_cellA rfl rfl rfl) (.cons (rv_tmp rfl) .nil)) ⟨a7, c7, es7, p7.1, _, _, _, _, _, _, _, _, _, rfl, rfl, fun h => absurd h x7, rfl⟩
 refine tri_skip (tri_inBlock (tT (tR ?_)))
 refine yU rfl rfl ?_
 refine tM rfl rfl (tN (tT (tri_round (tS (tR (yC rfl rfl (tN ?_)))))))
 refine tT (tS ?_)
 skip
 refine tri_cond_is rfl (by decide) ?_
 skip
 refine tri_skip (tT (tS (tri_block (tS (tR (tM rfl rfl (tA rfl rfl ?_)))))))
 refine tN (tT (tS ?_))
 refine tri_draw [0, 1, 2, 3, 4, 5, 6, 7, 8, 9, 10, 11, 12, 13, 14, 15] rfl [_, _, _, _] rfl mixed ?_
 refine yM rfl rfl (yf rfl rfl ?_)
 refine yl rfl rfl rfl ?_
 refine th_take rfl rfl (by kernel_rfl)  (opv_loadA rfl rfl rfl) ?_
 refine yM rfl rfl ?_
 refine th_take rfl rfl (by kernel_rfl)  (opv_quoE rfl rfl (by omega) (by omega) (by omega)) ?_
 refine yM rfl rfl ?_
 refine th_take rfl rfl (by kernel_rfl)  (opv_remE rfl rfl (by omega) (by omega)) ?_
 refine th_one (by kernel_rfl) (step_m rfl rfl (opg_call (xs := [_, _, _]) rfl (base_square (R8.s16_len ns n) (by omega) (by omega) (by omega) (by omega))) ?_)
 rintro _ _ _ ⟨rfl, rfl, rfl⟩
 refine ⟨Suf.h, (fun _ h => h), ?_⟩
 skip
 refine th_one (by kernel_rfl) (step_m rfl rfl (opg_call (xs := [_, _]) rfl (node_putR (r := p8) g7 l7 hi7 e8)) ?_)
 rintro _ _ _ ⟨a8, c8, es8, rfl, rfl, hi8, rfl⟩
 refine ⟨Suf.h, (fun _ h => h), ?_⟩
 refine yM rfl rfl (yE rfl rfl rfl (yE rfl rfl rfl ?_))
 refine th_take rfl rfl (by kernel_rfl)  (opv_indexAddrA rfl rfl (by decide) (by decide)) ?_
 refine th_one (by kernel_rfl) (step_m rfl rfl (opg_store rfl rfl rfl rfl rfl rfl) ?_)
 rintro _ _ _ ⟨rfl, rfl⟩
 refine ⟨Suf.h, (fun _ h => h), ?_⟩
 refine yA rfl rfl (yD (tT (tS (tR (tM rfl rfl ?_)))))
 refine tri_v (opv_neq rfl rfl) rfl ?_
 refine tN (tT ?_)
 refine tri_cond_dec rfl (fun x8 => ?_) (fun x8 => ?_)
 ·rw [if_neg x0, if_neg x1, if_neg x2, if_neg x3, if_neg x4, if_neg x5, if_neg x6, if_neg x7, if_pos x8]
  refine tS (tR ?_)
  refine tri_v (opv_buildA rfl rfl) rfl ?_
  refine tM rfl rfl ?_
  refine yG rfl rfl rfl rfl rfl rfl ?_
  rintro _ _ _ ⟨rfl, rfl⟩
  refine tA rfl rfl (tN (tT (tri_ret (tri_inBlock_ret (tri_then_ret (tri_then_ret (tri_inBlock_ret ?_)))))))
  refine tri_then_ret ?_
  refine tri_perm (A := ?a11_0 :: ?a11_1 :: ?a11_2 :: ?a11_3 :: ?a11_4 :: ?a11_5 :: ?T11) (B := ?a11_3 :: ?a11_4 :: ?a11_5 :: ?a11_0 :: ?a11_1 :: ?a11_2 :: ?T11) (by exact permL [3, 4, 5, 0, 1, 2] [?a11_0, ?a11_1, ?a11_2, ?a11_3, ?a11_4, ?a11_5] ?T11 (by decide) rfl) ?_
  refine tri_end (IxA bx mb a8 c8 p8.1 room es8 A) Suf.h rfl (.cons (rv_cellA rfl rfl rfl) (.cons (rv_tmp rfl) .nil)) ⟨a8, c8, es8, p8.1, _, _, _, _, _, _, _, _, _, rfl, rfl, fun h => absurd h x8, rfl⟩
 refine tri_skip (tri_inBlock (tT (tR ?_)))
 refine yU rfl rfl ?_
 refine tM rfl rfl (tN (tT (tri_round (tS (tR (yC rfl rfl (tN ?_)))))))
 refine tT (tS ?_)
 rw [if_neg x0, if_neg x1, if_neg x2, if_neg x3, if_neg x4, if_neg x5, if_neg x6, if_neg x7, if_neg x8]
 refine tri_cond_not rfl (by decide) ?_
 refine tri_exit ?_
 refine tri_then_exit (tri_then_exit ?_)
 refine tri_inBlock_hit rfl ?_
 refine tT (tS (tR ?_))
 refine yB rfl rfl ?_
 refine yG rfl rfl rfl rfl rfl rfl ?_
 rintro _ _ _ ⟨rfl, rfl⟩
 refine tA rfl rfl (tN (tT (tri_ret ?_)))
 refine tri_perm (A := ?a12_0 :: ?a12_1 :: ?a12_2 :: ?a12_3 :: ?a12_4 :: ?a12_5 :: ?T12) (B := ?a12_3 :: ?a12_4 :: ?a12_5 :: ?a12_0 :: ?a12_1 :: ?a12_2 :: ?T12) (by exact permL [3, 4, 5, 0, 1, 2] [?a12_0, ?a12_1, ?a12_2, ?a12_3, ?a12_4, ?a12_5] ?T12 (by decide) rfl) ?_
 refine tri_end (IxA bx mb a8 c8 p8.1 room es8 A) Suf.h rfl (.cons (rv_cellA rfl rfl rfl) (.cons (rv_tmp rfl) .nil)) ⟨a8, c8, es8, p8.1, _, _, _, _, _, _, _, _, _, rfl, rfl, fun h => ⟨rfl, rfl, hi8⟩, rfl⟩
end Go.GL


namespace Go.GL
open Go.Proofs
attribute [local irreducible] wpList Code.wp Exit.then Exit.inBlock Ends Tri TriH OpV OpG FnC epf wpAnyH
variable {A : List Asrt} {I : List Chunk}
theorem keyLeap (n j : Int) : (.agg [.int .i64 n, .int .i64 j].toArray : Value) = mkv Try.prog 79 [n, j] := by kernel_rfl
theorem keyLeapAt : intAt Try.prog 9 79 = some 2 := by kernel_rfl
/-- The map tells what was kept. -/
def MemK (mm : R9.Memo) (ds : KVs) : Prop := ∀ n j, mfind ds [n, j] = (R9.look9 mm n j).map (.int .i64)
theorem MemK.nil : MemK [] [] := fun _ _ => rfl
theorem look9_snoc : ∀ (mm : R9.Memo) (n j to n' j' : Int), R9.look9 (mm ++ [(n, j, to)]) n' j' = match R9.look9 mm n' j' with | some t => some t | none => if n = n' ∧ j = j' then some to else none
 | [], n, j, to, n', j' => rfl
 | p :: mm, n, j, to, n', j' => by
  simp only [List.cons_append, R9.look9]
  split
  ·rfl
  ·exact look9_snoc mm n j to n' j'
theorem MemK.snoc {mm : R9.Memo} {ds : KVs} (h : MemK mm ds) {n j : Int} (hn : R9.look9 mm n j = none) (to : Int) : MemK (mm ++ [(n, j, to)]) (mset ds [n, j] (.int .i64 to)) := by
 intro n' j'
 rw [mfind_mset, look9_snoc, h n' j']
 by_cases e : n = n' ∧ j = j'
 ·obtain ⟨rfl, rfl⟩ := e
  rw [if_pos rfl, hn]
  simp
 ·rw [if_neg (by simpa using e)]
  cases R9.look9 mm n' j' with
  | some t => rfl
  | none => simp [e]
/-- What of a crew lies at places that change. -/
structure Hp where
 a : Option Addr
 cap : Nat
 es : KVs
 ds : KVs
 at_ : Option Addr
 ct : Nat
 bs : List Blk
 ss : List Sl
def tkA (bs : List Blk) (ts : List Tk) (i : Nat) : Asrt := Box (bs.getD i default).b (Enc.enc (ts.getD i default)) 82
def tkS (bs : List Blk) (ts : List Tk) : List Asrt := (List.range ts.length).map (tkA bs ts)
def dqA (ss : List Sl) (D : List (List Int)) (k : Nat) : Asrt := Row (ss.getD k default).a (ss.getD k default).cap (D.getD k default).length 3 1 (encs (D.getD k default))
def dqS (ss : List Sl) (D : List (List Int)) : List Asrt := (List.range D.length).map (dqA ss D)
/-- The crew, as it lies in the heap. -/
abbrev CwA (bc bx mb db : Nat) (ad : Option Addr) (cd : Nat) (room : Int) (h : Hp) (s : R21.Ms) (A : List Asrt) : List Asrt :=
 IxA bx mb h.a h.cap s.ns room h.es (Box bc [pt bx 0, .slice h.at_ s.ts.length h.ct, .slice ad s.D.length cd, .map (some db), .int .i64 s.node, .bool s.done] 76 :: Row h.at_ h.ct s.ts.length 113 1 (encs h.bs) :: Row ad cd s.D.length 27 1 (encs h.ss) :: MapA Try.prog 79 db h.ds :: Stars (tkS h.bs s.ts) :: Stars (dqS h.ss s.D) :: A)
structure CwOk (h : Hp) (s : R21.Ms) : Prop where
 idx : Idx s.ns h.es
 mem : MemK s.kp h.ds
 bl : h.bs.length = s.ts.length
 sl : h.ss.length = s.D.length
 len : ∀ k, k < s.D.length → (h.ss.getD k default).len = (s.D.getD k default).length
theorem getD_set7 {α : Type} [Inhabited α] {l : List α} {i j : Nat} {v : α} (hi : i < l.length) : (l.set i v).getD j default = if j = i then v else l.getD j default := by
 rw [List.getD_eq_getElem?_getD, List.getElem?_set, List.getD_eq_getElem?_getD]
 by_cases h : i = j
 ·subst h
  simp [hi]
 ·rw [if_neg h, if_neg (by omega)]
theorem tkS_add {bs : List Blk} {ts : List Tk} {b : Blk} {t : Tk} (h : bs.length = ts.length) : tkS bs ts ++ [Box b.b (Enc.enc t) 82] = tkS (bs ++ [b]) (ts ++ [t]) := by
 unfold tkS
 rw [List.length_append, List.length_singleton, List.range_succ, List.map_append]
 congr 1
 ·refine List.map_congr_left fun i hi => ?_
  have hi := List.mem_range.1 hi
  unfold tkA
  rw [List.getD_eq_getElem?_getD (l := bs ++ [b]), List.getElem?_append_left (by omega), List.getD_eq_getElem?_getD (l := ts ++ [t]), List.getElem?_append_left (by omega), ← List.getD_eq_getElem?_getD, ← List.getD_eq_getElem?_getD]
 ·show [_] = [_]
  unfold tkA
  have e1 : (ts ++ [t]).getD ts.length default = t := by simp
  have e2 : (bs ++ [b]).getD ts.length default = b := by rw [← h]; simp
  rw [e1, e2]
set_option maxRecDepth 100000 in
theorem slices_cloneI {l : List Int} {a : Option Addr} {cap : Nat} (hs : SlAt I a l) (hn : l.length ≤ 1000000000) (h0 : a = none → l = []) :
  FnC Try.prog 81 [.slice a l.length cap].toArray A I (fun v A' I' => ∃ a' cap', v = .slice a' l.length cap' ∧ A' = Row a' cap' l.length 3 1 (encs l) :: A ∧ I = I') := by
 cases a with
 | none =>
  obtain rfl := h0 rfl
  skip
  refine fn_enter1 Try.func81 rfl Try.ntmps81 rfl fun w0 => ?_
  refine tS (tR (tA rfl rfl (tN (tT (tS (tS (tR ?_)))))))
  refine tM rfl rfl ?_
  refine tri_v (opv_eqlNil rfl rfl) rfl ?_
  refine tN (tT ?_)
  refine tri_cond_true (by rfl) ?_
  refine tS (tR (tA rfl rfl (tN (tT (tri_ret (tri_then_ret ?_))))))
  refine tri_nilRow (E := 3) (sz := 1) ?_
  refine tri_end _ (⟨[], rfl⟩) rfl (.cons (rv_tmp rfl) .nil) ⟨none, 0, rfl, rfl, rfl⟩
 | some ad =>
  refine fn_enter1 Try.func81 rfl Try.ntmps81 rfl fun w0 => ?_
  refine tS (tR (tA rfl rfl (tN (tT (tS (tS (tR ?_)))))))
  refine tM rfl rfl ?_
  refine tri_v (opv_eqlNil rfl rfl) rfl ?_
  refine tN (tT ?_)
  refine tri_cond_false (by rfl) ?_
  refine tri_skip (tT (tS (tR ?_)))
  refine tri_g (opg_buildSlice rfl rfl rfl rfl) rfl ?_
  rintro _ _ _ ⟨b5, rfl, rfl, rfl⟩
  refine tM rfl rfl ?_
  refine tri_boxRow (k := 0) (sz := 1) rfl ?_
  refine tri_g (opg_appendS rfl rfl hs rfl rfl (by omega) rfl) rfl ?_
  rintro _ _ _ ⟨a2, cap2, rfl, rfl, rfl⟩
  refine tA rfl rfl (tN (tT (tri_ret ?_)))
  refine tri_rowEq (len' := l.length) (cells' := encs l) (by omega) rfl ?_
  refine tri_end _ (⟨[], rfl⟩) rfl (.cons (rv_tmp rfl) .nil) ⟨a2, cap2, ?_, rfl, rfl⟩
  rw [Nat.zero_add]; rfl
end Go.GL


namespace Go.GL
open Go.Proofs
section
variable {w0 : World} {n : Nat} {F : Frm} {A : List Asrt} {I : List Chunk}
theorem tri_starsPerm {L M : List Asrt} {K : Act → World → Prop} (hp : L.Perm M) (h : Tri w0 n F (Stars M :: A) I K) : Tri w0 n F (Stars L :: A) I K :=
 tri_stars (tri_perm (hp.append_right A) (tri_toStars h))
theorem tri_starsUn {a : Asrt} {M : List Asrt} {K : Act → World → Prop} (h : Tri w0 n F (a :: Stars M :: A) I K) : Tri w0 n F (Stars (a :: M) :: A) I K :=
 tri_stars (tri_perm (A := a :: M ++ A) (B := M ++ (a :: A)) List.perm_middle.symm (tri_toStars (A := a :: A) (tri_perm (List.Perm.swap _ _ _) h)))
theorem tri_starsRe {a : Asrt} {M : List Asrt} {K : Act → World → Prop} (h : Tri w0 n F (Stars (a :: M) :: A) I K) : Tri w0 n F (a :: Stars M :: A) I K :=
 tri_perm (List.Perm.swap _ _ _) (tri_stars (tri_perm (A := M ++ (a :: A)) (B := a :: M ++ A) List.perm_middle (tri_toStars h)))
variable {X0 X1 X2 X3 X4 X5 X6 X7 X8 S : Asrt}
theorem perm8 : (X0 :: X1 :: X2 :: X3 :: X4 :: X5 :: X6 :: X7 :: S :: A).Perm (S :: X0 :: X1 :: X2 :: X3 :: X4 :: X5 :: X6 :: X7 :: A) := List.perm_middle (l₁ := [X0, X1, X2, X3, X4, X5, X6, X7])
theorem perm9 {X9 : Asrt} : (X9 :: X0 :: X1 :: X2 :: X3 :: X4 :: X5 :: X6 :: X7 :: S :: A).Perm (S :: X9 :: X0 :: X1 :: X2 :: X3 :: X4 :: X5 :: X6 :: X7 :: A) := List.perm_middle (l₁ := [X9, X0, X1, X2, X3, X4, X5, X6, X7])
theorem perm7 : (X0 :: X1 :: X2 :: X3 :: X4 :: X5 :: X6 :: S :: A).Perm (S :: X0 :: X1 :: X2 :: X3 :: X4 :: X5 :: X6 :: A) := List.perm_middle (l₁ := [X0, X1, X2, X3, X4, X5, X6])
end
/-! ### One of the deques, one or two of the tasks -/
theorem range_one {n i : Nat} (h : i < n) : (List.range n).Perm (i :: (List.range n).filter fun j => decide (j ≠ i)) := by
 refine (List.perm_ext_iff_of_nodup List.nodup_range ?_).2 fun j => ?_
 ·refine List.nodup_cons.2 ⟨fun h => ?_, List.nodup_range.filter _⟩
  simpa using (List.mem_filter.1 h).2
 ·rw [List.mem_cons, List.mem_filter, List.mem_range]
  by_cases e : j = i
  ·subst e; simp [h]
  ·simp [e]
theorem range_two {n i p : Nat} (h : i < n) (hp : p < n) (hne : p ≠ i) : (List.range n).Perm (i :: p :: (List.range n).filter fun j => decide (j ≠ i ∧ j ≠ p)) := by
 refine (List.perm_ext_iff_of_nodup List.nodup_range ?_).2 fun j => ?_
 ·refine List.nodup_cons.2 ⟨fun h => ?_, List.nodup_cons.2 ⟨fun h => ?_, List.nodup_range.filter _⟩⟩
  ·rcases List.mem_cons.1 h with h | h
   ·exact hne h.symm
   ·have := of_decide_eq_true (List.mem_filter.1 h).2; exact this.1 rfl
  ·have := of_decide_eq_true (List.mem_filter.1 h).2; exact this.2 rfl
 ·rw [List.mem_cons, List.mem_cons, List.mem_filter, List.mem_range]
  by_cases e : j = i
  ·subst e; simp [h]
  ·by_cases e2 : j = p
   ·subst e2; simp [hp]
   ·simp [e, e2]
theorem dq_one {ss : List Sl} {D : List (List Int)} {k : Nat} (hk : k < D.length) (hs : ss.length = D.length) : ∃ R, (dqS ss D).Perm (dqA ss D k :: R) ∧ ∀ (s : Sl) (l : List Int), (dqS (ss.set k s) (D.set k l)).Perm (Row s.a s.cap l.length 3 1 (encs l) :: R) := by
 refine ⟨((List.range D.length).filter fun j => decide (j ≠ k)).map (dqA ss D), (range_one hk).map (dqA ss D), fun s l => ?_⟩
 have h := (range_one hk).map (dqA (ss.set k s) (D.set k l))
 unfold dqS
 rw [List.length_set]
 refine h.trans ?_
 rw [List.map_cons]
 have e : dqA (ss.set k s) (D.set k l) k = Row s.a s.cap l.length 3 1 (encs l) := by unfold dqA; rw [getD_set7 (by omega), if_pos rfl, getD_set7 hk, if_pos rfl]
 rw [e]
 refine List.Perm.cons _ ?_
 rw [List.map_congr_left fun j hj => ?_]
 have hj := of_decide_eq_true (List.mem_filter.1 hj).2
 unfold dqA
 rw [getD_set7 (by omega), if_neg hj, getD_set7 hk, if_neg hj]
theorem tk_one {bs : List Blk} {ts : List Tk} {i : Nat} (hi : i < ts.length) : ∃ R, (tkS bs ts).Perm (tkA bs ts i :: R) ∧ ∀ u : Tk, (tkS bs (ts.set i u)).Perm (Box (bs.getD i default).b (Enc.enc u) 82 :: R) := by
 refine ⟨((List.range ts.length).filter fun j => decide (j ≠ i)).map (tkA bs ts), (range_one hi).map (tkA bs ts), fun u => ?_⟩
 have h := (range_one hi).map (tkA bs (ts.set i u))
 unfold tkS
 rw [List.length_set]
 refine h.trans ?_
 rw [List.map_cons]
 have e : tkA bs (ts.set i u) i = Box (bs.getD i default).b (Enc.enc u) 82 := by unfold tkA; rw [getD_set7 hi, if_pos rfl]
 rw [e]
 refine List.Perm.cons _ ?_
 rw [List.map_congr_left fun j hj => ?_]
 have hj := of_decide_eq_true (List.mem_filter.1 hj).2
 unfold tkA
 rw [getD_set7 hi, if_neg hj]
theorem tk_two {bs : List Blk} {ts : List Tk} {i p : Nat} (hi : i < ts.length) (hp : p < ts.length) (hne : p ≠ i) : ∃ R, (tkS bs ts).Perm (tkA bs ts i :: tkA bs ts p :: R) ∧ ∀ u : Tk, (tkS bs (ts.set p u)).Perm (tkA bs ts i :: Box (bs.getD p default).b (Enc.enc u) 82 :: R) := by
 refine ⟨((List.range ts.length).filter fun j => decide (j ≠ i ∧ j ≠ p)).map (tkA bs ts), (range_two hi hp hne).map (tkA bs ts), fun u => ?_⟩
 have h := (range_two hi hp hne).map (tkA bs (ts.set p u))
 unfold tkS
 rw [List.length_set]
 refine h.trans ?_
 rw [List.map_cons, List.map_cons]
 have e : tkA bs (ts.set p u) p = Box (bs.getD p default).b (Enc.enc u) 82 := by unfold tkA; rw [getD_set7 hp, if_pos rfl]
 have e2 : tkA bs (ts.set p u) i = tkA bs ts i := by unfold tkA; rw [getD_set7 hp, if_neg (by omega)]
 rw [e, e2]
 refine List.Perm.cons _ (List.Perm.cons _ ?_)
 rw [List.map_congr_left fun j hj => ?_]
 have hj := of_decide_eq_true (List.mem_filter.1 hj).2
 unfold tkA
 rw [getD_set7 hp, if_neg hj.2]
end Go.GL


namespace Go.GL
open Go.Proofs
attribute [local irreducible] wpList Code.wp Exit.then Exit.inBlock Ends Tri TriH OpV OpG FnC epf wpAnyH
variable {A : List Asrt} {I : List Chunk}
/-- What a crew's function leaves behind. -/
def CwR (bc bx mb db bq cd : Nat) (room : Int) (s : R21.Ms) (A : List Asrt) (I : List Chunk) : Value → List Asrt → List Chunk → Prop :=
 fun v A' I' => ∃ h', CwOk h' s ∧ A' = CwA bc bx mb db (some ⟨bq, 0, none⟩) cd room h' s A ∧ I ⊆ I'
set_option maxHeartbeats 2000000 in
set_option maxRecDepth 100000 in
theorem crew_add {bc bx mb db bq cd w : Nat} {room : Int} {h : Hp} {s : R21.Ms} {t : Tk} (ok : CwOk h s) (hw : w < s.D.length) (hn : s.ts.length ≤ 1000000000) (hd : (s.D.getD w default).length ≤ 1000000000) :
  FnC Try.prog 29 [pt bc 0, .int .i64 (w : Nat), .agg (Enc.enc t).toArray].toArray (CwA bc bx mb db (some ⟨bq, 0, none⟩) cd room h s A) I (CwR bc bx mb db bq cd room (R21.add s w t) A I) := by
 have hsl := ok.sl
 have hbl := ok.bl
 have hl := ok.len ((w : Nat) : Int).toNat hw
 have hd : (s.D.getD ((w : Nat) : Int).toNat default).length ≤ 1000000000 := hd
 obtain ⟨Rq, hq1, hq2⟩ := dq_one (k := ((w : Nat) : Int).toNat) hw hsl
 skip
 skip
 refine fn_enter3 Try.func29 rfl Try.ntmps29 rfl fun w0 => ?_
 refine tS (tR ?_)
 refine tri_g (opg_box_agg rfl) rfl ?_
 rintro _ _ _ ⟨b5, rfl, rfl, rfl⟩
 refine tN (tT (tS ?_))
 refine tri_perm perm9 ?_
 refine tri_starsPerm hq1 (tri_starsUn ?_)
 unfold dqA
 refine tri_rowEq (len' := (h.ss.getD ((w : Nat) : Int).toNat default).len) (cells' := encs (s.D.getD ((w : Nat) : Int).toNat default)) hl.symm rfl ?_
 refine tri_perm (A := ?a1_0 :: ?a1_1 :: ?a1_2 :: ?a1_3 :: ?a1_4 :: ?a1_5 :: ?a1_6 :: ?a1_7 :: ?a1_8 :: ?T1) (B := ?a1_0 :: ?a1_8 :: ?a1_1 :: ?a1_2 :: ?a1_3 :: ?a1_4 :: ?a1_5 :: ?a1_6 :: ?a1_7 :: ?T1) (by exact permL [0, 8, 1, 2, 3, 4, 5, 6, 7] [?a1_0, ?a1_1, ?a1_2, ?a1_3, ?a1_4, ?a1_5, ?a1_6, ?a1_7, ?a1_8] ?T1 (by decide) rfl) ?_
 skip
 skip
 refine tri_cut (fun F' A' J => ∃ (a3 : Option Addr) (c3 : Nat), F' = [(0, pt bc 0), (5, pt b5 0)] ∧ A' = Row a3 c3 ((h.ss.getD ((w : Nat) : Int).toNat default).len + 1) 3 1 (encs (s.D.getD ((w : Nat) : Int).toNat default) ++ [.int .i64 (s.ts.length : Nat)]) :: Row (some ⟨bq, 0, none⟩) cd s.D.length 27 1 (encs (h.ss.set ((w : Nat) : Int).toNat (⟨a3, (h.ss.getD ((w : Nat) : Int).toNat default).len + 1, c3⟩ : Sl))) :: Stars Rq :: Box b5 (Enc.enc t) 82 :: IxA bx mb h.a h.cap s.ns room h.es (Box bc [pt bx 0, .slice h.at_ s.ts.length h.ct, .slice (some ⟨bq, 0, none⟩) s.D.length cd, .map (some db), .int .i64 s.node, .bool s.done] 76 :: Row h.at_ h.ct s.ts.length 113 1 (encs h.bs) :: MapA Try.prog 79 db h.ds :: Stars (tkS h.bs s.ts) :: A) ∧ I = J) ?_ ?_
 ·refine tri_draw [0, 1, 2, 3, 4, 5, 6, 7, 8, 9, 10, 12, 13, 14, 15, 16, 11, 17, 18, 19, 20] rfl [_, _] rfl mixed ?_
  refine yM rfl rfl (yn rfl rfl (yf rfl rfl ?_))
  refine yl rfl rfl rfl ?_
  refine yM rfl rfl (yM rfl rfl (yn rfl rfl (yf rfl rfl ?_)))
  refine yl rfl rfl rfl ?_
  refine yM rfl rfl ?_
  refine th_take rfl rfl (by kernel_rfl)  (opv_indexAddrSP rfl rfl (by omega) (by omega)) ?_
  refine yM rfl rfl (yn rfl rfl (yf rfl rfl ?_))
  refine yl rfl rfl rfl ?_
  refine th_take rfl rfl (by kernel_rfl)  (opv_len rfl) ?_
  refine th_two (j := 17) [11, 18, 19, 20] (by kernel_rfl) rfl ?_ ?_
  ·refine (step_m rfl rfl (OpV.toG (opv_loadRX1 rfl rfl (by omega) rfl rfl)) ?_)
   rintro _ _ _ ⟨rfl, rfl, rfl⟩
   refine ⟨Suf.h, (fun _ h => h), ?_⟩
   refine th_one (by kernel_rfl) (step_m rfl rfl (opg_buildSlice rfl rfl rfl rfl) ?_)
   rintro _ _ _ ⟨b23, rfl, rfl, rfl⟩
   refine ⟨Suf.h, (fun _ h => h), ?_⟩
   refine th_one (by kernel_rfl) (step_m rfl rfl (opg_appendB rfl rfl rfl rfl (by omega) rfl) ?_)
   rintro _ _ _ ⟨a3, c3, rfl, rfl, rfl⟩
   refine ⟨Suf.h, (fun _ h => h), ?_⟩
   refine th_take rfl rfl (by kernel_rfl)  (opv_indexAddrSP rfl rfl (by omega) (by omega)) ?_
   refine th_one (by kernel_rfl) (step_m rfl rfl (opg_storeRX (⟨a3, (h.ss.getD ((w : Nat) : Int).toNat default).len + 1, c3⟩ : Sl) rfl rfl rfl (by omega) (by omega) rfl rfl rfl rfl) ?_)
   rintro _ _ _ ⟨rfl, rfl⟩
   refine ⟨Suf.h, (fun _ h => h), ?_⟩
   refine yD ?_
   refine tri_drop ?_
   refine tri_cutEnd _ ⟨a3, c3, rfl, rfl, rfl⟩ ⟨rfl, rfl, trivial⟩
  ·refine (step_m rfl rfl (opg_buildSlice rfl rfl rfl rfl) ?_)
   rintro _ _ _ ⟨b23, rfl, rfl, rfl⟩
   refine ⟨Suf.h, (fun _ h => h), ?_⟩
   refine th_one (by kernel_rfl) (step_m rfl rfl (OpV.toG (opv_loadRX1 rfl rfl (by omega) rfl rfl)) ?_)
   rintro _ _ _ ⟨rfl, rfl, rfl⟩
   refine ⟨Suf.h, (fun _ h => h), ?_⟩
   refine th_one (by kernel_rfl) (step_m rfl rfl (opg_appendB rfl rfl rfl rfl (by omega) rfl) ?_)
   rintro _ _ _ ⟨a3, c3, rfl, rfl, rfl⟩
   refine ⟨Suf.h, (fun _ h => h), ?_⟩
   refine th_take rfl rfl (by kernel_rfl)  (opv_indexAddrSP rfl rfl (by omega) (by omega)) ?_
   refine th_one (by kernel_rfl) (step_m rfl rfl (opg_storeRX (⟨a3, (h.ss.getD ((w : Nat) : Int).toNat default).len + 1, c3⟩ : Sl) rfl rfl rfl (by omega) (by omega) rfl rfl rfl rfl) ?_)
   rintro _ _ _ ⟨rfl, rfl⟩
   refine ⟨Suf.h, (fun _ h => h), ?_⟩
   refine yD ?_
   refine tri_drop ?_
   refine tri_cutEnd _ ⟨a3, c3, rfl, rfl, rfl⟩ ⟨rfl, rfl, trivial⟩
 rintro _ _ _ ⟨a3, c3, rfl, rfl, rfl⟩
 skip
 refine tT (tR (tM rfl rfl (tM rfl rfl ?_)))
 refine tri_v (opv_nilCheck rfl) rfl ?_
 refine yF rfl ?_
 refine yL rfl rfl ?_
 refine tri_g (opg_buildSlice rfl rfl rfl rfl) rfl ?_
 rintro _ _ _ ⟨b31, rfl, rfl, rfl⟩
 refine tri_g (opg_appendB rfl rfl rfl rfl (by omega) rfl) rfl ?_
 rintro _ _ _ ⟨a4, c4, rfl, rfl, rfl⟩
 refine tri_v (opv_nilCheck rfl) rfl ?_
 refine yF rfl ?_
 refine yG rfl rfl rfl rfl rfl rfl ?_
 rintro _ _ _ ⟨rfl, rfl⟩
 refine tN ?_
 refine tri_drop ?_
 have hq3 := hq2 ⟨a3, (h.ss.getD ((w : Nat) : Int).toNat default).len + 1, c3⟩ (s.D.getD ((w : Nat) : Int).toNat default ++ [(s.ts.length : Int)])
 have hq4 := (tkS_add (t := t) (b := ⟨b5⟩) hbl)
 refine tri_rowEq (len' := (s.D.getD ((w : Nat) : Int).toNat default ++ [(s.ts.length : Int)]).length) (cells' := encs (s.D.getD ((w : Nat) : Int).toNat default ++ [(s.ts.length : Int)])) (by rw [hl]; simp) (by rw [encs_append]; rfl) ?_
 refine tri_perm (A := ?a2_0 :: ?a2_1 :: ?a2_2 :: ?T2) (B := ?a2_0 :: ?a2_2 :: ?a2_1 :: ?T2) (by exact permL [0, 2, 1] [?a2_0, ?a2_1, ?a2_2] ?T2 (by decide) rfl) ?_
 refine tri_starsRe (tri_starsPerm hq3.symm ?_)
 refine tri_perm (A := ?a3_0 :: ?a3_1 :: ?a3_2 :: ?a3_3 :: ?a3_4 :: ?a3_5 :: ?a3_6 :: ?a3_7 :: ?a3_8 :: ?a3_9 :: ?T3) (B := ?a3_2 :: ?a3_9 :: ?a3_3 :: ?a3_4 :: ?a3_5 :: ?a3_6 :: ?a3_7 :: ?a3_1 :: ?a3_8 :: ?a3_0 :: ?T3) (by exact permL [2, 9, 3, 4, 5, 6, 7, 1, 8, 0] [?a3_0, ?a3_1, ?a3_2, ?a3_3, ?a3_4, ?a3_5, ?a3_6, ?a3_7, ?a3_8, ?a3_9] ?T3 (by decide) rfl) ?_
 refine tri_starPush ?_
 rw [hq4]
 refine tri_perm (A := ?a4_0 :: ?a4_1 :: ?a4_2 :: ?a4_3 :: ?a4_4 :: ?a4_5 :: ?a4_6 :: ?a4_7 :: ?a4_8 :: ?T4) (B := ?a4_5 :: ?a4_1 :: ?a4_2 :: ?a4_3 :: ?a4_4 :: ?a4_6 :: ?a4_7 :: ?a4_0 :: ?a4_8 :: ?T4) (by exact permL [5, 1, 2, 3, 4, 6, 7, 0, 8] [?a4_0, ?a4_1, ?a4_2, ?a4_3, ?a4_4, ?a4_5, ?a4_6, ?a4_7, ?a4_8] ?T4 (by decide) rfl) ?_
 refine tri_rowEq (len' := (s.ts ++ [t]).length) (cells' := encs (h.bs ++ [(⟨b5⟩ : Blk)])) (by simp) (by rw [encs_append]; rfl) ?_
 refine tri_perm (A := ?a5_0 :: ?a5_1 :: ?a5_2 :: ?a5_3 :: ?a5_4 :: ?a5_5 :: ?a5_6 :: ?a5_7 :: ?a5_8 :: ?T5) (B := ?a5_1 :: ?a5_2 :: ?a5_3 :: ?a5_4 :: ?a5_0 :: ?a5_5 :: ?a5_6 :: ?a5_7 :: ?a5_8 :: ?T5) (by exact permL [1, 2, 3, 4, 0, 5, 6, 7, 8] [?a5_0, ?a5_1, ?a5_2, ?a5_3, ?a5_4, ?a5_5, ?a5_6, ?a5_7, ?a5_8] ?T5 (by decide) rfl) ?_
 refine tri_end_n _ ⟨[], rfl⟩ rfl .nil ⟨{ h with at_ := a4, ct := c4, bs := h.bs ++ [⟨b5⟩], ss := h.ss.set w ⟨a3, (h.ss.getD w default).len + 1, c3⟩ }, ⟨ok.idx, ok.mem, ?_, ?_, fun k hk => ?_⟩, ?_, fun _ h => h⟩
 ·simp only [R21.add, List.length_append, List.length_singleton, hbl]
 ·simp only [R21.add, R21.push, List.length_set, hsl]
 ·simp only [R21.add, R21.push, List.length_set] at hk ⊢
  rw [getD_set7 (by omega), getD_set7 hw]
  split
  ·have := ok.len w hw
   simp only [List.length_append, List.length_singleton]
   omega
  ·exact ok.len k hk
 ·unfold CwA
  simp only [Int.toNat_natCast, R21.add, R21.push, List.length_set, List.length_append, List.length_singleton]
end Go.GL


namespace Go.GL
open Go.Proofs
attribute [local irreducible] wpList Code.wp Exit.then Exit.inBlock Ends Tri TriH OpV OpG FnC epf wpAnyH
variable {A : List Asrt} {I : List Chunk}
set_option maxHeartbeats 2000000 in
set_option maxRecDepth 100000 in
theorem crew_full {bc bx mb db bq cd i : Nat} {room : Int} {h : Hp} {s : R21.Ms} (hi : i < s.ts.length) (hg : R6.Good s.ns room) (hn : R6.inS s.ns (s.ts.getD i default).n) :
  FnC Try.prog 85 [pt bc 0, pt (h.bs.getD i default).b 0].toArray (CwA bc bx mb db (some ⟨bq, 0, none⟩) cd room h s A) I (fun v A' I' => v = .bool (decide (R21.full s (s.ts.getD i default))) ∧ A' = CwA bc bx mb db (some ⟨bq, 0, none⟩) cd room h s A ∧ I = I') := by
 obtain ⟨Rt, ht1, ht2⟩ := tk_one (bs := h.bs) hi
 obtain ⟨hn0, hn1⟩ := hn
 have hlv := hg.mod.nd ⟨hn0, hn1⟩
 skip
 skip
 refine fn_enter2 Try.func85 rfl Try.ntmps85 rfl fun w0 => ?_
 refine tS (tR (tA rfl rfl (tN (tT (tS ?_)))))
 refine tri_perm perm7 ?_
 refine tri_starsPerm ht1 (tri_starsUn ?_)
 unfold tkA
 obtain ⟨t, htt⟩ : ∃ t, s.ts.getD i default = t := ⟨_, rfl⟩
 rw [htt] at hn0 hn1 hlv ⊢
 have hlv : 0 ≤ (s.ns.getD t.n.toNat default).lv ∧ (s.ns.getD t.n.toNat default).lv ≤ 42 := ⟨hlv.1, hlv.2.1⟩
 refine tri_draw [0, 1, 2, 3, 4, 5, 6, 7, 8, 9, 10, 11, 12, 13, 14, 15, 16, 17, 18, 19, 20, 21, 22, 23, 24] rfl [] rfl mixed ?_
 refine yM rfl rfl (yn rfl rfl (yf rfl rfl (yf rfl rfl ?_)))
 refine yl rfl rfl rfl ?_
 refine yM rfl rfl (yn rfl rfl (yf rfl rfl (yf rfl rfl ?_)))
 refine yl rfl rfl rfl ?_
 refine yn rfl rfl (yf rfl rfl (yf rfl rfl ?_))
 refine yl rfl rfl rfl ?_
 refine yM rfl rfl (yn rfl rfl (yf rfl rfl (yf rfl rfl ?_)))
 refine yl rfl rfl rfl ?_
 refine th_take rfl rfl (by kernel_rfl)  (opv_indexAddrR rfl rfl (by omega) (by omega)) ?_
 refine th_take rfl rfl (by kernel_rfl)  (opv_fieldAddrR rfl (by omega) rfl) ?_
 refine th_take rfl rfl (by kernel_rfl)  (opv_loadRX1 rfl rfl (by omega) rfl rfl) ?_
 refine th_take rfl rfl (by kernel_rfl)  (opv_sub rfl rfl (w64 (by omega) (by omega))) ?_
 refine th_take rfl rfl (by kernel_rfl)  (opv_eql rfl rfl) ?_
 refine yA rfl rfl (yD (tT (tri_ret ?_)))
 subst htt
 refine tri_starsRe (tri_starsPerm ht1.symm ?_)
 refine tri_perm (A := ?a1_0 :: ?a1_1 :: ?a1_2 :: ?a1_3 :: ?a1_4 :: ?a1_5 :: ?a1_6 :: ?a1_7 :: ?a1_8 :: ?T1) (B := ?a1_1 :: ?a1_2 :: ?a1_3 :: ?a1_4 :: ?a1_5 :: ?a1_6 :: ?a1_7 :: ?a1_0 :: ?a1_8 :: ?T1) (by exact permL [1, 2, 3, 4, 5, 6, 7, 0, 8] [?a1_0, ?a1_1, ?a1_2, ?a1_3, ?a1_4, ?a1_5, ?a1_6, ?a1_7, ?a1_8] ?T1 (by decide) rfl) ?_
 refine tri_end _ (⟨[], rfl⟩) rfl (.cons (rv_tmp rfl) .nil) ⟨rfl, rfl, rfl⟩
/-! ### wait -/
theorem parts_len (w i : Nat) (j : Int) : ∀ (k : Nat) (l : List Int) (s : R21.Ms), (R21.parts w i j k l s).D.length = s.D.length
 | k, [], s => rfl
 | k, n :: l, s => by
  unfold R21.parts
  rw [parts_len w i j (k + 1) l]
  simp [R21.add, R21.push]
theorem parts_snoc (w i : Nat) (j : Int) : ∀ (l : List Int) (k : Nat) (n : Int) (s : R21.Ms), R21.parts w i j k (l ++ [n]) s = R21.add (R21.parts w i j k l s) w (R21.tk0 n j i ((k + l.length : Nat) : Int))
 | [], k, n, s => by simp [R21.parts]
 | m :: l, k, n, s => by
  rw [List.cons_append]
  unfold R21.parts
  rw [parts_snoc w i j l (k + 1) n]
  rw [List.length_cons]
  rw [show k + 1 + l.length = k + (l.length + 1) by omega]
theorem parts_take (w i : Nat) (j : Int) (l : List Int) (s : R21.Ms) {k : Nat} (hk : k < l.length) : R21.parts w i j 0 (l.take (k + 1)) s = R21.add (R21.parts w i j 0 (l.take k) s) w (R21.tk0 (l.getD k default) j i (k : Int)) := by
 rw [List.take_succ_eq_append_getElem hk, parts_snoc]
 have e1 : (l.take k).length = k := by rw [List.length_take]; omega
 have e2 : l[k] = l.getD k default := by simp [hk]
 rw [e1, e2, Nat.zero_add]
theorem parts_ts (w i : Nat) (j : Int) : ∀ (l : List Int) (k : Nat) (s : R21.Ms), (R21.parts w i j k l s).ts.length = s.ts.length + l.length
 | [], k, s => by simp [R21.parts]
 | n :: l, k, s => by
  unfold R21.parts
  rw [parts_ts w i j l]
  simp [R21.add]
  omega
theorem parts_dq (w i : Nat) (j : Int) (hw : w < w + 1) : ∀ (l : List Int) (k : Nat) (s : R21.Ms), ((R21.parts w i j k l s).D.getD w default).length ≤ (s.D.getD w default).length + l.length
 | [], k, s => by simp [R21.parts]
 | n :: l, k, s => by
  unfold R21.parts
  have := parts_dq w i j hw l (k + 1) (R21.add s w (R21.tk0 n j i k))
  have h2 : ((R21.add s w (R21.tk0 n j i k)).D.getD w default).length ≤ (s.D.getD w default).length + 1 := by
   unfold R21.add R21.push
   simp only
   by_cases h : w < s.D.length
   ·rw [getD_set7 h, if_pos rfl]; simp
   ·rw [List.set_eq_of_length_le (by omega)]; omega
  rw [List.length_cons]
  omega
set_option maxHeartbeats 2000000 in
set_option maxRecDepth 100000 in
theorem crew_wait {bc bx mb db bq cd w i capl : Nat} {room j : Int} {h : Hp} {s : R21.Ms} {l : List Int} {al : Option Addr} (ok : CwOk h s) (hw : w < s.D.length) (hi : i < s.ts.length) (hn : s.ts.length ≤ 100000000) (hd : (s.D.getD w default).length ≤ 100000000) (hl : SlAt I al l) (hll : l.length ≤ 9) :
  FnC Try.prog 86 [pt bc 0, .int .i64 (w : Nat), .int .i64 (i : Nat), .int .i64 j, .slice al l.length capl].toArray (CwA bc bx mb db (some ⟨bq, 0, none⟩) cd room h s A) I (CwR bc bx mb db bq cd room (R21.wait s w i j l) A I) := by
 obtain ⟨Rt, ht1, ht2⟩ := tk_one (bs := h.bs) hi
 have hbl := ok.bl
 skip
 skip
 refine fn_enter5 Try.func86 rfl Try.ntmps86 rfl fun w0 => ?_
 refine tS ?_
 refine tri_perm perm7 ?_
 refine tri_starsPerm ht1 (tri_starsUn ?_)
 unfold tkA
 refine tR (tM rfl rfl ?_)
 refine tri_v (opv_nilCheck rfl) rfl ?_
 refine yF rfl ?_
 refine yL rfl rfl ?_
 refine tM rfl rfl ?_
 refine tri_v (opv_indexAddrRN rfl rfl (by omega)) rfl ?_
 refine tri_v (opv_loadRX1 rfl rfl (by omega) rfl rfl) rfl ?_
 refine tA rfl rfl (tN (tT (tS (tR (tM rfl rfl (tM rfl rfl (tM rfl rfl ?_)))))))
 refine tri_v (opv_len rfl) rfl ?_
 refine tM rfl rfl ?_
 refine tri_v (opv_len rfl) rfl ?_
 refine tri_v (opv_nilCheck rfl) rfl ?_
 refine yF rfl ?_
 refine yG rfl rfl rfl rfl rfl rfl ?_
 rintro _ _ _ ⟨rfl, rfl⟩
 refine tri_v (opv_nilCheck rfl) rfl ?_
 refine yF rfl ?_
 refine yG rfl rfl rfl rfl rfl rfl ?_
 rintro _ _ _ ⟨rfl, rfl⟩
 refine tN (tT (tS (tR (tM rfl rfl ?_))))
 refine tri_v (opv_len rfl) rfl ?_
 refine tM rfl rfl (tN (tT (tri_block ?_)))
 obtain ⟨u, hu⟩ : ∃ u : Tk, u = { s.ts.getD i default with wt := l.length, lf := l.length } := ⟨_, rfl⟩
 have hq := (ht2 u).symm
 rw [hu] at hq
 refine tri_starsRe (tri_starsPerm hq ?_)
 rw [← hu]
 refine tri_perm (A := ?a2_0 :: ?a2_1 :: ?a2_2 :: ?a2_3 :: ?a2_4 :: ?a2_5 :: ?a2_6 :: ?a2_7 :: ?a2_8 :: ?T2) (B := ?a2_1 :: ?a2_2 :: ?a2_3 :: ?a2_4 :: ?a2_5 :: ?a2_6 :: ?a2_7 :: ?a2_0 :: ?a2_8 :: ?T2) (by exact permL [1, 2, 3, 4, 5, 6, 7, 0, 8] [?a2_0, ?a2_1, ?a2_2, ?a2_3, ?a2_4, ?a2_5, ?a2_6, ?a2_7, ?a2_8] ?T2 (by decide) rfl) ?_
 obtain ⟨s1, hs1⟩ : ∃ s1 : R21.Ms, s1 = { s with ts := s.ts.set i u } := ⟨_, rfl⟩
 have ewait : R21.wait s w i j l = R21.parts w i j 0 l s1 := by rw [hs1, hu]; rfl
 rw [ewait]
 have el : s1.ts.length = s.ts.length := by rw [hs1]; exact List.length_set ..
 have ok1 : CwOk h s1 := by rw [hs1]; exact ⟨ok.idx, ok.mem, by simp only [List.length_set]; exact ok.bl, ok.sl, ok.len⟩
 have hw1 : w < s1.D.length := by rw [hs1]; exact hw
 have hd1 : (s1.D.getD w default).length ≤ 100000000 := by rw [hs1]; exact hd
 rw [← el]
 rw [show Stars (tkS h.bs (s.ts.set i u)) = Stars (tkS h.bs s1.ts) by rw [hs1], show s.ns = s1.ns by rw [hs1], show s.D = s1.D by rw [hs1], show s.node = s1.node by rw [hs1], show s.done = s1.done by rw [hs1]]
 clear hs1 ewait hq ht1 ht2
 refine tri_sub (F' := [(0, pt bc 0), (1, .int .i64 (w : Nat)), (2, .int .i64 (i : Nat)), (3, .int .i64 j), (30, .slice al l.length capl), (31, .int .i64 (l.length : Nat)), (32, .int .i64 (0 : Nat))]) ⟨rfl, rfl, rfl, rfl, rfl, rfl, rfl, trivial⟩ ?_
 refine loop_ind (G := Nat × Hp × List Chunk) (fun g => l.length - g.1) (fun g => g.1 ≤ l.length ∧ CwOk g.2.1 (R21.parts w i j 0 (l.take g.1) s1) ∧ I ⊆ g.2.2) (fun g => [(0, pt bc 0), (1, .int .i64 (w : Nat)), (2, .int .i64 (i : Nat)), (3, .int .i64 j), (30, .slice al l.length capl), (31, .int .i64 (l.length : Nat)), (32, .int .i64 (g.1 : Nat))]) (fun g => CwA bc bx mb db (some ⟨bq, 0, none⟩) cd room g.2.1 (R21.parts w i j 0 (l.take g.1) s1) A) (fun g => g.2.2) ?_ (0, h, I) ⟨by simp only; omega, ok1, fun _ h => h⟩
 rintro ⟨k, h2, I2⟩ ⟨hk, ok2, hI2⟩ K hK
 simp only at hk ok2 hI2 hK ⊢
 have hl2 := hl.mono hI2
 have hle : (l.take k).length = k := by rw [List.length_take]; omega
 have q1 := parts_len w i j 0 (l.take k) s1
 have q2 := parts_ts w i j (l.take k) 0 s1
 have q3 := parts_dq w i j (by omega) (l.take k) 0 s1
 rw [hle] at q2 q3
 have q4 : k < l.length → R21.parts w i j 0 (l.take (k + 1)) s1 = R21.add (R21.parts w i j 0 (l.take k) s1) w (R21.tk0 (l.getD k default) j i (k : Int)) := fun h => parts_take w i j l s1 h
 have q5 : k = l.length → R21.parts w i j 0 l s1 = R21.parts w i j 0 (l.take k) s1 := fun h => by rw [h, List.take_length]
 generalize R21.parts w i j 0 (l.take k) s1 = s2 at *
 skip
 refine tS (tR (yC rfl rfl (tN (tT (tS ?_)))))
 refine tri_cond_dec rfl (fun h1 => ?_) (fun h1 => ?_)
 ·refine tri_skip (tT (tS (tri_block (tS (tR (tM rfl rfl ?_))))))
  refine tri_v (opv_indexAddrSN rfl rfl (by omega) (by assumption) rfl) rfl ?_
  refine tri_v (opv_loadE1 rfl (by assumption) rfl (by omega) rfl rfl) rfl ?_
  refine tA rfl rfl (tA rfl rfl (tN (tT (tR (tM rfl rfl (tM rfl rfl (tM rfl rfl ?_)))))))
  refine tM rfl rfl ?_
  refine tri_v (opv_buildS rfl rfl) rfl ?_
  refine tM rfl rfl (tM rfl rfl ?_)
  refine tri_v (opv_buildS rfl rfl) rfl ?_
  refine tri_g (opg_call (xs := [_, _, _]) rfl (crew_add (t := R21.tk0 (l.getD k default) j i (k : Int)) ok2 (by omega) (by omega) (by omega))) rfl ?_
  rintro _ _ I3 ⟨h3, ok3, rfl, hI3⟩
  rw [← q4 (by omega)] at ok3 ⊢
  refine tN (tri_inBlock (tT (tR ?_)))
  refine yU rfl rfl ?_
  refine tM rfl rfl (tN (tT ?_))
  refine tri_sub ?_ (hK (k + 1, h3, I3) ⟨by simp only; omega, ok3, fun _ h => hI3 (hI2 h)⟩ (by simp only; omega))
  exact ⟨rfl, rfl, rfl, rfl, rfl, rfl, rfl, trivial⟩
 ·refine tri_exit ?_
  refine tri_then_exit (tri_then_exit ?_)
  refine tri_inBlock_hit rfl ?_
  refine tri_end_n _ ⟨[], rfl⟩ rfl .nil ⟨h2, ?_, ?_, hI2⟩
  ·rw [q5 (by omega)]; exact ok2
  ·rw [q5 (by omega)]
end Go.GL


namespace Go.GL
open Go.Proofs
attribute [local irreducible] wpList Code.wp Exit.then Exit.inBlock Ends Tri TriH OpV OpG FnC epf wpAnyH
section
variable {w0 : World} {n : Nat} {F : Frm} {A : List Asrt} {I : List Chunk}
theorem tri_starsUn2 {a b : Asrt} {M : List Asrt} {K : Act → World → Prop} (h : Tri w0 n F (a :: b :: Stars M :: A) I K) : Tri w0 n F (Stars (a :: b :: M) :: A) I K :=
 tri_starsUn (tri_perm (List.Perm.swap _ _ _) (tri_starsUn (tri_perm (A := b :: Stars M :: a :: A) (B := a :: b :: Stars M :: A) (List.perm_middle (l₁ := [b, Stars M])) h)))
theorem tri_starsRe2 {a b : Asrt} {M : List Asrt} {K : Act → World → Prop} (h : Tri w0 n F (Stars (a :: b :: M) :: A) I K) : Tri w0 n F (a :: b :: Stars M :: A) I K :=
 tri_perm (A := a :: b :: Stars M :: A) (B := b :: Stars M :: a :: A) (List.perm_middle (l₁ := [b, Stars M])).symm (tri_starsRe (tri_perm (List.Perm.swap _ _ _) (tri_starsRe h)))
end
def tkL (t : Tk) : List Int := [t.n, t.j, t.of_, t.pl, t.wt, t.lf, t.r0, t.r1, t.r2, t.r3, t.r4, t.r5, t.r6, t.r7, t.r8]
theorem tkL_enc (t : Tk) : Enc.enc t = ints (tkL t) := rfl
theorem tkL_set (t : Tk) {p : Int} (h0 : 0 ≤ p) (h1 : p ≤ 8) (v : Int) : (tkL t).set (0 + 6 + p.toNat * 1) v = tkL (R21.setR t p v) := by
 rcases (by omega : p = 0 ∨ p = 1 ∨ p = 2 ∨ p = 3 ∨ p = 4 ∨ p = 5 ∨ p = 6 ∨ p = 7 ∨ p = 8) with rfl | rfl | rfl | rfl | rfl | rfl | rfl | rfl | rfl <;> rfl
theorem keep_some {kp : R9.Memo} {n j to x : Int} (h : R9.look9 kp n j = some x) : R21.keep kp n j to = kp := by unfold R21.keep; rw [h]
theorem keep_none {kp : R9.Memo} {n j to : Int} (h : R9.look9 kp n j = none) : R21.keep kp n j to = kp ++ [(n, j, to)] := by unfold R21.keep; rw [h]
variable {A : List Asrt} {I : List Chunk}
set_option maxHeartbeats 4000000 in
set_option maxRecDepth 100000 in
theorem crew_tell {bc bx mb db bq cd w i : Nat} {room n : Int} {h : Hp} {s : R21.Ms} (ok : CwOk h s) (hw : w < s.D.length) (hi : i < s.ts.length) (hd : (s.D.getD w default).length ≤ 100000000) (hn : s.ts.length ≤ 100000000)
  (hof : 0 ≤ (s.ts.getD i default).of_ → (s.ts.getD i default).of_.toNat < s.ts.length ∧ (s.ts.getD i default).of_.toNat ≠ i) (hpl : 0 ≤ (s.ts.getD i default).pl ∧ (s.ts.getD i default).pl ≤ 8) :
  FnC Try.prog 82 [pt bc 0, .int .i64 (w : Nat), pt (h.bs.getD i default).b 0, .int .i64 n].toArray (CwA bc bx mb db (some ⟨bq, 0, none⟩) cd room h s A) I (CwR bc bx mb db bq cd room (R21.tell s w i n) A I) := by
 obtain ⟨Rt, ht1, ht2⟩ := tk_one (bs := h.bs) hi
 have hbl := ok.bl
 obtain ⟨t, htt⟩ : ∃ t, s.ts.getD i default = t := ⟨_, rfl⟩
 rw [htt] at hof hpl
 have hmf := ok.mem t.n t.j
 have etell : R21.tell s w i n = if t.of_ < 0 then { s with kp := R21.keep s.kp t.n t.j n, node := n, done := true } else { s with kp := R21.keep s.kp t.n t.j n, ts := s.ts.set t.of_.toNat (R21.less (R21.setR (s.ts.getD t.of_.toNat default) t.pl n)), D := if (R21.less (R21.setR (s.ts.getD t.of_.toNat default) t.pl n)).lf = 0 then R21.push s.D w t.of_ else s.D } := by unfold R21.tell; rw [htt]
 rw [etell]
 skip
 skip
 refine fn_enter4 Try.func82 rfl Try.ntmps82 rfl fun w0 => ?_
 refine tS (tS ?_)
 refine tri_perm perm7 ?_
 refine tri_starsPerm ht1 (tri_starsUn ?_)
 unfold tkA
 rw [htt]
 refine tri_draw [0, 1, 2, 3, 4, 5, 6, 7, 8, 9, 10, 11, 12, 13] rfl [] rfl mixed ?_
 refine yM rfl rfl (yn rfl rfl (yf rfl rfl ?_))
 refine yl rfl rfl rfl ?_
 refine yM rfl rfl (yn rfl rfl (yf rfl rfl ?_))
 refine th_take rfl rfl (by kernel_rfl)  (opv_loadA rfl rfl rfl) ?_
 refine th_take rfl rfl (by kernel_rfl)  (opv_lookup2 (P := Try.prog) (ks := [t.n, t.j]) zeroInt rfl rfl (keyLeap t.n t.j) keyLeapAt rfl) ?_
 refine yM rfl rfl (yE rfl rfl rfl (yE rfl rfl rfl (yA rfl rfl (yA rfl rfl (yD (tT (tS ?_)))))))
 refine tR (tM rfl rfl ?_)
 refine tri_v (opv_not rfl) rfl ?_
 refine tN (tT ?_)
 refine tri_perm (A := ?a1_0 :: ?a1_1 :: ?a1_2 :: ?a1_3 :: ?a1_4 :: ?a1_5 :: ?a1_6 :: ?a1_7 :: ?a1_8 :: ?T1) (B := ?a1_8 :: ?a1_0 :: ?a1_1 :: ?a1_2 :: ?a1_3 :: ?a1_4 :: ?a1_5 :: ?a1_6 :: ?a1_7 :: ?T1) (by exact permL [8, 0, 1, 2, 3, 4, 5, 6, 7] [?a1_0, ?a1_1, ?a1_2, ?a1_3, ?a1_4, ?a1_5, ?a1_6, ?a1_7, ?a1_8] ?T1 (by decide) rfl) ?_
 skip
 refine tri_cut (fun F' A' J => ∃ ds', MemK (R21.keep s.kp t.n t.j n) ds' ∧ F' = [(0, pt bc 0), (1, .int .i64 (w : Nat)), (2, pt (h.bs.getD i default).b 0), (3, .int .i64 n)] ∧ A' = MapA Try.prog 79 db ds' :: Box (h.bs.getD i default).b (Enc.enc t) 82 :: Stars Rt :: IxA bx mb h.a h.cap s.ns room h.es (Box bc [pt bx 0, .slice h.at_ s.ts.length h.ct, .slice (some ⟨bq, 0, none⟩) s.D.length cd, .map (some db), .int .i64 s.node, .bool s.done] 76 :: Row h.at_ h.ct s.ts.length 113 1 (encs h.bs) :: Row (some ⟨bq, 0, none⟩) cd s.D.length 27 1 (encs h.ss) :: Stars (dqS h.ss s.D) :: A) ∧ I = J) ?_ ?_
 ·obtain ⟨o, ho⟩ : ∃ o, R9.look9 s.kp t.n t.j = o := ⟨_, rfl⟩
  rw [ho] at hmf
  rcases o with _ | to
  ·refine tri_cond_true (congrArg (fun o => some (Value.bool (!Option.isSome o))) hmf) ?_
   rw [keep_none ho]
   refine tri_draw [0, 1, 2, 3, 4, 5, 6, 7, 8, 9] rfl [_] rfl mixed ?_
   refine yM rfl rfl (yn rfl rfl (yf rfl rfl ?_))
   refine yl rfl rfl rfl ?_
   refine yM rfl rfl (yn rfl rfl (yf rfl rfl ?_))
   refine th_take rfl rfl (by kernel_rfl)  (opv_loadA rfl rfl rfl) ?_
   refine yM rfl rfl ?_
   refine th_one (by kernel_rfl) (step_m rfl rfl (opg_mapUpdate (P := Try.prog) (ks := [t.n, t.j]) rfl rfl rfl (keyLeap t.n t.j) keyLeapAt rfl) ?_)
   rintro _ _ _ ⟨rfl, rfl⟩
   refine ⟨Suf.h, (fun _ h => h), ?_⟩
   refine yD ?_
   refine tri_cutEnd _ ⟨mset h.ds [t.n, t.j] (.int .i64 n), ok.mem.snoc ho n, rfl, rfl, rfl⟩ ⟨rfl, rfl, rfl, rfl, trivial⟩
  ·refine tri_cond_false (congrArg (fun o => some (Value.bool (!Option.isSome o))) hmf) ?_
   rw [keep_some ho]
   refine tri_skip ?_
   refine tri_cutEnd _ ⟨h.ds, ok.mem, rfl, rfl, rfl⟩ ⟨rfl, rfl, rfl, rfl, trivial⟩
 ·rintro _ _ _ ⟨ds', hmem, rfl, rfl, rfl⟩
  refine tT (tS (tS (tR (tM rfl rfl ?_))))
  refine tri_v (opv_nilCheck rfl) rfl ?_
  refine yF rfl ?_
  refine yL rfl rfl ?_
  refine yC rfl rfl (tN (tT ?_))
  refine tri_cond_dec rfl (fun h1 => ?_) (fun h1 => ?_)
  ·rw [if_pos h1]
   refine tS (tR (tM rfl rfl (tM rfl rfl (tM rfl rfl ?_))))
   refine tri_v (opv_nilCheck rfl) rfl ?_
   refine yF rfl ?_
   refine yG rfl rfl rfl rfl rfl rfl ?_
   rintro _ _ _ ⟨rfl, rfl⟩
   refine tri_v (opv_nilCheck rfl) rfl ?_
   refine yF rfl ?_
   refine yG rfl rfl rfl rfl rfl rfl ?_
   rintro _ _ _ ⟨rfl, rfl⟩
   refine tN (tT (tri_ret (tri_then_ret ?_)))
   subst htt
   refine tri_perm (A := ?a2_0 :: ?a2_1 :: ?a2_2 :: ?a2_3 :: ?a2_4 :: ?a2_5 :: ?a2_6 :: ?a2_7 :: ?a2_8 :: ?a2_9 :: ?T2) (B := ?a2_1 :: ?a2_2 :: ?a2_0 :: ?a2_3 :: ?a2_4 :: ?a2_5 :: ?a2_6 :: ?a2_7 :: ?a2_8 :: ?a2_9 :: ?T2) (by exact permL [1, 2, 0, 3, 4, 5, 6, 7, 8, 9] [?a2_0, ?a2_1, ?a2_2, ?a2_3, ?a2_4, ?a2_5, ?a2_6, ?a2_7, ?a2_8, ?a2_9] ?T2 (by decide) rfl) ?_
   refine tri_starsRe (tri_starsPerm ht1.symm ?_)
   refine tri_perm (A := ?a3_0 :: ?a3_1 :: ?a3_2 :: ?a3_3 :: ?a3_4 :: ?a3_5 :: ?a3_6 :: ?a3_7 :: ?a3_8 :: ?T3) (B := ?a3_2 :: ?a3_3 :: ?a3_4 :: ?a3_5 :: ?a3_6 :: ?a3_7 :: ?a3_1 :: ?a3_0 :: ?a3_8 :: ?T3) (by exact permL [2, 3, 4, 5, 6, 7, 1, 0, 8] [?a3_0, ?a3_1, ?a3_2, ?a3_3, ?a3_4, ?a3_5, ?a3_6, ?a3_7, ?a3_8] ?T3 (by decide) rfl) ?_
   refine tri_end _ (⟨[], rfl⟩) rfl .nil ⟨{ h with ds := ds' }, ⟨ok.idx, hmem, ok.bl, ok.sl, ok.len⟩, rfl, fun _ h => h⟩
  ·rw [if_neg h1]
   obtain ⟨hp, hne⟩ := hof (by omega)
   obtain ⟨R2, hr1, hr2⟩ := tk_two (bs := h.bs) hi hp hne
   unfold tkA at hr1 hr2 ht1
   rw [htt] at hr1 hr2 ht1
   refine tri_perm (A := ?a4_0 :: ?a4_1 :: ?a4_2 :: ?a4_3 :: ?a4_4 :: ?a4_5 :: ?a4_6 :: ?a4_7 :: ?a4_8 :: ?a4_9 :: ?T4) (B := ?a4_1 :: ?a4_2 :: ?a4_0 :: ?a4_3 :: ?a4_4 :: ?a4_5 :: ?a4_6 :: ?a4_7 :: ?a4_8 :: ?a4_9 :: ?T4) (by exact permL [1, 2, 0, 3, 4, 5, 6, 7, 8, 9] [?a4_0, ?a4_1, ?a4_2, ?a4_3, ?a4_4, ?a4_5, ?a4_6, ?a4_7, ?a4_8, ?a4_9] ?T4 (by decide) rfl) ?_
   refine tri_starsRe (tri_starsPerm ht1.symm ?_)
   refine tri_starsPerm hr1 (tri_starsUn2 ?_)
   obtain ⟨u0, hu0⟩ : ∃ u0, s.ts.getD t.of_.toNat default = u0 := ⟨_, rfl⟩
   rw [hu0, tkL_enc u0]
   refine tri_perm (A := ?a5_0 :: ?a5_1 :: ?T5) (B := ?a5_1 :: ?a5_0 :: ?T5) (by exact permL [1, 0] [?a5_0, ?a5_1] ?T5 (by decide) rfl) ?_
   skip
   skip
   refine tri_skip (tT (tS ?_))
   refine tri_draw [0, 1, 2, 3, 4, 5, 6, 7, 8, 9, 10] rfl [] rfl mixed ?_
   refine yM rfl rfl (yn rfl rfl (yf rfl rfl ?_))
   refine yl rfl rfl rfl ?_
   refine yM rfl rfl (yn rfl rfl (yf rfl rfl ?_))
   refine yl rfl rfl rfl ?_
   refine th_take rfl rfl (by kernel_rfl)  (opv_indexAddrR rfl rfl (by omega) (by omega)) ?_
   refine th_take rfl rfl (by kernel_rfl)  (opv_loadRX1 rfl rfl (by omega) rfl rfl) ?_
   refine yA rfl rfl (yD (tT (tS ?_)))
   refine tri_draw [0, 1, 2, 3, 4, 5, 6, 7, 8, 9] rfl [_] rfl mixed ?_
   refine yM rfl rfl (yM rfl rfl (yn rfl rfl (yf rfl rfl ?_)))
   refine yl rfl rfl rfl ?_
   refine yM rfl rfl (yn rfl rfl (yf rfl rfl ?_))
   refine th_take rfl rfl (by kernel_rfl)  (opv_indexAddrA rfl rfl (by omega) (by omega)) ?_
   refine th_one (by kernel_rfl) (step_m rfl rfl (opg_storeIX rfl rfl (by show _ < 15; omega)) ?_)
   rintro _ _ _ ⟨rfl, rfl⟩
   refine ⟨Suf.h, (fun _ h => h), ?_⟩
   rw [tkL_set u0 hpl.1 hpl.2]
   generalize R21.setR u0 t.pl n = u1 at *
   refine yD (tT (tS (tR (tM rfl rfl ?_))))
   refine tri_v (opv_nilCheck rfl) rfl ?_
   refine yF rfl ?_
   refine yL rfl rfl ?_
   refine tri_v (opv_sub rfl rfl rfl) rfl ?_
   refine tri_v (opv_nilCheck rfl) rfl ?_
   refine yF rfl ?_
   refine yG rfl rfl rfl rfl rfl rfl ?_
   rintro _ _ _ ⟨rfl, rfl⟩
   refine tN (tT (tS (tR (tM rfl rfl ?_))))
   refine tri_v (opv_nilCheck rfl) rfl ?_
   refine yF rfl ?_
   refine yL rfl rfl ?_
   refine tri_v (opv_eql rfl rfl) rfl ?_
   refine tN (tT ?_)
   refine tri_weaken (b := Box (h.bs.getD t.of_.toNat default).b (Enc.enc (R21.less u1)) 82) (fun c hc => hc) ?_
   refine tri_cond_dec rfl (fun h2 => ?_) (fun h2 => ?_)
   ·rw [if_pos (show (R21.less u1).lf = 0 from h2)]
    have hsl := ok.sl
    have hl := ok.len ((w : Nat) : Int).toNat hw
    have hd : (s.D.getD ((w : Nat) : Int).toNat default).length ≤ 100000000 := hd
    obtain ⟨Rq, hq1, hq2⟩ := dq_one (k := ((w : Nat) : Int).toNat) hw hsl
    refine tri_perm (A := ?a6_0 :: ?a6_1 :: ?a6_2 :: ?a6_3 :: ?a6_4 :: ?a6_5 :: ?a6_6 :: ?a6_7 :: ?a6_8 :: ?a6_9 :: ?a6_10 :: ?T6) (B := ?a6_10 :: ?a6_0 :: ?a6_1 :: ?a6_2 :: ?a6_3 :: ?a6_4 :: ?a6_5 :: ?a6_6 :: ?a6_7 :: ?a6_8 :: ?a6_9 :: ?T6) (by exact permL [10, 0, 1, 2, 3, 4, 5, 6, 7, 8, 9] [?a6_0, ?a6_1, ?a6_2, ?a6_3, ?a6_4, ?a6_5, ?a6_6, ?a6_7, ?a6_8, ?a6_9, ?a6_10] ?T6 (by decide) rfl) ?_
    refine tri_starsPerm hq1 (tri_starsUn ?_)
    unfold dqA
    refine tri_rowEq (len' := (h.ss.getD ((w : Nat) : Int).toNat default).len) (cells' := encs (s.D.getD ((w : Nat) : Int).toNat default)) hl.symm rfl ?_
    refine tri_perm (A := ?a7_0 :: ?a7_1 :: ?a7_2 :: ?a7_3 :: ?a7_4 :: ?a7_5 :: ?a7_6 :: ?a7_7 :: ?a7_8 :: ?a7_9 :: ?a7_10 :: ?a7_11 :: ?T7) (B := ?a7_0 :: ?a7_11 :: ?a7_1 :: ?a7_2 :: ?a7_3 :: ?a7_4 :: ?a7_5 :: ?a7_6 :: ?a7_7 :: ?a7_8 :: ?a7_9 :: ?a7_10 :: ?T7) (by exact permL [0, 11, 1, 2, 3, 4, 5, 6, 7, 8, 9, 10] [?a7_0, ?a7_1, ?a7_2, ?a7_3, ?a7_4, ?a7_5, ?a7_6, ?a7_7, ?a7_8, ?a7_9, ?a7_10, ?a7_11] ?T7 (by decide) rfl) ?_
    skip
    skip
    refine tri_cut (fun F' A' J => ∃ (a3 : Option Addr) (c3 : Nat), F' = [] ∧ A' = Row a3 c3 ((h.ss.getD ((w : Nat) : Int).toNat default).len + 1) 3 1 (encs (s.D.getD ((w : Nat) : Int).toNat default) ++ [.int .i64 t.of_]) :: Row (some ⟨bq, 0, none⟩) cd s.D.length 27 1 (encs (h.ss.set ((w : Nat) : Int).toNat (⟨a3, (h.ss.getD ((w : Nat) : Int).toNat default).len + 1, c3⟩ : Sl))) :: Stars Rq :: Box (h.bs.getD t.of_.toNat default).b (Enc.enc (R21.less u1)) 82 :: Box (h.bs.getD i default).b (Enc.enc t) 82 :: Stars R2 :: MapA Try.prog 79 db ds' :: IxA bx mb h.a h.cap s.ns room h.es (Box bc [pt bx 0, .slice h.at_ s.ts.length h.ct, .slice (some ⟨bq, 0, none⟩) s.D.length cd, .map (some db), .int .i64 s.node, .bool s.done] 76 :: Row h.at_ h.ct s.ts.length 113 1 (encs h.bs) :: A) ∧ I = J) ?_ ?_
    ·refine tri_draw [0, 1, 2, 3, 4, 5, 6, 7, 8, 9, 10, 12, 13, 14, 15, 11, 16, 17, 18, 19] rfl [_, _] rfl mixed ?_
     refine yM rfl rfl (yn rfl rfl (yf rfl rfl ?_))
     refine yl rfl rfl rfl ?_
     refine yM rfl rfl (yM rfl rfl (yn rfl rfl (yf rfl rfl ?_)))
     refine yl rfl rfl rfl ?_
     refine yM rfl rfl ?_
     refine th_take rfl rfl (by kernel_rfl)  (opv_indexAddrSP rfl rfl (by omega) (by omega)) ?_
     refine yM rfl rfl (yn rfl rfl (yf rfl rfl ?_))
     refine yl rfl rfl rfl ?_
     refine th_two (j := 16) [11, 17, 18, 19] (by kernel_rfl) rfl ?_ ?_
     ·refine (step_m rfl rfl (OpV.toG (opv_loadRX1 rfl rfl (by omega) rfl rfl)) ?_)
      rintro _ _ _ ⟨rfl, rfl, rfl⟩
      refine ⟨Suf.h, (fun _ h => h), ?_⟩
      refine th_one (by kernel_rfl) (step_m rfl rfl (opg_buildSlice rfl rfl rfl rfl) ?_)
      rintro _ _ _ ⟨b93, rfl, rfl, rfl⟩
      refine ⟨Suf.h, (fun _ h => h), ?_⟩
      refine th_one (by kernel_rfl) (step_m rfl rfl (opg_appendB rfl rfl rfl rfl (by omega) rfl) ?_)
      rintro _ _ _ ⟨a3, c3, rfl, rfl, rfl⟩
      refine ⟨Suf.h, (fun _ h => h), ?_⟩
      refine th_take rfl rfl (by kernel_rfl)  (opv_indexAddrSP rfl rfl (by omega) (by omega)) ?_
      refine th_one (by kernel_rfl) (step_m rfl rfl (opg_storeRX (⟨a3, (h.ss.getD ((w : Nat) : Int).toNat default).len + 1, c3⟩ : Sl) rfl rfl rfl (by omega) (by omega) rfl rfl rfl rfl) ?_)
      rintro _ _ _ ⟨rfl, rfl⟩
      refine ⟨Suf.h, (fun _ h => h), ?_⟩
      refine yD ?_
      refine tri_drop ?_
      refine tri_cutEnd _ ⟨a3, c3, rfl, rfl, rfl⟩ trivial
     ·refine (step_m rfl rfl (opg_buildSlice rfl rfl rfl rfl) ?_)
      rintro _ _ _ ⟨b93, rfl, rfl, rfl⟩
      refine ⟨Suf.h, (fun _ h => h), ?_⟩
      refine th_one (by kernel_rfl) (step_m rfl rfl (OpV.toG (opv_loadRX1 rfl rfl (by omega) rfl rfl)) ?_)
      rintro _ _ _ ⟨rfl, rfl, rfl⟩
      refine ⟨Suf.h, (fun _ h => h), ?_⟩
      refine th_one (by kernel_rfl) (step_m rfl rfl (opg_appendB rfl rfl rfl rfl (by omega) rfl) ?_)
      rintro _ _ _ ⟨a3, c3, rfl, rfl, rfl⟩
      refine ⟨Suf.h, (fun _ h => h), ?_⟩
      refine th_take rfl rfl (by kernel_rfl)  (opv_indexAddrSP rfl rfl (by omega) (by omega)) ?_
      refine th_one (by kernel_rfl) (step_m rfl rfl (opg_storeRX (⟨a3, (h.ss.getD ((w : Nat) : Int).toNat default).len + 1, c3⟩ : Sl) rfl rfl rfl (by omega) (by omega) rfl rfl rfl rfl) ?_)
      rintro _ _ _ ⟨rfl, rfl⟩
      refine ⟨Suf.h, (fun _ h => h), ?_⟩
      refine yD ?_
      refine tri_drop ?_
      refine tri_cutEnd _ ⟨a3, c3, rfl, rfl, rfl⟩ trivial
    ·rintro _ _ _ ⟨a3, c3, rfl, rfl, rfl⟩
     skip
     have hq3 := hq2 ⟨a3, (h.ss.getD ((w : Nat) : Int).toNat default).len + 1, c3⟩ (s.D.getD ((w : Nat) : Int).toNat default ++ [t.of_])
     refine tri_rowEq (len' := (s.D.getD ((w : Nat) : Int).toNat default ++ [t.of_]).length) (cells' := encs (s.D.getD ((w : Nat) : Int).toNat default ++ [t.of_])) (by rw [hl]; simp) (by rw [encs_append]; rfl) ?_
     refine tri_perm (A := ?a8_0 :: ?a8_1 :: ?a8_2 :: ?T8) (B := ?a8_0 :: ?a8_2 :: ?a8_1 :: ?T8) (by exact permL [0, 2, 1] [?a8_0, ?a8_1, ?a8_2] ?T8 (by decide) rfl) ?_
     refine tri_starsRe (tri_starsPerm hq3.symm ?_)
     refine tri_perm (A := ?a9_0 :: ?a9_1 :: ?a9_2 :: ?a9_3 :: ?a9_4 :: ?a9_5 :: ?a9_6 :: ?a9_7 :: ?a9_8 :: ?a9_9 :: ?a9_10 :: ?T9) (B := ?a9_3 :: ?a9_2 :: ?a9_4 :: ?a9_0 :: ?a9_1 :: ?a9_5 :: ?a9_6 :: ?a9_7 :: ?a9_8 :: ?a9_9 :: ?a9_10 :: ?T9) (by exact permL [3, 2, 4, 0, 1, 5, 6, 7, 8, 9, 10] [?a9_0, ?a9_1, ?a9_2, ?a9_3, ?a9_4, ?a9_5, ?a9_6, ?a9_7, ?a9_8, ?a9_9, ?a9_10] ?T9 (by decide) rfl) ?_
     refine tri_starsRe2 (tri_starsPerm (hr2 (R21.less u1)).symm ?_)
     refine tri_perm (A := ?a10_0 :: ?a10_1 :: ?a10_2 :: ?a10_3 :: ?a10_4 :: ?a10_5 :: ?a10_6 :: ?a10_7 :: ?a10_8 :: ?T10) (B := ?a10_4 :: ?a10_5 :: ?a10_6 :: ?a10_7 :: ?a10_8 :: ?a10_2 :: ?a10_3 :: ?a10_0 :: ?a10_1 :: ?T10) (by exact permL [4, 5, 6, 7, 8, 2, 3, 0, 1] [?a10_0, ?a10_1, ?a10_2, ?a10_3, ?a10_4, ?a10_5, ?a10_6, ?a10_7, ?a10_8] ?T10 (by decide) rfl) ?_
     refine tri_end_n _ ⟨[], rfl⟩ rfl .nil ⟨{ h with ds := ds', ss := h.ss.set w ⟨a3, (h.ss.getD w default).len + 1, c3⟩ }, ⟨ok.idx, hmem, ?_, ?_, fun k hk => ?_⟩, ?_, fun _ h => h⟩
     ·simp only [List.length_set, hbl]
     ·simp only [R21.push, List.length_set, hsl]
     ·simp only [R21.push, List.length_set] at hk ⊢
      rw [getD_set7 (by omega), getD_set7 hw]
      split
      ·have := ok.len w hw
       simp only [List.length_append, List.length_singleton]
       omega
      ·exact ok.len k hk
     ·unfold CwA
      simp only [Int.toNat_natCast, R21.push, List.length_set]
   ·rw [if_neg (show ¬ (R21.less u1).lf = 0 from h2)]
    refine tri_skip ?_
    refine tri_perm (A := ?a11_0 :: ?a11_1 :: ?a11_2 :: ?a11_3 :: ?a11_4 :: ?a11_5 :: ?a11_6 :: ?a11_7 :: ?a11_8 :: ?a11_9 :: ?a11_10 :: ?T11) (B := ?a11_1 :: ?a11_0 :: ?a11_2 :: ?a11_3 :: ?a11_4 :: ?a11_5 :: ?a11_6 :: ?a11_7 :: ?a11_8 :: ?a11_9 :: ?a11_10 :: ?T11) (by exact permL [1, 0, 2, 3, 4, 5, 6, 7, 8, 9, 10] [?a11_0, ?a11_1, ?a11_2, ?a11_3, ?a11_4, ?a11_5, ?a11_6, ?a11_7, ?a11_8, ?a11_9, ?a11_10] ?T11 (by decide) rfl) ?_
    refine tri_starsRe2 (tri_starsPerm (hr2 (R21.less u1)).symm ?_)
    refine tri_perm (A := ?a12_0 :: ?a12_1 :: ?a12_2 :: ?a12_3 :: ?a12_4 :: ?a12_5 :: ?a12_6 :: ?a12_7 :: ?a12_8 :: ?T12) (B := ?a12_2 :: ?a12_3 :: ?a12_4 :: ?a12_5 :: ?a12_6 :: ?a12_7 :: ?a12_1 :: ?a12_0 :: ?a12_8 :: ?T12) (by exact permL [2, 3, 4, 5, 6, 7, 1, 0, 8] [?a12_0, ?a12_1, ?a12_2, ?a12_3, ?a12_4, ?a12_5, ?a12_6, ?a12_7, ?a12_8] ?T12 (by decide) rfl) ?_
    refine tri_end_n _ ⟨[], rfl⟩ rfl .nil ⟨{ h with ds := ds' }, ⟨ok.idx, hmem, ?_, ok.sl, ok.len⟩, ?_, fun _ h => h⟩
    ·simp only [List.length_set, hbl]
    ·unfold CwA
     simp only [List.length_set]
end Go.GL


namespace Go.GL
open Go.Proofs
attribute [local irreducible] wpList Code.wp Exit.then Exit.inBlock Ends Tri TriH OpV OpG FnC epf wpAnyH
variable {A : List Asrt} {I : List Chunk}
theorem SlAt.none_nil {α : Type} [Enc α] {I : List Chunk} {a : Option Addr} {xs : List α} (h : SlAt I a xs) (ha : a = none) : xs = [] := by
 rcases h with h | ⟨b, off, h, _⟩
 ·exact h
 ·rw [ha] at h; cases h
set_option maxHeartbeats 4000000 in
set_option maxRecDepth 100000 in
theorem crew_take {bc bx mb db bq cd w : Nat} {room : Int} {h : Hp} {s : R21.Ms} (ok : CwOk h s) (hw : w < s.D.length) (hn : s.D.length ≤ 1000) (hb : ∀ k, k < s.D.length → (s.D.getD k default).length ≤ 100000000) :
  FnC Try.prog 72 [pt bc 0, .int .i64 (w : Nat)].toArray (CwA bc bx mb db (some ⟨bq, 0, none⟩) cd room h s A) I (fun v A' I' => v = .int .i64 (R19.takeM s.D w).1 ∧ CwR bc bx mb db bq cd room { s with D := (R19.takeM s.D w).2 } A I v A' I') := by
 have hsl := ok.sl
 have hbl := ok.bl
 have hl := ok.len w hw
 have hbw := hb w hw
 obtain ⟨Rq, hq1, hq2⟩ := dq_one (k := w) hw hsl
 skip
 skip
 refine fn_enter2 Try.func72 rfl Try.ntmps72 rfl fun w0 => ?_
 refine tS (tR (tA rfl rfl (tN (tT (tS (tS (tR ?_)))))))
 refine tM rfl rfl ?_
 refine tri_v (opv_nilCheck rfl) rfl ?_
 refine yF rfl ?_
 refine yL rfl rfl ?_
 refine tM rfl rfl ?_
 refine tri_v (opv_indexAddrRN rfl rfl (by omega)) rfl ?_
 refine tri_v (opv_loadRX1 rfl rfl (by omega) rfl rfl) rfl ?_
 refine tA rfl rfl (tN (tT (tS (tR (tM rfl rfl ?_)))))
 refine tri_v (opv_len rfl) rfl ?_
 refine tri_v (opv_gtr rfl rfl) rfl ?_
 refine tN (tT ?_)
 try rw [hl]
 refine tri_cond_dec rfl (fun hc => ?_) (fun hc => ?_)
 ·have em : R19.takeM s.D w = ((s.D.getD w default).getD ((s.D.getD w default).length - 1) default, s.D.set w ((s.D.getD w default).take ((s.D.getD w default).length - 1))) := if_pos (by omega)
  rw [em]
  have e1 : (((s.D.getD w default).length : Int) - 1).toNat = (s.D.getD w default).length - 1 := by omega
  refine tri_perm perm8 ?_
  refine tri_starsPerm hq1 (tri_starsUn ?_)
  unfold dqA
  refine tri_freezeRowC (α := Int) rfl fun I1 hI1 hs1 => ?_
  have sc := hs1.sl
  have hi : ((s.D.getD w default).length : Int) - 1 ≤ ((s.D.getD w default).length : Nat) := by omega
  refine tri_perm (A := ?a1_0 :: ?a1_1 :: ?a1_2 :: ?a1_3 :: ?a1_4 :: ?a1_5 :: ?a1_6 :: ?a1_7 :: ?a1_8 :: ?T1) (B := ?a1_6 :: ?a1_0 :: ?a1_1 :: ?a1_2 :: ?a1_3 :: ?a1_4 :: ?a1_5 :: ?a1_7 :: ?a1_8 :: ?T1) (by exact permL [6, 0, 1, 2, 3, 4, 5, 7, 8] [?a1_0, ?a1_1, ?a1_2, ?a1_3, ?a1_4, ?a1_5, ?a1_6, ?a1_7, ?a1_8] ?T1 (by decide) rfl) ?_
  skip
  skip
  skip
  refine tS ?_
  refine tri_draw [0, 1, 2, 3, 4, 5, 6, 7, 8, 9, 10, 11, 12] rfl [_] rfl mixed ?_
  refine yM rfl rfl (yn rfl rfl (yf rfl rfl ?_))
  refine yl rfl rfl rfl ?_
  refine yM rfl rfl (yM rfl rfl (yM rfl rfl ?_))
  refine th_take rfl rfl (by kernel_rfl)  (opv_len rfl) ?_
  refine th_take rfl rfl (by kernel_rfl)  (opv_sub rfl rfl (w64 (by omega) (by omega))) ?_
  refine th_take rfl rfl (by kernel_rfl)  (opv_sliceHi rfl rfl (by omega) (by omega) hs1 rfl) ?_
  skip
  rw [e1]
  have hlt : ((s.D.getD w default).take ((s.D.getD w default).length - 1)).length ≤ 1000000000 := by rw [List.length_take]; omega
  refine th_one (by kernel_rfl) (step_m rfl rfl (opg_call (xs := [_]) rfl (slices_cloneI (sc.take _) hlt (fun e => (sc.take _).none_nil e))) ?_)
  rintro _ _ _ ⟨a2, c2, rfl, rfl, rfl⟩
  refine ⟨Suf.h, (fun _ h => h), ?_⟩
  refine th_take rfl rfl (by kernel_rfl)  (opv_indexAddrSP rfl rfl (by omega) (by omega)) ?_
  refine th_one (by kernel_rfl) (step_m rfl rfl (opg_storeRX (⟨a2, ((s.D.getD w default).take ((s.D.getD w default).length - 1)).length, c2⟩ : Sl) rfl rfl rfl (by omega) (by omega) rfl rfl rfl rfl) ?_)
  rintro _ _ _ ⟨rfl, rfl⟩
  refine ⟨Suf.h, (fun _ h => h), ?_⟩
  refine yD (tT (tS (tR (tM rfl rfl (tM rfl rfl ?_)))))
  refine tri_v (opv_len rfl) rfl ?_
  refine tri_v (opv_sub rfl rfl (w64 (by omega) (by omega))) rfl ?_
  refine tri_v (opv_indexAddrS rfl rfl (by omega) (by omega) (by assumption) rfl) rfl ?_
  refine tri_v (opv_loadE1 rfl (by assumption) rfl (by omega) rfl rfl) rfl ?_
  refine tA rfl rfl (tN (tT (tri_ret (tri_then_ret ?_))))
  rw [e1]
  refine tri_perm (A := ?a2_0 :: ?a2_1 :: ?a2_2 :: ?T2) (B := ?a2_0 :: ?a2_2 :: ?a2_1 :: ?T2) (by exact permL [0, 2, 1] [?a2_0, ?a2_1, ?a2_2] ?T2 (by decide) rfl) ?_
  refine tri_starsRe (tri_starsPerm (hq2 ⟨a2, ((s.D.getD w default).take ((s.D.getD w default).length - 1)).length, c2⟩ ((s.D.getD w default).take ((s.D.getD w default).length - 1))).symm ?_)
  refine tri_perm (A := ?a3_0 :: ?a3_1 :: ?a3_2 :: ?a3_3 :: ?a3_4 :: ?a3_5 :: ?a3_6 :: ?a3_7 :: ?a3_8 :: ?T3) (B := ?a3_2 :: ?a3_3 :: ?a3_4 :: ?a3_5 :: ?a3_6 :: ?a3_1 :: ?a3_7 :: ?a3_8 :: ?a3_0 :: ?T3) (by exact permL [2, 3, 4, 5, 6, 1, 7, 8, 0] [?a3_0, ?a3_1, ?a3_2, ?a3_3, ?a3_4, ?a3_5, ?a3_6, ?a3_7, ?a3_8] ?T3 (by decide) rfl) ?_
  refine tri_end _ (⟨[], rfl⟩) rfl (.cons (rv_tmp rfl) .nil) ⟨rfl, { h with ss := h.ss.set w ⟨a2, ((s.D.getD w default).take ((s.D.getD w default).length - 1)).length, c2⟩ }, ⟨ok.idx, ok.mem, hbl, ?_, fun k hk => ?_⟩, ?_, hI1⟩
  ·simp only [List.length_set, hsl]
  ·simp only [List.length_set] at hk ⊢
   rw [getD_set7 (by omega), getD_set7 hw]
   split
   ·rfl
   ·exact ok.len k hk
  ·unfold CwA
   simp only [List.length_set, Int.toNat_natCast]
 ·have em : R19.takeM s.D w = match R19.findF s.D w s.D.length 0 with
    | some k => ((s.D.getD k default).getD 0 default, s.D.set k ((s.D.getD k default).drop 1))
    | none => (-1, s.D) := if_neg (by omega)
  rw [em]
  clear hq1 hq2 hl
  refine tri_skip (tT (tS (tS (tR (tM rfl rfl ?_)))))
  refine tri_v (opv_nilCheck rfl) rfl ?_
  refine yF rfl ?_
  refine yL rfl rfl ?_
  refine tri_v (opv_len rfl) rfl ?_
  refine tM rfl rfl (tN (tT (tri_block ?_)))
  refine tri_sub (F' := [(0, pt bc 0), (1, .int .i64 (w : Nat)), (41, .int .i64 (s.D.length : Nat)), (42, .int .i64 (0 : Nat))]) ⟨rfl, rfl, rfl, rfl, trivial⟩ ?_
  refine loop_ind (G := Nat) (fun i => s.D.length - i) (fun i => i ≤ s.D.length ∧ R19.findF s.D w s.D.length 0 = R19.findF s.D w (s.D.length - i) i) (fun i => [(0, pt bc 0), (1, .int .i64 (w : Nat)), (41, .int .i64 (s.D.length : Nat)), (42, .int .i64 (i : Nat))]) (fun _ => CwA bc bx mb db (some ⟨bq, 0, none⟩) cd room h s A) (fun _ => I) ?_ 0 ⟨by omega, rfl⟩
  rintro i ⟨hi, hf⟩ K hK
  skip
  skip
  refine tS (tR (yC rfl rfl (tN (tT (tS ?_)))))
  refine tri_cond_dec rfl (fun h2 => ?_) (fun h2 => ?_)
  ·have hil : i < s.D.length := by omega
   obtain ⟨k, ek⟩ : ∃ k, (w + i) % s.D.length = k := ⟨_, rfl⟩
   have hk : k < s.D.length := by rw [← ek]; exact Nat.mod_lt _ (by omega)
   have hlk := ok.len k hk
   have hbk := hb k hk
   obtain ⟨Rq, hq1, hq2⟩ := dq_one (k := k) hk hsl
   have hfs : R19.findF s.D w (s.D.length - i) i = if (s.D.getD k default).length = 0 then R19.findF s.D w (s.D.length - (i + 1)) (i + 1) else some k := by
    rw [show s.D.length - i = (s.D.length - (i + 1)) + 1 by omega]
    show (if (s.D.getD ((w + i) % s.D.length) default).length = 0 then _ else _) = _
    rw [ek]
   refine tri_skip (tT (tS (tri_block (tS (tR (tM rfl rfl (tA rfl rfl ?_)))))))
   refine tN (tT (tS (tR (tM rfl rfl (tM rfl rfl ?_)))))
   refine yU rfl rfl ?_
   refine tM rfl rfl ?_
   refine tri_v (opv_nilCheck rfl) rfl ?_
   refine yF rfl ?_
   refine yL rfl rfl ?_
   refine tri_v (opv_len rfl) rfl ?_
   refine tri_v (opv_remN (a := w + i) (z := k) rfl rfl (by omega) ek) rfl ?_
   refine tA rfl rfl (tN (tT (tS (tR (tM rfl rfl ?_)))))
   refine tri_v (opv_nilCheck rfl) rfl ?_
   refine yF rfl ?_
   refine yL rfl rfl ?_
   refine tM rfl rfl ?_
   refine tri_v (opv_indexAddrRN rfl rfl (by omega)) rfl ?_
   refine tri_v (opv_loadRX1 rfl rfl (by omega) rfl rfl) rfl ?_
   refine tA rfl rfl (tN (tT (tS (tR (tM rfl rfl ?_)))))
   refine tri_v (opv_len rfl) rfl ?_
   refine tri_v (opv_gtr rfl rfl) rfl ?_
   refine tN (tT ?_)
   rw [hlk]
   refine tri_cond_dec rfl (fun h3 => ?_) (fun h3 => ?_)
   ·rw [hf, hfs, if_neg (by omega)]
    refine tri_perm perm8 ?_
    refine tri_starsPerm hq1 (tri_starsUn ?_)
    unfold dqA
    refine tri_freezeRowC (α := Int) rfl fun I1 hI1 hs1 => ?_
    have sc := hs1.sl
    have sd := (hs1.lo (l := 1) (s := 1) (by omega) rfl).sl
    refine tri_perm (A := ?a4_0 :: ?a4_1 :: ?a4_2 :: ?a4_3 :: ?a4_4 :: ?a4_5 :: ?a4_6 :: ?a4_7 :: ?a4_8 :: ?T4) (B := ?a4_6 :: ?a4_0 :: ?a4_1 :: ?a4_2 :: ?a4_3 :: ?a4_4 :: ?a4_5 :: ?a4_7 :: ?a4_8 :: ?T4) (by exact permL [6, 0, 1, 2, 3, 4, 5, 7, 8] [?a4_0, ?a4_1, ?a4_2, ?a4_3, ?a4_4, ?a4_5, ?a4_6, ?a4_7, ?a4_8] ?T4 (by decide) rfl) ?_
    skip
    skip
    skip
    refine tS ?_
    refine tri_draw [0, 1, 2, 3, 4, 5, 6, 7, 8, 9] rfl [_] rfl mixed ?_
    refine yM rfl rfl (yn rfl rfl (yf rfl rfl ?_))
    refine yl rfl rfl rfl ?_
    refine yM rfl rfl (yM rfl rfl ?_)
    refine th_take rfl rfl (by kernel_rfl)  (opv_sliceLo rfl rfl (by omega) (by omega) hs1 rfl) ?_
    skip
    have hlt : ((s.D.getD k default).drop 1).length ≤ 1000000000 := by rw [List.length_drop]; omega
    refine th_one (by kernel_rfl) (step_m rfl rfl (opg_call (xs := [_]) rfl (slices_cloneI sd hlt (fun e => sd.none_nil e))) ?_)
    rintro _ _ _ ⟨a2, c2, rfl, rfl, rfl⟩
    refine ⟨Suf.h, (fun _ h => h), ?_⟩
    refine th_take rfl rfl (by kernel_rfl)  (opv_indexAddrSP rfl rfl (by omega) (by omega)) ?_
    refine th_one (by kernel_rfl) (step_m rfl rfl (opg_storeRX (⟨a2, ((s.D.getD k default).drop 1).length, c2⟩ : Sl) rfl rfl rfl (by omega) (by omega) rfl rfl rfl rfl) ?_)
    rintro _ _ _ ⟨rfl, rfl⟩
    refine ⟨Suf.h, (fun _ h => h), ?_⟩
    refine yD (tT (tS (tR (tM rfl rfl ?_))))
    refine tri_v (opv_indexAddrS rfl rfl (by omega) (by omega) (by assumption) rfl) rfl ?_
    refine tri_v (opv_loadE1 rfl (by assumption) rfl (by omega) rfl rfl) rfl ?_
    refine tA rfl rfl (tN (tT (tri_ret (tri_inBlock_ret (tri_then_ret (tri_then_ret (tri_inBlock_ret ?_)))))))
    refine tri_then_ret ?_
    refine tri_perm (A := ?a5_0 :: ?a5_1 :: ?a5_2 :: ?T5) (B := ?a5_0 :: ?a5_2 :: ?a5_1 :: ?T5) (by exact permL [0, 2, 1] [?a5_0, ?a5_1, ?a5_2] ?T5 (by decide) rfl) ?_
    refine tri_starsRe (tri_starsPerm (hq2 ⟨a2, ((s.D.getD k default).drop 1).length, c2⟩ ((s.D.getD k default).drop 1)).symm ?_)
    refine tri_perm (A := ?a6_0 :: ?a6_1 :: ?a6_2 :: ?a6_3 :: ?a6_4 :: ?a6_5 :: ?a6_6 :: ?a6_7 :: ?a6_8 :: ?T6) (B := ?a6_2 :: ?a6_3 :: ?a6_4 :: ?a6_5 :: ?a6_6 :: ?a6_1 :: ?a6_7 :: ?a6_8 :: ?a6_0 :: ?T6) (by exact permL [2, 3, 4, 5, 6, 1, 7, 8, 0] [?a6_0, ?a6_1, ?a6_2, ?a6_3, ?a6_4, ?a6_5, ?a6_6, ?a6_7, ?a6_8] ?T6 (by decide) rfl) ?_
    refine tri_end _ (⟨[], rfl⟩) rfl (.cons (rv_tmp rfl) .nil) ⟨rfl, { h with ss := h.ss.set k ⟨a2, ((s.D.getD k default).drop 1).length, c2⟩ }, ⟨ok.idx, ok.mem, hbl, ?_, fun k' hk' => ?_⟩, ?_, hI1⟩
    ·simp only [List.length_set, hsl]
    ·simp only [List.length_set] at hk' ⊢
     rw [getD_set7 (by omega), getD_set7 hk]
     split
     ·rfl
     ·exact ok.len k' hk'
    ·unfold CwA
     simp only [List.length_set, Int.toNat_natCast]
   ·refine tri_skip (tri_inBlock (tT (tR ?_)))
    refine yU rfl rfl ?_
    refine tM rfl rfl (tN (tT ?_))
    refine tri_sub ?_ (hK (i + 1) ⟨by omega, by rw [hf, hfs, if_pos (by omega)]⟩ (by omega))
    exact ⟨rfl, rfl, rfl, rfl, trivial⟩
  ·have ei : s.D.length - i = 0 := by omega
   rw [hf, ei]
   refine tri_exit ?_
   refine tri_then_exit (tri_then_exit ?_)
   refine tri_inBlock_hit rfl ?_
   refine tT (tS (tR (tA rfl rfl (tN (tT (tri_ret ?_))))))
   refine tri_end _ (⟨[], rfl⟩) rfl (.cons (rv_tmp rfl) .nil) ⟨rfl, h, ok, rfl, fun _ h => h⟩
end Go.GL


namespace Go.GL
open Go.Proofs
attribute [local irreducible] wpList Code.wp Exit.then Exit.inBlock Ends Tri TriH OpV OpG FnC epf wpAnyH
variable {A : List Asrt} {I : List Chunk}
/-- What a step comes to: an error, or the crew behind it. -/
def CwE (bc bx mb db bq cd : Nat) (room : Int) (r : R21.Ms × Int) (A : List Asrt) (I : List Chunk) : Value → List Asrt → List Chunk → Prop :=
 fun v A' I' => v = .int .i64 r.2 ∧ ∃ h' s', A' = CwA bc bx mb db (some ⟨bq, 0, none⟩) cd room h' s' A ∧ (r.2 = 0 → s' = r.1 ∧ CwOk h' s') ∧ I ⊆ I'
/-- What a task must keep to, that it may tell. -/
structure TkOk (ts : List Tk) (i : Nat) : Prop where
 lt : i < ts.length
 len : ts.length ≤ 100000000
 of_ : 0 ≤ (ts.getD i default).of_ → (ts.getD i default).of_.toNat < ts.length ∧ (ts.getD i default).of_.toNat ≠ i
 pl : 0 ≤ (ts.getD i default).pl ∧ (ts.getD i default).pl ≤ 8
structure DqOk (D : List (List Int)) (w : Nat) : Prop where
 lt : w < D.length
 len : (D.getD w default).length ≤ 100000000
theorem crew_tellR {bc bx mb db bq cd w i : Nat} {room n : Int} {h : Hp} {s : R21.Ms} {bt : Nat} (ok : CwOk h s) (hw : DqOk s.D w) (ht : TkOk s.ts i) (hb : bt = (h.bs.getD i default).b) :
  FnC Try.prog 82 [pt bc 0, .int .i64 (w : Nat), pt bt 0, .int .i64 n].toArray (CwA bc bx mb db (some ⟨bq, 0, none⟩) cd room h s A) I (CwR bc bx mb db bq cd room (R21.tell s w i n) A I) := by
 subst hb
 exact crew_tell ok hw.lt ht.lt hw.len ht.len ht.of_ ht.pl
set_option maxHeartbeats 4000000 in
set_option maxRecDepth 100000 in
theorem crew_end {bc bx mb db bq cd w i : Nat} {room : Int} {h : Hp} {s : R21.Ms} (ok : CwOk h s) (hw : DqOk s.D w) (ht : TkOk s.ts i) (hg : R6.Good s.ns room) (h2 : 2 ≤ s.ns.length) :
  FnC Try.prog 75 [pt bc 0, .int .i64 (w : Nat), .int .i64 (i : Nat)].toArray (CwA bc bx mb db (some ⟨bq, 0, none⟩) cd room h s A) I (CwE bc bx mb db bq cd room (R21.end_ room s w i) A I) := by
 have hi := ht.lt
 have hbl := ok.bl
 obtain ⟨Rt, ht1, ht2⟩ := tk_one (bs := h.bs) hi
 skip
 skip
 refine fn_enter3 Try.func75 rfl Try.ntmps75 rfl fun w0 => ?_
 refine tS (tR (tA rfl rfl (tN (tT (tS ?_)))))
 refine tri_perm perm7 ?_
 refine tri_starsPerm ht1 (tri_starsUn ?_)
 unfold tkA
 obtain ⟨t, htt⟩ : ∃ t, s.ts.getD i default = t := ⟨_, rfl⟩
 rw [htt]
 refine tri_perm (A := ?a1_0 :: ?a1_1 :: ?a1_2 :: ?a1_3 :: ?a1_4 :: ?a1_5 :: ?a1_6 :: ?a1_7 :: ?a1_8 :: ?a1_9 :: ?T1) (B := ?a1_2 :: ?a1_3 :: ?a1_4 :: ?a1_0 :: ?a1_1 :: ?a1_5 :: ?a1_6 :: ?a1_7 :: ?a1_8 :: ?a1_9 :: ?T1) (by exact permL [2, 3, 4, 0, 1, 5, 6, 7, 8, 9] [?a1_0, ?a1_1, ?a1_2, ?a1_3, ?a1_4, ?a1_5, ?a1_6, ?a1_7, ?a1_8, ?a1_9] ?T1 (by decide) rfl) ?_
 skip
 skip
 refine tR (tM rfl rfl ?_)
 refine tri_v (opv_nilCheck rfl) rfl ?_
 refine yF rfl ?_
 refine yL rfl rfl ?_
 refine tM rfl rfl ?_
 refine tri_v (opv_indexAddrRN rfl rfl (by omega)) rfl ?_
 refine tri_v (opv_loadRX1 rfl rfl (by omega) rfl rfl) rfl ?_
 refine tA rfl rfl (tN (tT (tS ?_)))
 refine tri_draw [0, 1, 2, 3, 4, 5, 6, 7, 8, 9, 10, 11, 12, 13, 14, 15, 16] rfl [_, _, _] rfl mixed ?_
 refine yM rfl rfl (yn rfl rfl (yf rfl rfl (yf rfl rfl ?_)))
 refine yl rfl rfl rfl ?_
 refine yM rfl rfl (yn rfl rfl (yf rfl rfl ?_))
 refine th_take rfl rfl (by kernel_rfl)  (opv_sliceArrHi rfl rfl (by decide) (by decide) (by decide)) ?_
 skip
 refine th_take rfl rfl (by kernel_rfl)  (opv_arrPtr rfl (by decide)) ?_
 refine th_take rfl rfl (by kernel_rfl)  (opv_loadA rfl rfl rfl) ?_
 refine th_one (by kernel_rfl) (step_m rfl rfl (opg_call (xs := [_, _]) rfl (node_put (q0 := t.r0) (q1 := t.r1) (q2 := t.r2) (q3 := t.r3) hg h2 ok.idx)) ?_)
 rintro _ _ _ ⟨a1, c1, es1, rfl, rfl, hi1, rfl⟩
 refine ⟨Suf.h, (fun _ h => h), ?_⟩
 have eend : R21.end_ room s w i = if (R6.put s.ns room t.r0 t.r1 t.r2 t.r3).2.2 ≠ 0 then (s, (R6.put s.ns room t.r0 t.r1 t.r2 t.r3).2.2) else (R21.tell { s with ns := (R6.put s.ns room t.r0 t.r1 t.r2 t.r3).1 } w i (R6.put s.ns room t.r0 t.r1 t.r2 t.r3).2.1, 0) := by unfold R21.end_; rw [htt]
 rw [eend]
 generalize R6.put s.ns room t.r0 t.r1 t.r2 t.r3 = p at *
 refine yM rfl rfl (yE rfl rfl rfl (yE rfl rfl rfl (yA rfl rfl (yA rfl rfl (yD (tT (tS ?_)))))))
 refine tS (tR (tM rfl rfl ?_))
 refine tri_v (opv_eql rfl rfl) rfl ?_
 refine tN (tT ?_)
 subst htt
 refine tri_perm (A := ?a2_0 :: ?a2_1 :: ?a2_2 :: ?a2_3 :: ?a2_4 :: ?a2_5 :: ?a2_6 :: ?a2_7 :: ?a2_8 :: ?a2_9 :: ?T2) (B := ?a2_3 :: ?a2_4 :: ?a2_0 :: ?a2_1 :: ?a2_2 :: ?a2_5 :: ?a2_6 :: ?a2_7 :: ?a2_8 :: ?a2_9 :: ?T2) (by exact permL [3, 4, 0, 1, 2, 5, 6, 7, 8, 9] [?a2_0, ?a2_1, ?a2_2, ?a2_3, ?a2_4, ?a2_5, ?a2_6, ?a2_7, ?a2_8, ?a2_9] ?T2 (by decide) rfl) ?_
 refine tri_starsRe (tri_starsPerm ht1.symm ?_)
 refine tri_perm (A := ?a3_0 :: ?a3_1 :: ?a3_2 :: ?a3_3 :: ?a3_4 :: ?a3_5 :: ?a3_6 :: ?a3_7 :: ?a3_8 :: ?T3) (B := ?a3_1 :: ?a3_2 :: ?a3_3 :: ?a3_4 :: ?a3_5 :: ?a3_6 :: ?a3_7 :: ?a3_0 :: ?a3_8 :: ?T3) (by exact permL [1, 2, 3, 4, 5, 6, 7, 0, 8] [?a3_0, ?a3_1, ?a3_2, ?a3_3, ?a3_4, ?a3_5, ?a3_6, ?a3_7, ?a3_8] ?T3 (by decide) rfl) ?_
 have ok1 : CwOk { h with a := a1, cap := c1, es := es1 } { s with ns := p.1 } := ⟨hi1, ok.mem, ok.bl, ok.sl, ok.len⟩
 refine tri_cond_dec rfl (fun hc => ?_) (fun hc => ?_)
 ·rw [if_neg (by simpa using hc)]
  refine tR (tM rfl rfl (tM rfl rfl (tM rfl rfl (tM rfl rfl ?_))))
  refine tri_g (opg_call (xs := [_, _, _, _]) rfl (crew_tellR (h := { h with a := a1, cap := c1, es := es1 }) (s := { s with ns := p.1 }) (n := p.2.1) (i := i) ok1 hw ht rfl)) rfl ?_
  rintro _ _ I2 ⟨h3, ok3, rfl, hI2⟩
  refine tN (tT (tS (tR (tM rfl rfl (tA rfl rfl (tN (tT ?_)))))))
  refine tri_ret ?_
  refine tri_end _ (⟨[], rfl⟩) rfl (.cons (rv_tmp rfl) .nil) ⟨by rw [hc]; rfl, h3, _, rfl, fun _ => ⟨rfl, ok3⟩, hI2⟩
 ·rw [if_pos hc]
  refine tri_skip (tT (tS (tR (tM rfl rfl (tA rfl rfl (tN (tT ?_)))))))
  refine tri_ret ?_
  refine tri_end _ (⟨[], rfl⟩) rfl (.cons (rv_tmp rfl) .nil) ⟨rfl, { h with a := a1, cap := c1, es := es1 }, { s with ns := p.1 }, rfl, fun k => absurd k hc, fun _ h => h⟩
section
variable {X0 X1 X2 X3 X4 X5 X6 X7 X8 S : Asrt}
theorem perm9' : (S :: X0 :: X1 :: X2 :: X3 :: X4 :: X5 :: X6 :: X7 :: X8 :: A).Perm (X0 :: X1 :: X2 :: X3 :: X4 :: X5 :: X6 :: X7 :: X8 :: S :: A) := (List.perm_middle (l₁ := [X0, X1, X2, X3, X4, X5, X6, X7, X8])).symm
end
set_option maxHeartbeats 4000000 in
set_option maxRecDepth 100000 in
theorem crew_join {bc bx mb db bq cd w i : Nat} {room : Int} {h : Hp} {s : R21.Ms} (ok : CwOk h s) (hw : DqOk s.D w) (ht : TkOk s.ts i) (hg : R6.Good s.ns room) (h2 : 2 ≤ s.ns.length) (hin : R6.inS s.ns (s.ts.getD i default).n) :
  FnC Try.prog 74 [pt bc 0, .int .i64 (w : Nat), .int .i64 (i : Nat)].toArray (CwA bc bx mb db (some ⟨bq, 0, none⟩) cd room h s A) I (CwE bc bx mb db bq cd room (R21.join room s w i) A I) := by
 have hi := ht.lt
 have hbl := ok.bl
 obtain ⟨Rt, ht1, ht2⟩ := tk_one (bs := h.bs) hi
 skip
 skip
 refine fn_enter3 Try.func74 rfl Try.ntmps74 rfl fun w0 => ?_
 refine tS ?_
 refine tri_perm perm7 ?_
 refine tri_starsPerm ht1 (tri_starsUn ?_)
 unfold tkA
 obtain ⟨t, htt⟩ : ∃ t, s.ts.getD i default = t := ⟨_, rfl⟩
 rw [htt] at hin ⊢
 refine tR (tA rfl rfl (tN (tT (tS (tR (tM rfl rfl ?_))))))
 refine tri_v (opv_nilCheck rfl) rfl ?_
 refine yF rfl ?_
 refine yL rfl rfl ?_
 refine tM rfl rfl ?_
 refine tri_v (opv_indexAddrRN rfl rfl (by omega)) rfl ?_
 refine tri_v (opv_loadRX1 rfl rfl (by omega) rfl rfl) rfl ?_
 refine tA rfl rfl (tN (tT (tS ?_)))
 refine tri_draw [1, 2, 3, 4, 5, 0, 6, 7] rfl [] rfl mixed ?_
 refine yM rfl rfl (yn rfl rfl (yf rfl rfl (yf rfl rfl ?_)))
 refine yl rfl rfl rfl ?_
 refine th_one (by kernel_rfl) (step_m rfl rfl (opg_makeSliceN (m := 4) rfl rfl rfl (by omega) (by decide)) ?_)
 rintro _ _ _ ⟨a5, ha5, rfl, rfl, rfl⟩
 refine ⟨Suf.h, (fun _ h => h), ?_⟩
 refine yA rfl rfl (yA rfl rfl (yD (tT (tS (tS (tR (tM rfl rfl ?_)))))))
 refine tM rfl rfl ?_
 refine tri_rowEq (len' := 4) (cells' := encs ([0, 0, 0, 0] : List Int)) rfl rfl ?_
 refine tri_perm (A := ?a4_0 :: ?a4_1 :: ?a4_2 :: ?a4_3 :: ?a4_4 :: ?a4_5 :: ?a4_6 :: ?a4_7 :: ?a4_8 :: ?a4_9 :: ?a4_10 :: ?T4) (B := ?a4_1 :: ?a4_2 :: ?a4_0 :: ?a4_3 :: ?a4_4 :: ?a4_5 :: ?a4_6 :: ?a4_7 :: ?a4_8 :: ?a4_9 :: ?a4_10 :: ?T4) (by exact permL [1, 2, 0, 3, 4, 5, 6, 7, 8, 9, 10] [?a4_0, ?a4_1, ?a4_2, ?a4_3, ?a4_4, ?a4_5, ?a4_6, ?a4_7, ?a4_8, ?a4_9, ?a4_10] ?T4 (by decide) rfl) ?_
 have ht1' := ht1
 unfold tkA at ht1'
 rw [htt] at ht1'
 refine tri_starsRe (tri_starsPerm ht1'.symm ?_)
 refine tri_perm (A := ?a5_0 :: ?a5_1 :: ?a5_2 :: ?a5_3 :: ?a5_4 :: ?a5_5 :: ?a5_6 :: ?a5_7 :: ?a5_8 :: ?a5_9 :: ?T5) (B := ?a5_2 :: ?a5_3 :: ?a5_4 :: ?a5_5 :: ?a5_6 :: ?a5_7 :: ?a5_8 :: ?a5_0 :: ?a5_9 :: ?a5_1 :: ?T5) (by exact permL [2, 3, 4, 5, 6, 7, 8, 0, 9, 1] [?a5_0, ?a5_1, ?a5_2, ?a5_3, ?a5_4, ?a5_5, ?a5_6, ?a5_7, ?a5_8, ?a5_9] ?T5 (by decide) rfl) ?_
 refine tri_g (opg_call (xs := [_, _]) rfl (crew_full (h := h) (s := s) (i := i) hi hg (by rw [htt]; exact hin))) rfl ?_
 rintro _ _ _ ⟨rfl, rfl, rfl⟩
 rw [htt]
 obtain ⟨j, hj⟩ : ∃ j, j = if R21.full s t then IntKind.i64.wrap (t.j - 1) else t.j := ⟨_, rfl⟩
 refine tN (tT ?_)
 refine tri_cut (fun F' A' J => F' = [(0, pt bc 0), (1, .int .i64 (w : Nat)), (2, .int .i64 (i : Nat)), (7, pt (h.bs.getD i default).b 0), (8, .slice a5 4 4), (9, .int .i64 j)] ∧ A' = CwA bc bx mb db (some ⟨bq, 0, none⟩) cd room h s (Row a5 4 4 3 1 (encs ([0, 0, 0, 0] : List Int)) :: A) ∧ I = J) ?_ ?_
 ·skip
  refine tri_cond_dec rfl (fun hf => ?_) (fun hf => ?_)
  ·rw [hj, if_pos hf]
   refine tR (tM rfl rfl ?_)
   refine tri_v (opv_sub rfl rfl rfl) rfl ?_
   refine tA rfl rfl (tN ?_)
   refine tri_cutEnd _ ⟨rfl, rfl, rfl⟩ ⟨rfl, rfl, rfl, rfl, rfl, rfl, trivial⟩
  ·rw [hj, if_neg hf]
   refine tri_skip ?_
   refine tri_cutEnd _ ⟨rfl, rfl, rfl⟩ ⟨rfl, rfl, rfl, rfl, rfl, rfl, trivial⟩
 ·rintro _ _ _ ⟨rfl, rfl, rfl⟩
  obtain ⟨p0, hp0⟩ : ∃ p, R6.put s.ns room t.r0 t.r1 t.r3 t.r4 = p := ⟨_, rfl⟩
  obtain ⟨p1, hp1⟩ : ∃ p, R6.put p0.1 room t.r1 t.r2 t.r4 t.r5 = p := ⟨_, rfl⟩
  obtain ⟨p2, hp2⟩ : ∃ p, R6.put p1.1 room t.r3 t.r4 t.r6 t.r7 = p := ⟨_, rfl⟩
  obtain ⟨p3, hp3⟩ : ∃ p, R6.put p2.1 room t.r4 t.r5 t.r7 t.r8 = p := ⟨_, rfl⟩
  have g0 : R6.Good p0.1 room ∧ 2 ≤ p0.1.length := ⟨hp0 ▸ hg.put _ _ _ _, hp0 ▸ R6.put_len h2⟩
  have g1 : R6.Good p1.1 room ∧ 2 ≤ p1.1.length := ⟨hp1 ▸ g0.1.put _ _ _ _, hp1 ▸ R6.put_len g0.2⟩
  have g2 : R6.Good p2.1 room ∧ 2 ≤ p2.1.length := ⟨hp2 ▸ g1.1.put _ _ _ _, hp2 ▸ R6.put_len g1.2⟩
  have ej : R21.join room s w i = if p0.2.2 ≠ 0 then (s, p0.2.2) else if p1.2.2 ≠ 0 then (s, p1.2.2) else if p2.2.2 ≠ 0 then (s, p2.2.2) else if p3.2.2 ≠ 0 then (s, p3.2.2) else (R21.wait { s with ns := p3.1 } w i j [p0.2.1, p1.2.1, p2.2.1, p3.2.1], 0) := by
   subst hj; subst hp3; subst hp2; subst hp1; subst hp0; subst htt; rfl
  rw [ej]
  clear ej
  refine tT (tS (tS (tR (tM rfl rfl ?_))))
  refine tri_v (opv_len rfl) rfl ?_
  refine tM rfl rfl (tN (tT (tri_block ?_)))
  refine tri_perm (A := ?a6_0 :: ?a6_1 :: ?a6_2 :: ?a6_3 :: ?a6_4 :: ?a6_5 :: ?a6_6 :: ?a6_7 :: ?a6_8 :: ?a6_9 :: ?T6) (B := ?a6_7 :: ?a6_0 :: ?a6_1 :: ?a6_2 :: ?a6_3 :: ?a6_4 :: ?a6_5 :: ?a6_6 :: ?a6_8 :: ?a6_9 :: ?T6) (by exact permL [7, 0, 1, 2, 3, 4, 5, 6, 8, 9] [?a6_0, ?a6_1, ?a6_2, ?a6_3, ?a6_4, ?a6_5, ?a6_6, ?a6_7, ?a6_8, ?a6_9] ?T6 (by decide) rfl) ?_
  refine tri_starsPerm ht1' (tri_starsUn ?_)
  refine tri_perm (A := ?a7_0 :: ?a7_1 :: ?a7_2 :: ?a7_3 :: ?a7_4 :: ?a7_5 :: ?a7_6 :: ?a7_7 :: ?a7_8 :: ?a7_9 :: ?a7_10 :: ?T7) (B := ?a7_2 :: ?a7_3 :: ?a7_4 :: ?a7_0 :: ?a7_1 :: ?a7_5 :: ?a7_6 :: ?a7_7 :: ?a7_8 :: ?a7_9 :: ?a7_10 :: ?T7) (by exact permL [2, 3, 4, 0, 1, 5, 6, 7, 8, 9, 10] [?a7_0, ?a7_1, ?a7_2, ?a7_3, ?a7_4, ?a7_5, ?a7_6, ?a7_7, ?a7_8, ?a7_9, ?a7_10] ?T7 (by decide) rfl) ?_
  skip
  skip
  refine tri_rounds 5 ?_
  refine tri_round (tS (tR (yC rfl rfl (tN (tT (tS ?_))))))
  refine tri_cond_is rfl (by decide) ?_
  refine tri_skip (tT (tS (tri_block (tS (tR (tM rfl rfl (tA rfl rfl ?_)))))))
  refine tN (tT (tS (tR (tM rfl rfl ?_))))
  refine tri_v (opv_quoE rfl rfl (by omega) (by omega) (by omega)) rfl ?_
  refine tri_v (opv_mul rfl rfl (w64 (by omega) (by omega))) rfl ?_
  refine tM rfl rfl ?_
  refine tri_v (opv_remE rfl rfl (by omega) (by omega)) rfl ?_
  refine yU rfl rfl ?_
  refine tA rfl rfl (tN (tT (tS ?_)))
  refine tri_draw [0, 1, 2, 3, 4, 5, 6, 7, 8, 9, 10, 11, 12, 13, 14, 15, 16, 17, 18, 19, 20, 21, 22, 23, 24, 25, 26, 27, 28, 29, 30, 31, 32, 33, 34, 35, 36, 37, 38] rfl [_, _, _] rfl mixed ?_
  refine yM rfl rfl (yn rfl rfl (yf rfl rfl (yf rfl rfl ?_)))
  refine yl rfl rfl rfl ?_
  refine yM rfl rfl (yM rfl rfl (yn rfl rfl (yf rfl rfl ?_)))
  refine th_take rfl rfl (by kernel_rfl)  (opv_indexAddrA rfl rfl (by decide) (by decide)) ?_
  refine yl rfl rfl rfl ?_
  refine yM rfl rfl (yM rfl rfl ?_)
  refine th_take rfl rfl (by kernel_rfl)  (opv_add rfl rfl (w64 (by omega) (by omega))) ?_
  refine yn rfl rfl (yf rfl rfl ?_)
  refine th_take rfl rfl (by kernel_rfl)  (opv_indexAddrA rfl rfl (by decide) (by decide)) ?_
  refine yl rfl rfl rfl ?_
  refine yM rfl rfl (yM rfl rfl ?_)
  refine th_take rfl rfl (by kernel_rfl)  (opv_add rfl rfl (w64 (by omega) (by omega))) ?_
  refine yn rfl rfl (yf rfl rfl ?_)
  refine th_take rfl rfl (by kernel_rfl)  (opv_indexAddrA rfl rfl (by decide) (by decide)) ?_
  refine yl rfl rfl rfl ?_
  refine yM rfl rfl (yM rfl rfl ?_)
  refine th_take rfl rfl (by kernel_rfl)  (opv_add rfl rfl (w64 (by omega) (by omega))) ?_
  refine yn rfl rfl (yf rfl rfl ?_)
  refine th_take rfl rfl (by kernel_rfl)  (opv_indexAddrA rfl rfl (by decide) (by decide)) ?_
  refine yl rfl rfl rfl ?_
  refine th_take rfl rfl (by kernel_rfl)  (opv_buildA rfl rfl) ?_
  refine th_one (by kernel_rfl) (step_m rfl rfl (opg_call (xs := [_, _]) rfl (node_putR (q0 := t.r0) (q1 := t.r1) (q2 := t.r3) (q3 := t.r4) hg h2 ok.idx hp0)) ?_)
  rintro _ _ _ ⟨b200, c0, es0, rfl, rfl, hi0, rfl⟩
  refine ⟨Suf.h, (fun _ h => h), ?_⟩
  refine yM rfl rfl (yE rfl rfl rfl (yE rfl rfl rfl (yA rfl rfl (yA rfl rfl (yD (tT (tS ?_)))))))
  refine tS (tR (tM rfl rfl ?_))
  refine tri_v (opv_neq rfl rfl) rfl ?_
  refine tN (tT ?_)
  refine tri_cond_dec rfl (fun x0 => ?_) (fun x0 => ?_)
  ·rw [if_pos x0]
   refine tS (tR (tM rfl rfl (tA rfl rfl (tN (tT (tri_ret (tri_then_ret ?_)))))))
   refine tri_inBlock_ret (tri_then_ret (tri_then_ret (tri_inBlock_ret (tri_then_ret ?_))))
   refine tri_perm (A := ?a8_0 :: ?a8_1 :: ?a8_2 :: ?a8_3 :: ?a8_4 :: ?a8_5 :: ?a8_6 :: ?a8_7 :: ?a8_8 :: ?a8_9 :: ?a8_10 :: ?T8) (B := ?a8_3 :: ?a8_4 :: ?a8_0 :: ?a8_1 :: ?a8_2 :: ?a8_5 :: ?a8_6 :: ?a8_7 :: ?a8_8 :: ?a8_9 :: ?a8_10 :: ?T8) (by exact permL [3, 4, 0, 1, 2, 5, 6, 7, 8, 9, 10] [?a8_0, ?a8_1, ?a8_2, ?a8_3, ?a8_4, ?a8_5, ?a8_6, ?a8_7, ?a8_8, ?a8_9, ?a8_10] ?T8 (by decide) rfl) ?_
   refine tri_starsRe (tri_starsPerm ht1'.symm ?_)
   refine tri_perm (A := ?a9_0 :: ?a9_1 :: ?a9_2 :: ?a9_3 :: ?a9_4 :: ?a9_5 :: ?a9_6 :: ?a9_7 :: ?a9_8 :: ?a9_9 :: ?T9) (B := ?a9_9 :: ?a9_1 :: ?a9_2 :: ?a9_3 :: ?a9_4 :: ?a9_5 :: ?a9_6 :: ?a9_7 :: ?a9_0 :: ?a9_8 :: ?T9) (by exact permL [9, 1, 2, 3, 4, 5, 6, 7, 0, 8] [?a9_0, ?a9_1, ?a9_2, ?a9_3, ?a9_4, ?a9_5, ?a9_6, ?a9_7, ?a9_8, ?a9_9] ?T9 (by decide) rfl) ?_
   refine tri_drop ?_
   refine tri_end _ (⟨[], rfl⟩) rfl (.cons (rv_tmp rfl) .nil) ⟨rfl, { h with a := b200, cap := c0, es := es0 }, { s with ns := p0.1 }, rfl, fun k => absurd k x0, fun _ h => h⟩
  ·rw [if_neg x0]
   refine tri_perm (A := ?a10_0 :: ?a10_1 :: ?a10_2 :: ?T10) (B := ?a10_0 :: ?a10_1 :: ?a10_2 :: ?T10) (by exact permL [0, 1, 2] [?a10_0, ?a10_1, ?a10_2] ?T10 (by decide) rfl) ?_
   refine tri_skip (tT (tR (tM rfl rfl (tM rfl rfl (tM rfl rfl ?_)))))
   refine tri_v (opv_indexAddrR rfl rfl (by omega) (by omega)) rfl ?_
   refine tri_g (opg_storeRX (p0.2.1 : Int) (xs := [0, 0, 0, 0]) rfl rfl rfl (by decide) (by decide) rfl rfl rfl rfl) rfl ?_
   rintro _ _ _ ⟨rfl, rfl⟩
   skip
   refine tN (tri_inBlock (tT (tR ?_)))
   refine yU rfl rfl ?_
   refine tM rfl rfl (tN (tT (tri_round (tS (tR (yC rfl rfl (tN ?_)))))))
   refine tT (tS ?_)
   refine tri_cond_is rfl (by decide) ?_
   refine tri_skip (tT (tS (tri_block (tS (tR (tM rfl rfl (tA rfl rfl ?_)))))))
   refine tN (tT (tS (tR (tM rfl rfl ?_))))
   refine tri_v (opv_quoE rfl rfl (by omega) (by omega) (by omega)) rfl ?_
   refine tri_v (opv_mul rfl rfl (w64 (by omega) (by omega))) rfl ?_
   refine tM rfl rfl ?_
   refine tri_v (opv_remE rfl rfl (by omega) (by omega)) rfl ?_
   refine yU rfl rfl ?_
   refine tA rfl rfl (tN (tT (tS ?_)))
   refine tri_draw [0, 1, 2, 3, 4, 5, 6, 7, 8, 9, 10, 11, 12, 13, 14, 15, 16, 17, 18, 19, 20, 21, 22, 23, 24, 25, 26, 27, 28, 29, 30, 31, 32, 33, 34, 35, 36, 37, 38] rfl [_, _, _] rfl mixed ?_
   refine yM rfl rfl (yn rfl rfl (yf rfl rfl (yf rfl rfl ?_)))
   refine yl rfl rfl rfl ?_
   refine yM rfl rfl (yM rfl rfl (yn rfl rfl (yf rfl rfl ?_)))
   refine th_take rfl rfl (by kernel_rfl)  (opv_indexAddrA rfl rfl (by decide) (by decide)) ?_
   refine yl rfl rfl rfl ?_
   refine yM rfl rfl (yM rfl rfl ?_)
   refine th_take rfl rfl (by kernel_rfl)  (opv_add rfl rfl (w64 (by omega) (by omega))) ?_
   refine yn rfl rfl (yf rfl rfl ?_)
   refine th_take rfl rfl (by kernel_rfl)  (opv_indexAddrA rfl rfl (by decide) (by decide)) ?_
   refine yl rfl rfl rfl ?_
   refine yM rfl rfl (yM rfl rfl ?_)
   refine th_take rfl rfl (by kernel_rfl)  (opv_add rfl rfl (w64 (by omega) (by omega))) ?_
   refine yn rfl rfl (yf rfl rfl ?_)
   refine th_take rfl rfl (by kernel_rfl)  (opv_indexAddrA rfl rfl (by decide) (by decide)) ?_
   refine yl rfl rfl rfl ?_
   refine yM rfl rfl (yM rfl rfl ?_)
   refine th_take rfl rfl (by kernel_rfl)  (opv_add rfl rfl (w64 (by omega) (by omega))) ?_
   refine yn rfl rfl (yf rfl rfl ?_)
   refine th_take rfl rfl (by kernel_rfl)  (opv_indexAddrA rfl rfl (by decide) (by decide)) ?_
   refine yl rfl rfl rfl ?_
   refine th_take rfl rfl (by kernel_rfl)  (opv_buildA rfl rfl) ?_
   refine th_one (by kernel_rfl) (step_m rfl rfl (opg_call (xs := [_, _]) rfl (node_putR (q0 := t.r1) (q1 := t.r2) (q2 := t.r4) (q3 := t.r5) g0.1 g0.2 hi0 hp1)) ?_)
   rintro _ _ _ ⟨b201, c1, es1, rfl, rfl, hi1, rfl⟩
   refine ⟨Suf.h, (fun _ h => h), ?_⟩
   refine yM rfl rfl (yE rfl rfl rfl (yE rfl rfl rfl (yA rfl rfl (yA rfl rfl (yD (tT (tS ?_)))))))
   refine tS (tR (tM rfl rfl ?_))
   refine tri_v (opv_neq rfl rfl) rfl ?_
   refine tN (tT ?_)
   refine tri_cond_dec rfl (fun x1 => ?_) (fun x1 => ?_)
   ·rw [if_pos x1]
    refine tS (tR (tM rfl rfl (tA rfl rfl (tN (tT (tri_ret (tri_then_ret ?_)))))))
    refine tri_inBlock_ret (tri_then_ret (tri_then_ret (tri_inBlock_ret (tri_then_ret ?_))))
    refine tri_perm (A := ?a11_0 :: ?a11_1 :: ?a11_2 :: ?a11_3 :: ?a11_4 :: ?a11_5 :: ?a11_6 :: ?a11_7 :: ?a11_8 :: ?a11_9 :: ?a11_10 :: ?T11) (B := ?a11_3 :: ?a11_4 :: ?a11_0 :: ?a11_1 :: ?a11_2 :: ?a11_5 :: ?a11_6 :: ?a11_7 :: ?a11_8 :: ?a11_9 :: ?a11_10 :: ?T11) (by exact permL [3, 4, 0, 1, 2, 5, 6, 7, 8, 9, 10] [?a11_0, ?a11_1, ?a11_2, ?a11_3, ?a11_4, ?a11_5, ?a11_6, ?a11_7, ?a11_8, ?a11_9, ?a11_10] ?T11 (by decide) rfl) ?_
    refine tri_starsRe (tri_starsPerm ht1'.symm ?_)
    refine tri_perm (A := ?a12_0 :: ?a12_1 :: ?a12_2 :: ?a12_3 :: ?a12_4 :: ?a12_5 :: ?a12_6 :: ?a12_7 :: ?a12_8 :: ?a12_9 :: ?T12) (B := ?a12_9 :: ?a12_1 :: ?a12_2 :: ?a12_3 :: ?a12_4 :: ?a12_5 :: ?a12_6 :: ?a12_7 :: ?a12_0 :: ?a12_8 :: ?T12) (by exact permL [9, 1, 2, 3, 4, 5, 6, 7, 0, 8] [?a12_0, ?a12_1, ?a12_2, ?a12_3, ?a12_4, ?a12_5, ?a12_6, ?a12_7, ?a12_8, ?a12_9] ?T12 (by decide) rfl) ?_
    refine tri_drop ?_
    refine tri_end _ (⟨[], rfl⟩) rfl (.cons (rv_tmp rfl) .nil) ⟨rfl, { h with a := b201, cap := c1, es := es1 }, { s with ns := p1.1 }, rfl, fun k => absurd k x1, fun _ h => h⟩
   ·rw [if_neg x1]
    refine tri_perm (A := ?a13_0 :: ?a13_1 :: ?a13_2 :: ?T13) (B := ?a13_0 :: ?a13_1 :: ?a13_2 :: ?T13) (by exact permL [0, 1, 2] [?a13_0, ?a13_1, ?a13_2] ?T13 (by decide) rfl) ?_
    refine tri_skip (tT (tR (tM rfl rfl (tM rfl rfl (tM rfl rfl ?_)))))
    refine tri_v (opv_indexAddrR rfl rfl (by omega) (by omega)) rfl ?_
    refine tri_g (opg_storeRX (p1.2.1 : Int) (xs := [p0.2.1, 0, 0, 0]) rfl rfl rfl (by simp) (by simp) rfl rfl rfl rfl) rfl ?_
    rintro _ _ _ ⟨rfl, rfl⟩
    skip
    refine tN (tri_inBlock (tT (tR ?_)))
    refine yU rfl rfl ?_
    refine tM rfl rfl (tN (tT (tri_round (tS (tR (yC rfl rfl (tN ?_)))))))
    refine tT (tS ?_)
    refine tri_cond_is rfl (by decide) ?_
    refine tri_skip (tT (tS (tri_block (tS (tR (tM rfl rfl (tA rfl rfl ?_)))))))
    refine tN (tT (tS (tR (tM rfl rfl ?_))))
    refine tri_v (opv_quoE rfl rfl (by omega) (by omega) (by omega)) rfl ?_
    refine tri_v (opv_mul rfl rfl (w64 (by omega) (by omega))) rfl ?_
    refine tM rfl rfl ?_
    refine tri_v (opv_remE rfl rfl (by omega) (by omega)) rfl ?_
    refine yU rfl rfl ?_
    refine tA rfl rfl (tN (tT (tS ?_)))
    refine tri_draw [0, 1, 2, 3, 4, 5, 6, 7, 8, 9, 10, 11, 12, 13, 14, 15, 16, 17, 18, 19, 20, 21, 22, 23, 24, 25, 26, 27, 28, 29, 30, 31, 32, 33, 34, 35, 36, 37, 38] rfl [_, _, _] rfl mixed ?_
    refine yM rfl rfl (yn rfl rfl (yf rfl rfl (yf rfl rfl ?_)))
    refine yl rfl rfl rfl ?_
    refine yM rfl rfl (yM rfl rfl (yn rfl rfl (yf rfl rfl ?_)))
    refine th_take rfl rfl (by kernel_rfl)  (opv_indexAddrA rfl rfl (by decide) (by decide)) ?_
    refine yl rfl rfl rfl ?_
    refine yM rfl rfl (yM rfl rfl ?_)
    refine th_take rfl rfl (by kernel_rfl)  (opv_add rfl rfl (w64 (by omega) (by omega))) ?_
    refine yn rfl rfl (yf rfl rfl ?_)
    refine th_take rfl rfl (by kernel_rfl)  (opv_indexAddrA rfl rfl (by decide) (by decide)) ?_
    refine yl rfl rfl rfl ?_
    refine yM rfl rfl (yM rfl rfl ?_)
    refine th_take rfl rfl (by kernel_rfl)  (opv_add rfl rfl (w64 (by omega) (by omega))) ?_
    refine yn rfl rfl (yf rfl rfl ?_)
    refine th_take rfl rfl (by kernel_rfl)  (opv_indexAddrA rfl rfl (by decide) (by decide)) ?_
    refine yl rfl rfl rfl ?_
    refine yM rfl rfl (yM rfl rfl ?_)
    refine th_take rfl rfl (by kernel_rfl)  (opv_add rfl rfl (w64 (by omega) (by omega))) ?_
    refine yn rfl rfl (yf rfl rfl ?_)
    refine th_take rfl rfl (by kernel_rfl)  (opv_indexAddrA rfl rfl (by decide) (by decide)) ?_
    refine yl rfl rfl rfl ?_
    refine th_take rfl rfl (by kernel_rfl)  (opv_buildA rfl rfl) ?_
    refine th_one (by kernel_rfl) (step_m rfl rfl (opg_call (xs := [_, _]) rfl (node_putR (q0 := t.r3) (q1 := t.r4) (q2 := t.r6) (q3 := t.r7) g1.1 g1.2 hi1 hp2)) ?_)
    rintro _ _ _ ⟨b202, c2, es2, rfl, rfl, hi2, rfl⟩
    refine ⟨Suf.h, (fun _ h => h), ?_⟩
    refine yM rfl rfl (yE rfl rfl rfl (yE rfl rfl rfl (yA rfl rfl (yA rfl rfl (yD (tT (tS ?_)))))))
    refine tS (tR (tM rfl rfl ?_))
    refine tri_v (opv_neq rfl rfl) rfl ?_
    refine tN (tT ?_)
    refine tri_cond_dec rfl (fun x2 => ?_) (fun x2 => ?_)
    ·rw [if_pos x2]
     refine tS (tR (tM rfl rfl (tA rfl rfl (tN (tT (tri_ret (tri_then_ret ?_)))))))
     refine tri_inBlock_ret (tri_then_ret (tri_then_ret (tri_inBlock_ret (tri_then_ret ?_))))
     refine tri_perm (A := ?a14_0 :: ?a14_1 :: ?a14_2 :: ?a14_3 :: ?a14_4 :: ?a14_5 :: ?a14_6 :: ?a14_7 :: ?a14_8 :: ?a14_9 :: ?a14_10 :: ?T14) (B := ?a14_3 :: ?a14_4 :: ?a14_0 :: ?a14_1 :: ?a14_2 :: ?a14_5 :: ?a14_6 :: ?a14_7 :: ?a14_8 :: ?a14_9 :: ?a14_10 :: ?T14) (by exact permL [3, 4, 0, 1, 2, 5, 6, 7, 8, 9, 10] [?a14_0, ?a14_1, ?a14_2, ?a14_3, ?a14_4, ?a14_5, ?a14_6, ?a14_7, ?a14_8, ?a14_9, ?a14_10] ?T14 (by decide) rfl) ?_
     refine tri_starsRe (tri_starsPerm ht1'.symm ?_)
     refine tri_perm (A := ?a15_0 :: ?a15_1 :: ?a15_2 :: ?a15_3 :: ?a15_4 :: ?a15_5 :: ?a15_6 :: ?a15_7 :: ?a15_8 :: ?a15_9 :: ?T15) (B := ?a15_9 :: ?a15_1 :: ?a15_2 :: ?a15_3 :: ?a15_4 :: ?a15_5 :: ?a15_6 :: ?a15_7 :: ?a15_0 :: ?a15_8 :: ?T15) (by exact permL [9, 1, 2, 3, 4, 5, 6, 7, 0, 8] [?a15_0, ?a15_1, ?a15_2, ?a15_3, ?a15_4, ?a15_5, ?a15_6, ?a15_7, ?a15_8, ?a15_9] ?T15 (by decide) rfl) ?_
     refine tri_drop ?_
     refine tri_end _ (⟨[], rfl⟩) rfl (.cons (rv_tmp rfl) .nil) ⟨rfl, { h with a := b202, cap := c2, es := es2 }, { s with ns := p2.1 }, rfl, fun k => absurd k x2, fun _ h => h⟩
    ·rw [if_neg x2]
     refine tri_perm (A := ?a16_0 :: ?a16_1 :: ?a16_2 :: ?T16) (B := ?a16_0 :: ?a16_1 :: ?a16_2 :: ?T16) (by exact permL [0, 1, 2] [?a16_0, ?a16_1, ?a16_2] ?T16 (by decide) rfl) ?_
     refine tri_skip (tT (tR (tM rfl rfl (tM rfl rfl (tM rfl rfl ?_)))))
     refine tri_v (opv_indexAddrR rfl rfl (by omega) (by omega)) rfl ?_
     refine tri_g (opg_storeRX (p2.2.1 : Int) (xs := [p0.2.1, p1.2.1, 0, 0]) rfl rfl rfl (by simp) (by simp) rfl rfl rfl rfl) rfl ?_
     rintro _ _ _ ⟨rfl, rfl⟩
     skip
     refine tN (tri_inBlock (tT (tR ?_)))
     refine yU rfl rfl ?_
     refine tM rfl rfl (tN (tT (tri_round (tS (tR (yC rfl rfl (tN ?_)))))))
     refine tT (tS ?_)
     refine tri_cond_is rfl (by decide) ?_
     refine tri_skip (tT (tS (tri_block (tS (tR (tM rfl rfl (tA rfl rfl ?_)))))))
     refine tN (tT (tS (tR (tM rfl rfl ?_))))
     refine tri_v (opv_quoE rfl rfl (by omega) (by omega) (by omega)) rfl ?_
     refine tri_v (opv_mul rfl rfl (w64 (by omega) (by omega))) rfl ?_
     refine tM rfl rfl ?_
     refine tri_v (opv_remE rfl rfl (by omega) (by omega)) rfl ?_
     refine yU rfl rfl ?_
     refine tA rfl rfl (tN (tT (tS ?_)))
     refine tri_draw [0, 1, 2, 3, 4, 5, 6, 7, 8, 9, 10, 11, 12, 13, 14, 15, 16, 17, 18, 19, 20, 21, 22, 23, 24, 25, 26, 27, 28, 29, 30, 31, 32, 33, 34, 35, 36, 37, 38] rfl [_, _, _] rfl mixed ?_
     refine yM rfl rfl (yn rfl rfl (yf rfl rfl (yf rfl rfl ?_)))
     refine yl rfl rfl rfl ?_
     refine yM rfl rfl (yM rfl rfl (yn rfl rfl (yf rfl rfl ?_)))
     refine th_take rfl rfl (by kernel_rfl)  (opv_indexAddrA rfl rfl (by decide) (by decide)) ?_
     refine yl rfl rfl rfl ?_
     refine yM rfl rfl (yM rfl rfl ?_)
     refine th_take rfl rfl (by kernel_rfl)  (opv_add rfl rfl (w64 (by omega) (by omega))) ?_
     refine yn rfl rfl (yf rfl rfl ?_)
     refine th_take rfl rfl (by kernel_rfl)  (opv_indexAddrA rfl rfl (by decide) (by decide)) ?_
     refine yl rfl rfl rfl ?_
     refine yM rfl rfl (yM rfl rfl ?_)
     refine th_take rfl rfl (by kernel_rfl)  (opv_add rfl rfl (w64 (by omega) (by omega))) ?_
     refine yn rfl rfl (yf rfl rfl ?_)
     refine th_take rfl rfl (by kernel_rfl)  (opv_indexAddrA rfl rfl (by decide) (by decide)) ?_
     refine yl rfl rfl rfl ?_
     refine yM rfl rfl (yM rfl rfl ?_)
     refine th_take rfl rfl (by kernel_rfl)  (opv_add rfl rfl (w64 (by omega) (by omega))) ?_
     refine yn rfl rfl (yf rfl rfl ?_)
     refine th_take rfl rfl (by kernel_rfl)  (opv_indexAddrA rfl rfl (by decide) (by decide)) ?_
     refine yl rfl rfl rfl ?_
     refine th_take rfl rfl (by kernel_rfl)  (opv_buildA rfl rfl) ?_
     refine th_one (by kernel_rfl) (step_m rfl rfl (opg_call (xs := [_, _]) rfl (node_putR (q0 := t.r4) (q1 := t.r5) (q2 := t.r7) (q3 := t.r8) g2.1 g2.2 hi2 hp3)) ?_)
     rintro _ _ _ ⟨b203, c3, es3, rfl, rfl, hi3, rfl⟩
     refine ⟨Suf.h, (fun _ h => h), ?_⟩
     refine yM rfl rfl (yE rfl rfl rfl (yE rfl rfl rfl (yA rfl rfl (yA rfl rfl (yD (tT (tS ?_)))))))
     refine tS (tR (tM rfl rfl ?_))
     refine tri_v (opv_neq rfl rfl) rfl ?_
     refine tN (tT ?_)
     refine tri_cond_dec rfl (fun x3 => ?_) (fun x3 => ?_)
     ·rw [if_pos x3]
      refine tS (tR (tM rfl rfl (tA rfl rfl (tN (tT (tri_ret (tri_then_ret ?_)))))))
      refine tri_inBlock_ret (tri_then_ret (tri_then_ret (tri_inBlock_ret (tri_then_ret ?_))))
      refine tri_perm (A := ?a17_0 :: ?a17_1 :: ?a17_2 :: ?a17_3 :: ?a17_4 :: ?a17_5 :: ?a17_6 :: ?a17_7 :: ?a17_8 :: ?a17_9 :: ?a17_10 :: ?T17) (B := ?a17_3 :: ?a17_4 :: ?a17_0 :: ?a17_1 :: ?a17_2 :: ?a17_5 :: ?a17_6 :: ?a17_7 :: ?a17_8 :: ?a17_9 :: ?a17_10 :: ?T17) (by exact permL [3, 4, 0, 1, 2, 5, 6, 7, 8, 9, 10] [?a17_0, ?a17_1, ?a17_2, ?a17_3, ?a17_4, ?a17_5, ?a17_6, ?a17_7, ?a17_8, ?a17_9, ?a17_10] ?T17 (by decide) rfl) ?_
      refine tri_starsRe (tri_starsPerm ht1'.symm ?_)
      refine tri_perm (A := ?a18_0 :: ?a18_1 :: ?a18_2 :: ?a18_3 :: ?a18_4 :: ?a18_5 :: ?a18_6 :: ?a18_7 :: ?a18_8 :: ?a18_9 :: ?T18) (B := ?a18_9 :: ?a18_1 :: ?a18_2 :: ?a18_3 :: ?a18_4 :: ?a18_5 :: ?a18_6 :: ?a18_7 :: ?a18_0 :: ?a18_8 :: ?T18) (by exact permL [9, 1, 2, 3, 4, 5, 6, 7, 0, 8] [?a18_0, ?a18_1, ?a18_2, ?a18_3, ?a18_4, ?a18_5, ?a18_6, ?a18_7, ?a18_8, ?a18_9] ?T18 (by decide) rfl) ?_
      refine tri_drop ?_
      refine tri_end _ (⟨[], rfl⟩) rfl (.cons (rv_tmp rfl) .nil) ⟨rfl, { h with a := b203, cap := c3, es := es3 }, { s with ns := p3.1 }, rfl, fun k => absurd k x3, fun _ h => h⟩
     ·rw [if_neg x3]
      refine tri_perm (A := ?a19_0 :: ?a19_1 :: ?a19_2 :: ?T19) (B := ?a19_0 :: ?a19_1 :: ?a19_2 :: ?T19) (by exact permL [0, 1, 2] [?a19_0, ?a19_1, ?a19_2] ?T19 (by decide) rfl) ?_
      refine tri_skip (tT (tR (tM rfl rfl (tM rfl rfl (tM rfl rfl ?_)))))
      refine tri_v (opv_indexAddrR rfl rfl (by omega) (by omega)) rfl ?_
      refine tri_g (opg_storeRX (p3.2.1 : Int) (xs := [p0.2.1, p1.2.1, p2.2.1, 0]) rfl rfl rfl (by simp) (by simp) rfl rfl rfl rfl) rfl ?_
      rintro _ _ _ ⟨rfl, rfl⟩
      refine tN (tri_inBlock (tT (tR ?_)))
      refine yU rfl rfl ?_
      refine tM rfl rfl (tN (tT (tri_round (tS (tR (yC rfl rfl (tN ?_)))))))
      refine tT (tS ?_)
      refine tri_cond_not rfl (by decide) ?_
      refine tri_exit ?_
      refine tri_then_exit (tri_then_exit ?_)
      refine tri_inBlock_hit rfl ?_
      refine tT (tS (tR (tM rfl rfl (tM rfl rfl (tM rfl rfl (tM rfl rfl (tM rfl rfl ?_)))))))
      refine tri_perm (A := ?a20_0 :: ?a20_1 :: ?a20_2 :: ?a20_3 :: ?a20_4 :: ?a20_5 :: ?a20_6 :: ?a20_7 :: ?a20_8 :: ?a20_9 :: ?a20_10 :: ?T20) (B := ?a20_3 :: ?a20_4 :: ?a20_0 :: ?a20_1 :: ?a20_2 :: ?a20_5 :: ?a20_6 :: ?a20_7 :: ?a20_8 :: ?a20_9 :: ?a20_10 :: ?T20) (by exact permL [3, 4, 0, 1, 2, 5, 6, 7, 8, 9, 10] [?a20_0, ?a20_1, ?a20_2, ?a20_3, ?a20_4, ?a20_5, ?a20_6, ?a20_7, ?a20_8, ?a20_9, ?a20_10] ?T20 (by decide) rfl) ?_
      refine tri_starsRe (tri_starsPerm ht1'.symm ?_)
      refine tri_perm (A := ?a21_0 :: ?a21_1 :: ?a21_2 :: ?a21_3 :: ?a21_4 :: ?a21_5 :: ?a21_6 :: ?a21_7 :: ?a21_8 :: ?a21_9 :: ?T21) (B := ?a21_9 :: ?a21_1 :: ?a21_2 :: ?a21_3 :: ?a21_4 :: ?a21_5 :: ?a21_6 :: ?a21_7 :: ?a21_0 :: ?a21_8 :: ?T21) (by exact permL [9, 1, 2, 3, 4, 5, 6, 7, 0, 8] [?a21_0, ?a21_1, ?a21_2, ?a21_3, ?a21_4, ?a21_5, ?a21_6, ?a21_7, ?a21_8, ?a21_9] ?T21 (by decide) rfl) ?_
      refine tri_rowEq (len' := 4) (cells' := encs ([p0.2.1, p1.2.1, p2.2.1, p3.2.1] : List Int)) rfl rfl ?_
      refine tri_freezeRow (α := Int) rfl fun I1 hI1 hs1 => ?_
      have ok1 : CwOk { h with a := b203, cap := c3, es := es3 } { s with ns := p3.1 } := ⟨hi3, ok.mem, ok.bl, ok.sl, ok.len⟩
      refine tri_g (opg_call (xs := [_, _, _, _, _]) rfl (crew_wait (l := [p0.2.1, p1.2.1, p2.2.1, p3.2.1]) (j := j) (h := { h with a := b203, cap := c3, es := es3 }) (s := { s with ns := p3.1 }) (w := w) (i := i) ok1 hw.lt hi ht.len hw.len hs1 (by simp))) rfl ?_
      rintro _ _ I2 ⟨h3, ok3, rfl, hI2⟩
      refine tN (tT (tS (tR (tA rfl rfl (tN (tT (tri_ret ?_)))))))
      refine tri_end _ (⟨[], rfl⟩) rfl (.cons (rv_tmp rfl) .nil) ⟨rfl, h3, _, rfl, fun _ => ⟨rfl, ok3⟩, fun _ h => hI2 (hI1 h)⟩
end Go.GL


namespace Go.GL
open Go.Proofs
namespace R21
open R6
/-- What a put that is carried out comes to. -/
theorem put_in {ns : List Node} {room : Int} (h : R6.right ns room) {q0 q1 q2 q3 : Int} {p : List Node × Int × Int} (hp : R6.put ns room q0 q1 q2 q3 = p) (he : p.2.2 = 0) : R6.right p.1 room ∧ ns <+: p.1 ∧ R6.inS p.1 p.2.1 ∧ 1 ≤ (nd p.1 p.2.1).lv := by
 subst hp
 have hw := (right_iff.1 h).2
 obtain ⟨hr, hpre⟩ := R9.right_put h q0 q1 q2 q3
 have hf : fit4 ns q0 q1 q2 q3 := Decidable.byContradiction fun hf => by
  unfold R6.put at he; rw [if_neg hf] at he; cases he
 have hr' : 0 ≤ R6.at_ ns [q0, q1, q2, q3] ∨ (ns.length : Int) < room := Decidable.byContradiction fun hr => by
  unfold R6.put at he
  rw [if_pos hf, if_neg (by omega), if_pos (by omega)] at he
  cases he
 obtain ⟨ms, m, e, ok⟩ := put_ok hw hf hr'
 rw [e] at hr hpre ⊢
 refine ⟨hr, hpre, ok.mem, ?_⟩
 show 1 ≤ (nd ms m).lv
 rw [ok.lv]
 have := (hw.lvb hf.1).1
 omega
/-- Nodes that a task may speak of. -/
def In1 (ns : List Node) (n : Int) : Prop := R6.inS ns n ∧ 1 ≤ (nd ns n).lv
theorem In1.pre {ns ms : List Node} (hp : ns <+: ms) {n : Int} (h : In1 ns n) : In1 ms n := ⟨R6.inS_pre hp h.1, by rw [R6.nd_pre hp h.1]; exact h.2⟩
theorem In1.kid {ns : List Node} {room n : Int} (h : R6.right ns room) (hn : In1 ns n) : R8.Kid ns n := h.kids hn.1 hn.2
theorem all_in {ns : List Node} {room n : Int} (h : R6.right ns room) {q : R8.R9} (hq : R8.all ns room n = q) (he : q.2.2 = 0) : R6.right q.1 room ∧ ns <+: q.1 ∧ q.2.1.length = 9 ∧ ∀ x ∈ q.2.1, In1 q.1 x := by
 obtain ⟨p0, e0⟩ : ∃ p, R8.putSq ns room (R8.s16 ns n) 0 0 = p := ⟨_, rfl⟩
 obtain ⟨p1, e1⟩ : ∃ p, R8.putSq p0.1 room (R8.s16 ns n) 0 1 = p := ⟨_, rfl⟩
 obtain ⟨p2, e2⟩ : ∃ p, R8.putSq p1.1 room (R8.s16 ns n) 0 2 = p := ⟨_, rfl⟩
 obtain ⟨p3, e3⟩ : ∃ p, R8.putSq p2.1 room (R8.s16 ns n) 1 0 = p := ⟨_, rfl⟩
 obtain ⟨p4, e4⟩ : ∃ p, R8.putSq p3.1 room (R8.s16 ns n) 1 1 = p := ⟨_, rfl⟩
 obtain ⟨p5, e5⟩ : ∃ p, R8.putSq p4.1 room (R8.s16 ns n) 1 2 = p := ⟨_, rfl⟩
 obtain ⟨p6, e6⟩ : ∃ p, R8.putSq p5.1 room (R8.s16 ns n) 2 0 = p := ⟨_, rfl⟩
 obtain ⟨p7, e7⟩ : ∃ p, R8.putSq p6.1 room (R8.s16 ns n) 2 1 = p := ⟨_, rfl⟩
 obtain ⟨p8, e8⟩ : ∃ p, R8.putSq p7.1 room (R8.s16 ns n) 2 2 = p := ⟨_, rfl⟩
 have key := R8.all_eq e0 e1 e2 e3 e4 e5 e6 e7 e8
 rw [hq] at key
 have hz : p0.2.2 = 0 ∧ p1.2.2 = 0 ∧ p2.2.2 = 0 ∧ p3.2.2 = 0 ∧ p4.2.2 = 0 ∧ p5.2.2 = 0 ∧ p6.2.2 = 0 ∧ p7.2.2 = 0 ∧ p8.2.2 = 0 ∧ q = (p8.1, [p0.2.1, p1.2.1, p2.2.1, p3.2.1, p4.2.1, p5.2.1, p6.2.1, p7.2.1, p8.2.1], 0) := by
  repeat' split at key
  all_goals first
   | (exfalso; rename_i x; rw [key] at he; exact x he)
   | (rename_i x; simp only [ne_eq, Decidable.not_not] at *; refine ⟨by assumption, by assumption, by assumption, by assumption, by assumption, by assumption, by assumption, by assumption, by assumption, key⟩)
 obtain ⟨z0, z1, z2, z3, z4, z5, z6, z7, z8, hq8⟩ := hz
 obtain ⟨r0, k0, i0, l0⟩ := put_in h e0 z0
 obtain ⟨r1, k1, i1, l1⟩ := put_in r0 e1 z1
 obtain ⟨r2, k2, i2, l2⟩ := put_in r1 e2 z2
 obtain ⟨r3, k3, i3, l3⟩ := put_in r2 e3 z3
 obtain ⟨r4, k4, i4, l4⟩ := put_in r3 e4 z4
 obtain ⟨r5, k5, i5, l5⟩ := put_in r4 e5 z5
 obtain ⟨r6, k6, i6, l6⟩ := put_in r5 e6 z6
 obtain ⟨r7, k7, i7, l7⟩ := put_in r6 e7 z7
 obtain ⟨r8, k8, i8, l8⟩ := put_in r7 e8 z8
 rw [hq8]
 refine ⟨r8, k0.trans (k1.trans (k2.trans (k3.trans (k4.trans (k5.trans (k6.trans (k7.trans k8))))))), rfl, fun x hx => ?_⟩
 simp only [List.mem_cons, List.not_mem_nil, or_false] at hx
 have j7 := k8
 have j6 := k7.trans j7
 have j5 := k6.trans j6
 have j4 := k5.trans j5
 have j3 := k4.trans j4
 have j2 := k3.trans j3
 have j1 := k2.trans j2
 have j0 := k1.trans j1
 rcases hx with rfl | rfl | rfl | rfl | rfl | rfl | rfl | rfl | rfl
 ·exact In1.pre j0 ⟨i0, l0⟩
 ·exact In1.pre j1 ⟨i1, l1⟩
 ·exact In1.pre j2 ⟨i2, l2⟩
 ·exact In1.pre j3 ⟨i3, l3⟩
 ·exact In1.pre j4 ⟨i4, l4⟩
 ·exact In1.pre j5 ⟨i5, l5⟩
 ·exact In1.pre j6 ⟨i6, l6⟩
 ·exact In1.pre j7 ⟨i7, l7⟩
 ·exact ⟨i8, l8⟩
theorem setR_of (t : Tk) (p v : Int) : (setR t p v).of_ = t.of_ ∧ (setR t p v).pl = t.pl ∧ (setR t p v).n = t.n ∧ (setR t p v).j = t.j ∧ (setR t p v).wt = t.wt ∧ (setR t p v).lf = t.lf := by
 unfold setR
 repeat' split
 all_goals exact ⟨rfl, rfl, rfl, rfl, rfl, rfl⟩
theorem mids_step {room : Int} {i k : Nat} {l : List Int} {s : Ms} (h : k < l.length) {p : List Node × Int × Int} (hp : R8.putSq s.ns room (R8.s16 s.ns (l.getD k default)) 1 1 = p) : mids room i k (l.drop k) s = if p.2.2 ≠ 0 then (s, p.2.2) else mids room i (k + 1) (l.drop (k + 1)) { s with ns := p.1, ts := s.ts.set i (setR (s.ts.getD i default) k p.2.1) } := by
 subst hp
 rw [List.drop_eq_getElem_cons h]
 rw [show l[k] = l.getD k default by simp [h]]
 rfl
end R21
theorem St.starsRe {w0 w : World} {a : Asrt} {M A : List Asrt} {I : List Chunk} (h : St w0 w (a :: Stars M :: A) I) : St w0 w (Stars (a :: M) :: A) I := by
 obtain ⟨cs, h1, h2⟩ := h
 obtain ⟨c, cs', rfl, h3, h4⟩ := h1.cons_inv
 exact ⟨_, Seps.stars.2 (.cons h3 (Seps.stars.1 h4)), h2⟩
theorem St.starsPerm {w0 w : World} {L M A : List Asrt} {I : List Chunk} (hp : L.Perm M) (h : St w0 w (Stars L :: A) I) : St w0 w (Stars M :: A) I := by
 obtain ⟨cs, h1, h2⟩ := h
 obtain ⟨cs2, h7, h8⟩ := (Seps.stars.1 h1).perm (hp.append_right A)
 exact ⟨cs2, Seps.stars.2 h7, h2.perm (h8.append_right I)⟩
theorem FnC.tkIn {P : Program} {f : FuncId} {args : Array Value} {a X0 X1 X2 X3 X4 X5 X6 S : Asrt} {R L A : List Asrt} {I : List Chunk} {Q : Value → List Asrt → List Chunk → Prop} (hp : L.Perm (a :: R)) (h : FnC P f args (X0 :: X1 :: X2 :: X3 :: X4 :: X5 :: X6 :: Stars L :: S :: A) I Q) : FnC P f args (a :: Stars R :: X0 :: X1 :: X2 :: X3 :: X4 :: X5 :: X6 :: S :: A) I Q :=
 fun w0 w hs => h w0 w ((St.starsPerm hp.symm hs.starsRe).perm (List.perm_middle (l₁ := [X0, X1, X2, X3, X4, X5, X6])).symm)
theorem maker_nineQ {A : List Asrt} {I : List Chunk} {ns : List Node} {a : Option Addr} {cap bx mb : Nat} {room n : Int} {es : KVs} {Q : R8.R9} (hg : R6.Good ns room) (h2 : 2 ≤ ns.length) (hi : Idx ns es) (hk : R8.Kid ns n) (hQ : R8.all ns room n = Q) :
  FnC Try.prog 84 [.agg [pt bx 0].toArray, .int .i64 n].toArray (IxA bx mb a cap ns room es A) I (IxR9 bx mb Q room A I) := by
 subst hQ
 exact maker_nine hg h2 hi hk
theorem maker_centreQ {A : List Asrt} {I : List Chunk} {ns : List Node} {a : Option Addr} {cap bx mb : Nat} {room n : Int} {es : KVs} {p : List Node × Int × Int} (hg : R6.Good ns room) (h2 : 2 ≤ ns.length) (hi : Idx ns es) (hk : R8.Kid ns n) (hp : R8.putSq ns room (R8.s16 ns n) 1 1 = p) :
  FnC Try.prog 87 [.agg [pt bx 0].toArray, .int .i64 n].toArray (IxA bx mb a cap ns room es A) I (IxR bx mb p room A I) := by
 subst hp
 exact maker_centre hg h2 hi hk
theorem perm3 {X X0 X1 X2 : Asrt} {A : List Asrt} : (X0 :: X1 :: X2 :: X :: A).Perm (X :: X0 :: X1 :: X2 :: A) := List.perm_middle (l₁ := [X0, X1, X2])
theorem maker_nineX {X : Asrt} {A : List Asrt} {I : List Chunk} {ns : List Node} {a : Option Addr} {cap bx mb : Nat} {room n : Int} {es : KVs} {Q : R8.R9} (hg : R6.Good ns room) (h2 : 2 ≤ ns.length) (hi : Idx ns es) (hk : R8.Kid ns n) (hQ : R8.all ns room n = Q) :
  FnC Try.prog 84 [.agg [pt bx 0].toArray, .int .i64 n].toArray (X :: IxA bx mb a cap ns room es A) I (IxR9 bx mb Q room (X :: A) I) :=
 FnC.perm (maker_nineQ hg h2 hi hk hQ) perm3.symm
theorem TkOk.setR {ts : List Tk} {i : Nat} (h : TkOk ts i) (p v : Int) : TkOk (ts.set i (R21.setR (ts.getD i default) p v)) i := by
 have e : (ts.set i (R21.setR (ts.getD i default) p v)).getD i default = R21.setR (ts.getD i default) p v := by rw [getD_set7 h.lt, if_pos rfl]
 obtain ⟨e1, e2, _⟩ := R21.setR_of (ts.getD i default) p v
 refine ⟨by rw [List.length_set]; exact h.lt, by rw [List.length_set]; exact h.len, ?_, ?_⟩
 ·rw [e, e1, List.length_set]; exact h.of_
 ·rw [e, e2]; exact h.pl
/-- The middles so far. -/
structure MidInv (room : Int) (i : Nat) (l : List Int) (bs : List Blk) (D : List (List Int)) (N : Nat) (M : R21.Ms × Int) (ns : List Node) (k : Nat) (h : Hp) (s : R21.Ms) : Prop where
 k9 : k ≤ 9
 ok : CwOk h s
 bs : h.bs = bs
 right : R6.right s.ns room
 pre : ns <+: s.ns
 dq : s.D = D
 ts : s.ts.length = N
 tk : TkOk s.ts i
 in1 : R21.In1 s.ns (s.ts.getD i default).n
 eq : M = R21.mids room i k (l.drop k) s
attribute [local irreducible] wpList Code.wp Exit.then Exit.inBlock Ends Tri TriH OpV OpG FnC epf wpAnyH
variable {A : List Asrt} {I : List Chunk}
set_option maxHeartbeats 8000000 in
set_option maxRecDepth 100000 in
theorem crew_begin {bc bx mb db bq cd w i : Nat} {room : Int} {h : Hp} {s : R21.Ms} (ok : CwOk h s) (hw : DqOk s.D w) (ht : TkOk s.ts i) (hr : R6.right s.ns room) (hin : R21.In1 s.ns (s.ts.getD i default).n) :
  FnC Try.prog 73 [pt bc 0, .int .i64 (w : Nat), .int .i64 (i : Nat)].toArray (CwA bc bx mb db (some ⟨bq, 0, none⟩) cd room h s A) I (CwE bc bx mb db bq cd room (R21.begin_ room s w i) A I) := by
 have hi := ht.lt
 have hbl := ok.bl
 have hg : R6.Good s.ns room := hr.good (by have := hr.1.2.1; omega)
 have h2 : 2 ≤ s.ns.length := hr.1.2.2.1
 have hkid := hin.kid hr
 obtain ⟨Rt, ht1, ht2⟩ := tk_one (bs := h.bs) hi
 obtain ⟨t, htt⟩ : ∃ t, s.ts.getD i default = t := ⟨_, rfl⟩
 have ht1' := ht1
 unfold tkA at ht1'
 rw [htt] at hin hkid ht1'
 have hmf := ok.mem t.n t.j
 obtain ⟨⟨hn0, hn1⟩, hlv1⟩ := hin
 skip
 skip
 refine fn_enter3 Try.func73 rfl Try.ntmps73 rfl fun w0 => ?_
 refine tS ?_
 refine tri_perm perm7 ?_
 refine tri_starsPerm ht1' (tri_starsUn ?_)
 refine tR (tA rfl rfl (tN (tT (tS (tR (tM rfl rfl ?_))))))
 refine tri_v (opv_nilCheck rfl) rfl ?_
 refine yF rfl ?_
 refine yL rfl rfl ?_
 refine tM rfl rfl ?_
 refine tri_v (opv_indexAddrRN rfl rfl (by omega)) rfl ?_
 refine tri_v (opv_loadRX1 rfl rfl (by omega) rfl rfl) rfl ?_
 refine tA rfl rfl (tN (tT (tS (tS ?_))))
 refine tri_draw [0, 1, 2, 3, 4, 5, 6, 7, 8, 9, 10, 11, 12, 13] rfl [] rfl mixed ?_
 refine yM rfl rfl (yn rfl rfl (yf rfl rfl ?_))
 refine yl rfl rfl rfl ?_
 refine yM rfl rfl (yn rfl rfl (yf rfl rfl ?_))
 refine th_take rfl rfl (by kernel_rfl)  (opv_loadA rfl rfl rfl) ?_
 refine th_take rfl rfl (by kernel_rfl)  (opv_lookup2 (P := Try.prog) (ks := [t.n, t.j]) zeroInt rfl rfl (keyLeap t.n t.j) keyLeapAt rfl) ?_
 refine yM rfl rfl (yE rfl rfl rfl (yE rfl rfl rfl (yA rfl rfl (yA rfl rfl (yD (tT (tS ?_)))))))
 refine tR (tM rfl rfl (tN (tT ?_)))
 obtain ⟨o, ho⟩ : ∃ o, R9.look9 s.kp t.n t.j = o := ⟨_, rfl⟩
 rw [ho] at hmf
 rcases o with _ | to
 ·have eb : R21.begin_ room s w i = if (R6.nd s.ns t.n).lv = 2 then (if (R8.one s.ns room t.n).2.2 ≠ 0 then (s, (R8.one s.ns room t.n).2.2) else (R21.tell { s with ns := (R8.one s.ns room t.n).1 } w i (R8.one s.ns room t.n).2.1, 0)) else
    (if (R8.all s.ns room t.n).2.2 ≠ 0 then (s, (R8.all s.ns room t.n).2.2) else if t.j = (R6.nd s.ns t.n).lv - 2 then (R21.wait { s with ns := (R8.all s.ns room t.n).1 } w i (IntKind.i64.wrap (t.j - 1)) (R8.all s.ns room t.n).2.1, 0) else
     (if (R21.mids room i 0 (R8.all s.ns room t.n).2.1 { s with ns := (R8.all s.ns room t.n).1 }).2 ≠ 0 then R21.mids room i 0 (R8.all s.ns room t.n).2.1 { s with ns := (R8.all s.ns room t.n).1 } else R21.join room (R21.mids room i 0 (R8.all s.ns room t.n).2.1 { s with ns := (R8.all s.ns room t.n).1 }).1 w i)) := by
   unfold R21.begin_
   dsimp only
   rw [htt, ho]
  rw [eb]
  clear eb
  refine tri_cond_false (congrArg (fun o => some (Value.bool (Option.isSome o))) hmf) ?_
  refine tri_skip (tT (tS (tS ?_)))
  refine tri_draw [0, 1, 2, 3, 4, 5, 6, 7, 8, 9, 10, 11, 12, 13, 14, 15, 16, 17] rfl [] rfl mixed ?_
  refine yM rfl rfl (yn rfl rfl (yf rfl rfl (yf rfl rfl ?_)))
  refine yl rfl rfl rfl ?_
  refine yn rfl rfl (yf rfl rfl (yf rfl rfl ?_))
  refine yl rfl rfl rfl ?_
  refine yM rfl rfl (yn rfl rfl (yf rfl rfl (yf rfl rfl ?_)))
  refine yl rfl rfl rfl ?_
  refine th_take rfl rfl (by kernel_rfl)  (opv_indexAddrR rfl rfl (by omega) (by omega)) ?_
  refine th_take rfl rfl (by kernel_rfl)  (opv_fieldAddrR rfl (by omega) rfl) ?_
  refine th_take rfl rfl (by kernel_rfl)  (opv_loadRX1 rfl rfl (by omega) rfl rfl) ?_
  refine th_take rfl rfl (by kernel_rfl)  (opv_eql rfl rfl) ?_
  refine yD (tT ?_)
  refine tri_cond_dec rfl (fun h3 => ?_) (fun h3 => ?_)
  ·have h3' : (R6.nd s.ns t.n).lv = 2 := h3
   rw [if_pos h3']
   refine tri_perm (A := ?a1_0 :: ?a1_1 :: ?a1_2 :: ?a1_3 :: ?a1_4 :: ?a1_5 :: ?a1_6 :: ?a1_7 :: ?a1_8 :: ?a1_9 :: ?T1) (B := ?a1_2 :: ?a1_3 :: ?a1_4 :: ?a1_0 :: ?a1_1 :: ?a1_5 :: ?a1_6 :: ?a1_7 :: ?a1_8 :: ?a1_9 :: ?T1) (by exact permL [2, 3, 4, 0, 1, 5, 6, 7, 8, 9] [?a1_0, ?a1_1, ?a1_2, ?a1_3, ?a1_4, ?a1_5, ?a1_6, ?a1_7, ?a1_8, ?a1_9] ?T1 (by decide) rfl) ?_
   skip
   refine tS ?_
   refine tri_draw [0, 1, 2, 3, 4, 5, 6, 7, 8, 9, 10, 11, 12, 13, 14] rfl [_, _, _] rfl mixed ?_
   refine yM rfl rfl (yn rfl rfl (yf rfl rfl ?_))
   refine th_take rfl rfl (by kernel_rfl)  (opv_loadA rfl rfl rfl) ?_
   refine yM rfl rfl (yn rfl rfl (yf rfl rfl (yf rfl rfl ?_)))
   refine yl rfl rfl rfl ?_
   refine th_one (by kernel_rfl) (step_m rfl rfl (opg_call (xs := [_, _]) rfl (maker_step hg h2 ok.idx hkid (hr.bits ⟨hn0, hn1⟩ h3'))) ?_)
   rintro _ _ _ ⟨a1, c1, es1, rfl, rfl, hi1, rfl⟩
   refine ⟨Suf.h, (fun _ h => h), ?_⟩
   generalize R8.one s.ns room t.n = p at *
   refine yM rfl rfl (yE rfl rfl rfl (yE rfl rfl rfl (yA rfl rfl (yA rfl rfl (yD (tT (tS ?_)))))))
   refine tS (tR (tM rfl rfl ?_))
   refine tri_v (opv_eql rfl rfl) rfl ?_
   refine tN (tT ?_)
   refine tri_perm (A := ?a2_0 :: ?a2_1 :: ?a2_2 :: ?T2) (B := ?a2_0 :: ?a2_1 :: ?a2_2 :: ?T2) (by exact permL [0, 1, 2] [?a2_0, ?a2_1, ?a2_2] ?T2 (by decide) rfl) ?_
   refine tri_perm (A := ?a3_0 :: ?a3_1 :: ?a3_2 :: ?a3_3 :: ?a3_4 :: ?a3_5 :: ?a3_6 :: ?a3_7 :: ?a3_8 :: ?a3_9 :: ?T3) (B := ?a3_3 :: ?a3_4 :: ?a3_0 :: ?a3_1 :: ?a3_2 :: ?a3_5 :: ?a3_6 :: ?a3_7 :: ?a3_8 :: ?a3_9 :: ?T3) (by exact permL [3, 4, 0, 1, 2, 5, 6, 7, 8, 9] [?a3_0, ?a3_1, ?a3_2, ?a3_3, ?a3_4, ?a3_5, ?a3_6, ?a3_7, ?a3_8, ?a3_9] ?T3 (by decide) rfl) ?_
   refine tri_starsRe (tri_starsPerm ht1'.symm ?_)
   refine tri_perm (A := ?a4_0 :: ?a4_1 :: ?a4_2 :: ?a4_3 :: ?a4_4 :: ?a4_5 :: ?a4_6 :: ?a4_7 :: ?a4_8 :: ?T4) (B := ?a4_1 :: ?a4_2 :: ?a4_3 :: ?a4_4 :: ?a4_5 :: ?a4_6 :: ?a4_7 :: ?a4_0 :: ?a4_8 :: ?T4) (by exact permL [1, 2, 3, 4, 5, 6, 7, 0, 8] [?a4_0, ?a4_1, ?a4_2, ?a4_3, ?a4_4, ?a4_5, ?a4_6, ?a4_7, ?a4_8] ?T4 (by decide) rfl) ?_
   have ok1 : CwOk { h with a := a1, cap := c1, es := es1 } { s with ns := p.1 } := ⟨hi1, ok.mem, ok.bl, ok.sl, ok.len⟩
   refine tri_cond_dec rfl (fun hc => ?_) (fun hc => ?_)
   ·rw [if_neg (by simpa using hc)]
    refine tR (tM rfl rfl (tM rfl rfl (tM rfl rfl (tM rfl rfl ?_))))
    refine tri_g (opg_call (xs := [_, _, _, _]) rfl (crew_tellR (h := { h with a := a1, cap := c1, es := es1 }) (s := { s with ns := p.1 }) (n := p.2.1) (i := i) ok1 hw ht rfl)) rfl ?_
    rintro _ _ I2 ⟨h3, ok3, rfl, hI2⟩
    refine tN (tT (tS (tR (tM rfl rfl (tA rfl rfl (tN (tT ?_)))))))
    refine tri_ret (tri_then_ret ?_)
    refine tri_end _ (⟨[], rfl⟩) rfl (.cons (rv_tmp rfl) .nil) ⟨by rw [hc]; rfl, h3, _, rfl, fun _ => ⟨rfl, ok3⟩, hI2⟩
   ·rw [if_pos hc]
    refine tri_skip (tT (tS (tR (tM rfl rfl (tA rfl rfl (tN (tT ?_)))))))
    refine tri_ret (tri_then_ret ?_)
    refine tri_end _ (⟨[], rfl⟩) rfl (.cons (rv_tmp rfl) .nil) ⟨rfl, { h with a := a1, cap := c1, es := es1 }, { s with ns := p.1 }, rfl, fun k => absurd k hc, fun _ h => h⟩
  ·have h3' : ¬ (R6.nd s.ns t.n).lv = 2 := h3
   rw [if_neg h3']
   obtain ⟨Q, hQ⟩ : ∃ Q, R8.all s.ns room t.n = Q := ⟨_, rfl⟩
   rw [hQ]
   refine tri_perm (A := ?a5_0 :: ?a5_1 :: ?a5_2 :: ?a5_3 :: ?a5_4 :: ?a5_5 :: ?a5_6 :: ?a5_7 :: ?a5_8 :: ?a5_9 :: ?T5) (B := ?a5_2 :: ?a5_3 :: ?a5_4 :: ?a5_0 :: ?a5_1 :: ?a5_5 :: ?a5_6 :: ?a5_7 :: ?a5_8 :: ?a5_9 :: ?T5) (by exact permL [2, 3, 4, 0, 1, 5, 6, 7, 8, 9] [?a5_0, ?a5_1, ?a5_2, ?a5_3, ?a5_4, ?a5_5, ?a5_6, ?a5_7, ?a5_8, ?a5_9] ?T5 (by decide) rfl) ?_
   refine tri_skip (tT (tS ?_))
   skip
   refine tri_cut (fun F' A' J => ∃ (b12 : Nat) (a1 : Option Addr) (c1 : Nat) (es1 : KVs) (ns1 : List Node) (q0 q1 q2 q3 q4 q5 q6 q7 q8 : Int), F' = [(0, pt bc 0), (1, .int .i64 (w : Nat)), (2, .int .i64 (i : Nat)), (7, pt (h.bs.getD i default).b 0), (12, pt b12 0), (13, .int .i64 Q.2.2)] ∧ A'.Perm (Box b12 [.int .i64 q0, .int .i64 q1, .int .i64 q2, .int .i64 q3, .int .i64 q4, .int .i64 q5, .int .i64 q6, .int .i64 q7, .int .i64 q8] 80 :: IxA bx mb a1 c1 ns1 room es1 (Box (h.bs.getD i default).b (Enc.enc t) 82 :: Stars Rt :: Box bc [pt bx 0, .slice h.at_ s.ts.length h.ct, .slice (some ⟨bq, 0, none⟩) s.D.length cd, .map (some db), .int .i64 s.node, .bool s.done] 76 :: Row h.at_ h.ct s.ts.length 113 1 (encs h.bs) :: Row (some ⟨bq, 0, none⟩) cd s.D.length 27 1 (encs h.ss) :: MapA Try.prog 79 db h.ds :: Stars (dqS h.ss s.D) :: A)) ∧ (Q.2.2 = 0 → ns1 = Q.1 ∧ Q.2.1 = [q0, q1, q2, q3, q4, q5, q6, q7, q8] ∧ Idx Q.1 es1) ∧ I = J) ?_ ?_
   ·refine tri_draw [0, 1, 2, 3, 4, 5, 6, 7, 8, 9, 10, 11, 12, 13, 14, 15] rfl [_, _, _] rfl mixed ?_
    refine yM rfl rfl (yn rfl rfl (yf rfl rfl ?_))
    refine th_take rfl rfl (by kernel_rfl)  (opv_loadA rfl rfl rfl) ?_
    refine yM rfl rfl (yn rfl rfl (yf rfl rfl (yf rfl rfl ?_)))
    refine yl rfl rfl rfl ?_
    refine th_two (j := 13) [9, 10, 11, 12, 14, 15] (by kernel_rfl) rfl ?_ ?_
    ·refine (step_m rfl rfl (opg_call (xs := [_, _]) rfl (maker_nineQ hg h2 ok.idx hkid hQ)) ?_)
     rintro _ _ _ ⟨a1, c1, es1, ns1, q0, q1, q2, q3, q4, q5, q6, q7, q8, rfl, rfl, hq9, rfl⟩
     refine ⟨Suf.h, (fun _ h => h), ?_⟩
     refine yM rfl rfl (yE rfl rfl rfl (yE rfl rfl rfl ?_))
     refine th_one (by kernel_rfl) (step_m rfl rfl opg_alloc ?_)
     rintro _ _ _ ⟨b12, rfl, rfl, rfl⟩
     refine ⟨Suf.h, (fun _ h => h), ?_⟩
     refine th_one (by kernel_rfl) (step_m rfl rfl (opg_store rfl rfl rfl rfl rfl rfl) ?_)
     rintro _ _ _ ⟨rfl, rfl⟩
     refine ⟨Suf.h, (fun _ h => h), ?_⟩
     refine yA rfl rfl (yD ?_)
     refine tri_cutEnd _ ⟨_, a1, c1, es1, ns1, q0, q1, q2, q3, q4, q5, q6, q7, q8, rfl, (List.Perm.refl _), hq9, rfl⟩ ⟨rfl, rfl, rfl, rfl, rfl, rfl, trivial⟩
    ·refine (step_m rfl rfl opg_alloc ?_)
     rintro _ _ _ ⟨b12, rfl, rfl, rfl⟩
     refine ⟨Suf.h, (fun _ h => h), ?_⟩
     refine th_one (by kernel_rfl) (step_m rfl rfl (opg_call (xs := [_, _]) rfl (maker_nineX hg h2 ok.idx hkid hQ)) ?_)
     rintro _ _ _ ⟨a1, c1, es1, ns1, q0, q1, q2, q3, q4, q5, q6, q7, q8, rfl, rfl, hq9, rfl⟩
     refine ⟨Suf.h, (fun _ h => h), ?_⟩
     refine yM rfl rfl (yE rfl rfl rfl (yE rfl rfl rfl ?_))
     refine th_one (by kernel_rfl) (step_m rfl rfl (opg_store rfl rfl rfl rfl rfl rfl) ?_)
     rintro _ _ _ ⟨rfl, rfl⟩
     refine ⟨Suf.h, (fun _ h => h), ?_⟩
     refine yA rfl rfl (yD ?_)
     refine tri_cutEnd _ ⟨_, a1, c1, es1, ns1, q0, q1, q2, q3, q4, q5, q6, q7, q8, rfl, perm3, hq9, rfl⟩ ⟨rfl, rfl, rfl, rfl, rfl, rfl, trivial⟩
   rintro _ _ _ ⟨b12, a1, c1, es1, ns1, q0, q1, q2, q3, q4, q5, q6, q7, q8, rfl, hperm, hq9, rfl⟩
   skip
   refine tri_perm hperm ?_
   clear hperm
   refine tT (tS (tS (tR (tM rfl rfl ?_))))
   refine tri_v (opv_neq rfl rfl) rfl ?_
   refine tN (tT ?_)
   refine tri_cond_dec rfl (fun hc => ?_) (fun hc => ?_)
   ·rw [if_pos hc]
    refine tS (tR (tM rfl rfl (tA rfl rfl (tN (tT (tri_ret (tri_then_ret ?_)))))))
    refine tri_drop ?_
    refine tri_perm (A := ?a6_0 :: ?a6_1 :: ?a6_2 :: ?a6_3 :: ?a6_4 :: ?a6_5 :: ?a6_6 :: ?a6_7 :: ?a6_8 :: ?a6_9 :: ?T6) (B := ?a6_3 :: ?a6_4 :: ?a6_0 :: ?a6_1 :: ?a6_2 :: ?a6_5 :: ?a6_6 :: ?a6_7 :: ?a6_8 :: ?a6_9 :: ?T6) (by exact permL [3, 4, 0, 1, 2, 5, 6, 7, 8, 9] [?a6_0, ?a6_1, ?a6_2, ?a6_3, ?a6_4, ?a6_5, ?a6_6, ?a6_7, ?a6_8, ?a6_9] ?T6 (by decide) rfl) ?_
    refine tri_starsRe (tri_starsPerm ht1'.symm ?_)
    refine tri_perm (A := ?a7_0 :: ?a7_1 :: ?a7_2 :: ?a7_3 :: ?a7_4 :: ?a7_5 :: ?a7_6 :: ?a7_7 :: ?a7_8 :: ?T7) (B := ?a7_1 :: ?a7_2 :: ?a7_3 :: ?a7_4 :: ?a7_5 :: ?a7_6 :: ?a7_7 :: ?a7_0 :: ?a7_8 :: ?T7) (by exact permL [1, 2, 3, 4, 5, 6, 7, 0, 8] [?a7_0, ?a7_1, ?a7_2, ?a7_3, ?a7_4, ?a7_5, ?a7_6, ?a7_7, ?a7_8] ?T7 (by decide) rfl) ?_
    refine tri_end _ (⟨[], rfl⟩) rfl (.cons (rv_tmp rfl) .nil) ⟨rfl, { h with a := a1, cap := c1, es := es1 }, { s with ns := ns1 }, rfl, fun k => absurd k hc, fun _ h => h⟩
   ·rw [if_neg hc]
    have hc0 : Q.2.2 = 0 := Decidable.not_not.1 hc
    obtain ⟨rfl, hl9, hi1⟩ := hq9 hc0
    obtain ⟨r1, hpre1, hlen9, hall9⟩ := R21.all_in hr hQ hc0
    have g1 : R6.Good Q.1 room := r1.good (by have := r1.1.2.1; omega)
    have hin1 : R21.In1 Q.1 t.n := R21.In1.pre hpre1 ⟨⟨hn0, hn1⟩, hlv1⟩
    obtain ⟨s1, hs1⟩ : ∃ s1 : R21.Ms, s1 = { s with ns := Q.1 } := ⟨_, rfl⟩
    have ok1 : CwOk { h with a := a1, cap := c1, es := es1 } s1 := by rw [hs1]; exact ⟨hi1, ok.mem, ok.bl, ok.sl, ok.len⟩
    have e1 : s1.ts = s.ts := by rw [hs1]
    have e2 : s1.D = s.D := by rw [hs1]
    have e3 : s1.ns = Q.1 := by rw [hs1]
    have hfull : R21.full s1 (s1.ts.getD i default) ↔ t.j = (R6.nd s.ns t.n).lv - 2 := by
     rw [hs1]; unfold R21.full; rw [htt, R6.nd_pre hpre1 ⟨hn0, hn1⟩]
    rw [← hs1, ← e1, ← e2, ← e3, show s.node = s1.node by rw [hs1], show s.done = s1.done by rw [hs1]]
    have hi' : i < s1.ts.length := by rw [e1]; exact hi
    have htk : TkOk s1.ts i := by rw [e1]; exact ht
    have hwd : DqOk s1.D w := by rw [e2]; exact hw
    rw [← e1] at ht1'
    have hrs : R6.right s1.ns room := by rw [e3]; exact r1
    rw [← e3] at hall9
    have hin2 : R21.In1 s1.ns (s1.ts.getD i default).n := by rw [e1, htt, e3]; exact hin1
    have htj : t.j = (s1.ts.getD i default).j := by rw [e1, htt]
    clear hs1 ht2
    refine tri_perm (A := ?a8_0 :: ?a8_1 :: ?a8_2 :: ?a8_3 :: ?a8_4 :: ?a8_5 :: ?a8_6 :: ?a8_7 :: ?a8_8 :: ?a8_9 :: ?a8_10 :: ?T8) (B := ?a8_4 :: ?a8_5 :: ?a8_0 :: ?a8_1 :: ?a8_2 :: ?a8_3 :: ?a8_6 :: ?a8_7 :: ?a8_8 :: ?a8_9 :: ?a8_10 :: ?T8) (by exact permL [4, 5, 0, 1, 2, 3, 6, 7, 8, 9, 10] [?a8_0, ?a8_1, ?a8_2, ?a8_3, ?a8_4, ?a8_5, ?a8_6, ?a8_7, ?a8_8, ?a8_9, ?a8_10] ?T8 (by decide) rfl) ?_
    refine tri_starsRe (tri_starsPerm ht1'.symm ?_)
    refine tri_perm (A := ?a9_0 :: ?a9_1 :: ?a9_2 :: ?a9_3 :: ?a9_4 :: ?a9_5 :: ?a9_6 :: ?a9_7 :: ?a9_8 :: ?a9_9 :: ?T9) (B := ?a9_2 :: ?a9_3 :: ?a9_4 :: ?a9_5 :: ?a9_6 :: ?a9_7 :: ?a9_8 :: ?a9_0 :: ?a9_9 :: ?a9_1 :: ?T9) (by exact permL [2, 3, 4, 5, 6, 7, 8, 0, 9, 1] [?a9_0, ?a9_1, ?a9_2, ?a9_3, ?a9_4, ?a9_5, ?a9_6, ?a9_7, ?a9_8, ?a9_9] ?T9 (by decide) rfl) ?_
    refine tri_skip (tT (tS (tS (tR (tM rfl rfl (tM rfl rfl ?_))))))
    refine tri_g (opg_call (xs := [_, _]) rfl (crew_full (h := { h with a := a1, cap := c1, es := es1 }) (s := s1) (i := i) hi' (by rw [e3]; exact g1) hin2.1)) rfl ?_
    rintro _ _ _ ⟨rfl, rfl, rfl⟩
    refine tN (tT ?_)
    refine tri_cond_dec rfl (fun hf => ?_) (fun hf => ?_)
    ·rw [if_pos (hfull.1 hf)]
     refine tri_perm (A := ?a10_0 :: ?a10_1 :: ?a10_2 :: ?a10_3 :: ?a10_4 :: ?a10_5 :: ?a10_6 :: ?a10_7 :: ?a10_8 :: ?a10_9 :: ?T10) (B := ?a10_9 :: ?a10_0 :: ?a10_1 :: ?a10_2 :: ?a10_3 :: ?a10_4 :: ?a10_5 :: ?a10_6 :: ?a10_7 :: ?a10_8 :: ?T10) (by exact permL [9, 0, 1, 2, 3, 4, 5, 6, 7, 8] [?a10_0, ?a10_1, ?a10_2, ?a10_3, ?a10_4, ?a10_5, ?a10_6, ?a10_7, ?a10_8, ?a10_9] ?T10 (by decide) rfl) ?_
     refine tri_freezeBoxS (α := Int) [q0, q1, q2, q3, q4, q5, q6, q7, q8] rfl fun I1 hI1 hb1 => ?_
     refine tri_perm perm7 ?_
     refine tri_starsPerm ht1' (tri_starsUn ?_)
     rw [hl9]
     skip
     skip
     refine tS ?_
     refine tri_draw [0, 1, 2, 3, 4, 5, 6, 9, 7, 8, 10] rfl [_, _, _, _, _, _, _, _, _, _] rfl mixed ?_
     refine yM rfl rfl (yM rfl rfl (yM rfl rfl (yM rfl rfl (yn rfl rfl (yf rfl rfl (yf rfl rfl ?_))))))
     refine th_take rfl rfl (by kernel_rfl)  (opv_sliceArr rfl) ?_
     refine th_one (by kernel_rfl) (step_m rfl rfl (OpV.toG (opv_load1 rfl rfl rfl)) ?_)
     rintro _ _ _ ⟨rfl, rfl, rfl⟩
     refine ⟨Suf.h, (fun _ h => h), ?_⟩
     refine th_take rfl rfl (by kernel_rfl)  (opv_sub rfl rfl rfl) ?_
     refine th_one (by kernel_rfl) (step_m rfl rfl (opg_call (xs := [_, _, _, _, _]) rfl ((FnC.tkIn ht1' (crew_wait (l := [q0, q1, q2, q3, q4, q5, q6, q7, q8]) (j := IntKind.i64.wrap (t.j - 1)) (h := { h with a := a1, cap := c1, es := es1 }) (s := s1) (w := w) (i := i) ok1 hwd.lt hi' htk.len hwd.len hb1 (by simp))))) ?_)
     rintro _ _ I2 ⟨h3, ok3, rfl, hI2⟩
     refine ⟨Suf.h, (by assumption), ?_⟩
     refine yD (tT (tS (tR (tA rfl rfl (tN (tT (tri_ret ?_)))))))
     refine tri_then_ret ?_
     refine tri_end _ (⟨[], rfl⟩) rfl (.cons (rv_tmp rfl) .nil) ⟨rfl, h3, _, rfl, fun _ => ⟨rfl, ok3⟩, fun _ h => hI2 (hI1 h)⟩
    ·rw [if_neg fun k => hf (hfull.2 k)]
     obtain ⟨l, hl⟩ : ∃ l, Q.2.1 = l := ⟨_, rfl⟩
     rw [hl] at hlen9 hall9 hl9 ⊢
     refine tri_perm (A := ?a11_0 :: ?a11_1 :: ?a11_2 :: ?a11_3 :: ?a11_4 :: ?a11_5 :: ?a11_6 :: ?a11_7 :: ?a11_8 :: ?a11_9 :: ?T11) (B := ?a11_9 :: ?a11_0 :: ?a11_1 :: ?a11_2 :: ?a11_3 :: ?a11_4 :: ?a11_5 :: ?a11_6 :: ?a11_7 :: ?a11_8 :: ?T11) (by exact permL [9, 0, 1, 2, 3, 4, 5, 6, 7, 8] [?a11_0, ?a11_1, ?a11_2, ?a11_3, ?a11_4, ?a11_5, ?a11_6, ?a11_7, ?a11_8, ?a11_9] ?T11 (by decide) rfl) ?_
     obtain ⟨h1, eh1⟩ : ∃ h1 : Hp, h1 = { h with a := a1, cap := c1, es := es1 } := ⟨_, rfl⟩
     have eb1 : h1.bs = h.bs := by rw [eh1]
     rw [← eh1] at ok1 ⊢
     clear eh1
     obtain ⟨M, hM⟩ : ∃ M, R21.mids room i 0 l s1 = M := ⟨_, rfl⟩
     rw [hM]
     have inv0 : MidInv room i l h.bs s1.D s1.ts.length M s1.ns 0 h1 s1 := ⟨by omega, ok1, eb1, hrs, List.prefix_refl _, rfl, rfl, htk, hin2, hM.symm⟩
     have hl9' : 9 = l.length := hlen9.symm
     skip
     skip
     refine tri_skip (tT (tS (tS (tR ?_))))
     refine yB rfl rfl ?_
     refine tM rfl rfl (tN (tT (tri_block ?_)))
     refine tri_drop ?_
     refine tri_sub (F' := [(0, pt bc 0), (1, .int .i64 (w : Nat)), (2, .int .i64 (i : Nat)), (7, pt (h.bs.getD i default).b 0), (110, .agg (ints l).toArray), (111, .int .i64 (0 : Nat))]) ⟨rfl, rfl, rfl, rfl, by rw [hl9]; rfl, rfl, trivial⟩ ?_
     refine loop_ind (G := Nat × Hp × R21.Ms) (fun g => 9 - g.1) (fun g => MidInv room i l h.bs s1.D s1.ts.length M s1.ns g.1 g.2.1 g.2.2) (fun g => [(0, pt bc 0), (1, .int .i64 (w : Nat)), (2, .int .i64 (i : Nat)), (7, pt (h.bs.getD i default).b 0), (110, .agg (ints l).toArray), (111, .int .i64 (g.1 : Nat))]) (fun g => CwA bc bx mb db (some ⟨bq, 0, none⟩) cd room g.2.1 g.2.2 A) (fun _ => I) ?_ (0, h1, s1) inv0
     rintro ⟨k, h', s'⟩ inv K hK
     simp only at inv hK ⊢
     have hk9 := inv.k9
     have hg' : R6.Good s'.ns room := inv.right.good (by have := inv.right.1.2.1; omega)
     have h2' : 2 ≤ s'.ns.length := inv.right.1.2.2.1
     skip
     refine tS (tR (yC rfl rfl (tN (tT (tS ?_)))))
     refine tri_cond_dec rfl (fun hk => ?_) (fun hk => ?_)
     ·have hk' : k < l.length := by omega
      have hq : R21.In1 s'.ns (l.getD k default) := R21.In1.pre inv.pre (hall9 _ (by rw [show l.getD k default = l[k] by simp [hk']]; exact List.getElem_mem hk'))
      obtain ⟨R', t1', t2'⟩ := tk_one (bs := h.bs) inv.tk.lt
      unfold tkA at t1'
      obtain ⟨u, hu⟩ : ∃ u, s'.ts.getD i default = u := ⟨_, rfl⟩
      have htk' := inv.tk.setR (k : Int) (R8.putSq s'.ns room (R8.s16 s'.ns (l.getD k default)) 1 1).2.1
      obtain ⟨_, _, en, _⟩ := R21.setR_of u (k : Int) (R8.putSq s'.ns room (R8.s16 s'.ns (l.getD k default)) 1 1).2.1
      have heq := inv.eq
      have hin' := inv.in1
      obtain ⟨p, hp⟩ : ∃ p, R8.putSq s'.ns room (R8.s16 s'.ns (l.getD k default)) 1 1 = p := ⟨_, rfl⟩
      rw [R21.mids_step hk' hp] at heq
      rw [hu] at t1' heq htk' hin'
      rw [hp] at htk' en
      refine tri_perm perm7 ?_
      rw [inv.bs]
      refine tri_starsPerm t1' (tri_starsUn ?_)
      rw [tkL_enc u]
      refine tri_perm (A := ?a12_0 :: ?a12_1 :: ?a12_2 :: ?a12_3 :: ?a12_4 :: ?a12_5 :: ?a12_6 :: ?a12_7 :: ?a12_8 :: ?a12_9 :: ?T12) (B := ?a12_2 :: ?a12_3 :: ?a12_4 :: ?a12_0 :: ?a12_1 :: ?a12_5 :: ?a12_6 :: ?a12_7 :: ?a12_8 :: ?a12_9 :: ?T12) (by exact permL [2, 3, 4, 0, 1, 5, 6, 7, 8, 9] [?a12_0, ?a12_1, ?a12_2, ?a12_3, ?a12_4, ?a12_5, ?a12_6, ?a12_7, ?a12_8, ?a12_9] ?T12 (by decide) rfl) ?_
      skip
      refine tri_skip (tT (tS (tri_block (tS (tR (tM rfl rfl ?_))))))
      refine tri_v (opv_indexIX (l := l) rfl rfl (by omega) (by omega) hl9') rfl ?_
      refine tA rfl rfl (tA rfl rfl (tN (tT (tS ?_))))
      refine tri_draw [0, 1, 2, 3, 4, 5, 6, 11, 12, 7, 8, 9, 10, 13, 14, 15] rfl [_, _, _, _] rfl mixed ?_
      refine yM rfl rfl (yM rfl rfl (yM rfl rfl (yn rfl rfl (yf rfl rfl ?_))))
      refine th_take rfl rfl (by kernel_rfl)  (opv_loadA rfl rfl rfl) ?_
      refine yM rfl rfl (yn rfl rfl (yf rfl rfl ?_))
      refine th_one (by kernel_rfl) (step_m rfl rfl (opg_call (xs := [_, _]) rfl (maker_centreQ hg' h2' inv.ok.idx (hq.kid inv.right) hp)) ?_)
      rintro _ _ _ ⟨a2, c2, es2, rfl, rfl, hi2, rfl⟩
      refine ⟨Suf.h, (fun _ h => h), ?_⟩
      refine yM rfl rfl (yE rfl rfl rfl (yE rfl rfl rfl ?_))
      refine th_take rfl rfl (by kernel_rfl)  (opv_indexAddrA rfl rfl (by omega) (by omega)) ?_
      refine th_one (by kernel_rfl) (step_m rfl rfl (opg_storeIX rfl rfl (by show _ < 15; simp only [Int.toNat_natCast]; omega)) ?_)
      rintro _ _ _ ⟨rfl, rfl⟩
      refine ⟨Suf.h, (fun _ h => h), ?_⟩
      rw [tkL_set u (by omega) (by omega)]
      refine yA rfl rfl (yD (tT (tS (tR (tM rfl rfl ?_)))))
      refine tri_v (opv_neq rfl rfl) rfl ?_
      refine tN (tT ?_)
      refine tri_perm (A := ?a13_0 :: ?a13_1 :: ?a13_2 :: ?a13_3 :: ?a13_4 :: ?a13_5 :: ?a13_6 :: ?a13_7 :: ?a13_8 :: ?a13_9 :: ?T13) (B := ?a13_3 :: ?a13_4 :: ?a13_0 :: ?a13_1 :: ?a13_2 :: ?a13_5 :: ?a13_6 :: ?a13_7 :: ?a13_8 :: ?a13_9 :: ?T13) (by exact permL [3, 4, 0, 1, 2, 5, 6, 7, 8, 9] [?a13_0, ?a13_1, ?a13_2, ?a13_3, ?a13_4, ?a13_5, ?a13_6, ?a13_7, ?a13_8, ?a13_9] ?T13 (by decide) rfl) ?_
      refine tri_starsRe (tri_starsPerm (t2' (R21.setR u (k : Int) p.2.1)).symm ?_)
      refine tri_perm (A := ?a14_0 :: ?a14_1 :: ?a14_2 :: ?a14_3 :: ?a14_4 :: ?a14_5 :: ?a14_6 :: ?a14_7 :: ?a14_8 :: ?T14) (B := ?a14_1 :: ?a14_2 :: ?a14_3 :: ?a14_4 :: ?a14_5 :: ?a14_6 :: ?a14_7 :: ?a14_0 :: ?a14_8 :: ?T14) (by exact permL [1, 2, 3, 4, 5, 6, 7, 0, 8] [?a14_0, ?a14_1, ?a14_2, ?a14_3, ?a14_4, ?a14_5, ?a14_6, ?a14_7, ?a14_8] ?T14 (by decide) rfl) ?_
      obtain ⟨s2, hs2⟩ : ∃ s2 : R21.Ms, s2 = { s' with ns := p.1, ts := s'.ts.set i (R21.setR u (k : Int) p.2.1) } := ⟨_, rfl⟩
      have f1 : s2.ts.length = s'.ts.length := by rw [hs2]; exact List.length_set ..
      have f2 : s2.ts = s'.ts.set i (R21.setR u (k : Int) p.2.1) := by rw [hs2]
      have f3 : s2.ns = p.1 := by rw [hs2]
      have f4 : s2.D = s'.D := by rw [hs2]
      have ok2 : CwOk { h' with a := a2, cap := c2, es := es2 } s2 := by
       rw [hs2]
       exact ⟨hi2, inv.ok.mem, by simp only [List.length_set]; exact inv.ok.bl, inv.ok.sl, inv.ok.len⟩
      rw [← hs2] at heq
      rw [← f2, ← f1, ← f3, ← f4, show s'.node = s2.node by rw [hs2], show s'.done = s2.done by rw [hs2], ← inv.bs]
      refine tri_cond_dec rfl (fun hx => ?_) (fun hx => ?_)
      ·have hM2 : M = (s', p.2.2) := heq.trans (if_pos hx)
       rw [hM2, if_pos hx]
       refine tS (tR (tM rfl rfl (tA rfl rfl (tN (tT (tri_ret (tri_inBlock_ret ?_)))))))
       refine tri_then_ret (tri_then_ret (tri_inBlock_ret (tri_then_ret ?_)))
       refine tri_end _ (⟨[], rfl⟩) rfl (.cons (rv_tmp rfl) .nil) ⟨rfl, { h' with a := a2, cap := c2, es := es2 }, s2, rfl, fun k => absurd k hx, fun _ h => h⟩
      ·have hx0 : p.2.2 = 0 := Decidable.not_not.1 hx
       obtain ⟨r2, pre2, i2, lv2⟩ := R21.put_in inv.right hp hx0
       have hM2 := heq.trans (if_neg hx)
       refine tri_skip (tri_inBlock (tT (tR ?_)))
       refine yU rfl rfl ?_
       refine tM rfl rfl (tN (tT ?_))
       refine tri_sub ?_ (hK (k + 1, { h' with a := a2, cap := c2, es := es2 }, s2) ⟨by omega, ok2, inv.bs, by rw [f3]; exact r2, inv.pre.trans (by rw [f3]; exact pre2), f4.trans inv.dq, f1.trans inv.ts, by rw [f2]; exact htk', ?_, hM2⟩ (by simp only; omega))
       ·exact ⟨rfl, rfl, rfl, by rw [inv.bs]; rfl, rfl, rfl, trivial⟩
       ·rw [f2, f3, getD_set7 inv.tk.lt, if_pos rfl, en]
        exact R21.In1.pre pre2 hin'
     ·have hk' : l.length ≤ k := by omega
      have heq := inv.eq
      rw [List.drop_of_length_le hk'] at heq
      have hM2 : M = (s', 0) := heq
      rw [hM2, if_neg (by simp)]
      refine tri_exit ?_
      refine tri_then_exit (tri_then_exit ?_)
      refine tri_inBlock_hit rfl ?_
      refine tT (tS (tR (tM rfl rfl (tM rfl rfl (tM rfl rfl ?_)))))
      refine tri_g (opg_call (xs := [_, _, _]) rfl (crew_join (h := h') (s := s') (i := i) (w := w) inv.ok (by rw [inv.dq]; exact hwd) inv.tk hg' h2' inv.in1.1)) rfl ?_
      rintro _ _ I2 ⟨rfl, h3, s3, rfl, hx, hI2⟩
      refine tA rfl rfl (tN (tT (tri_ret ?_)))
      refine tri_end _ (⟨[], rfl⟩) rfl (.cons (rv_tmp rfl) .nil) ⟨rfl, h3, s3, rfl, hx, hI2⟩
 ·have eb : R21.begin_ room s w i = (R21.tell s w i to, 0) := by
   unfold R21.begin_
   dsimp only
   rw [htt, ho]
  rw [eb]
  refine tri_cond_true (congrArg (fun o => some (Value.bool (Option.isSome o))) hmf) ?_
  refine tri_starsRe (tri_starsPerm ht1'.symm ?_)
  refine tri_perm (A := ?a15_0 :: ?a15_1 :: ?a15_2 :: ?a15_3 :: ?a15_4 :: ?a15_5 :: ?a15_6 :: ?a15_7 :: ?a15_8 :: ?T15) (B := ?a15_1 :: ?a15_2 :: ?a15_3 :: ?a15_4 :: ?a15_5 :: ?a15_6 :: ?a15_7 :: ?a15_0 :: ?a15_8 :: ?T15) (by exact permL [1, 2, 3, 4, 5, 6, 7, 0, 8] [?a15_0, ?a15_1, ?a15_2, ?a15_3, ?a15_4, ?a15_5, ?a15_6, ?a15_7, ?a15_8] ?T15 (by decide) rfl) ?_
  rw [hmf]
  refine tS (tR (tM rfl rfl (tM rfl rfl (tM rfl rfl (tM rfl rfl ?_)))))
  refine tri_g (opg_call (xs := [_, _, _, _]) rfl (crew_tellR (h := h) (s := s) (n := to) (i := i) ok hw ht rfl)) rfl ?_
  rintro _ _ I2 ⟨h3, ok3, rfl, hI2⟩
  refine tN (tT (tS (tR (tA rfl rfl (tN (tT (tri_ret ?_)))))))
  refine tri_then_ret ?_
  refine tri_end _ (⟨[], rfl⟩) rfl (.cons (rv_tmp rfl) .nil) ⟨rfl, h3, _, rfl, fun _ => ⟨rfl, ok3⟩, hI2⟩
end Go.GL


namespace Go.GL
open Go.Proofs
/-! ### What a crew keeps to -/
namespace R21
structure TOk (ns : List Node) (ts : List Tk) (i : Nat) : Prop where
 n : In1 ns (ts.getD i default).n
 of_ : 0 ≤ (ts.getD i default).of_ → (ts.getD i default).of_.toNat < ts.length ∧ (ts.getD i default).of_.toNat ≠ i
 pl : 0 ≤ (ts.getD i default).pl ∧ (ts.getD i default).pl ≤ 8
 wt : (ts.getD i default).wt = 0 ∨ (ts.getD i default).wt = 9 ∨ (ts.getD i default).wt = 4
structure MOk (room : Int) (W b : Nat) (s : Ms) : Prop where
 right : R6.right s.ns room
 dl : s.D.length = W
 ts : s.ts.length ≤ b
 dq : ∀ k, k < W → (s.D.getD k default).length ≤ b ∧ ∀ x ∈ s.D.getD k default, 0 ≤ x ∧ x < s.ts.length
 tk : ∀ i, i < s.ts.length → TOk s.ns s.ts i
theorem MOk.store {room : Int} {W b : Nat} {s : Ms} (h : MOk room W b s) {ms : List Node} (hr : R6.right ms room) (hp : s.ns <+: ms) : MOk room W b { s with ns := ms } :=
 ⟨hr, h.dl, h.ts, h.dq, fun i hi => ⟨In1.pre hp (h.tk i hi).n, (h.tk i hi).of_, (h.tk i hi).pl, (h.tk i hi).wt⟩⟩
theorem MOk.mono {room : Int} {W b c : Nat} {s : Ms} (h : MOk room W b s) (hb : b ≤ c) : MOk room W c s :=
 ⟨h.right, h.dl, by have := h.ts; omega, fun k hk => ⟨by have := (h.dq k hk).1; omega, (h.dq k hk).2⟩, h.tk⟩
theorem getD_mem_of {l : List Int} {i : Nat} (h : i < l.length) : l.getD i default ∈ l := by
 rw [show l.getD i default = l[i] by simp [h]]
 exact List.getElem_mem h
theorem findF_lt7 {D : List (List Int)} {w : Nat} (h0 : 0 < D.length) : ∀ (f j : Nat) {k : Nat}, R19.findF D w f j = some k → k < D.length ∧ 0 < (D.getD k default).length
 | 0, _, _, h => nomatch h
 | f + 1, j, k, h => by
  unfold R19.findF at h
  split at h
  ·exact findF_lt7 h0 f (j + 1) h
  ·rename_i h1
   injection h with h
   subst h
   exact ⟨Nat.mod_lt _ h0, by omega⟩
theorem push_ok {D : List (List Int)} {W b N w : Nat} {x : Int} (hd : D.length = W) (hq : ∀ k, k < W → (D.getD k default).length ≤ b ∧ ∀ x ∈ D.getD k default, 0 ≤ x ∧ x < (N : Int)) (h0 : 0 ≤ x) (h1 : x < (N : Int)) : (push D w x).length = W ∧ ∀ k, k < W → ((push D w x).getD k default).length ≤ b + 1 ∧ ∀ y ∈ (push D w x).getD k default, 0 ≤ y ∧ y < (N : Int) := by
 unfold push
 refine ⟨by rw [List.length_set]; exact hd, fun k hk => ?_⟩
 by_cases hw : w < D.length
 ·rw [getD_set7 hw]
  split
  ·have := hq w (by omega)
   refine ⟨by rw [List.length_append, List.length_singleton]; omega, fun y hy => ?_⟩
   rcases List.mem_append.1 hy with hy | hy
   ·exact this.2 y hy
   ·rw [List.mem_singleton.1 hy]; exact ⟨h0, h1⟩
  ·have := hq k hk
   exact ⟨by omega, this.2⟩
 ·rw [List.set_eq_of_length_le (by omega)]
  have := hq k hk
  exact ⟨by omega, this.2⟩
/-- A task is changed, but for what it speaks of. -/
theorem MOk.set {room : Int} {W b : Nat} {s : Ms} (h : MOk room W b s) {i : Nat} (hi : i < s.ts.length) {u : Tk} (e1 : u.n = (s.ts.getD i default).n) (e2 : u.of_ = (s.ts.getD i default).of_) (e3 : u.pl = (s.ts.getD i default).pl) (e4 : u.wt = 0 ∨ u.wt = 9 ∨ u.wt = 4) : MOk room W b { s with ts := s.ts.set i u } := by
 refine ⟨h.right, h.dl, by simp only [List.length_set]; exact h.ts, fun k hk => by simp only [List.length_set]; exact h.dq k hk, fun j hj => ?_⟩
 simp only [List.length_set] at hj ⊢
 have g : (s.ts.set i u).getD j default = if j = i then u else s.ts.getD j default := getD_set7 hi
 by_cases e : j = i
 ·subst e
  have := h.tk j hj
  refine ⟨?_, ?_, ?_, ?_⟩ <;> rw [g, if_pos rfl]
  ·rw [e1]; exact this.n
  ·rw [e2, List.length_set]; exact this.of_
  ·rw [e3]; exact this.pl
  ·exact e4
 ·have := h.tk j hj
  refine ⟨?_, ?_, ?_, ?_⟩ <;> rw [g, if_neg e]
  ·exact this.n
  ·rw [List.length_set]; exact this.of_
  ·exact this.pl
  ·exact this.wt
theorem MOk.add {room : Int} {W b w : Nat} {s : Ms} (h : MOk room W b s) {t : Tk} (hn : In1 s.ns t.n) (ho : 0 ≤ t.of_ → t.of_ < s.ts.length) (hp : 0 ≤ t.pl ∧ t.pl ≤ 8) (hw : t.wt = 0 ∨ t.wt = 9 ∨ t.wt = 4) : MOk room W (b + 1) (R21.add s w t) := by
 have hq : ∀ k, k < W → (s.D.getD k default).length ≤ b ∧ ∀ x ∈ s.D.getD k default, 0 ≤ x ∧ x < ((s.ts.length + 1 : Nat) : Int) := fun k hk => ⟨(h.dq k hk).1, fun x hx => by have := (h.dq k hk).2 x hx; omega⟩
 obtain ⟨p1, p2⟩ := push_ok (w := w) (x := (s.ts.length : Int)) h.dl hq (by omega) (by omega)
 have e : (R21.add s w t).ts.length = s.ts.length + 1 := by simp [R21.add]
 refine ⟨h.right, p1, by rw [e]; have := h.ts; omega, fun k hk => by rw [e]; exact p2 k hk, fun i hi => ?_⟩
 rw [e] at hi
 have ea : (s.ts ++ [t]).getD i default = if i < s.ts.length then s.ts.getD i default else t := by
  split
  ·rename_i hlt
   simp [List.getElem?_append_left hlt]
  ·have : i = s.ts.length := by omega
   subst this
   simp
 by_cases hlt : i < s.ts.length
 ·have := h.tk i hlt
  refine ⟨?_, ?_, ?_, ?_⟩ <;> (unfold R21.add; simp only; rw [ea, if_pos hlt])
  ·exact this.n
  ·intro k
   have := this.of_ k
   rw [List.length_append, List.length_singleton]
   exact ⟨by omega, this.2⟩
  ·exact this.pl
  ·exact this.wt
 ·refine ⟨?_, ?_, ?_, ?_⟩ <;> (unfold R21.add; simp only; rw [ea, if_neg hlt])
  ·exact hn
  ·intro k
   have := ho k
   rw [List.length_append, List.length_singleton]
   exact ⟨by omega, by omega⟩
  ·exact hp
  ·exact hw
theorem MOk.tell {room : Int} {W b w i : Nat} {s : Ms} {n : Int} (h : MOk room W b s) (hi : i < s.ts.length) : MOk room W (b + 1) (R21.tell s w i n) := by
 unfold R21.tell
 dsimp only
 have ht := h.tk i hi
 split
 ·exact ⟨h.right, h.dl, by have := h.ts; simp only; omega, fun k hk => ⟨by have := (h.dq k hk).1; simp only; omega, (h.dq k hk).2⟩, h.tk⟩
 ·rename_i ho
  obtain ⟨o1, o2⟩ := ht.of_ (by omega)
  generalize (s.ts.getD i default).of_ = o at *
  obtain ⟨r1, r2, r3, _, r5, _⟩ := setR_of (s.ts.getD o.toNat default) (s.ts.getD i default).pl n
  have hs := h.set o1 (u := less (setR (s.ts.getD o.toNat default) (s.ts.getD i default).pl n)) r3 r1 r2 (by rw [show (less (setR (s.ts.getD o.toNat default) (s.ts.getD i default).pl n)).wt = (s.ts.getD o.toNat default).wt from r5]; exact (h.tk _ o1).wt)
  refine ⟨hs.right, ?_, by have := hs.ts; simp only at this ⊢; omega, ?_, hs.tk⟩
  ·split
   ·simp only [push, List.length_set]; exact h.dl
   ·exact h.dl
  ·simp only
   have hts : (s.ts.set o.toNat (less (setR (s.ts.getD o.toNat default) (s.ts.getD i default).pl n))).length = s.ts.length := List.length_set ..
   rw [hts]
   intro k hk
   split
   ·exact (push_ok (w := w) h.dl h.dq (by omega) (by omega)).2 k hk
   ·have := h.dq k hk
    exact ⟨by omega, this.2⟩
theorem MOk.parts {room : Int} {W w i : Nat} {j : Int} : ∀ (l : List Int) (k b : Nat) {s : Ms}, MOk room W b s → i < s.ts.length → k + l.length ≤ 9 → (∀ x ∈ l, In1 s.ns x) → MOk room W (b + l.length) (R21.parts w i j k l s)
 | [], k, b, s, h, hi, hk, hl => h
 | n :: l, k, b, s, h, hi, hk, hl => by
  rw [List.length_cons] at hk
  have ha := h.add (w := w) (t := tk0 n j i k) (hl n List.mem_cons_self) (fun _ => by show (i : Int) < _; omega) (by show (0 : Int) ≤ (k : Nat) ∧ ((k : Nat) : Int) ≤ 8; omega) (.inl rfl)
  have := MOk.parts (w := w) (i := i) (j := j) l (k + 1) (b + 1) ha (by simp [R21.add]; omega) (by omega) (fun x hx => hl x (List.mem_cons_of_mem _ hx))
  unfold R21.parts
  rw [List.length_cons]
  rw [show b + (l.length + 1) = b + 1 + l.length by omega]
  exact this
theorem MOk.wait {room : Int} {W b w i : Nat} {s : Ms} {j : Int} {l : List Int} (h : MOk room W b s) (hi : i < s.ts.length) (hl : l.length = 9 ∨ l.length = 4) (hin : ∀ x ∈ l, In1 s.ns x) : MOk room W (b + 9) (R21.wait s w i j l) := by
 have hs := h.set hi (u := { s.ts.getD i default with wt := l.length, lf := l.length }) rfl rfl rfl (by show ((l.length : Nat) : Int) = 0 ∨ ((l.length : Nat) : Int) = 9 ∨ ((l.length : Nat) : Int) = 4; omega)
 exact (MOk.parts (w := w) (i := i) (j := j) l 0 b hs (by simp only [List.length_set]; exact hi) (by omega) hin).mono (by omega)
theorem MOk.mids {room : Int} {W b i : Nat} : ∀ (l : List Int) (k : Nat) {s : Ms}, MOk room W b s → i < s.ts.length → (R21.mids room i k l s).2 = 0 → MOk room W b (R21.mids room i k l s).1 ∧ (R21.mids room i k l s).1.ts.length = s.ts.length ∧ s.ns <+: (R21.mids room i k l s).1.ns
 | [], k, s, h, hi, he => ⟨h, rfl, List.prefix_refl _⟩
 | n :: l, k, s, h, hi, he => by
  unfold R21.mids at he ⊢
  dsimp only at he ⊢
  obtain ⟨p, hp⟩ : ∃ p, R8.putSq s.ns room (R8.s16 s.ns n) 1 1 = p := ⟨_, rfl⟩
  rw [hp] at he ⊢
  by_cases x : p.2.2 = 0
  ·rw [if_neg (by simpa using x)] at he ⊢
   obtain ⟨r1, p1, _, _⟩ := put_in h.right hp x
   obtain ⟨s1, s2, s3, _, s5, _⟩ := setR_of (s.ts.getD i default) k p.2.1
   have h1 := (h.store r1 p1).set (s := { s with ns := p.1 }) hi (u := setR (s.ts.getD i default) k p.2.1) s3 s1 s2 (by rw [s5]; exact (h.tk i hi).wt)
   have := MOk.mids (i := i) l (k + 1) h1 (by simp only [List.length_set]; exact hi) he
   refine ⟨this.1, this.2.1.trans (by simp only [List.length_set]), p1.trans this.2.2⟩
  ·rw [if_pos x] at he
   exact absurd he x
theorem MOk.join {room : Int} {W b w i : Nat} {s : Ms} (h : MOk room W b s) (hi : i < s.ts.length) (he : (R21.join room s w i).2 = 0) : MOk room W (b + 9) (R21.join room s w i).1 := by
 unfold R21.join at he ⊢
 dsimp only at he ⊢
 generalize s.ts.getD i default = t at *
 obtain ⟨p0, e0⟩ : ∃ p, R6.put s.ns room t.r0 t.r1 t.r3 t.r4 = p := ⟨_, rfl⟩
 rw [e0] at he ⊢
 by_cases x0 : p0.2.2 = 0
 case neg => rw [if_pos x0] at he; exact absurd he x0
 rw [if_neg (by simpa using x0)] at he ⊢
 obtain ⟨p1, e1⟩ : ∃ p, R6.put p0.1 room t.r1 t.r2 t.r4 t.r5 = p := ⟨_, rfl⟩
 rw [e1] at he ⊢
 by_cases x1 : p1.2.2 = 0
 case neg => rw [if_pos x1] at he; exact absurd he x1
 rw [if_neg (by simpa using x1)] at he ⊢
 obtain ⟨p2, e2⟩ : ∃ p, R6.put p1.1 room t.r3 t.r4 t.r6 t.r7 = p := ⟨_, rfl⟩
 rw [e2] at he ⊢
 by_cases x2 : p2.2.2 = 0
 case neg => rw [if_pos x2] at he; exact absurd he x2
 rw [if_neg (by simpa using x2)] at he ⊢
 obtain ⟨p3, e3⟩ : ∃ p, R6.put p2.1 room t.r4 t.r5 t.r7 t.r8 = p := ⟨_, rfl⟩
 rw [e3] at he ⊢
 by_cases x3 : p3.2.2 = 0
 case neg => rw [if_pos x3] at he; exact absurd he x3
 rw [if_neg (by simpa using x3)]
 obtain ⟨r0, k0, i0⟩ := put_in h.right e0 x0
 obtain ⟨r1, k1, i1⟩ := put_in r0 e1 x1
 obtain ⟨r2, k2, i2⟩ := put_in r1 e2 x2
 obtain ⟨r3, k3, i3⟩ := put_in r2 e3 x3
 refine MOk.wait (h.store r3 (k0.trans (k1.trans (k2.trans k3)))) hi (.inr rfl) fun x hx => ?_
 simp only [List.mem_cons, List.not_mem_nil, or_false] at hx
 rcases hx with rfl | rfl | rfl | rfl
 ·exact In1.pre (k1.trans (k2.trans k3)) i0
 ·exact In1.pre (k2.trans k3) i1
 ·exact In1.pre k3 i2
 ·exact i3
theorem MOk.end_ {room : Int} {W b w i : Nat} {s : Ms} (h : MOk room W b s) (hi : i < s.ts.length) (he : (R21.end_ room s w i).2 = 0) : MOk room W (b + 9) (R21.end_ room s w i).1 := by
 unfold R21.end_ at he ⊢
 dsimp only at he ⊢
 obtain ⟨p0, e0⟩ : ∃ p, R6.put s.ns room (s.ts.getD i default).r0 (s.ts.getD i default).r1 (s.ts.getD i default).r2 (s.ts.getD i default).r3 = p := ⟨_, rfl⟩
 rw [e0] at he ⊢
 by_cases x0 : p0.2.2 = 0
 case neg => rw [if_pos x0] at he; exact absurd he x0
 rw [if_neg (by simpa using x0)]
 obtain ⟨r0, k0, i0⟩ := put_in h.right e0 x0
 exact (MOk.tell (s := { s with ns := p0.1 }) (h.store r0 k0) hi).mono (by omega)
theorem MOk.begin_ {room : Int} {W b w i : Nat} {s : Ms} (h : MOk room W b s) (hi : i < s.ts.length) (he : (R21.begin_ room s w i).2 = 0) : MOk room W (b + 9) (R21.begin_ room s w i).1 := by
 unfold R21.begin_ at he ⊢
 dsimp only at he ⊢
 obtain ⟨t, ht⟩ : ∃ t, s.ts.getD i default = t := ⟨_, rfl⟩
 rw [ht] at he ⊢
 cases ho : R9.look9 s.kp t.n t.j with
 | some to => exact (MOk.tell h hi).mono (by omega)
 | none =>
  rw [ho] at he
  simp only at he ⊢
  by_cases h2 : (R6.nd s.ns t.n).lv = 2
  ·rw [if_pos h2] at he ⊢
   obtain ⟨p0, e0⟩ : ∃ p, R8.one s.ns room t.n = p := ⟨_, rfl⟩
   rw [e0] at he ⊢
   by_cases x0 : p0.2.2 = 0
   case neg => rw [if_pos x0] at he; exact absurd he x0
   rw [if_neg (by simpa using x0)]
   obtain ⟨r0, k0, i0⟩ := put_in h.right e0 x0
   exact (MOk.tell (s := { s with ns := p0.1 }) (h.store r0 k0) hi).mono (by omega)
  ·rw [if_neg h2] at he ⊢
   obtain ⟨q, e0⟩ : ∃ q, R8.all s.ns room t.n = q := ⟨_, rfl⟩
   rw [e0] at he ⊢
   by_cases x0 : q.2.2 = 0
   case neg => rw [if_pos x0] at he; exact absurd he x0
   rw [if_neg (by simpa using x0)] at he ⊢
   obtain ⟨r0, k0, l0, i0⟩ := all_in h.right e0 x0
   have h1 := h.store r0 k0
   by_cases hf : t.j = (R6.nd s.ns t.n).lv - 2
   ·rw [if_pos hf]
    exact MOk.wait (s := { s with ns := q.1 }) h1 hi (.inl l0) i0
   ·rw [if_neg hf] at he ⊢
    by_cases x1 : (R21.mids room i 0 q.2.1 { s with ns := q.1 }).2 = 0
    case neg => rw [if_pos x1] at he; exact absurd he x1
    rw [if_neg (by simpa using x1)] at he ⊢
    obtain ⟨m1, m2, m3⟩ := MOk.mids (i := i) q.2.1 0 h1 hi x1
    exact m1.join (by rw [m2]; exact hi) he
theorem MOk.take {room : Int} {W b : Nat} {s : Ms} (h : MOk room W b s) {w : Nat} (hw : w < W) : MOk room W b { s with D := (R19.takeM s.D w).2 } ∧ (0 ≤ (R19.takeM s.D w).1 → (R19.takeM s.D w).1 < s.ts.length) := by
 have key : ∀ (k : Nat) (l : List Int), k < W → (∀ x ∈ l, x ∈ s.D.getD k default) → l.length ≤ (s.D.getD k default).length → MOk room W b { s with D := s.D.set k l } := fun k l hk hl hll => by
  refine ⟨h.right, by simp only [List.length_set]; exact h.dl, h.ts, fun k' hk' => ?_, h.tk⟩
  simp only
  rw [getD_set7 (by rw [h.dl]; exact hk)]
  split
  ·rename_i e
   have := h.dq k hk
   exact ⟨by omega, fun x hx => this.2 x (hl x hx)⟩
  ·exact h.dq k' hk'
 unfold R19.takeM
 split
 ·rename_i h0
  refine ⟨key w _ hw (fun x hx => List.mem_of_mem_take hx) (by rw [List.length_take]; omega), fun _ => ?_⟩
  exact ((h.dq w hw).2 _ (getD_mem_of (by omega))).2
 ·split
  ·rename_i k hk
   obtain ⟨k1, k2⟩ := findF_lt7 (by rw [h.dl]; omega) _ _ hk
   rw [h.dl] at k1
   refine ⟨key k _ k1 (fun x hx => List.mem_of_mem_drop hx) (by rw [List.length_drop]; omega), fun _ => ?_⟩
   exact ((h.dq k k1).2 _ (getD_mem_of k2)).2
  ·exact ⟨⟨h.right, h.dl, h.ts, h.dq, h.tk⟩, fun k => by simp at k⟩
theorem MOk.step {room : Int} {W b w : Nat} {s : Ms} (h : MOk room W b s) (hw : w < W) (he : (R21.step room s w).2 = 0) : MOk room W (b + 9) (R21.step room s w).1 := by
 obtain ⟨h1, h2⟩ := h.take hw
 unfold R21.step at he ⊢
 dsimp only at he ⊢
 generalize R19.takeM s.D w = x at *
 by_cases x0 : x.1 < 0
 ·rw [if_pos x0]
  exact h1.mono (by omega)
 rw [if_neg x0] at he ⊢
 have hlt : x.1.toNat < s.ts.length := by have := h2 (by omega); omega
 split
 ·rename_i c
  rw [if_pos c] at he
  exact h1.join hlt he
 ·rename_i c
  rw [if_neg c] at he
  split
  ·rename_i c2
   rw [if_pos c2] at he
   exact h1.end_ hlt he
  ·rename_i c2
   rw [if_neg c2] at he
   exact h1.begin_ hlt he
end R21
end Go.GL


namespace Go.GL
open Go.Proofs
attribute [local irreducible] wpList Code.wp Exit.then Exit.inBlock Ends Tri TriH OpV OpG FnC epf wpAnyH
variable {A : List Asrt} {I : List Chunk}
theorem R21.MOk.tkOk {room : Int} {W b i : Nat} {s : R21.Ms} (h : R21.MOk room W b s) (hi : i < s.ts.length) (hb : b ≤ 100000000) : TkOk s.ts i :=
 ⟨hi, by have := h.ts; omega, (h.tk i hi).of_, (h.tk i hi).pl⟩
theorem R21.MOk.dqOk {room : Int} {W b w : Nat} {s : R21.Ms} (h : R21.MOk room W b s) (hw : w < W) (hb : b ≤ 100000000) : DqOk s.D w :=
 ⟨by rw [h.dl]; exact hw, by have := (h.dq w hw).1; omega⟩
theorem crew_joinV {bc bx mb db bq cd w i : Nat} {room : Int} {h : Hp} {s : R21.Ms} (ok : CwOk h s) (hw : DqOk s.D w) (ht : TkOk s.ts i) (hg : R6.Good s.ns room) (h2 : 2 ≤ s.ns.length) (hin : R6.inS s.ns (s.ts.getD i default).n) :
  FnC Try.prog 74 ([pt bc 0] ++ ([.int .i64 (w : Nat), .int .i64 (i : Nat)] : List Value) ++ []).toArray (CwA bc bx mb db (some ⟨bq, 0, none⟩) cd room h s A) I (CwE bc bx mb db bq cd room (R21.join room s w i) A I) := crew_join ok hw ht hg h2 hin
theorem crew_endV {bc bx mb db bq cd w i : Nat} {room : Int} {h : Hp} {s : R21.Ms} (ok : CwOk h s) (hw : DqOk s.D w) (ht : TkOk s.ts i) (hg : R6.Good s.ns room) (h2 : 2 ≤ s.ns.length) :
  FnC Try.prog 75 ([pt bc 0] ++ ([.int .i64 (w : Nat), .int .i64 (i : Nat)] : List Value) ++ []).toArray (CwA bc bx mb db (some ⟨bq, 0, none⟩) cd room h s A) I (CwE bc bx mb db bq cd room (R21.end_ room s w i) A I) := crew_end ok hw ht hg h2
theorem crew_beginV {bc bx mb db bq cd w i : Nat} {room : Int} {h : Hp} {s : R21.Ms} (ok : CwOk h s) (hw : DqOk s.D w) (ht : TkOk s.ts i) (hr : R6.right s.ns room) (hin : R21.In1 s.ns (s.ts.getD i default).n) :
  FnC Try.prog 73 ([pt bc 0] ++ ([.int .i64 (w : Nat), .int .i64 (i : Nat)] : List Value) ++ []).toArray (CwA bc bx mb db (some ⟨bq, 0, none⟩) cd room h s A) I (CwE bc bx mb db bq cd room (R21.begin_ room s w i) A I) := crew_begin ok hw ht hr hin
set_option maxHeartbeats 4000000 in
set_option maxRecDepth 100000 in
theorem crew_step {bc bx mb db bq cd w W b : Nat} {room : Int} {h : Hp} {s : R21.Ms} (ok : CwOk h s) (m : R21.MOk room W b s) (hw : w < W) (hW : W ≤ 64) (hb : b ≤ 100000000) :
  FnC Try.prog 51 [pt bc 0, .int .i64 (w : Nat)].toArray (CwA bc bx mb db (some ⟨bq, 0, none⟩) cd room h s A) I (CwE bc bx mb db bq cd room (R21.step room s w) A I) := by
 obtain ⟨m1, hx1⟩ := m.take hw
 have hdl := m.dl
 have estep : R21.step room s w = if (R19.takeM s.D w).1 < 0 then ({ s with D := (R19.takeM s.D w).2 }, 0) else
   if (s.ts.getD (R19.takeM s.D w).1.toNat default).wt = 9 then R21.join room { s with D := (R19.takeM s.D w).2 } w (R19.takeM s.D w).1.toNat
   else if (s.ts.getD (R19.takeM s.D w).1.toNat default).wt = 4 then R21.end_ room { s with D := (R19.takeM s.D w).2 } w (R19.takeM s.D w).1.toNat
   else R21.begin_ room { s with D := (R19.takeM s.D w).2 } w (R19.takeM s.D w).1.toNat := rfl
 rw [estep]
 clear estep
 skip
 skip
 refine fn_enter2 Try.func51 rfl Try.ntmps51 rfl fun w0 => ?_
 refine tS (tR (tA rfl rfl (tN (tT (tS (tR (tM rfl rfl ?_)))))))
 refine tM rfl rfl ?_
 refine tri_g (opg_call (xs := [_, _]) rfl (crew_take (h := h) (s := s) (w := w) ok (by omega) (by omega) (fun k hk => by have := (m.dq k (by omega)).1; omega))) rfl ?_
 rintro _ _ I1 ⟨rfl, h1, ok1, rfl, hI1⟩
 obtain ⟨s1, hs1⟩ : ∃ s1 : R21.Ms, s1 = { s with D := (R19.takeM s.D w).2 } := ⟨_, rfl⟩
 rw [← hs1] at m1 ok1 ⊢
 rw [show s.ts = s1.ts by rw [hs1]] at hx1 ⊢
 clear hs1
 generalize (R19.takeM s.D w).1 = x at *
 refine tA rfl rfl (tN (tT (tS (tS (tR (tM rfl rfl (yC rfl rfl ?_)))))))
 refine tN (tT ?_)
 refine tri_cond_dec rfl (fun hx => ?_) (fun hx => ?_)
 ·rw [if_pos hx]
  refine tS (tR (tA rfl rfl (tN (tT (tri_ret (tri_then_ret ?_))))))
  refine tri_end _ (⟨[], rfl⟩) rfl (.cons (rv_tmp rfl) .nil) ⟨rfl, h1, s1, rfl, fun _ => ⟨rfl, ok1⟩, hI1⟩
 ·rw [if_neg hx]
  obtain ⟨i, rfl⟩ : ∃ i : Nat, x = (i : Int) := ⟨x.toNat, by omega⟩
  have hi : i < s1.ts.length := by have := hx1 (by omega); omega
  have hbl := ok1.bl
  have tk1 := m1.tkOk hi hb
  have dq1 := m1.dqOk hw hb
  have hg1 : R6.Good s1.ns room := m1.right.good (by have := m1.right.1.2.1; omega)
  have h21 : 2 ≤ s1.ns.length := m1.right.1.2.2.1
  obtain ⟨Rt, ht1, ht2⟩ := tk_one (bs := h1.bs) hi
  obtain ⟨wt, hwt⟩ : ∃ z, (s1.ts.getD i default).wt = z := ⟨_, rfl⟩
  rw [Int.toNat_natCast, hwt]
  refine tri_skip (tT (tS (tR (tM rfl rfl ?_))))
  refine tri_v (opv_makeFunc (fs := [_]) (cs := []) (vf := [_]) (vc := []) rfl rfl) rfl ?_
  refine tA rfl rfl (tN (tT (tS (tS ?_))))
  refine tri_perm perm7 ?_
  refine tri_starsPerm ht1 (tri_starsUn ?_)
  unfold tkA
  skip
  refine tR (tM rfl rfl ?_)
  refine tri_v (opv_nilCheck rfl) rfl ?_
  refine yF rfl ?_
  refine yL rfl rfl ?_
  refine tM rfl rfl ?_
  refine tri_v (opv_indexAddrRN rfl rfl (by omega)) rfl ?_
  refine tri_v (opv_loadRX1 rfl rfl (by omega) rfl rfl) rfl ?_
  refine tri_v (opv_nilCheck rfl) rfl ?_
  refine yF rfl ?_
  refine yL rfl rfl ?_
  refine tN (tT (tri_block (tS ?_)))
  try rw [hwt]
  refine tri_starsRe (tri_starsPerm ht1.symm ?_)
  refine tri_perm (A := ?a1_0 :: ?a1_1 :: ?a1_2 :: ?a1_3 :: ?a1_4 :: ?a1_5 :: ?a1_6 :: ?a1_7 :: ?a1_8 :: ?T1) (B := ?a1_1 :: ?a1_2 :: ?a1_3 :: ?a1_4 :: ?a1_5 :: ?a1_6 :: ?a1_7 :: ?a1_0 :: ?a1_8 :: ?T1) (by exact permL [1, 2, 3, 4, 5, 6, 7, 0, 8] [?a1_0, ?a1_1, ?a1_2, ?a1_3, ?a1_4, ?a1_5, ?a1_6, ?a1_7, ?a1_8] ?T1 (by decide) rfl) ?_
  refine tR ?_
  refine tri_v (opv_eql rfl rfl) rfl ?_
  refine tA rfl rfl (tN (tT ?_))
  refine tri_cond_dec rfl (fun h9 => ?_) (fun h9 => ?_)
  ·rw [if_pos h9]
   refine tR (tM rfl rfl ?_)
   refine tri_v (opv_makeFunc (fs := [_]) (cs := []) (vf := [_]) (vc := []) rfl rfl) rfl ?_
   refine tA rfl rfl (tN (tri_inBlock (tT (tS (tR (tM rfl rfl (tM rfl rfl ?_)))))))
   refine tM rfl rfl ?_
   refine tri_g (opg_callv (xs := [_, _]) rfl rfl (crew_joinV (h := h1) (s := s1) (i := i) (w := w) ok1 dq1 tk1 hg1 h21 (m1.tk i hi).n.1)) rfl ?_
   rintro _ _ I2 ⟨rfl, h3, s3, rfl, hx, hI2⟩
   refine tA rfl rfl (tN (tT (tri_ret ?_)))
   refine tri_end _ (⟨[], rfl⟩) rfl (.cons (rv_tmp rfl) .nil) ⟨rfl, h3, s3, rfl, hx, fun _ h => hI2 (hI1 h)⟩
  ·rw [if_neg h9]
   refine tS (tR ?_)
   refine tri_v (opv_eql rfl rfl) rfl ?_
   refine tA rfl rfl (tN (tT ?_))
   refine tri_cond_dec rfl (fun h4 => ?_) (fun h4 => ?_)
   ·rw [if_pos h4]
    refine tR (tM rfl rfl ?_)
    refine tri_v (opv_makeFunc (fs := [_]) (cs := []) (vf := [_]) (vc := []) rfl rfl) rfl ?_
    refine tA rfl rfl (tN (tri_inBlock (tT (tS (tR (tM rfl rfl (tM rfl rfl ?_)))))))
    refine tM rfl rfl ?_
    refine tri_g (opg_callv (xs := [_, _]) rfl rfl (crew_endV (h := h1) (s := s1) (i := i) (w := w) ok1 dq1 tk1 hg1 h21)) rfl ?_
    rintro _ _ I2 ⟨rfl, h3, s3, rfl, hx, hI2⟩
    refine tA rfl rfl (tN (tT (tri_ret ?_)))
    refine tri_end _ (⟨[], rfl⟩) rfl (.cons (rv_tmp rfl) .nil) ⟨rfl, h3, s3, rfl, hx, fun _ h => hI2 (hI1 h)⟩
   ·rw [if_neg h4]
    refine tri_skip (tri_inBlock (tT (tS (tR (tM rfl rfl (tM rfl rfl (tM rfl rfl ?_)))))))
    refine tri_g (opg_callv (xs := [_, _]) rfl rfl (crew_beginV (h := h1) (s := s1) (i := i) (w := w) ok1 dq1 tk1 m1.right (m1.tk i hi).n)) rfl ?_
    rintro _ _ I2 ⟨rfl, h3, s3, rfl, hx, hI2⟩
    refine tA rfl rfl (tN (tT (tri_ret ?_)))
    refine tri_end _ (⟨[], rfl⟩) rfl (.cons (rv_tmp rfl) .nil) ⟨rfl, h3, s3, rfl, hx, fun _ h => hI2 (hI1 h)⟩
end Go.GL


namespace Go.GL
open Go.Proofs
attribute [local irreducible] wpList Code.wp Exit.then Exit.inBlock Ends Tri TriH OpV OpG FnC epf wpAnyH
variable {A : List Asrt} {I : List Chunk}
set_option maxRecDepth 100000 in
/-- Where the first one is of which a function that is handed in is true. -/
theorem slices_indexFunc {l : List Int} {p : Int → Bool} {f : FuncId} {ca : List Value} {a : Option Addr} {cap : Nat} [FnI Try.prog f] (hp : ∀ x ∈ l, FnC Try.prog f ([] ++ [Value.int .i64 x] ++ ca).toArray A I (fun v A' I' => v = .bool (p x) ∧ A = A' ∧ I = I')) (hs : SlAt I a l) (hn : l.length ≤ 1000000000) :
  FnC Try.prog 70 [.slice a l.length cap, .func (.func f) #[] ca.toArray].toArray A I (fun v A' I' => v = .int .i64 (R11.idx p l) ∧ A = A' ∧ I = I') := by
 refine fn_enter2 Try.func70 rfl Try.ntmps70 rfl fun w0 => ?_
 refine tS (tR (tA rfl rfl (tN (tT (tS (tS (tR ?_)))))))
 refine tM rfl rfl ?_
 refine tri_v (opv_len rfl) rfl ?_
 refine tM rfl rfl (tN (tT (tri_block ?_)))
 refine tri_sub (F' := [(0, .slice a l.length cap), (1, .func (.func f) #[] ca.toArray), (6, .slice a l.length cap), (7, .int .i64 (l.length : Nat)), (8, .int .i64 (0 : Nat))]) ⟨rfl, rfl, rfl, rfl, rfl, trivial⟩ ?_
 refine loop_ind (G := Nat) (fun i => l.length - i) (fun i => i ≤ l.length ∧ ∀ j, j < i → p (l.getD j default) = false) (fun i => [(0, .slice a l.length cap), (1, .func (.func f) #[] ca.toArray), (6, .slice a l.length cap), (7, .int .i64 (l.length : Nat)), (8, .int .i64 (i : Nat))]) (fun _ => _) (fun _ => _) ?_ 0 ⟨by omega, fun j h => absurd h (by omega)⟩
 rintro i ⟨hi, hok⟩ K hK
 skip
 refine tS (tR (yC rfl rfl (tN (tT (tS ?_)))))
 refine tri_cond_dec rfl (fun h => ?_) (fun h => ?_)
 ·have hlt : i < l.length := by omega
  refine tri_skip (tT (tS (tri_block (tS (tR (tM rfl rfl (tA rfl rfl ?_)))))))
  refine tN (tT (tS (tR (tM rfl rfl (tM rfl rfl (tM rfl rfl ?_))))))
  refine tri_v (opv_indexAddrSN rfl rfl (by omega) (by assumption) rfl) rfl ?_
  refine tri_v (opv_loadE1 rfl (by assumption) rfl (by omega) rfl rfl) rfl ?_
  refine tri_g (opg_callv (xs := [_]) rfl rfl (hp (l.getD i default) (R11.getD_mem hlt))) rfl ?_
  rintro _ _ _ ⟨rfl, rfl, rfl⟩
  refine tN (tT ?_)
  refine tri_cond rfl (fun h1 => ?_) (fun h1 => ?_)
  ·refine tS (tR (tM rfl rfl (tA rfl rfl (tN (tT (tri_ret (tri_inBlock_ret ?_)))))))
   refine tri_then_ret (tri_then_ret (tri_inBlock_ret (tri_then_ret ?_)))
   refine tri_end A Suf.h rfl (.cons (rv_tmp rfl) .nil) ⟨?_, rfl, rfl⟩
   have e : l.findIdx p = i := (List.findIdx_eq hlt).2 ⟨by simpa [hlt] using h1, fun j hj => by have := hok j hj; simpa [Nat.lt_trans hj hlt] using this⟩
   unfold R11.idx
   rw [e, if_pos hlt]
   rfl
  ·refine tri_skip (tri_inBlock (tT (tR ?_)))
   refine yU rfl rfl ?_
   refine tM rfl rfl (tN (tT ?_))
   refine tri_sub ?_ (hK (i + 1) ⟨by omega, fun j hj => ?_⟩ (by omega))
   ·exact ⟨rfl, rfl, rfl, rfl, rfl, trivial⟩
   ·by_cases e : j = i
    ·subst e
     exact h1
    ·exact hok j (by omega)
 ·refine tri_exit ?_
  refine tri_then_exit (tri_then_exit ?_)
  refine tri_inBlock_hit rfl ?_
  refine tT (tS (tR (tA rfl rfl (tN (tT (tri_ret ?_))))))
  refine tri_end A Suf.h rfl (.cons (rv_tmp rfl) .nil) ⟨?_, rfl, rfl⟩
  have e : l.findIdx p = l.length := List.findIdx_eq_length.2 fun x hx => by
   obtain ⟨j, hj, rfl⟩ := List.getElem_of_mem hx
   have := hok j (by omega)
   simpa [hj] using this
  unfold R11.idx
  rw [if_neg (by omega)]
  rfl
end Go.GL


namespace Go.GL
open Go.Proofs
attribute [local irreducible] wpList Code.wp Exit.then Exit.inBlock Ends Tri TriH OpV OpG FnC epf wpAnyH
variable {A : List Asrt} {I : List Chunk}
set_option maxRecDepth 100000 in
theorem pick_place {c n : Int} (h0 : I64 c) (hn : 0 < n) : FnC Try.prog 69 [.int .i64 c, .int .i64 n].toArray A I (fun v A' I' => v = .int .i64 (pk c n) ∧ A = A' ∧ I = I') := by
 obtain ⟨h0, h1⟩ := h0
 refine fn_enter2 Try.func69 rfl Try.ntmps69 rfl fun w0 => ?_
 refine tS (tR (tA rfl rfl (tN (tT (tS (tS (tR ?_)))))))
 refine tM rfl rfl (yC rfl rfl (tN (tT ?_)))
 refine tri_cond_dec rfl (fun h => ?_) (fun h => ?_)
 ·refine tR (tM rfl rfl ?_)
  refine yU rfl rfl ?_
  refine tri_v (opv_negE rfl (by omega) (by omega)) rfl ?_
  refine tA rfl rfl (tN (tT (tS (tR (tM rfl rfl (tM rfl rfl ?_))))))
  refine tri_v (opv_remE rfl rfl (by omega) (by omega)) rfl ?_
  refine tA rfl rfl (tN (tT (tri_ret ?_)))
  refine tri_end A Suf.h rfl (.cons (rv_tmp rfl) .nil) ⟨?_, rfl, rfl⟩
  rw [pk, if_pos h]; rfl
 ·refine tri_skip (tT (tS (tR (tM rfl rfl (tM rfl rfl ?_)))))
  refine tri_v (opv_remE rfl rfl (by omega) (by omega)) rfl ?_
  refine tA rfl rfl (tN (tT (tri_ret ?_)))
  refine tri_end A Suf.h rfl (.cons (rv_tmp rfl) .nil) ⟨?_, rfl, rfl⟩
  rw [pk, if_neg h]; rfl
set_option maxRecDepth 100000 in
theorem pick_next1 {x last : Int} {b : Nat} {T : TypeId} : FnC Try.prog 71 [.int .i64 x, pt b 0].toArray (Box b [.int .i64 last] T :: A) I (fun v A' I' => v = .bool (decide (last < x)) ∧ Box b [.int .i64 last] T :: A = A' ∧ I = I') := by
 refine fn_enter2 Try.func71 rfl Try.ntmps71 rfl fun w0 => ?_
 refine tS (tR (tA rfl rfl (tN (tT (tS (tR (tM rfl rfl ?_)))))))
 refine yL rfl rfl ?_
 refine tri_v (opv_gtr rfl rfl) rfl ?_
 refine tA rfl rfl (tN (tT (tri_ret ?_)))
 refine tri_end _ (⟨[], rfl⟩) rfl (.cons (rv_tmp rfl) .nil) ⟨rfl, rfl, rfl⟩
/-- Numbers that a machine can hold. -/
def Is (l : List Int) : Prop := ∀ i, i < l.length → I64 (l.getD i default)
set_option maxHeartbeats 1000000 in
set_option maxRecDepth 100000 in
theorem pick_next {picks left : List Int} {step last : Int} {a a2 : Option Addr} {cap cap2 : Nat} {E : TypeId} (hs : SlAt I a picks) (hp : Is picks) (hn : left.length ≤ 1000000) :
  FnC Try.prog 50 [.slice a picks.length cap, .int .i64 step, .slice a2 left.length cap2, .int .i64 last].toArray (Row a2 cap2 left.length E 1 (encs left) :: A) I (fun v A' I' => v = .int .i64 (R11.next picks step left last) ∧ Row a2 cap2 left.length E 1 (encs left) :: A = A' ∧ I ⊆ I') := by
 have hnx : R11.next picks step left last = if (R11.all left).length = 0 then -1 else if 0 ≤ step ∧ step < picks.length then (R11.all left).getD (pk (picks.getD step.toNat default) (R11.all left).length).toNat default else R11.round (R11.all left) last := rfl
 have hall : R11.all left = R11.allF 0 left := rfl
 have hal := R11.all_len left
 generalize R11.next picks step left last = res at *
 skip
 refine fn_enter4 Try.func50 rfl Try.ntmps50 rfl fun w0 => ?_
 refine tS (tR ?_)
 refine tri_g (opg_box1 rfl rfl) rfl ?_
 rintro _ _ _ ⟨b7, rfl, rfl, rfl⟩
 refine tA rfl rfl (tN (tT (tS (tR (tA rfl rfl (tN (tT ?_)))))))
 refine tS (tS (tR (tM rfl rfl ?_)))
 refine tri_v (opv_len rfl) rfl ?_
 refine tM rfl rfl (tN (tT ?_))
 refine tri_cut (fun F' A' J => ∃ (a1 : Option Addr) (c1 : Nat), F' = [(0, .slice a picks.length cap), (1, .int .i64 step), (3, .int .i64 last), (7, pt b7 0), (9, .slice a1 (R11.all left).length c1)] ∧ A' = Row a1 c1 (R11.all left).length 3 1 (encs (R11.all left)) :: Box b7 [.int .i64 last] 3 :: Row a2 cap2 left.length E 1 (encs left) :: A ∧ I = J) ?_ ?_
 ·refine tri_block ?_
  refine tri_nilRow (E := 3) (sz := 1) ?_
  refine tri_sub (F' := [(0, .slice a picks.length cap), (1, .int .i64 step), (3, .int .i64 last), (7, pt b7 0), (9, .slice none 0 0), (13, .slice a2 left.length cap2), (14, .int .i64 (left.length : Nat)), (15, .int .i64 (0 : Nat))]) ⟨rfl, rfl, rfl, rfl, rfl, rfl, rfl, rfl, trivial⟩ ?_
  refine loop_ind (G := Nat × Option Addr × Nat) (fun g => left.length - g.1) (fun g => g.1 ≤ left.length) (fun g => [(0, .slice a picks.length cap), (1, .int .i64 step), (3, .int .i64 last), (7, pt b7 0), (9, .slice g.2.1 (R11.allF 0 (left.take g.1)).length g.2.2), (13, .slice a2 left.length cap2), (14, .int .i64 (left.length : Nat)), (15, .int .i64 (g.1 : Nat))]) (fun g => Row g.2.1 g.2.2 (R11.allF 0 (left.take g.1)).length 3 1 (encs (R11.allF 0 (left.take g.1))) :: Box b7 [.int .i64 last] 3 :: Row a2 cap2 left.length E 1 (encs left) :: A) (fun _ => I) ?_ (0, none, 0) (by simp)
  rintro ⟨i, a1, c1⟩ hi K hK
  simp only at hi hK ⊢
  have hl1 := R11.allF_len (left.take i) 0
  rw [List.length_take] at hl1
  skip
  refine tS (tR (yC rfl rfl (tN (tT (tS ?_)))))
  refine tri_cond_dec rfl (fun h => ?_) (fun h => ?_)
  ·have hlt : i < left.length := by omega
   have e : left.take (i + 1) = left.take i ++ [left.getD i default] := by
    rw [List.take_succ_eq_append_getElem hlt, show left.getD i default = left[i] by simp [hlt]]
   have el : 0 + (left.take i).length = i := by rw [List.length_take]; omega
   refine tri_skip (tT (tS (tri_block (tS (tR (tM rfl rfl ?_))))))
   refine tri_v (opv_indexAddrRN rfl rfl (by omega)) rfl ?_
   refine tri_v (opv_loadRX1 rfl rfl (by omega) rfl rfl) rfl ?_
   refine tA rfl rfl (tA rfl rfl (tN (tT (tS (tR (tM rfl rfl ?_))))))
   refine tri_v (opv_gtr rfl rfl) rfl ?_
   refine tN (tT ?_)
   refine tri_cond_dec rfl (fun h5 => ?_) (fun h5 => ?_)
   ·have e2 : R11.allF 0 (left.take (i + 1)) = R11.allF 0 (left.take i) ++ [(i : Int)] := by
     rw [e, R11.allF_snoc, el, if_pos h5]
    refine tR (tM rfl rfl (tM rfl rfl ?_))
    refine tri_g (opg_buildSlice rfl rfl rfl rfl) rfl ?_
    rintro _ _ _ ⟨b24, rfl, rfl, rfl⟩
    refine tri_g (opg_appendB rfl rfl rfl rfl (by omega) rfl) rfl ?_
    rintro _ _ _ ⟨a3, cap3, rfl, rfl, rfl⟩
    refine tA rfl rfl (tN (tri_inBlock (tT (tR ?_))))
    refine yU rfl rfl ?_
    refine tM rfl rfl (tN (tT ?_))
    refine tri_drop ?_
    refine tri_rowEq (len' := (R11.allF 0 (left.take (i + 1))).length) (cells' := encs (R11.allF 0 (left.take (i + 1)))) (by rw [e2]; simp) (by rw [e2, encs_append]; rfl) ?_
    refine tri_sub ?_ (hK (i + 1, a3, cap3) (by simp only; omega) (by simp only; omega))
    exact ⟨rfl, rfl, rfl, rfl, by simp only [e2, List.length_append]; rfl, rfl, rfl, rfl, trivial⟩
   ·have e2 : R11.allF 0 (left.take (i + 1)) = R11.allF 0 (left.take i) := by
     rw [e, R11.allF_snoc, el, if_neg h5, List.append_nil]
    refine tri_skip (tri_inBlock (tT (tR ?_)))
    refine yU rfl rfl ?_
    refine tM rfl rfl (tN (tT ?_))
    refine tri_rowEq (len' := (R11.allF 0 (left.take (i + 1))).length) (cells' := encs (R11.allF 0 (left.take (i + 1)))) (by rw [e2]) (by rw [e2]) ?_
    refine tri_sub ?_ (hK (i + 1, a1, c1) (by simp only; omega) (by simp only; omega))
    exact ⟨rfl, rfl, rfl, rfl, by simp only [e2]; rfl, rfl, rfl, rfl, trivial⟩
  ·have e : left.take i = left := List.take_of_length_le (by omega)
   rw [e] at hl1 ⊢
   refine tri_exit ?_
   refine tri_then_exit (tri_then_exit ?_)
   refine tri_inBlock_hit rfl ?_
   refine tri_cutEnd _ ⟨a1, c1, rfl, rfl, rfl⟩ ⟨rfl, rfl, rfl, rfl, rfl, trivial⟩
 rintro _ _ _ ⟨a1, c1, rfl, rfl, rfl⟩
 refine tri_freezeRow (α := Int) rfl fun I1 hI1 hsa => ?_
 have hs1 := hs.mono hI1
 generalize R11.all left = al at *
 skip
 refine tT (tS (tS (tR (tM rfl rfl ?_))))
 refine tri_v (opv_len rfl) rfl ?_
 refine tri_v (opv_eql rfl rfl) rfl ?_
 refine tN (tT ?_)
 refine tri_cond_dec rfl (fun h1 => ?_) (fun h1 => ?_)
 ·refine tS (tR (tA rfl rfl (tN (tT (tri_ret (tri_then_ret ?_))))))
  rw [if_pos (by omega)] at hnx
  refine tri_end (Row a2 cap2 left.length E 1 (encs left) :: A) Suf.h rfl (.cons (rv_tmp rfl) .nil) ⟨by rw [hnx]; rfl, rfl, hI1⟩
 skip
 rw [if_neg (by omega)] at hnx
 refine tri_skip (tT (tS (tS ?_)))
 refine tri_cut (fun F' A' J => F' = [(0, .slice a picks.length cap), (1, .int .i64 step), (3, .int .i64 last), (7, pt b7 0), (9, .slice a1 al.length c1), (37, .bool (decide (0 ≤ step ∧ step < picks.length)))] ∧ A' = Box b7 [.int .i64 last] 3 :: Row a2 cap2 left.length E 1 (encs left) :: A ∧ I1 = J) ?_ ?_
 ·refine tR (tM rfl rfl ?_)
  refine tri_v (opv_geq rfl rfl) rfl ?_
  refine tM rfl rfl ?_
  refine tri_split rfl rfl (fun h2 => ?_) (fun h2 => ?_)
  ·refine yR rfl rfl (tM rfl rfl (yR rfl rfl (tM rfl rfl (yR rfl rfl ?_))))
   refine tri_v (opv_len rfl) rfl ?_
   refine yR rfl rfl (yC rfl rfl ?_)
   refine tri_v (opv_pick_t rfl rfl) rfl ?_
   refine tN ?_
   refine tri_cutEnd _ ⟨rfl, rfl, rfl⟩ ⟨rfl, rfl, rfl, rfl, rfl, ?_, trivial⟩
   exact congrArg (fun x => some (Value.bool x)) (decide_eq_decide.2 ⟨fun h => h.2, fun h => ⟨h2, h⟩⟩).symm
  ·refine tri_guard_skip rfl rfl rfl rfl (tri_guard_skip rfl rfl rfl rfl (tri_guard_skip rfl rfl rfl rfl (tri_guard_skip rfl rfl rfl rfl ?_)))
   refine tri_v (opv_pick_f rfl rfl) rfl ?_
   refine tN ?_
   refine tri_cutEnd _ ⟨rfl, rfl, rfl⟩ ⟨rfl, rfl, rfl, rfl, rfl, ?_, trivial⟩
   exact congrArg (fun x => some (Value.bool x)) (decide_eq_false fun h => h2 h.1).symm
 rintro _ _ _ ⟨rfl, rfl, rfl⟩
 skip
 refine tT ?_
 refine tri_cond_dec rfl (fun h3 => ?_) (fun h3 => ?_)
 ·rw [if_pos h3] at hnx
  have hstep : step.toNat < picks.length := by omega
  have hpk := pk_bd (c := picks.getD step.toNat default) (n := al.length) (by omega)
  have hpi := hp step.toNat hstep
  refine tS (tR (tM rfl rfl (tM rfl rfl (tM rfl rfl ?_))))
  refine tri_v (opv_indexAddrS rfl rfl (by omega) (by omega) (by assumption) rfl) rfl ?_
  refine tri_v (opv_loadE1 rfl (by assumption) rfl (by omega) rfl rfl) rfl ?_
  refine tM rfl rfl ?_
  refine tri_v (opv_len rfl) rfl ?_
  refine tri_g (opg_call (xs := [_, _]) rfl (pick_place hpi (by omega))) rfl ?_
  rintro _ _ _ ⟨rfl, rfl, rfl⟩
  refine tri_v (opv_indexAddrS rfl rfl (by omega) (by omega) (by assumption) rfl) rfl ?_
  refine tri_v (opv_loadE1 rfl (by assumption) rfl (by omega) rfl rfl) rfl ?_
  refine tA rfl rfl (tN (tT (tri_ret (tri_then_ret ?_))))
  refine tri_end (Row a2 cap2 left.length E 1 (encs left) :: A) Suf.h rfl (.cons (rv_tmp rfl) .nil) ⟨by rw [hnx]; rfl, rfl, hI1⟩
 refine tri_skip (tT (tS (tS (tR (tM rfl rfl ?_)))))
 refine tri_v (opv_makeFunc (fs := []) (cs := [_]) (vf := []) (vc := [_]) rfl rfl) rfl ?_
 rw [if_neg h3] at hnx
 refine tri_g (opg_call (xs := [_, _]) rfl (slices_indexFunc (p := fun x => decide (last < x)) (ca := [pt b7 0]) (fun x _ => pick_next1) hsa (by omega))) rfl ?_
 rintro _ _ _ ⟨rfl, rfl, rfl⟩
 refine tA rfl rfl (tN (tT (tS ?_)))
 unfold R11.round at hnx
 have hix := R11.idx_lt (fun x => decide (last < x)) al
 generalize R11.idx (fun x => decide (last < x)) al = ix at *
 refine tri_cut (fun F' A' J => F' = [(9, .slice a1 al.length c1), (12, .int .i64 ix), (56, .bool (decide (0 ≤ ix ∧ 0 ≤ last)))] ∧ A' = Box b7 [.int .i64 last] 3 :: Row a2 cap2 left.length E 1 (encs left) :: A ∧ I1 = J) ?_ ?_
 ·refine tR (tM rfl rfl ?_)
  refine tri_v (opv_geq rfl rfl) rfl ?_
  refine tM rfl rfl ?_
  refine tri_split rfl rfl (fun h4 => ?_) (fun h4 => ?_)
  ·refine yR rfl rfl ?_
   refine yL rfl rfl ?_
   refine yR rfl rfl ?_
   refine tri_v (opv_geq rfl rfl) rfl ?_
   refine tri_v (opv_pick_t rfl rfl) rfl ?_
   refine tN ?_
   refine tri_cutEnd _ ⟨rfl, rfl, rfl⟩ ⟨rfl, rfl, ?_, trivial⟩
   exact congrArg (fun x => some (Value.bool x)) (decide_eq_decide.2 ⟨fun h => h.2, fun h => ⟨h4, h⟩⟩).symm
  ·refine tri_guard_skip rfl rfl rfl rfl (tri_guard_skip rfl rfl rfl rfl ?_)
   refine tri_v (opv_pick_f rfl rfl) rfl ?_
   refine tN ?_
   refine tri_cutEnd _ ⟨rfl, rfl, rfl⟩ ⟨rfl, rfl, ?_, trivial⟩
   exact congrArg (fun x => some (Value.bool x)) (decide_eq_false fun h => h4 h.1).symm
 rintro _ _ _ ⟨rfl, rfl, rfl⟩
 skip
 refine tT ?_
 refine tri_cond_dec rfl (fun h5 => ?_) (fun h5 => ?_)
 ·rw [if_pos h5] at hnx
  refine tS (tR (tM rfl rfl (tM rfl rfl ?_)))
  refine tri_v (opv_indexAddrS rfl rfl (by omega) (by omega) (by assumption) rfl) rfl ?_
  refine tri_v (opv_loadE1 rfl (by assumption) rfl (by omega) rfl rfl) rfl ?_
  refine tA rfl rfl (tN (tT (tri_ret (tri_then_ret ?_))))
  refine tri_end (Row a2 cap2 left.length E 1 (encs left) :: A) Suf.h rfl (.cons (rv_tmp rfl) .nil) ⟨by rw [hnx]; rfl, rfl, hI1⟩
 ·rw [if_neg h5] at hnx
  refine tri_skip (tT (tS (tR (tM rfl rfl ?_))))
  refine tri_v (opv_indexAddrS rfl rfl (by omega) (by omega) (by assumption) rfl) rfl ?_
  refine tri_v (opv_loadE1 rfl (by assumption) rfl (by omega) rfl rfl) rfl ?_
  refine tA rfl rfl (tN (tT (tri_ret ?_)))
  refine tri_end (Row a2 cap2 left.length E 1 (encs left) :: A) Suf.h rfl (.cons (rv_tmp rfl) .nil) ⟨by rw [hnx]; rfl, rfl, hI1⟩
end Go.GL


namespace Go.GL
open Go.Proofs
attribute [local irreducible] wpList Code.wp Exit.then Exit.inBlock Ends Tri TriH OpV OpG FnC epf wpAnyH
variable {A : List Asrt} {I : List Chunk}
set_option maxRecDepth 100000 in
theorem bits_mul64 {v : Int} (h0 : 0 ≤ v) (h1 : v ≤ 1000000) : FnC Try.prog 80 [.int .u64 1, .int .u64 v].toArray A I (fun r A' I' => r = .tuple [.int .u64 0, .int .u64 v].toArray ∧ A = A' ∧ I = I') := by
 refine fn_enter2 Try.func80 rfl Try.ntmps80 rfl fun w0 => ?_
 skip
 refine tS (tR (tA rfl rfl (tA rfl rfl (tN (tT (tS (tR ?_)))))))
 refine tM rfl rfl ?_
 refine tri_v (opv_and32 rfl rfl (by omega) (by omega)) rfl ?_
 refine tA rfl rfl (tN (tT (tS (tR (tM rfl rfl ?_)))))
 refine tri_v (opv_shr32 rfl rfl (by omega) (by omega)) rfl ?_
 refine tA rfl rfl (tN (tT (tS (tR (tM rfl rfl ?_)))))
 refine tri_v (opv_and32 rfl rfl (by omega) (by omega)) rfl ?_
 refine tA rfl rfl (tN (tT (tS (tR (tM rfl rfl ?_)))))
 refine tri_v (opv_shr32 rfl rfl (by omega) (by omega)) rfl ?_
 refine tA rfl rfl (tN (tT (tS (tR (tM rfl rfl (tM rfl rfl ?_))))))
 refine tri_v (opv_mul (z := v) rfl rfl (by rw [Int.one_mul]; exact wu64 (by omega) (by omega))) rfl ?_
 refine tA rfl rfl (tN (tT (tS (tR (tM rfl rfl (tM rfl rfl ?_))))))
 refine tri_v (opv_mul (z := 0) rfl rfl (by rw [Int.zero_mul]; rfl)) rfl ?_
 refine tM rfl rfl ?_
 refine tri_v (opv_shr32 rfl rfl (by omega) (by omega)) rfl ?_
 skip
 refine tri_v (opv_add (z := 0) rfl rfl rfl) rfl ?_
 refine tA rfl rfl (tN (tT (tS (tR (tM rfl rfl ?_)))))
 refine tri_v (opv_and32 rfl rfl (by omega) (by omega)) rfl ?_
 refine tA rfl rfl (tN (tT (tS (tR (tM rfl rfl ?_)))))
 refine tri_v (opv_shr32 rfl rfl (by omega) (by omega)) rfl ?_
 refine tA rfl rfl (tN (tT (tS (tR (tM rfl rfl (tM rfl rfl (tM rfl rfl ?_)))))))
 refine tri_v (opv_mul (z := 0) rfl rfl rfl) rfl ?_
 skip
 refine tri_v (opv_add (z := 0) rfl rfl rfl) rfl ?_
 refine tA rfl rfl (tN (tT (tS (tR (tM rfl rfl (tM rfl rfl ?_))))))
 refine tri_v (opv_mul (z := 0) rfl rfl rfl) rfl ?_
 refine tM rfl rfl ?_
 refine tri_v (opv_add (z := 0) rfl rfl rfl) rfl ?_
 refine tM rfl rfl ?_
 refine tri_v (opv_shr32 rfl rfl (by omega) (by omega)) rfl ?_
 skip
 refine tri_v (opv_add (z := 0) rfl rfl rfl) rfl ?_
 refine tA rfl rfl (tN (tT (tS (tR (tM rfl rfl (tM rfl rfl ?_))))))
 refine tri_v (opv_mul (z := v) rfl rfl (by rw [Int.one_mul]; exact wu64 (by omega) (by omega))) rfl ?_
 refine tA rfl rfl (tN (tT (tri_ret ?_)))
 refine tri_end A Suf.h rfl (.cons (rv_tmp rfl) (.cons (rv_tmp rfl) .nil)) ⟨rfl, rfl, rfl⟩
set_option maxRecDepth 100000 in
theorem bits_mul {v : Int} (h0 : 0 ≤ v) (h1 : v ≤ 1000000) : FnC Try.prog 68 [.int .u64 1, .int .u64 v].toArray A I (fun r A' I' => r = .tuple [.int .u64 0, .int .u64 v].toArray ∧ A = A' ∧ I = I') := by
 refine fn_enter2 Try.func68 rfl Try.ntmps68 rfl fun w0 => ?_
 skip
 refine tS (tR (tA rfl rfl (tA rfl rfl (tN (tT (tS ?_))))))
 refine tri_cond_false rfl ?_
 refine tri_skip (tT (tS (tR (tM rfl rfl (tM rfl rfl ?_)))))
 refine tri_g (opg_call (xs := [_, _]) rfl (bits_mul64 h0 h1)) rfl ?_
 rintro _ _ _ ⟨rfl, rfl, rfl⟩
 refine tM rfl rfl ?_
 refine tri_v (opv_extract rfl rfl) rfl ?_
 refine tri_v (opv_extract rfl rfl) rfl ?_
 refine tA rfl rfl (tA rfl rfl (tN (tT (tS (tR (tM rfl rfl (tM rfl rfl ?_)))))))
 refine tA rfl rfl (tA rfl rfl (tN (tT (tri_ret ?_))))
 refine tri_end A Suf.h rfl (.cons (rv_tmp rfl) (.cons (rv_tmp rfl) .nil)) ⟨rfl, rfl, rfl⟩
def onesTo (c k : Nat) : List Value := List.replicate k (Value.int .i64 1) ++ List.replicate (c - k) (Value.int .i64 0)
theorem ones_pre {c k m : Nat} (h : m ≤ k) : List.replicate m (Value.int .i64 1) <+: onesTo c k := by
 refine ⟨List.replicate (k - m) (Value.int .i64 1) ++ List.replicate (c - k) (Value.int .i64 0), ?_⟩
 unfold onesTo
 rw [← List.append_assoc, List.replicate_append_replicate, show m + (k - m) = k by omega]
theorem ones_splice {c k m : Nat} (h : m ≤ k) (h2 : k + m ≤ c) : (onesTo c k).take k ++ List.replicate m (Value.int .i64 1) ++ (onesTo c k).drop (k + m) = onesTo c (k + m) := by
 unfold onesTo
 rw [List.take_left' (by simp), ← List.drop_drop, List.drop_left' (by simp), List.drop_replicate, List.replicate_append_replicate, show c - k - m = c - (k + m) by omega]
theorem ones_all (c : Nat) : onesTo c c = encs (List.replicate c (1 : Int)) := by
 unfold onesTo
 rw [Nat.sub_self, List.replicate_zero, List.append_nil]
 induction c with
 | zero => rfl
 | succ c ih => rw [List.replicate_succ, List.replicate_succ, encs_cons, ← ih]; rfl
set_option maxHeartbeats 1000000 in
set_option maxRecDepth 100000 in
theorem slices_repeat1 {c : Nat} {a : Option Addr} {cap : Nat} (hs : SlAt I a [(1 : Int)]) (h1 : 1 ≤ c) (hc : c ≤ 1000) :
  FnC Try.prog 49 [.slice a 1 cap, .int .i64 (c : Int)].toArray A I (fun v A' I' => ∃ a', v = .slice a' c c ∧ A' = Row a' c c 3 1 (encs (List.replicate c (1 : Int))) :: A ∧ I = I') := by
 refine fn_enter2 Try.func49 rfl Try.ntmps49 rfl fun w0 => ?_
 refine tS (tR (tA rfl rfl (tN (tT (tS (tS (tR ?_)))))))
 refine tM rfl rfl (yC rfl rfl (tN (tT ?_)))
 refine tri_cond_not rfl (by omega) ?_
 skip
 refine tri_skip (tT (tS (tR (tM rfl rfl ?_))))
 refine tri_v (opv_len rfl) rfl ?_
 refine tri_v (opv_convert (z := 1) rfl rfl) rfl ?_
 refine tM rfl rfl ?_
 refine tri_v (opv_convert rfl (wu64 (by omega) (by omega))) rfl ?_
 skip
 refine tri_g (opg_call (xs := [_, _]) rfl (bits_mul (v := (c : Int)) (by omega) (by omega))) rfl ?_
 rintro _ _ _ ⟨rfl, rfl, rfl⟩
 refine tM rfl rfl ?_
 refine tri_v (opv_extract rfl rfl) rfl ?_
 refine tri_v (opv_extract rfl rfl) rfl ?_
 refine tA rfl rfl (tA rfl rfl (tN (tT (tS (tS (tR (tM rfl rfl ?_)))))))
 refine tri_v (opv_gtr rfl rfl) rfl ?_
 refine tM rfl rfl ?_
 refine tri_false rfl rfl (by decide) ?_
 refine yR rfl rfl (tM rfl rfl (yR rfl rfl ?_))
 refine tri_v (opv_gtr rfl rfl) rfl ?_
 refine tri_v (opv_pick_f rfl rfl) rfl ?_
 refine tN (tT ?_)
 refine tri_cond_not rfl (by omega) ?_
 refine tri_skip (tT (tS (tR (tM rfl rfl ?_))))
 refine tri_v (opv_convert rfl (w64 (by omega) (by omega))) rfl ?_
 skip
 skip
 refine tri_g (opg_makeSlice rfl rfl rfl (by omega) (by omega) (by omega)) rfl ?_
 rintro _ _ _ ⟨a7, ha7, rfl, rfl, rfl⟩
 rw [show ((c : Nat) : Int).toNat = c from rfl]
 refine tri_rowPt ha7 fun b hb => ?_
 subst hb
 refine tA rfl rfl (tN (tT (tS (tR (tM rfl rfl (tM rfl rfl ?_))))))
 refine tri_g (opg_copyR (k := 1) (cs := [.int .i64 1]) rfl rfl rfl (by rw [if_pos h1]) rfl rfl (fun w hw => hs.cellsOf hw) (by omega)) rfl ?_
 rintro _ _ _ ⟨rfl, rfl, rfl⟩
 refine tA rfl rfl (tN (tT (tS (tri_block ?_))))
 have e0 : (List.replicate c (Value.int .i64 0)).take 0 ++ [Value.int .i64 1] ++ (List.replicate c (Value.int .i64 0)).drop (0 + 1) = onesTo c 1 := by
  unfold onesTo
  rw [List.drop_replicate]
  rfl
 rw [e0]
 refine tri_sub (F' := [(7, .slice (some ⟨b, 0, none⟩) c c), (8, .int .i64 ((1 : Nat) : Int))]) ⟨rfl, rfl, trivial⟩ ?_
 refine loop_ind (G := Nat) (fun k => c - k) (fun k => 1 ≤ k ∧ k ≤ c) (fun k => [(7, .slice (some ⟨b, 0, none⟩) c c), (8, .int .i64 (k : Nat))]) (fun k => Row (some ⟨b, 0, none⟩) c c 3 1 (onesTo c k) :: A) (fun _ => I) ?_ 1 ⟨by omega, by omega⟩
 rintro k ⟨hk1, hk⟩ K hK
 skip
 refine tS (tS (tR (tM rfl rfl (tM rfl rfl ?_))))
 refine tri_v (opv_len rfl) rfl ?_
 refine yC rfl rfl (tN (tT ?_))
 refine tri_cond_dec rfl (fun h => ?_) (fun h => ?_)
 ·have hkc : k < c := by omega
  obtain ⟨m, hm⟩ : ∃ m, m = if k ≤ c - k then k else c - k := ⟨_, rfl⟩
  have hmk : m ≤ k ∧ k + m ≤ c ∧ 1 ≤ m := by
   rw [hm]
   split <;> omega
  have elo : loA (some ⟨b, 0, none⟩) c k 1 = some ⟨b, k, none⟩ := by
   unfold loA
   rw [if_neg (by omega)]
   simp [add_pt]
  have tk : (k : Int).toNat = k := rfl
  skip
  refine tri_skip (tT (tri_block ?_))
  refine tri_draw [0, 1, 2, 3, 4, 5, 6, 7, 8, 9] rfl [_] rfl mixed ?_
  refine yM rfl rfl (yM rfl rfl (yM rfl rfl ?_))
  refine th_take rfl rfl (by kernel_rfl)  (opv_sliceLoN rfl rfl (by omega) (by omega)) ?_
  rw [tk, elo]
  refine yM rfl rfl (yM rfl rfl ?_)
  refine th_take rfl rfl (by kernel_rfl)  (opv_sliceHiN rfl rfl (by omega) (by omega)) ?_
  rw [tk]
  skip
  refine th_one (by kernel_rfl) (step_m rfl rfl (opg_copyR (k := m) (cs := List.replicate m (.int .i64 1)) rfl rfl rfl hm (List.length_replicate) (List.all_eq_true.2 fun x hx => by rw [(List.mem_replicate.1 hx).2]; rfl) (fun w hw => row_cellsOf hw (ones_pre hmk.1)) hmk.2.1) ?_)
  rintro _ _ _ ⟨rfl, rfl, rfl⟩
  refine ⟨Suf.h, (fun _ h => h), ?_⟩
  rw [ones_splice hmk.1 hmk.2.1]
  refine th_take rfl rfl (by kernel_rfl)  (opv_add rfl rfl (w64 (by omega) (by omega))) ?_
  refine yA rfl rfl (yD (tri_inBlock (tT ?_)))
  refine tri_sub ?_ (hK (k + m) ⟨by omega, by omega⟩ (by omega))
  exact ⟨rfl, rfl, trivial⟩
 ·have ek : k = c := by omega
  subst ek
  refine tri_exit ?_
  refine tri_then_exit (tri_then_exit ?_)
  refine tri_inBlock_hit rfl ?_
  refine tT (tS (tR (tM rfl rfl (tA rfl rfl (tN (tT (tri_ret ?_)))))))
  refine tri_end _ (⟨[], rfl⟩) rfl (.cons (rv_tmp rfl) .nil) ⟨_, rfl, ?_, rfl⟩
  rw [ones_all]
end Go.GL


namespace Go.GL
open Go.Proofs
attribute [local irreducible] wpList Code.wp Exit.then Exit.inBlock Ends Tri TriH OpV OpG FnC epf wpAnyH
variable {A : List Asrt} {I : List Chunk}
theorem pick_nextM {picks left : List Int} {m : Nat} {step last : Int} {a a2 : Option Addr} {cap cap2 : Nat} {E : TypeId} (hm : left.length = m) (hs : SlAt I a picks) (hp : Is picks) (hn : m ≤ 1000000) :
  FnC Try.prog 50 [.slice a picks.length cap, .int .i64 step, .slice a2 m cap2, .int .i64 last].toArray (Row a2 cap2 m E 1 (encs left) :: A) I (fun v A' I' => v = .int .i64 (R11.next picks step left last) ∧ Row a2 cap2 m E 1 (encs left) :: A = A' ∧ I ⊆ I') := by
 subst hm
 exact pick_next hs hp hn
theorem R21.run_succ (room : Int) (W : Nat) (picks : List Int) (f n : Nat) (last : Int) (s : R21.Ms) {w : Nat} (hw : R19.nxt picks W n last = (w : Int)) : R21.run room W picks (f + 1) n last s = if (R21.step room s w).2 ≠ 0 then ((R21.step room s w).1, 0, (R21.step room s w).2) else if (R21.step room s w).1.done then ((R21.step room s w).1, (n : Int) + 1, 0) else R21.run room W picks f (n + 1) (w : Int) (R21.step room s w).1 := by
 rw [R21.run, hw]
 rfl
/-- What a crew's run comes to. -/
def CwE2 (bc bx mb db bq cd : Nat) (room : Int) (r : R21.Ms × Int × Int) (A : List Asrt) (I : List Chunk) : Value → List Asrt → List Chunk → Prop :=
 fun v A' I' => v = .tuple [.int .i64 r.2.1, .int .i64 r.2.2].toArray ∧ ∃ h' s', A' = CwA bc bx mb db (some ⟨bq, 0, none⟩) cd room h' s' A ∧ (r.2.2 = 0 → s' = r.1 ∧ CwOk h' s') ∧ I ⊆ I'
structure RunInv (room : Int) (W b : Nat) (picks : List Int) (R : R21.Ms × Int × Int) (I : List Chunk) (n : Nat) (last : Int) (h : Hp) (s : R21.Ms) (J : List Chunk) : Prop where
 hn : n ≤ 100000
 ok : CwOk h s
 m : R21.MOk room W (b + 9 * n) s
 eq : R = R21.run room W picks (100000 - n) n last s
 l0 : -1 ≤ last
 l1 : last < W
 I : I ⊆ J
set_option maxHeartbeats 4000000 in
set_option maxRecDepth 100000 in
theorem crew_run {bc bx mb db bq cd W b : Nat} {room : Int} {h : Hp} {s : R21.Ms} {picks : List Int} {a : Option Addr} {cap : Nat} {R : R21.Ms × Int × Int} (ok : CwOk h s) (m : R21.MOk room W b s) (hW1 : 1 ≤ W) (hW : W ≤ 64) (hb : b ≤ 1000) (hs : SlAt I a picks) (hk : Is picks) (hR : R21.run room W picks 100000 0 (-1) s = R) :
  FnC Try.prog 30 [pt bc 0, .slice a picks.length cap].toArray (CwA bc bx mb db (some ⟨bq, 0, none⟩) cd room h s A) I (CwE2 bc bx mb db bq cd room R A I) := by
 have hdl := m.dl
 subst hdl
 skip
 skip
 refine fn_enter2 Try.func30 rfl Try.ntmps30 rfl fun w0 => ?_
 refine tS (tR (tA rfl rfl (tA rfl rfl (tN (tT (tS (tR ?_)))))))
 refine tri_g (opg_buildSlice rfl rfl rfl rfl) rfl ?_
 rintro _ _ _ ⟨b10, rfl, rfl, rfl⟩
 refine tM rfl rfl ?_
 refine tri_v (opv_nilCheck rfl) rfl ?_
 refine yF rfl ?_
 refine yL rfl rfl ?_
 refine tri_v (opv_len rfl) rfl ?_
 refine tri_freezeBoxS [(1 : Int)] rfl fun J1 hJ1 h1s => ?_
 refine tri_g (opg_call (xs := [_, _]) rfl (slices_repeat1 h1s hW1 (by omega))) rfl ?_
 rintro _ _ _ ⟨ao, rfl, rfl, rfl⟩
 have inv0 : RunInv room s.D.length b picks R I 0 (-1) h s J1 := ⟨by omega, ok, m, hR.symm, by omega, by omega, hJ1⟩
 refine tA rfl rfl (tN (tT (tS (tS (tR (tA rfl rfl (tA rfl rfl ?_)))))))
 refine tN (tT (tri_block ?_))
 refine tri_sub (F' := [(0, pt bc 0), (1, .slice a picks.length cap), (6, .slice ao s.D.length s.D.length), (7, .int .i64 (0 : Nat)), (8, .int .i64 (-1))]) ⟨rfl, rfl, rfl, rfl, rfl, trivial⟩ ?_
 refine loop_ind (G := Nat × Int × Hp × R21.Ms × List Chunk) (fun g => 100000 - g.1) (fun g => RunInv room s.D.length b picks R I g.1 g.2.1 g.2.2.1 g.2.2.2.1 g.2.2.2.2) (fun g => [(0, pt bc 0), (1, .slice a picks.length cap), (6, .slice ao s.D.length s.D.length), (7, .int .i64 (g.1 : Nat)), (8, .int .i64 g.2.1)]) (fun g => Row ao s.D.length s.D.length 3 1 (encs (List.replicate s.D.length (1 : Int))) :: CwA bc bx mb db (some ⟨bq, 0, none⟩) cd room g.2.2.1 g.2.2.2.1 A) (fun g => g.2.2.2.2) ?_ (0, -1, h, s, J1) inv0
 rintro ⟨n, last, h1, s1, J2⟩ inv K hK
 simp only at inv hK ⊢
 have hn := inv.hn
 have hl0 := inv.l0
 have hl1 := inv.l1
 have hI2 := inv.I
 have eq := inv.eq
 skip
 refine tS (tS (tR (tM rfl rfl (yC rfl rfl (tN (tT ?_))))))
 refine tri_cond_dec rfl (fun hc => ?_) (fun hc => ?_)
 ·obtain ⟨hx0, hx1⟩ := R19.nxt_ok (picks := picks) (nw := s.D.length) (n := n) (last := last) hW1
  obtain ⟨w, ew⟩ : ∃ w : Nat, R19.nxt picks s.D.length n last = (w : Int) := ⟨(R19.nxt picks s.D.length n last).toNat, by omega⟩
  have ew2 : R11.next picks n (List.replicate s.D.length 1) last = (w : Int) := ew
  rw [show 100000 - n = (100000 - (n + 1)) + 1 by omega, R21.run_succ _ _ _ _ _ _ _ ew] at eq
  refine tri_skip (tT (tS (tri_block (tS (tR (tM rfl rfl (tM rfl rfl ?_)))))))
  refine tM rfl rfl (tM rfl rfl ?_)
  refine tri_g (opg_call (xs := [_, _, _, _]) rfl (pick_nextM (by rw [List.length_replicate]) (hs.mono hI2) hk (by omega))) rfl ?_
  rintro _ _ J5 ⟨rfl, rfl, hJ5⟩
  rw [ew2]
  refine tri_perm perm9' ?_
  refine tA rfl rfl (tN (tT (tS (tS (tR (tM rfl rfl (tM rfl rfl ?_)))))))
  refine tri_g (opg_call (xs := [_, _]) rfl (crew_step (h := h1) (s := s1) (w := w) inv.ok inv.m (by omega) hW (by omega))) rfl ?_
  rintro _ _ J6 ⟨rfl, h2, s2, rfl, hx, hJ6⟩
  obtain ⟨r, hr⟩ : ∃ r, R21.step room s1 w = r := ⟨_, rfl⟩
  have hm2 := inv.m.step (w := w) (by omega)
  rw [hr] at hx hm2 eq ⊢
  have hI6 : I ⊆ J6 := fun _ h => hJ6 (hJ5 (hI2 h))
  refine tA rfl rfl (tN (tT (tS (tR (tM rfl rfl ?_)))))
  refine tri_v (opv_neq rfl rfl) rfl ?_
  refine tN (tT ?_)
  refine tri_cond_dec rfl (fun he => ?_) (fun he => ?_)
  ·have eq2 : R = (r.1, 0, r.2) := eq.trans (if_pos he)
   rw [eq2]
   refine tS (tR (tM rfl rfl (tA rfl rfl (tA rfl rfl (tN (tT (tri_ret ?_)))))))
   refine tri_then_ret (tri_inBlock_ret (tri_then_ret (tri_then_ret (tri_inBlock_ret (tri_then_ret ?_)))))
   refine tri_perm (A := ?a1_0 :: ?a1_1 :: ?a1_2 :: ?a1_3 :: ?a1_4 :: ?a1_5 :: ?a1_6 :: ?a1_7 :: ?a1_8 :: ?a1_9 :: ?T1) (B := ?a1_9 :: ?a1_0 :: ?a1_1 :: ?a1_2 :: ?a1_3 :: ?a1_4 :: ?a1_5 :: ?a1_6 :: ?a1_7 :: ?a1_8 :: ?T1) (by exact permL [9, 0, 1, 2, 3, 4, 5, 6, 7, 8] [?a1_0, ?a1_1, ?a1_2, ?a1_3, ?a1_4, ?a1_5, ?a1_6, ?a1_7, ?a1_8, ?a1_9] ?T1 (by decide) rfl) ?_
   refine tri_drop ?_
   refine tri_end _ (⟨[], rfl⟩) rfl (.cons (rv_tmp rfl) (.cons (rv_tmp rfl) .nil)) ⟨rfl, h2, s2, rfl, fun k => absurd k he, hI6⟩
  ·have he0 : r.2 = 0 := Decidable.not_not.1 he
   have eq2 := eq.trans (if_neg he)
   obtain ⟨rfl, ok2⟩ := hx he0
   have hm2 := hm2 he0
   refine tri_skip (tT (tS (tR (tM rfl rfl ?_))))
   refine tri_v (opv_nilCheck rfl) rfl ?_
   refine yF rfl ?_
   refine yL rfl rfl ?_
   refine tN (tT ?_)
   refine tri_cond rfl (fun hd => ?_) (fun hd => ?_)
   ·rw [if_pos hd] at eq2
    rw [eq2]
    refine tS (tR (tM rfl rfl ?_))
    refine yU rfl rfl ?_
    refine tA rfl rfl (tA rfl rfl (tN (tT (tri_ret (tri_inBlock_ret (tri_then_ret (tri_then_ret ?_)))))))
    refine tri_inBlock_ret (tri_then_ret ?_)
    refine tri_perm (A := ?a2_0 :: ?a2_1 :: ?a2_2 :: ?a2_3 :: ?a2_4 :: ?a2_5 :: ?a2_6 :: ?a2_7 :: ?a2_8 :: ?a2_9 :: ?T2) (B := ?a2_9 :: ?a2_0 :: ?a2_1 :: ?a2_2 :: ?a2_3 :: ?a2_4 :: ?a2_5 :: ?a2_6 :: ?a2_7 :: ?a2_8 :: ?T2) (by exact permL [9, 0, 1, 2, 3, 4, 5, 6, 7, 8] [?a2_0, ?a2_1, ?a2_2, ?a2_3, ?a2_4, ?a2_5, ?a2_6, ?a2_7, ?a2_8, ?a2_9] ?T2 (by decide) rfl) ?_
    refine tri_drop ?_
    refine tri_end _ (⟨[], rfl⟩) rfl (.cons (rv_tmp rfl) (.cons (rv_tmp rfl) .nil)) ⟨rfl, h2, r.1, rfl, fun _ => ⟨rfl, ok2⟩, hI6⟩
   ·rw [if_neg (by rw [hd]; decide)] at eq2
    refine tri_skip (tri_inBlock (tT (tR (tM rfl rfl ?_))))
    refine yU rfl rfl ?_
    refine tA rfl rfl (tN (tT ?_))
    refine tri_perm (A := ?a3_0 :: ?a3_1 :: ?a3_2 :: ?a3_3 :: ?a3_4 :: ?a3_5 :: ?a3_6 :: ?a3_7 :: ?a3_8 :: ?a3_9 :: ?T3) (B := ?a3_9 :: ?a3_0 :: ?a3_1 :: ?a3_2 :: ?a3_3 :: ?a3_4 :: ?a3_5 :: ?a3_6 :: ?a3_7 :: ?a3_8 :: ?T3) (by exact permL [9, 0, 1, 2, 3, 4, 5, 6, 7, 8] [?a3_0, ?a3_1, ?a3_2, ?a3_3, ?a3_4, ?a3_5, ?a3_6, ?a3_7, ?a3_8, ?a3_9] ?T3 (by decide) rfl) ?_
    refine tri_sub ?_ (hK (n + 1, (w : Int), h2, r.1, J6) ⟨by simp only; omega, ok2, hm2.mono (by simp only; omega), eq2, by simp only; omega, by simp only; omega, hI6⟩ (by simp only; omega))
    exact ⟨rfl, rfl, rfl, rfl, rfl, trivial⟩
 ·have hn0 : 100000 - n = 0 := by omega
  rw [hn0] at eq
  have eq2 : R = (s1, 0, 3) := eq
  rw [eq2]
  refine tri_drop ?_
  refine tri_exit ?_
  refine tri_then_exit (tri_then_exit ?_)
  refine tri_inBlock_hit rfl ?_
  refine tT (tS (tR (tA rfl rfl (tA rfl rfl (tN (tT (tri_ret ?_)))))))
  refine tri_end _ (⟨[], rfl⟩) rfl (.cons (rv_tmp rfl) (.cons (rv_tmp rfl) .nil)) ⟨rfl, h1, s1, rfl, fun k => absurd (show (3 : Int) = 0 from k) (by decide), hI2⟩
end Go.GL


namespace Go.GL
open Go.Proofs
attribute [local irreducible] wpList Code.wp Exit.then Exit.inBlock Ends Tri TriH OpV OpG FnC epf wpAnyH
variable {A : List Asrt} {I : List Chunk}
/-- What a leap of many tells. -/
def LpPost (r : R21.Lp) (A : List Asrt) (I : List Chunk) : Value → List Asrt → List Chunk → Prop :=
 fun v A' I' => ∃ a' cap', v = .tuple [.agg [.slice a' r.ns.length cap', .int .i64 r.room, .int .i64 r.node, .int .i64 r.steps, .int .i64 r.tasks].toArray, .int .i64 r.err].toArray ∧ StA I' a' cap' r.ns ∧ A = A' ∧ I ⊆ I'
theorem R21.reps_sl : ∀ n, reps n [.slice none 0 0] = encs (List.replicate n (⟨none, 0, 0⟩ : Sl))
 | 0 => rfl
 | n + 1 => by
  rw [List.replicate_succ]
  show [.slice none 0 0] ++ reps n _ = _
  rw [R21.reps_sl n]
  rfl
theorem R21.rep_at {α : Type} [Inhabited α] {n i : Nat} {x : α} (h : i < n) : (List.replicate n x).getD i default = x := by
 rw [List.getD_eq_getElem?_getD, List.getElem?_replicate, if_pos h]
 rfl
def R21.empty (ns : List Node) (D : List (List Int)) : R21.Ms := ⟨ns, [], D, [], 0, false⟩
theorem R21.start_eq {ns : List Node} {W : Nat} (hW : 1 ≤ W) (n j : Int) : R21.add (R21.empty ns (List.replicate W [])) 0 (R21.tk0 n j (-1) 0) = R21.start ns W n j := by
 obtain ⟨m, rfl⟩ : ∃ m, W = m + 1 := ⟨W - 1, by omega⟩
 rfl
theorem R21.start_ok {ns : List Node} {room n j : Int} {W : Nat} (hW : 1 ≤ W) (hr : R6.right ns room) (hn : R6.inS ns n) (hl : 1 ≤ (R6.nd ns n).lv) : R21.MOk room W 1 (R21.start ns W n j) := by
 obtain ⟨m, rfl⟩ : ∃ m, W = m + 1 := ⟨W - 1, by omega⟩
 refine ⟨hr, by simp [R21.start], Nat.le_refl _, fun k hk => ?_, fun i hi => ?_⟩
 ·cases k with
  | zero =>
   refine ⟨Nat.le_refl _, fun x hx => ?_⟩
   have : x = 0 := by simpa [R21.start] using hx
   rw [this]
   exact ⟨Int.le_refl _, by show (0 : Int) < ((1 : Nat) : Int); decide⟩
  | succ k =>
   have e : (R21.start ns (m + 1) n j).D.getD (k + 1) default = [] := by
    show (List.replicate m ([] : List Int)).getD k default = []
    exact R21.rep_at (by omega)
   rw [e]
   exact ⟨by simp, fun x hx => by cases hx⟩
 ·have : i = 0 := by
   have : i < 1 := hi
   omega
  subst this
  exact ⟨⟨hn, hl⟩, fun k => absurd (show (0 : Int) ≤ -1 from k) (by decide), ⟨show (0 : Int) ≤ 0 by decide, show (0 : Int) ≤ 8 by decide⟩, .inl rfl⟩
theorem R21.leap_bad {ns : List Node} {room n j W : Int} {picks : List Int} (h : ¬ R21.good ns room n j W) : R21.leap ns room n j W picks = ⟨[], 0, 0, 0, 0, 1⟩ := if_neg h
set_option maxHeartbeats 4000000 in
set_option maxRecDepth 100000 in
theorem shop_leap {ns : List Node} {a a2 : Option Addr} {cap cap2 : Nat} {room n j nw : Int} {picks : List Int} (hs : StA I a cap ns) (hn : ns.length ≤ 1000000000) (hs2 : SlAt I a2 picks) (hk : Is picks) :
  FnC Try.prog 12 [storeV a ns.length cap room, .int .i64 n, .int .i64 j, .int .i64 nw, .slice a2 picks.length cap2].toArray A I (LpPost (R21.leap ns room n j nw picks) A I) := by
 have hsl := hs.sl
 skip
 skip
 refine fn_enter5 Try.func12 rfl Try.ntmps12 rfl fun w0 => ?_
 refine tS (tR ?_)
 refine tri_g (opg_box_agg rfl) rfl ?_
 rintro _ _ _ ⟨b5, rfl, rfl, rfl⟩
 refine tri_g opg_alloc rfl ?_
 rintro _ _ _ ⟨b10, rfl, rfl, rfl⟩
 refine tA rfl rfl (tN (tT (tS (tR ?_))))
 refine yB rfl rfl ?_
 refine tM rfl rfl ?_
 refine tri_g (opg_call (xs := [_, _, _]) rfl (base_of hs hn)) rfl ?_
 rintro v1 A1 I1 hR
 rcases hR with ⟨hmay, bx, mb, a1, c1, es, rfl, rfl, hix, rfl⟩ | ⟨hno, p, rfl, rfl, rfl⟩
 ·obtain ⟨hr, ⟨hn0, hn1⟩, hl2⟩ := hmay
  have hl2' : 2 ≤ (ns.getD n.toNat default).lv := hl2
  have hlb : (ns.getD n.toNat default).lv ≤ 42 := (hr.good (r2 := room) (by have := hr.1.2.1; omega)).mod.nd ⟨hn0, hn1⟩ |>.2.1
  refine tM rfl rfl ?_
  refine tri_v (opv_extract rfl rfl) rfl ?_
  refine tri_v (opv_extract rfl rfl) rfl ?_
  refine tri_g opg_alloc rfl ?_
  rintro _ _ _ ⟨b12, rfl, rfl, rfl⟩
  refine yG rfl rfl rfl rfl rfl rfl ?_
  rintro _ _ _ ⟨rfl, rfl⟩
  refine tA rfl rfl (tN (tT (tS (tS (tR (tM rfl rfl ?_))))))
  refine tri_v (opv_not rfl) rfl ?_
  refine tM rfl rfl ?_
  refine tri_bool 25 rfl (fun h => absurd h (by decide)) (fun _ => ?_)
  refine yR rfl rfl (tM rfl rfl (yR rfl rfl (yC rfl rfl ?_)))
  refine tri_v (opv_pick_f rfl rfl) rfl ?_
  refine tM rfl rfl ?_
  refine tri_split rfl rfl (fun h1 => ?_) (fun h1 => ?_)
  ·have hb : ¬ R21.good ns room n j nw := fun h => by have := h.2.1; omega
   rw [R21.leap_bad hb]
   refine tri_guard_skip rfl rfl rfl rfl (tri_guard_skip rfl rfl rfl rfl (tri_guard_skip rfl rfl rfl rfl (tri_guard_skip rfl rfl rfl rfl (tri_guard_skip rfl rfl rfl rfl (tri_guard_skip rfl rfl rfl rfl (tri_guard_skip rfl rfl rfl rfl (tri_guard_skip rfl rfl rfl rfl ?_)))))))
   refine tri_guard_skip rfl rfl rfl rfl ?_
   refine tri_v (opv_pick_t rfl rfl) rfl ?_
   refine tM rfl rfl (tri_guard_skip rfl rfl rfl rfl (tri_guard_skip rfl rfl rfl rfl ?_))
   refine tri_v (opv_pick_t rfl rfl) rfl ?_
   refine tM rfl rfl (tri_guard_skip rfl rfl rfl rfl (tri_guard_skip rfl rfl rfl rfl ?_))
   refine tri_v (opv_pick_t rfl rfl) rfl ?_
   refine tN (tT ?_)
   refine tri_cond_true rfl ?_
   refine tS (tR ?_)
   refine tri_v (opv_buildS rfl rfl) rfl ?_
   refine yG rfl rfl rfl rfl rfl rfl ?_
   rintro _ _ _ ⟨rfl, rfl⟩
   refine tA rfl rfl (tN (tT (tri_ret (tri_then_ret ?_))))
   refine tri_end A Suf.h rfl (.cons (rv_cellA rfl rfl rfl) (.cons (rv_tmp rfl) .nil)) ⟨none, 0, rfl, StA.nil, rfl, fun _ h => h⟩
  ·refine yR rfl rfl (tM rfl rfl (yR rfl rfl (yF rfl (yR rfl rfl ?_))))
   refine yL rfl rfl ?_
   refine yR rfl rfl (tM rfl rfl (yR rfl rfl ?_))
   refine tri_v (opv_indexAddrS rfl rfl (by omega) (by omega) (by assumption) rfl) rfl ?_
   refine yR rfl rfl ?_
   refine tri_v (opv_fieldAddrE rfl (by assumption) (by omega) rfl) rfl ?_
   refine yR rfl rfl ?_
   refine tri_v (opv_loadE1 rfl (by assumption) rfl (by omega) rfl rfl) rfl ?_
   refine yR rfl rfl ?_
   refine tri_v (opv_sub rfl rfl (w64 (by omega) (by omega))) rfl ?_
   refine yR rfl rfl ?_
   refine tri_v (opv_gtr rfl rfl) rfl ?_
   refine tri_v (opv_pick_f rfl rfl) rfl ?_
   refine tM rfl rfl ?_
   refine tri_split rfl rfl (fun h3 => ?_) (fun h3 => ?_)
   ·have hb : ¬ R21.good ns room n j nw := fun h => by have := h.2.2.1; change _ ≤ (ns.getD n.toNat default).lv - 2 at this; omega
    rw [R21.leap_bad hb]
    refine tri_guard_skip rfl rfl rfl rfl (tri_guard_skip rfl rfl rfl rfl ?_)
    refine tri_v (opv_pick_t rfl rfl) rfl ?_
    refine tM rfl rfl (tri_guard_skip rfl rfl rfl rfl (tri_guard_skip rfl rfl rfl rfl ?_))
    refine tri_v (opv_pick_t rfl rfl) rfl ?_
    refine tN (tT ?_)
    refine tri_cond_true rfl ?_
    refine tS (tR ?_)
    refine tri_v (opv_buildS rfl rfl) rfl ?_
    refine yG rfl rfl rfl rfl rfl rfl ?_
    rintro _ _ _ ⟨rfl, rfl⟩
    refine tA rfl rfl (tN (tT (tri_ret (tri_then_ret ?_))))
    refine tri_end A Suf.h rfl (.cons (rv_cellA rfl rfl rfl) (.cons (rv_tmp rfl) .nil)) ⟨none, 0, rfl, StA.nil, rfl, fun _ h => h⟩
   ·refine yR rfl rfl (tM rfl rfl (yR rfl rfl (yC rfl rfl ?_)))
    refine tri_v (opv_pick_f rfl rfl) rfl ?_
    refine tM rfl rfl ?_
    refine tri_split rfl rfl (fun h4 => ?_) (fun h4 => ?_)
    ·have hb : ¬ R21.good ns room n j nw := fun h => by have := h.2.2.2.1; omega
     rw [R21.leap_bad hb]
     refine tri_guard_skip rfl rfl rfl rfl (tri_guard_skip rfl rfl rfl rfl ?_)
     refine tri_v (opv_pick_t rfl rfl) rfl ?_
     refine tN (tT ?_)
     refine tri_cond_true rfl ?_
     refine tS (tR ?_)
     refine tri_v (opv_buildS rfl rfl) rfl ?_
     refine yG rfl rfl rfl rfl rfl rfl ?_
     rintro _ _ _ ⟨rfl, rfl⟩
     refine tA rfl rfl (tN (tT (tri_ret (tri_then_ret ?_))))
     refine tri_end A Suf.h rfl (.cons (rv_cellA rfl rfl rfl) (.cons (rv_tmp rfl) .nil)) ⟨none, 0, rfl, StA.nil, rfl, fun _ h => h⟩
    ·refine yR rfl rfl (tM rfl rfl (yR rfl rfl ?_))
     refine tri_v (opv_gtr rfl rfl) rfl ?_
     refine tri_v (opv_pick_f rfl rfl) rfl ?_
     refine tN (tT ?_)
     refine tri_cond_dec rfl (fun h5 => ?_) (fun h5 => ?_)
     ·have hb : ¬ R21.good ns room n j nw := fun h => by have := h.2.2.2.2; omega
      rw [R21.leap_bad hb]
      refine tS (tR ?_)
      refine tri_v (opv_buildS rfl rfl) rfl ?_
      refine yG rfl rfl rfl rfl rfl rfl ?_
      rintro _ _ _ ⟨rfl, rfl⟩
      refine tA rfl rfl (tN (tT (tri_ret (tri_then_ret ?_))))
      refine tri_end A Suf.h rfl (.cons (rv_cellA rfl rfl rfl) (.cons (rv_tmp rfl) .nil)) ⟨none, 0, rfl, StA.nil, rfl, fun _ h => h⟩
     ·have hg : R21.good ns room n j nw := ⟨⟨hr, ⟨hn0, hn1⟩, hl2⟩, by omega, by show _ ≤ (ns.getD n.toNat default).lv - 2; omega, by omega, by omega⟩
      obtain ⟨W, rfl⟩ : ∃ W : Nat, nw = (W : Int) := ⟨nw.toNat, by omega⟩
      have hW1 : 1 ≤ W := by omega
      refine tri_skip (tT (tS ?_))
      skip
      refine tri_cut (fun F' A' J => ∃ (bc db : Nat) (ad : Option Addr), ad ≠ none ∧ F' = [(1, .int .i64 n), (2, .int .i64 j), (4, .slice a2 picks.length cap2), (10, pt b10 0), (14, pt bc 0)] ∧ A'.Perm (Box bc [pt bx 0, .slice none 0 0, .slice ad W W, .map (some db), .int .i64 0, .bool false] 76 :: Row ad W W 27 1 (reps W [.slice none 0 0]) :: MapA Try.prog 79 db [] :: Box b12 [pt bx 0] 68 :: IxA bx mb a1 c1 ns room es (Box b10 [.slice none 0 0, .int .i64 0, .int .i64 0, .int .i64 0, .int .i64 0] 34 :: Box b5 [.slice a ns.length cap, .int .i64 room] 26 :: A)) ∧ I = J) ?_ ?_
      ·refine tri_draw [0, 1, 2, 3, 4, 5, 6] rfl [] rfl mixed ?_
       refine th_take rfl rfl (by kernel_rfl)  (opv_loadA rfl rfl rfl) ?_
       refine yM rfl rfl ?_
       refine th_two (j := 3) [2, 4, 5, 6] (by kernel_rfl) rfl ?_ ?_
       ·refine (step_m rfl rfl (opg_makeSliceN (m := W) rfl rfl rfl (by omega) (by omega)) ?_)
        rintro _ _ _ ⟨ad, had, rfl, rfl, rfl⟩
        refine ⟨Suf.h, (fun _ h => h), ?_⟩
        refine th_one (by kernel_rfl) (step_m rfl rfl opg_makeMap ?_)
        rintro _ _ _ ⟨b52, rfl, rfl, rfl⟩
        refine ⟨Suf.h, (fun _ h => h), ?_⟩
        refine th_take rfl rfl (by kernel_rfl)  (opv_buildS rfl rfl) ?_
        refine th_one (by kernel_rfl) (step_m rfl rfl (opg_box_agg rfl) ?_)
        rintro _ _ _ ⟨b54, rfl, rfl, rfl⟩
        refine ⟨Suf.h, (fun _ h => h), ?_⟩
        refine yA rfl rfl (yD ?_)
        refine tri_cutEnd _ ⟨_, _, ad, had, rfl, ((List.Perm.swap _ _ _).cons _), rfl⟩ ⟨rfl, rfl, rfl, rfl, rfl, trivial⟩
       ·refine (step_m rfl rfl opg_makeMap ?_)
        rintro _ _ _ ⟨b52, rfl, rfl, rfl⟩
        refine ⟨Suf.h, (fun _ h => h), ?_⟩
        refine th_one (by kernel_rfl) (step_m rfl rfl (opg_makeSliceN (m := W) rfl rfl rfl (by omega) (by omega)) ?_)
        rintro _ _ _ ⟨ad, had, rfl, rfl, rfl⟩
        refine ⟨Suf.h, (fun _ h => h), ?_⟩
        refine th_take rfl rfl (by kernel_rfl)  (opv_buildS rfl rfl) ?_
        refine th_one (by kernel_rfl) (step_m rfl rfl (opg_box_agg rfl) ?_)
        rintro _ _ _ ⟨b54, rfl, rfl, rfl⟩
        refine ⟨Suf.h, (fun _ h => h), ?_⟩
        refine yA rfl rfl (yD ?_)
        refine tri_cutEnd _ ⟨_, _, ad, had, rfl, (List.Perm.refl _), rfl⟩ ⟨rfl, rfl, rfl, rfl, rfl, trivial⟩
      rintro _ _ _ ⟨bc, db, ad, had, rfl, hperm, rfl⟩
      skip
      refine tri_perm hperm ?_
      clear hperm
      refine tri_perm (List.Perm.swap _ _ _) ?_
      refine tri_rowPt had fun bq ebd => ?_
      subst ebd
      rw [R21.reps_sl]
      have e0 := R21.start_eq (ns := ns) hW1 n j
      have m0 := R21.start_ok (room := room) (n := n) (j := j) hW1 hr ⟨hn0, hn1⟩ (by omega)
      have el : R21.leap ns room n j (W : Int) picks = if (R21.run room W picks 100000 0 (-1) (R21.start ns W n j)).2.2 ≠ 0 then ⟨[], 0, 0, 0, 0, (R21.run room W picks 100000 0 (-1) (R21.start ns W n j)).2.2⟩ else ⟨(R21.run room W picks 100000 0 (-1) (R21.start ns W n j)).1.ns, room, (R21.run room W picks 100000 0 (-1) (R21.start ns W n j)).1.node, (R21.run room W picks 100000 0 (-1) (R21.start ns W n j)).2.1, (R21.run room W picks 100000 0 (-1) (R21.start ns W n j)).1.ts.length, 0⟩ := by
       unfold R21.leap
       rw [if_pos hg, Int.toNat_natCast]
      rw [el]
      clear el
      obtain ⟨D0, hD0⟩ : ∃ D0 : List (List Int), D0 = List.replicate W [] := ⟨_, rfl⟩
      have hlD : D0.length = W := by rw [hD0, List.length_replicate]
      have hDe : ∀ k, k < D0.length → D0.getD k default = [] := fun k hk => by rw [hD0]; exact R21.rep_at (by omega)
      rw [← hD0] at e0
      clear hD0
      subst hlD
      refine tri_perm (A := ?a1_0 :: ?a1_1 :: ?a1_2 :: ?a1_3 :: ?a1_4 :: ?a1_5 :: ?a1_6 :: ?a1_7 :: ?a1_8 :: ?T1) (B := ?a1_4 :: ?a1_5 :: ?a1_6 :: ?a1_1 :: ?a1_0 :: ?a1_2 :: ?a1_3 :: ?a1_7 :: ?a1_8 :: ?T1) (by exact permL [4, 5, 6, 1, 0, 2, 3, 7, 8] [?a1_0, ?a1_1, ?a1_2, ?a1_3, ?a1_4, ?a1_5, ?a1_6, ?a1_7, ?a1_8] ?T1 (by decide) rfl) ?_
      refine tri_nilRow (E := 113) (sz := 1) ?_
      refine tri_starsNil (L := dqS (List.replicate D0.length ⟨none, 0, 0⟩) D0) ?_ ?_
      ·intro r hr'
       obtain ⟨k, hk', rfl⟩ := List.mem_map.1 hr'
       have hk2 := List.mem_range.1 hk'
       unfold dqA
       rw [hDe k hk2, R21.rep_at hk2]
       exact ⟨rfl, .inl ⟨rfl, rfl, rfl, rfl⟩⟩
      refine tri_starsNil (L := tkS [] []) (fun r hr' => by simp [tkS] at hr') ?_
      refine tri_perm (A := ?a2_0 :: ?a2_1 :: ?a2_2 :: ?a2_3 :: ?a2_4 :: ?a2_5 :: ?a2_6 :: ?a2_7 :: ?a2_8 :: ?a2_9 :: ?a2_10 :: ?a2_11 :: ?T2) (B := ?a2_3 :: ?a2_4 :: ?a2_5 :: ?a2_6 :: ?a2_2 :: ?a2_7 :: ?a2_8 :: ?a2_0 :: ?a2_1 :: ?a2_9 :: ?a2_10 :: ?a2_11 :: ?T2) (by exact permL [3, 4, 5, 6, 2, 7, 8, 0, 1, 9, 10, 11] [?a2_0, ?a2_1, ?a2_2, ?a2_3, ?a2_4, ?a2_5, ?a2_6, ?a2_7, ?a2_8, ?a2_9, ?a2_10, ?a2_11] ?T2 (by decide) rfl) ?_
      have ok0 : CwOk ⟨a1, c1, es, [], none, 0, [], List.replicate D0.length ⟨none, 0, 0⟩⟩ (R21.empty ns D0) := ⟨hix, MemK.nil, rfl, List.length_replicate, fun k hk' => by
       show ((List.replicate D0.length (⟨none, 0, 0⟩ : Sl)).getD k default).len = (D0.getD k default).length
       rw [hDe k hk', R21.rep_at (show k < D0.length from hk')]
       rfl⟩
      refine tT (tS (tR (tM rfl rfl (tM rfl rfl (tM rfl rfl ?_)))))
      refine tri_v (opv_buildS rfl rfl) rfl ?_
      refine tri_v (opv_buildS rfl rfl) rfl ?_
      refine tri_g (opg_call (xs := [_, _, _]) rfl ((crew_add (h := ⟨a1, c1, es, [], none, 0, [], List.replicate D0.length ⟨none, 0, 0⟩⟩) (s := R21.empty ns D0) (t := R21.tk0 n j (-1) 0) (w := 0) ok0 hW1 (by show ([] : List Tk).length ≤ 1000000000; decide) (by show (D0.getD 0 default).length ≤ _; rw [hDe 0 hW1]; decide)))) rfl ?_
      rintro _ _ I2 ⟨h1', ok1, rfl, hI2⟩
      rw [e0] at ok1 ⊢
      obtain ⟨R, hR⟩ : ∃ R, R21.run room D0.length picks 100000 0 (-1) (R21.start ns D0.length n j) = R := ⟨_, rfl⟩
      rw [hR]
      refine tN (tT (tS (tR (tM rfl rfl (tM rfl rfl ?_)))))
      refine tri_g (opg_call (xs := [_, _]) rfl (crew_run (b := 1) (h := h1') (s := R21.start ns D0.length n j) ok1 m0 hW1 (by omega) (by omega) (hs2.mono hI2) hk hR)) rfl ?_
      rintro _ _ I3 ⟨rfl, h2', s2, rfl, hx, hI3⟩
      have hI03 : I ⊆ I3 := fun _ h => hI3 (hI2 h)
      refine tM rfl rfl ?_
      refine tri_v (opv_extract rfl rfl) rfl ?_
      refine tri_v (opv_extract rfl rfl) rfl ?_
      refine tA rfl rfl (tA rfl rfl (tN (tT (tS (tS (tR (tM rfl rfl ?_)))))))
      refine tri_v (opv_neq rfl rfl) rfl ?_
      refine tN (tT ?_)
      refine tri_cond_dec rfl (fun h6 => ?_) (fun h6 => ?_)
      ·rw [if_pos h6]
       refine tS (tR ?_)
       refine tri_v (opv_buildS rfl rfl) rfl ?_
       refine tM rfl rfl ?_
       refine yG rfl rfl rfl rfl rfl rfl ?_
       rintro _ _ _ ⟨rfl, rfl⟩
       refine tA rfl rfl (tN (tT (tri_ret (tri_then_ret ?_))))
       refine tri_end A Suf.h rfl (.cons (rv_cellA rfl rfl rfl) (.cons (rv_tmp rfl) .nil)) ⟨none, 0, rfl, StA.nil, rfl, hI03⟩
      ·rw [if_neg h6]
       obtain ⟨rfl, ok2⟩ := hx (Decidable.not_not.1 h6)
       refine tri_perm (A := ?a3_0 :: ?a3_1 :: ?a3_2 :: ?a3_3 :: ?a3_4 :: ?a3_5 :: ?a3_6 :: ?a3_7 :: ?a3_8 :: ?a3_9 :: ?a3_10 :: ?a3_11 :: ?T3) (B := ?a3_10 :: ?a3_0 :: ?a3_1 :: ?a3_2 :: ?a3_3 :: ?a3_4 :: ?a3_5 :: ?a3_6 :: ?a3_7 :: ?a3_8 :: ?a3_9 :: ?a3_11 :: ?T3) (by exact permL [10, 0, 1, 2, 3, 4, 5, 6, 7, 8, 9, 11] [?a3_0, ?a3_1, ?a3_2, ?a3_3, ?a3_4, ?a3_5, ?a3_6, ?a3_7, ?a3_8, ?a3_9, ?a3_10, ?a3_11] ?T3 (by decide) rfl) ?_
       skip
       refine tri_skip (tT (tS ?_))
       refine tri_draw [0, 1, 2, 3, 4, 5, 6, 7, 8, 9, 10, 11, 12, 13, 14, 15, 16, 17, 18, 19, 20] rfl [_] rfl mixed ?_
       refine yM rfl rfl (yn rfl rfl (yf rfl rfl (yf rfl rfl ?_)))
       refine yl rfl rfl rfl ?_
       refine yn rfl rfl (yf rfl rfl ?_)
       refine th_take rfl rfl (by kernel_rfl)  (opv_loadA rfl rfl rfl) ?_
       refine yM rfl rfl (yn rfl rfl (yf rfl rfl ?_))
       refine yl rfl rfl rfl ?_
       refine yM rfl rfl (yM rfl rfl (yn rfl rfl (yf rfl rfl ?_)))
       refine yl rfl rfl rfl ?_
       refine th_take rfl rfl (by kernel_rfl)  (opv_len rfl) ?_
       refine th_take rfl rfl (by kernel_rfl)  (opv_buildS rfl rfl) ?_
       refine th_one (by kernel_rfl) (step_m rfl rfl (opg_store rfl rfl rfl rfl rfl rfl) ?_)
       rintro _ _ _ ⟨rfl, rfl⟩
       refine ⟨Suf.h, (fun _ h => h), ?_⟩
       refine yA rfl rfl (yD (tT (tri_ret ?_)))
       refine tri_perm (A := ?a4_0 :: ?a4_1 :: ?a4_2 :: ?T4) (B := ?a4_2 :: ?a4_0 :: ?a4_1 :: ?T4) (by exact permL [2, 0, 1] [?a4_0, ?a4_1, ?a4_2] ?T4 (by decide) rfl) ?_
       refine tri_freezeRowC (α := Node) rfl fun I4 hI4 hs4 => ?_
       refine tri_end A Suf.h rfl (.cons (rv_cellA rfl rfl rfl) (.cons (rv_tmp rfl) .nil)) ⟨h2'.a, h2'.cap, rfl, hs4, rfl, fun _ h => hI4 (hI03 h)⟩
 ·have hb : ¬ R21.good ns room n j nw := fun h => hno h.1
  rw [R21.leap_bad hb]
  refine tM rfl rfl ?_
  refine tri_v (opv_extract rfl rfl) rfl ?_
  refine tri_v (opv_extract rfl rfl) rfl ?_
  refine tri_g opg_alloc rfl ?_
  rintro _ _ _ ⟨b12, rfl, rfl, rfl⟩
  refine yG rfl rfl rfl rfl rfl rfl ?_
  rintro _ _ _ ⟨rfl, rfl⟩
  refine tA rfl rfl (tN (tT (tS (tS (tR (tM rfl rfl ?_))))))
  refine tri_v (opv_not rfl) rfl ?_
  refine tM rfl rfl ?_
  refine tri_bool 25 rfl (fun _ => ?_) (fun h => absurd h (by decide))
  refine tri_guard_skip rfl rfl rfl rfl (tri_guard_skip rfl rfl rfl rfl ?_)
  refine tri_v (opv_pick_t rfl rfl) rfl ?_
  refine tM rfl rfl (tri_guard_skip rfl rfl rfl rfl (tri_guard_skip rfl rfl rfl rfl (tri_guard_skip rfl rfl rfl rfl (tri_guard_skip rfl rfl rfl rfl (tri_guard_skip rfl rfl rfl rfl (tri_guard_skip rfl rfl rfl rfl (tri_guard_skip rfl rfl rfl rfl ?_)))))))
  refine tri_guard_skip rfl rfl rfl rfl (tri_guard_skip rfl rfl rfl rfl ?_)
  refine tri_v (opv_pick_t rfl rfl) rfl ?_
  refine tM rfl rfl (tri_guard_skip rfl rfl rfl rfl (tri_guard_skip rfl rfl rfl rfl ?_))
  refine tri_v (opv_pick_t rfl rfl) rfl ?_
  refine tM rfl rfl (tri_guard_skip rfl rfl rfl rfl (tri_guard_skip rfl rfl rfl rfl ?_))
  refine tri_v (opv_pick_t rfl rfl) rfl ?_
  refine tN (tT ?_)
  refine tri_cond_true rfl ?_
  refine tS (tR ?_)
  refine tri_v (opv_buildS rfl rfl) rfl ?_
  refine yG rfl rfl rfl rfl rfl rfl ?_
  rintro _ _ _ ⟨rfl, rfl⟩
  refine tA rfl rfl (tN (tT (tri_ret (tri_then_ret ?_))))
  refine tri_end A Suf.h rfl (.cons (rv_cellA rfl rfl rfl) (.cons (rv_tmp rfl) .nil)) ⟨none, 0, rfl, StA.nil, rfl, fun _ h => h⟩
end Go.GL


namespace Go.GL
namespace RL
def three : List Cell := [⟨0, 0⟩, ⟨1, 0⟩, ⟨2, 0⟩]
def awM21 : List Node × Int × Int := R7.make [R6.n0, R6.n1] 90 three 3
def awA21 : R21.Lp := R21.leap awM21.1 90 awM21.2.1 1 1 []
def awB21 : R21.Lp := R21.leap awM21.1 90 awM21.2.1 0 3 [2, 1, 0, 1, 2]
def awC21 : R21.Lp := R21.leap awM21.1 90 awM21.2.1 2 1 []
set_option maxRecDepth 100000 in
theorem aw21_ok : awM21.1.length ≤ 1000
  ∧ (0 ≤ awA21.node ∧ awA21.node < awA21.ns.length ∧ awA21.err = 0 ∧ awA21.tasks = 14 ∧ awA21.steps = 16 ∧ (awA21.ns.getD awA21.node.toNat default).lv = 2)
  ∧ (0 ≤ awB21.node ∧ awB21.node < awB21.ns.length ∧ awB21.err = 0 ∧ awB21.tasks = 5)
  ∧ awC21.err = 1 := by
 refine ⟨by decide +kernel, by decide +kernel, by decide +kernel, by decide +kernel⟩
end RL
end Go.GL


namespace Go.GL
open Go.Proofs
attribute [local irreducible] wpList Code.wp Exit.then Exit.inBlock Ends Tri TriH OpV OpG FnC epf wpAnyH
variable {A : List Asrt} {I : List Chunk}
set_option maxRecDepth 100000 in
theorem law21_pick {c n : Int} (h : I64 c) (hn : 0 < n) : FnC Try.prog 11 [.int .i64 c, .int .i64 n].toArray A I (fun v A' I' => v = .int .i64 (pk c n) ∧ A = A' ∧ I = I') := by
 obtain ⟨h0, h1⟩ := h
 skip
 skip
 refine fn_enter2 Try.func11 rfl Try.ntmps11 rfl fun w0 => ?_
 refine tS (tR (tA rfl rfl (tN (tT (tS (tS (tR ?_)))))))
 refine tM rfl rfl (yC rfl rfl (tN (tT ?_)))
 refine tri_cond_dec rfl (fun h => ?_) (fun h => ?_)
 ·refine tR (tM rfl rfl ?_)
  refine yU rfl rfl ?_
  refine tri_v (opv_negE rfl (by omega) (by omega)) rfl ?_
  refine tA rfl rfl (tN (tT (tS (tR (tM rfl rfl (tM rfl rfl ?_))))))
  refine tri_v (opv_remE rfl rfl (by omega) (by omega)) rfl ?_
  refine tA rfl rfl (tN (tT (tri_ret ?_)))
  refine tri_end A Suf.h rfl (.cons (rv_tmp rfl) .nil) ⟨?_, rfl, rfl⟩
  rw [pk, if_pos h]; rfl
 ·refine tri_skip (tT (tS (tR (tM rfl rfl (tM rfl rfl ?_)))))
  refine tri_v (opv_remE rfl rfl (by omega) (by omega)) rfl ?_
  refine tA rfl rfl (tN (tT (tri_ret ?_)))
  refine tri_end A Suf.h rfl (.cons (rv_tmp rfl) .nil) ⟨?_, rfl, rfl⟩
  rw [pk, if_neg h]; rfl
theorem ref06_newS {room : Int} {p : List Node × Int} (h : R6.new room = p) : FnC Try.prog 25 [.int .i64 room].toArray A I (fun v A' I' => ∃ a' cap', v = storeV a' p.1.length cap' p.2 ∧ StA I' a' cap' p.1 ∧ A = A' ∧ I ⊆ I') := by
 subst h
 exact ref06_new
theorem ref07_makeS {ns : List Node} {a bb : Option Addr} {cap cap2 : Nat} {room lv : Int} {l : List Cell} {p : List Node × Int × Int} (hs : StA I a cap ns) (hn : ns.length ≤ 1000000000) (hr : R6.Rng ns) (hsl : SlAt I bb l) (hnl : l.length ≤ 1000000000) (h : R7.make ns room l lv = p) :
  FnC Try.prog 24 [storeV a ns.length cap room, .slice bb l.length cap2, .int .i64 lv].toArray A I (StoreR p room A I) := by
 subst h
 exact ref07_make hs hn hr hsl hnl
theorem shop_leapR {ns : List Node} {a a2 : Option Addr} {cap cap2 : Nat} {room n j nw : Int} {picks : List Int} {r : R21.Lp} (hs : StA I a cap ns) (hn : ns.length ≤ 1000000000) (hs2 : SlAt I a2 picks) (hk : Is picks) (hr : R21.leap ns room n j nw picks = r) :
  FnC Try.prog 12 [storeV a ns.length cap room, .int .i64 n, .int .i64 j, .int .i64 nw, .slice a2 picks.length cap2].toArray A I (LpPost r A I) := by
 subst hr
 exact shop_leap hs hn hs2 hk
namespace R21
end R21
set_option maxHeartbeats 2000000 in
set_option maxRecDepth 100000 in
theorem law21_awake : FnC Try.prog 9 #[] A I (fun v A' I' => v = .bool true ∧ A = A' ∧ I ⊆ I') := by
 obtain ⟨hml, ⟨a1, a2, a3, a4, a5, a6⟩, ⟨g1, g2, g3, g4⟩, e1⟩ := RL.aw21_ok
 have eN : R6.new 90 = ([R6.n0, R6.n1], 90) := by decide
 obtain ⟨M, eM⟩ : ∃ M, RL.awM21 = M := ⟨_, rfl⟩
 obtain ⟨rA, eA⟩ : ∃ M, RL.awA21 = M := ⟨_, rfl⟩
 obtain ⟨rB, eB⟩ : ∃ M, RL.awB21 = M := ⟨_, rfl⟩
 obtain ⟨rC, eC⟩ : ∃ M, RL.awC21 = M := ⟨_, rfl⟩
 have eM' : R7.make [R6.n0, R6.n1] 90 RL.three 3 = M := eM
 have eA' : R21.leap M.1 90 M.2.1 1 1 [] = rA := by rw [← eM]; exact eA
 have eB' : R21.leap M.1 90 M.2.1 0 3 [2, 1, 0, 1, 2] = rB := by rw [← eM]; exact eB
 have eC' : R21.leap M.1 90 M.2.1 2 1 [] = rC := by rw [← eM]; exact eC
 rw [eM] at hml
 rw [eA] at a1 a2 a3 a4 a5 a6
 rw [eB] at g1 g2 g3 g4
 rw [eC] at e1
 have hml : M.1.length ≤ 1000000000 := by omega
 have i5 : Is [2, 1, 0, 1, 2] := fun i hi => by
  rcases (by have : i < 5 := hi; omega : i = 0 ∨ i = 1 ∨ i = 2 ∨ i = 3 ∨ i = 4) with rfl | rfl | rfl | rfl | rfl <;> exact ⟨by decide, by decide⟩
 have i0 : Is [] := fun i h => absurd h (Nat.not_lt_zero i)
 skip
 refine fn_enter0 Try.func9 rfl Try.ntmps9 rfl fun w0 => ?_
 refine tS (tR (tA rfl rfl (tN (tT (tS (tR ?_))))))
 refine tri_g (opg_call (xs := [_]) rfl (ref06_newS eN)) rfl ?_
 rintro _ _ I0 ⟨x0, y0, rfl, hs0, rfl, hI0⟩
 refine tri_v (opv_buildS rfl rfl) rfl ?_
 refine tri_v (opv_buildS rfl rfl) rfl ?_
 refine tri_v (opv_buildS rfl rfl) rfl ?_
 refine tri_g (opg_buildSlice rfl rfl rfl rfl) rfl ?_
 rintro _ _ _ ⟨b15, rfl, rfl, rfl⟩
 refine tri_freezeBoxS RL.three rfl fun I1 hI1 hs1 => ?_
 refine tri_g (opg_call (xs := [_, _, _]) rfl (ref07_makeS (hs0.mono hI1) (by decide) (by unfold R6.Rng; decide) hs1 (by decide) eM')) rfl ?_
 rintro _ _ I2 ⟨x2, y2, rfl, hs2, rfl, hI2⟩
 refine tM rfl rfl ?_
 refine tri_v (opv_extract rfl rfl) rfl ?_
 refine tri_v (opv_extract rfl rfl) rfl ?_
 refine tri_v (opv_extract rfl rfl) rfl ?_
 refine tri_g opg_alloc rfl ?_
 rintro _ _ _ ⟨b1, rfl, rfl, rfl⟩
 refine yG rfl rfl rfl rfl rfl rfl ?_
 rintro _ _ _ ⟨rfl, rfl⟩
 refine tA rfl rfl (tA rfl rfl (tN (tT (tS (tR ?_)))))
 refine yB rfl rfl ?_
 refine tM rfl rfl ?_
 refine tri_g (opg_call (xs := [_, _, _, _, _]) rfl (shop_leapR (picks := []) hs2 hml SlAt.nil i0 eA')) rfl ?_
 rintro _ _ I3 ⟨x3, y3, rfl, hs3, rfl, hI3⟩
 have h23 := hs2.mono hI3
 refine tM rfl rfl ?_
 refine tri_v (opv_extract rfl rfl) rfl ?_
 refine tri_v (opv_extract rfl rfl) rfl ?_
 refine tri_g opg_alloc rfl ?_
 rintro _ _ _ ⟨b4, rfl, rfl, rfl⟩
 refine yG rfl rfl rfl rfl rfl rfl ?_
 rintro _ _ _ ⟨rfl, rfl⟩
 refine tA rfl rfl (tN (tT (tS (tR ?_))))
 refine yB rfl rfl ?_
 refine tM rfl rfl ?_
 refine tri_g (opg_buildSlice rfl rfl rfl rfl) rfl ?_
 rintro _ _ _ ⟨b29, rfl, rfl, rfl⟩
 refine tri_freezeBoxS [(2 : Int), 1, 0, 1, 2] rfl fun I4 hI4 hs4 => ?_
 refine tri_g (opg_call (xs := [_, _, _, _, _]) rfl (shop_leapR (h23.mono hI4) hml hs4 i5 eB')) rfl ?_
 rintro _ _ I5 ⟨x5, y5, rfl, hs5, rfl, hI5⟩
 have h25 := (h23.mono hI4).mono hI5
 refine tM rfl rfl ?_
 refine tri_v (opv_extract rfl rfl) rfl ?_
 refine tri_v (opv_extract rfl rfl) rfl ?_
 refine tri_g opg_alloc rfl ?_
 rintro _ _ _ ⟨b6, rfl, rfl, rfl⟩
 refine yG rfl rfl rfl rfl rfl rfl ?_
 rintro _ _ _ ⟨rfl, rfl⟩
 refine tA rfl rfl (tN (tT (tS (tR ?_))))
 refine yB rfl rfl ?_
 refine tM rfl rfl ?_
 refine tri_g (opg_call (xs := [_, _, _, _, _]) rfl (shop_leapR (picks := []) h25 hml SlAt.nil i0 eC')) rfl ?_
 rintro _ _ I6 ⟨x6, y6, rfl, hs6, rfl, hI6⟩
 have sA : SlAt I6 x3 rA.ns := (((hs3.mono hI4).mono hI5).mono hI6).sl
 refine tM rfl rfl ?_
 refine tri_v (opv_extract rfl rfl) rfl ?_
 refine tri_v (opv_extract rfl rfl) rfl ?_
 refine tri_g opg_alloc rfl ?_
 rintro _ _ _ ⟨b8, rfl, rfl, rfl⟩
 refine yG rfl rfl rfl rfl rfl rfl ?_
 rintro _ _ _ ⟨rfl, rfl⟩
 refine tA rfl rfl (tN (tT (tS (tS (tR (yF rfl ?_))))))
 refine yL rfl rfl ?_
 refine yF rfl (yF rfl ?_)
 refine yL rfl rfl ?_
 refine tri_v (opv_len rfl) rfl ?_
 refine tri_v (opv_geq rfl rfl) rfl ?_
 refine tM rfl rfl ?_
 refine tri_false rfl rfl (by omega) ?_
 refine yR rfl rfl (yF rfl (yR rfl rfl ?_))
 refine yL rfl rfl ?_
 refine yR rfl rfl (yF rfl (yR rfl rfl (yF rfl (yR rfl rfl ?_))))
 refine yL rfl rfl ?_
 refine yR rfl rfl ?_
 refine tri_v (opv_len rfl) rfl ?_
 refine yR rfl rfl ?_
 refine tri_v (opv_geq rfl rfl) rfl ?_
 refine tri_v (opv_pick_f rfl rfl) rfl ?_
 refine tM rfl rfl ?_
 refine tri_false rfl rfl (by omega) ?_
 refine yR rfl rfl (yF rfl (yR rfl rfl ?_))
 refine yL rfl rfl ?_
 refine yR rfl rfl (yC rfl rfl ?_)
 refine tri_v (opv_pick_f rfl rfl) rfl ?_
 refine tM rfl rfl ?_
 refine tri_false rfl rfl (by omega) ?_
 refine yR rfl rfl (yF rfl (yR rfl rfl ?_))
 refine yL rfl rfl ?_
 refine yR rfl rfl (yC rfl rfl ?_)
 refine tri_v (opv_pick_f rfl rfl) rfl ?_
 refine tN (tT ?_)
 refine tri_cond_not rfl (by omega) ?_
 refine tri_skip (tT (tS (tR (tM rfl rfl ?_))))
 refine tri_v (opv_eql rfl rfl) rfl ?_
 refine tM rfl rfl ?_
 refine tri_true rfl rfl (a3) ?_
 refine yR rfl rfl (yF rfl (yR rfl rfl ?_))
 refine yL rfl rfl ?_
 refine yR rfl rfl ?_
 refine tri_v (opv_eql rfl rfl) rfl ?_
 refine tri_v (opv_pick_t rfl rfl) rfl ?_
 refine tM rfl rfl ?_
 refine tri_true rfl rfl (a4) ?_
 refine yR rfl rfl (yF rfl (yR rfl rfl ?_))
 refine yL rfl rfl ?_
 refine yR rfl rfl ?_
 refine tri_v (opv_eql rfl rfl) rfl ?_
 refine tri_v (opv_pick_t rfl rfl) rfl ?_
 refine tM rfl rfl ?_
 refine tri_true rfl rfl (a5) ?_
 refine yR rfl rfl (tM rfl rfl (yR rfl rfl ?_))
 refine tri_v (opv_eql rfl rfl) rfl ?_
 refine tri_v (opv_pick_t rfl rfl) rfl ?_
 refine tM rfl rfl ?_
 refine tri_true rfl rfl (g3) ?_
 refine yR rfl rfl (yF rfl (yR rfl rfl ?_))
 refine yL rfl rfl ?_
 refine yR rfl rfl ?_
 refine tri_v (opv_eql rfl rfl) rfl ?_
 refine tri_v (opv_pick_t rfl rfl) rfl ?_
 refine tM rfl rfl ?_
 refine tri_true rfl rfl (g4) ?_
 refine yR rfl rfl (tM rfl rfl (yR rfl rfl ?_))
 refine tri_v (opv_eql rfl rfl) rfl ?_
 refine tri_v (opv_pick_t rfl rfl) rfl ?_
 refine tM rfl rfl ?_
 refine tri_true rfl rfl (e1) ?_
 refine yR rfl rfl (yF rfl (yR rfl rfl (yF rfl (yR rfl rfl ?_))))
 refine yL rfl rfl ?_
 refine yR rfl rfl (yF rfl (yR rfl rfl ?_))
 refine yL rfl rfl ?_
 refine yR rfl rfl ?_
 refine tri_v (opv_indexAddrS rfl rfl (by omega) (by omega) (by assumption) rfl) rfl ?_
 refine yR rfl rfl ?_
 refine tri_v (opv_fieldAddrE rfl (by assumption) (by omega) rfl) rfl ?_
 refine yR rfl rfl ?_
 refine tri_v (opv_loadE1 rfl (by assumption) rfl (by omega) rfl rfl) rfl ?_
 refine yR rfl rfl ?_
 refine tri_v (opv_eql rfl rfl) rfl ?_
 refine tri_v (opv_pick_t rfl rfl) rfl ?_
 refine tA rfl rfl (tN (tT (tri_ret ?_)))
 refine tri_end A Suf.h rfl (.cons (rv_tmp rfl) .nil) ⟨congrArg Value.bool (decide_eq_true a6), rfl, fun _ h => hI6 (hI5 (hI4 (hI3 (hI2 (hI1 (hI0 h))))))⟩
end Go.GL


namespace Go.GL
/-! ### What is made of cells -/
namespace R7
open R6
def deadB (ns : List Node) (j : Nat) : Bool := ns.any fun x => decide (x.lv = (j : Int) ∧ x.pop = 0)
/-- Of how many levels there is no node yet in which all is dead. -/
def E (ns : List Node) : Nat → Nat
 | 0 => 0
 | L + 1 => E ns L + if deadB ns (L + 1) = true then 0 else 1
theorem deadB_iff {ns : List Node} {j : Nat} : deadB ns j = true ↔ ∃ n, IsN ns j n ∧ (nd ns n).pop = 0 := by
 unfold deadB
 rw [List.any_eq_true]
 constructor
 ·rintro ⟨x, hx, h⟩
  obtain ⟨i, hi, rfl⟩ := List.getElem_of_mem hx
  have h' := of_decide_eq_true h
  have e : nd ns (i : Int) = ns[i] := by simp [nd, hi]
  exact ⟨i, ⟨⟨by omega, by omega⟩, by rw [e]; exact h'.1⟩, by rw [e]; exact h'.2⟩
 ·rintro ⟨n, ⟨⟨h0, h1⟩, h2⟩, h3⟩
  have hlt : n.toNat < ns.length := by omega
  have e : nd ns n = ns[n.toNat] := by simp [nd, hlt]
  rw [e] at h2 h3
  exact ⟨_, List.getElem_mem hlt, by simp [h2, h3]⟩
theorem deadB_pre {ns ms : List Node} (h : ns <+: ms) {j : Nat} (hd : deadB ns j = true) : deadB ms j = true := by
 obtain ⟨t, rfl⟩ := h
 unfold deadB at *
 rw [List.any_append, hd]; rfl
theorem E_pre {ns ms : List Node} (h : ns <+: ms) : ∀ L, E ms L ≤ E ns L
 | 0 => Nat.le_refl _
 | L + 1 => by
  have := E_pre h L
  simp only [E]
  by_cases hd : deadB ns (L + 1) = true
  ·rw [if_pos hd, if_pos (deadB_pre h hd)]; omega
  ·rw [if_neg hd]; split <;> omega
theorem E_new {ns ms : List Node} (h : ns <+: ms) {j : Nat} (h0 : ¬ deadB ns (j + 1) = true) (h1 : deadB ms (j + 1) = true) : ∀ L, j < L → E ms L + 1 ≤ E ns L
 | 0, hj => absurd hj (by omega)
 | L + 1, hj => by
  simp only [E]
  by_cases e : j = L
  ·subst e
   have := E_pre h j
   rw [if_neg h0, if_pos h1]; omega
  ·have := E_new h h0 h1 L (by omega)
   by_cases hd : deadB ns (L + 1) = true
   ·rw [if_pos hd, if_pos (deadB_pre h hd)]; omega
   ·rw [if_neg hd]; split <;> omega
theorem E_le (ns : List Node) : ∀ L, E ns L ≤ L
 | 0 => Nat.le_refl _
 | L + 1 => by have := E_le ns L; simp only [E]; split <;> omega
theorem E_pos {ns : List Node} {j L : Nat} (hj : j < L) (h0 : ¬ deadB ns (j + 1) = true) : 1 ≤ E ns L := by
 induction L with
 | zero => omega
 | succ L ih =>
  simp only [E]
  by_cases e : j = L
  ·subst e; rw [if_neg h0]; omega
  ·have := ih (by omega); omega
/-- A node of a level is made; it cost so many nodes, and what was dead of the levels to L. -/
structure Mk (ns : List Node) (L cost lv : Nat) (ms : List Node) (m : Int) : Prop where
 wf : Wf ms
 pre : ns <+: ms
 is : IsN ms lv m
 len : ms.length + E ms L ≤ ns.length + E ns L + cost
theorem fit4_of {ns : List Node} {lv : Nat} (hl : lv + 1 ≤ 42) {a b c d : Int} (ha : IsN ns lv a) (hb : IsN ns lv b) (hc : IsN ns lv c) (hd : IsN ns lv d) : fit4 ns a b c d := by
 refine ⟨ha.1, ⟨hb.1, ?_⟩, ⟨hc.1, ?_⟩, ⟨hd.1, ?_⟩, ?_⟩
 ·rw [hb.2, ha.2]
 ·rw [hc.2, ha.2]
 ·rw [hd.2, ha.2]
 ·rw [ha.2]; omega
theorem dead_found {ns : List Node} (h : Wf ns) {j : Nat} {n d : Int} (hn : IsN ns j n) (hp : (nd ns n).pop = 0) (hd : IsN ns (j + 1) d) (hdp : (nd ns d).pop = 0) : R6.at_ ns [n, n, n, n] = d := by
 obtain ⟨a, b, c, e⟩ := kids4 h hd
 obtain ⟨a', b', c', e'⟩ := (dead_kids h hd).1 hdp
 have := h.at_ hd.1 (by rw [hd.2]; omega)
 unfold Node.kids at this
 rwa [dead_uniq h a hn a' hp, dead_uniq h b hn b' hp, dead_uniq h c hn c' hp, dead_uniq h e hn e' hp] at this
theorem emptyF_ok {room : Int} {L : Nat} (hL : L ≤ 42) : ∀ (k : Nat) (ns : List Node) (n : Int) (j : Nat), Wf ns → IsN ns j n → (nd ns n).pop = 0 → j + k ≤ L → ((ns.length + E ns L : Nat) : Int) ≤ room →
  ∃ ms m, emptyF room k ns n = (ms, m, 0) ∧ Mk ns L 0 (j + k) ms m ∧ (nd ms m).pop = 0
 | 0, ns, n, j, h, hn, hp, hj, hr => ⟨ns, n, rfl, ⟨h, List.prefix_refl _, hn, Nat.le_refl _⟩, hp⟩
 | k + 1, ns, n, j, h, hn, hp, hj, hr => by
  have hf := fit4_of (by omega) hn hn hn hn
  have hroom : 0 ≤ R6.at_ ns [n, n, n, n] ∨ (ns.length : Int) < room := by
   by_cases hd : deadB ns (j + 1) = true
   ·obtain ⟨d, hd1, hd2⟩ := deadB_iff.1 hd
    rw [dead_found h hn hp hd1 hd2]; exact .inl hd1.1.1
   ·have := E_pos (L := L) (by omega) hd
    exact .inr (by omega)
  obtain ⟨ms, m, e, ok⟩ := put_ok h hf hroom
  have him : IsN ms (j + 1) m := ⟨ok.mem, by rw [ok.lv, hn.2]; omega⟩
  have hpm : (nd ms m).pop = 0 := by rw [ok.nd]; exact (pop4_zero (by omega) (by omega) (by omega) (by omega)).2 ⟨hp, hp, hp, hp⟩
  have hlen : ms.length + E ms L ≤ ns.length + E ns L := by
   by_cases hd : deadB ns (j + 1) = true
   ·obtain ⟨d, hd1, hd2⟩ := deadB_iff.1 hd
    have hat := dead_found h hn hp hd1 hd2
    have : put ns room n n n n = (ns, d, 0) := put_again h hf hd1.1 (by rw [hd1.2]; omega) (by rw [← hat]; exact (at_found (by rw [hat]; exact hd1.1.1)).2.2)
    rw [this] at e
    cases e
    exact Nat.le_refl _
   ·have := E_new ok.pre hd (deadB_iff.2 ⟨m, him, hpm⟩) L (by omega)
    have := ok.len
    omega
  obtain ⟨ms2, m2, e2, ok2, hp2⟩ := emptyF_ok (room := room) hL k ms m (j + 1) ok.wf him hpm (by omega) (by omega)
  refine ⟨ms2, m2, ?_, ⟨ok2.wf, ok.pre.trans ok2.pre, by rw [show j + (k + 1) = j + 1 + k by omega]; exact ok2.is, by have := ok2.len; omega⟩, hp2⟩
  simp only [emptyF, e]
  rw [if_neg (by omega)]
  exact e2
theorem empty_ok {room : Int} {L : Nat} (hL : L ≤ 42) {ns : List Node} {lv : Nat} (h : Wf ns) (hlv : lv ≤ L) (hr : ((ns.length + E ns L : Nat) : Int) ≤ room) : ∃ ms m, empty ns room lv = (ms, m, 0) ∧ Mk ns L 0 lv ms m ∧ (nd ms m).pop = 0 := by
 have := emptyF_ok (room := room) hL lv ns 0 0 h ⟨h.in0, by rw [h.nd0]; rfl⟩ (by rw [h.nd0]; rfl) (by omega) hr
 unfold empty
 simpa using this
/-! #### the quarters of a list of cells -/
def qx' (h : Int) (c : Cell) : Nat := qx h c
theorem part_sum (h : Int) (l : List Cell) : (part h 0 l).length + (part h 1 l).length + (part h 2 l).length + (part h 3 l).length = l.length := by
 induction l with
 | nil => rfl
 | cons c l ih =>
  unfold part at *
  simp only [List.length_map] at *
  have hk : qx h c = 0 ∨ qx h c = 1 ∨ qx h c = 2 ∨ qx h c = 3 := by unfold qx; split <;> split <;> simp
  rcases hk with e | e | e | e <;> simp only [List.filter_cons, e] <;> simp <;> omega
theorem part_in {lv : Nat} {l : List Cell} (hb : ∀ c ∈ l, inQ (lv + 1) c.x c.y) (k : Nat) : ∀ c ∈ part (2 ^ lv) k l, inQ lv c.x c.y := by
 intro c hc
 obtain ⟨d, hd, rfl⟩ := List.mem_map.1 hc
 have := hb d (List.mem_filter.1 hd).1
 unfold inQ at *
 rw [p2s] at this
 have := p2pos lv
 unfold qc
 simp only
 split <;> split <;> omega
theorem mem_part {lv : Nat} {l : List Cell} (hb : ∀ c ∈ l, inQ (lv + 1) c.x c.y) {x y : Int} (hq : inQ lv x y) :
  ((⟨x, y⟩ : Cell) ∈ part (2 ^ lv) 0 l ↔ (⟨x, y⟩ : Cell) ∈ l) ∧ ((⟨x, y⟩ : Cell) ∈ part (2 ^ lv) 1 l ↔ (⟨x + 2 ^ lv, y⟩ : Cell) ∈ l) ∧ ((⟨x, y⟩ : Cell) ∈ part (2 ^ lv) 2 l ↔ (⟨x, y + 2 ^ lv⟩ : Cell) ∈ l) ∧ ((⟨x, y⟩ : Cell) ∈ part (2 ^ lv) 3 l ↔ (⟨x + 2 ^ lv, y + 2 ^ lv⟩ : Cell) ∈ l) := by
 have hp := p2pos lv
 unfold inQ at hq
 have key : ∀ k (X Y : Int), qx (2 ^ lv) ⟨X, Y⟩ = k → qc (2 ^ lv) ⟨X, Y⟩ = ⟨x, y⟩ → (∀ c ∈ l, qx (2 ^ lv) c = k → qc (2 ^ lv) c = ⟨x, y⟩ → c = ⟨X, Y⟩) → ((⟨x, y⟩ : Cell) ∈ part (2 ^ lv) k l ↔ (⟨X, Y⟩ : Cell) ∈ l) := by
  intro k X Y h1 h2 h3
  unfold part
  rw [List.mem_map]
  constructor
  ·rintro ⟨c, hc, e⟩
   obtain ⟨hc1, hc2⟩ := List.mem_filter.1 hc
   have := h3 c hc1 (by simpa using hc2) e
   rwa [this] at hc1
  ·intro hm
   exact ⟨_, List.mem_filter.2 ⟨hm, by simp [h1]⟩, h2⟩
 refine ⟨key 0 x y ?_ ?_ ?_, key 1 _ _ ?_ ?_ ?_, key 2 _ _ ?_ ?_ ?_, key 3 _ _ ?_ ?_ ?_⟩
 all_goals simp only [qx, qc]
 all_goals first
  | (rintro ⟨cx, cy⟩ hc; have := hb _ hc; unfold inQ at this; simp only [Cell.mk.injEq] at *; intro h1 h2; revert h1 h2; split <;> split <;> intro h1 h2 <;> omega)
  | (split <;> split <;> omega)
  | (simp only [Cell.mk.injEq]; constructor <;> split <;> omega)
end R7
end Go.GL


namespace Go.GL
namespace R7
open R6
theorem build_nl (room : Int) (lv : Nat) (ns : List Node) : build room lv ns [] = empty ns room lv := by cases lv <;> rfl
theorem build_sc (room : Int) (lv : Nat) (ns : List Node) {l : List Cell} (h : l ≠ []) {a0 a1 a2 a3 : List Node} {m0 m1 m2 m3 : Int} (h0 : build room lv ns (part (2 ^ lv) 0 l) = (a0, m0, 0)) (h1 : build room lv a0 (part (2 ^ lv) 1 l) = (a1, m1, 0)) (h2 : build room lv a1 (part (2 ^ lv) 2 l) = (a2, m2, 0)) (h3 : build room lv a2 (part (2 ^ lv) 3 l) = (a3, m3, 0)) :
  build room (lv + 1) ns l = R6.put a3 room m0 m1 m2 m3 := by
 cases l with
 | nil => exact absurd rfl h
 | cons c l =>
  simp only [build, h0, h1, h2, h3]
  rfl
theorem al_put {ns ms : List Node} {lv : Nat} {a b c d m : Int} (h : Wf ns) (ha : IsN ns lv a) (hb : IsN ns lv b) (hc : IsN ns lv c) (hd : IsN ns lv d) (ok : PutOk ns a b c d ms m) (x y : Int) :
  al ms (lv + 1) m x y = if y < 2 ^ lv then (if x < 2 ^ lv then al ns lv a x y else al ns lv b (x - 2 ^ lv) y) else (if x < 2 ^ lv then al ns lv c x (y - 2 ^ lv) else al ns lv d (x - 2 ^ lv) (y - 2 ^ lv)) := by
 simp only [al, ok.nd, mk4]
 rw [al_pre h ok.pre _ _ _ _ ha, al_pre h ok.pre _ _ _ _ hb, al_pre h ok.pre _ _ _ _ hc, al_pre h ok.pre _ _ _ _ hd]
theorem build_ok {room : Int} {L : Nat} (hL : L ≤ 42) : ∀ (lv : Nat) (ns : List Node) (l : List Cell), lv ≤ L → Wf ns → (∀ c ∈ l, inQ lv c.x c.y) → ((ns.length + E ns L + l.length * lv : Nat) : Int) ≤ room →
  ∃ ms m, build room lv ns l = (ms, m, 0) ∧ Mk ns L (l.length * lv) lv ms m ∧ ∀ x y, inQ lv x y → al ms lv m x y = decide ((⟨x, y⟩ : Cell) ∈ l)
 | lv, ns, [], hlv, h, hb, hr => by
  obtain ⟨ms, m, e, ok, hp⟩ := empty_ok (room := room) hL h hlv (by simpa using hr)
  refine ⟨ms, m, by rw [build_nl]; exact e, ?_, fun x y _ => ?_⟩
  ·simpa using ok
  ·rw [al_dead ok.wf lv m x y ok.is hp]; simp
 | 0, ns, c :: l, hlv, h, hb, hr => by
  refine ⟨ns, 1, rfl, ⟨h, List.prefix_refl _, ⟨h.in1, by rw [h.nd1]; rfl⟩, by omega⟩, fun x y hq => ?_⟩
  have hc := hb c List.mem_cons_self
  unfold inQ at hq hc
  simp only [Int.pow_zero] at hq hc
  have e : (⟨x, y⟩ : Cell) = c := by cases c; simp only [Cell.mk.injEq] at *; omega
  rw [e]
  simp [al]
 | lv + 1, ns, c :: l, hlv, h, hb, hr => by
  have hne : c :: l ≠ [] := by simp
  generalize hls : c :: l = ls at *
  have hpl := part_sum (2 ^ lv) ls
  have hlpos : 1 ≤ ls.length := by rw [← hls]; simp
  have hpb := part_in hb
  have hmul : (part (2 ^ lv) 0 ls).length * lv + (part (2 ^ lv) 1 ls).length * lv + (part (2 ^ lv) 2 ls).length * lv + (part (2 ^ lv) 3 ls).length * lv = ls.length * lv := by rw [← Nat.add_mul, ← Nat.add_mul, ← Nat.add_mul, hpl]
  have hmul2 : ls.length * (lv + 1) = ls.length * lv + ls.length := Nat.mul_succ _ _
  rw [hmul2] at hr
  obtain ⟨a0, m0, e0, k0, s0⟩ := build_ok (room := room) hL lv ns (part (2 ^ lv) 0 ls) (by omega) h (hpb 0) (by omega)
  have l0 := k0.len
  obtain ⟨a1, m1, e1, k1, s1⟩ := build_ok (room := room) hL lv a0 (part (2 ^ lv) 1 ls) (by omega) k0.wf (hpb 1) (by omega)
  have l1 := k1.len
  obtain ⟨a2, m2, e2, k2, s2⟩ := build_ok (room := room) hL lv a1 (part (2 ^ lv) 2 ls) (by omega) k1.wf (hpb 2) (by omega)
  have l2 := k2.len
  obtain ⟨a3, m3, e3, k3, s3⟩ := build_ok (room := room) hL lv a2 (part (2 ^ lv) 3 ls) (by omega) k2.wf (hpb 3) (by omega)
  have l3 := k3.len
  have i0 : IsN a3 lv m0 := ((k0.is.pre k1.pre).pre k2.pre).pre k3.pre
  have i1 : IsN a3 lv m1 := (k1.is.pre k2.pre).pre k3.pre
  have i2 : IsN a3 lv m2 := k2.is.pre k3.pre
  have i3 : IsN a3 lv m3 := k3.is
  obtain ⟨ms, m, e, ok⟩ := put_ok k3.wf (room := room) (fit4_of (by omega) i0 i1 i2 i3) (.inr (by omega))
  refine ⟨ms, m, by rw [build_sc room lv ns hne e0 e1 e2 e3]; exact e, ⟨ok.wf, ((((k0.pre.trans k1.pre).trans k2.pre).trans k3.pre).trans ok.pre), ⟨ok.mem, by rw [ok.lv, i0.2]; omega⟩, ?_⟩, fun x y hq => ?_⟩
  ·have := E_pre ok.pre L
   have := ok.len
   omega
  ·rw [al_put k3.wf i0 i1 i2 i3 ok]
   obtain ⟨q0, q1, q2, q3⟩ := inQ_succ hq
   by_cases hy : y < 2 ^ lv
   ·rw [if_pos hy]
    by_cases hx : x < 2 ^ lv
    ·rw [if_pos hx, al_pre k2.wf k3.pre _ _ _ _ ((k0.is.pre k1.pre).pre k2.pre), al_pre k1.wf k2.pre _ _ _ _ (k0.is.pre k1.pre), al_pre k0.wf k1.pre _ _ _ _ k0.is, s0 _ _ (q0 hy hx)]
     exact decide_eq_decide.2 (mem_part hb (q0 hy hx)).1
    ·rw [if_neg hx, al_pre k2.wf k3.pre _ _ _ _ (k1.is.pre k2.pre), al_pre k1.wf k2.pre _ _ _ _ k1.is, s1 _ _ (q1 hy hx)]
     have := (mem_part hb (q1 hy hx)).2.1
     rw [show x - 2 ^ lv + 2 ^ lv = x by omega] at this
     exact decide_eq_decide.2 this
   ·rw [if_neg hy]
    by_cases hx : x < 2 ^ lv
    ·rw [if_pos hx, al_pre k2.wf k3.pre _ _ _ _ k2.is, s2 _ _ (q2 hy hx)]
     have := (mem_part hb (q2 hy hx)).2.2.1
     rw [show y - 2 ^ lv + 2 ^ lv = y by omega] at this
     exact decide_eq_decide.2 this
    ·rw [if_neg hx, s3 _ _ (q3 hy hx)]
     have := (mem_part hb (q3 hy hx)).2.2.2
     rw [show y - 2 ^ lv + 2 ^ lv = y by omega, show x - 2 ^ lv + 2 ^ lv = x by omega] at this
     exact decide_eq_decide.2 this
theorem side_succ (lv : Nat) : side ((lv + 1 : Nat) : Int) = 2 ^ lv := by
 unfold side
 have : (((lv + 1 : Nat) : Int) - 1).toNat = lv := by omega
 rw [this]
/-- What 'make' comes to. -/
theorem make_ok {ns : List Node} {room : Int} {l : List Cell} {lv : Nat} {L : Nat} (hL : L ≤ 42) (hlv : lv + 1 ≤ L) (h : R6.right ns room) (hl : R1.right l) (hb : ∀ c ∈ l, inL ((lv + 1 : Nat) : Int) c) (hr : ((ns.length + E ns L + l.length * (lv + 1) : Nat) : Int) ≤ room) :
  ∃ ms m, make ns room l ((lv + 1 : Nat) : Int) = (ms, m, 0) ∧ Mk ns L (l.length * (lv + 1)) (lv + 1) ms m ∧ ∀ c : Cell, inL ((lv + 1 : Nat) : Int) c → al ms (lv + 1) m (c.x + 2 ^ lv) (c.y + 2 ^ lv) = decide (c ∈ l) := by
 have hw := (right_iff.1 h).2
 have hs := side_succ lv
 have hp := p2pos lv
 have hcb : ∀ c ∈ corner (side ((lv + 1 : Nat) : Int)) l, inQ (lv + 1) c.x c.y := fun c hc => by
  obtain ⟨d, hd, rfl⟩ := List.mem_map.1 hc
  have := hb d hd
  unfold inL at this
  rw [hs] at this
  unfold inQ
  rw [p2s, hs]
  simp only
  omega
 obtain ⟨ms, m, e, ok, sem⟩ := build_ok (room := room) hL (lv + 1) ns (corner (side ((lv + 1 : Nat) : Int)) l) hlv hw hcb (by unfold corner; rw [List.length_map]; exact hr)
 have hlen : (corner (side ((lv + 1 : Nat) : Int)) l).length = l.length := by unfold corner; rw [List.length_map]
 rw [hlen] at ok
 refine ⟨ms, m, ?_, ok, fun c hc => ?_⟩
 ·unfold make
  rw [if_pos ⟨h, by omega, by omega, hl⟩, if_pos (fun i hi => ?_)]
  ·have e3 : ((lv + 1 : Nat) : Int).toNat = lv + 1 := by omega
   rw [e3, e]
   simp
  ·have e4 : R1.g l i = l[i] := by simp [R1.g, hi]
   rw [e4]; exact hb _ (List.getElem_mem hi)
 ·unfold inL at hc
  rw [hs] at hc
  rw [sem _ _ (by unfold inQ; rw [p2s]; omega)]
  refine decide_eq_decide.2 ?_
  unfold corner
  rw [List.mem_map, hs]
  constructor
  ·rintro ⟨d, hd, e⟩
   have : d = c := by cases d; cases c; simp only [Cell.mk.injEq] at *; omega
   rwa [this] at hd
  ·intro hc
   exact ⟨c, hc, rfl⟩
/-- What 'of' tells. -/
theorem mem_of {ns : List Node} (h : Wf ns) {lv : Nat} {n : Int} (hn : IsN ns (lv + 1) n) (c : Cell) : c ∈ of ns n ↔ inL ((lv + 1 : Nat) : Int) c ∧ al ns (lv + 1) n (c.x + 2 ^ lv) (c.y + 2 ^ lv) = true := by
 unfold of
 have hs := side_succ lv
 have e3 : ((lv + 1 : Nat) : Int).toNat = lv + 1 := by omega
 rw [hn.2, e3, mem_flat h _ _ _ _ hn, hs]
 simp only
 rw [show c.x - -2 ^ lv = c.x + 2 ^ lv by omega, show c.y - -2 ^ lv = c.y + 2 ^ lv by omega]
 unfold inQ inL
 rw [hs, p2s]
 constructor
 ·rintro ⟨q, k⟩; exact ⟨by omega, k⟩
 ·rintro ⟨q, k⟩; exact ⟨by omega, k⟩
end R7
end Go.GL


namespace Go.GL
open R6 R7
/-! ### What the laws' squares are -/
namespace RL
theorem new_wf : Wf [n0, n1] := ⟨by decide, rfl, rfl, fun i hi h2 => absurd hi (by simp; omega)⟩
theorem cell16_bd (r : Cell) : -8 ≤ (cell16 r).x ∧ (cell16 r).x < 8 ∧ -8 ≤ (cell16 r).y ∧ (cell16 r).y < 8 := by
 have a := pk_bd (c := r.x) (n := 16) (by omega)
 have b := pk_bd (c := r.y) (n := 16) (by omega)
 unfold cell16
 simp only
 omega
theorem mem_set {raw : List Cell} {c : Cell} (h : c ∈ set raw) : -8 ≤ c.x ∧ c.x < 8 ∧ -8 ≤ c.y ∧ c.y < 8 := by
 unfold set at h
 rw [R1.mem_puts] at h
 obtain ⟨r, _, rfl⟩ := List.mem_map.1 h
 exact cell16_bd r
theorem p8 {lv : Nat} (h : 3 ≤ lv) : (8:Int) ≤ 2 ^ lv := by
 have h2 : (2:Nat) ^ 3 ≤ 2 ^ lv := Nat.pow_le_pow_right (by omega) h
 have h3 : (2:Int) ^ lv = ((2 ^ lv : Nat) : Int) := by simp
 rw [h3]; omega
/-- The raw square: a node of the set's cells. -/
structure Sq (c : Int) (nodes : List Five) (raw : List Cell) (level : Int) (lv : Nat) (ms : List Node) (m : Int) : Prop where
 lv3 : 3 ≤ lv ∧ lv ≤ 6
 lve : ((lv + 1 : Nat) : Int) = 4 + pk level 4
 eq : square c nodes raw level = (ms, m, 0)
 wf : Wf ms
 is : IsN ms (lv + 1) m
 len : (ms.length : Int) ≤ room c + 427
 pre : store (room c) nodes <+: ms
 sem : ∀ d : Cell, inL ((lv + 1 : Nat) : Int) d → al ms (lv + 1) m (d.x + 2 ^ lv) (d.y + 2 ^ lv) = decide (d ∈ set raw)
end RL
/-! ### Sixteen and nine -/
namespace R8
theorem s16_is {ns : List Node} (h : Wf ns) {lv : Nat} {n : Int} (hn : IsN ns (lv + 2) n) : ∀ i : Int, 0 ≤ i → i < 16 → IsN ns lv (g (s16 ns n) i) := by
 obtain ⟨a, b, c, d⟩ := kids4 h hn
 obtain ⟨a0, a1, a2, a3⟩ := kids4 h a
 obtain ⟨b0, b1, b2, b3⟩ := kids4 h b
 obtain ⟨c0, c1, c2, c3⟩ := kids4 h c
 obtain ⟨d0, d1, d2, d3⟩ := kids4 h d
 intro i h0 h16
 obtain ⟨k, rfl⟩ : ∃ k : Nat, i = k := ⟨i.toNat, by omega⟩
 have hk : k < 16 := by omega
 unfold g s16
 rw [Int.toNat_natCast]
 match k, hk with
 | 0, _ => exact a0
 | 1, _ => exact a1
 | 2, _ => exact b0
 | 3, _ => exact b1
 | 4, _ => exact a2
 | 5, _ => exact a3
 | 6, _ => exact b2
 | 7, _ => exact b3
 | 8, _ => exact c0
 | 9, _ => exact c1
 | 10, _ => exact d0
 | 11, _ => exact d1
 | 12, _ => exact c2
 | 13, _ => exact c3
 | 14, _ => exact d2
 | 15, _ => exact d3
/-- A square of the sixteen. -/
def sqK (l : List Int) (y x : Int) : List Int := [g l (4 * y + x), g l (4 * y + x + 1), g l (4 * y + x + 4), g l (4 * y + x + 5)]
/-- A node that is a square of the sixteen. -/
structure IsSq (ms : List Node) (lv : Nat) (l : List Int) (y x m : Int) : Prop where
 is : IsN ms (lv + 1) m
 kids : (nd ms m).kids = sqK l y x
theorem IsSq.pre {ns ms : List Node} (hp : ns <+: ms) {lv : Nat} {l : List Int} {y x m : Int} (h : IsSq ns lv l y x m) : IsSq ms lv l y x m := ⟨h.is.pre hp, by rw [nd_pre hp h.is.1]; exact h.kids⟩
/-- Nine squares. -/
structure Nine9 (ns : List Node) (room : Int) (lv : Nat) (l : List Int) (ms : List Node) (q0 q1 q2 q3 q4 q5 q6 q7 q8 : Int) : Prop where
 wf : Wf ms
 pre : ns <+: ms
 len : ms.length ≤ ns.length + 9
 s0 : IsSq ms lv l 0 0 q0
 s1 : IsSq ms lv l 0 1 q1
 s2 : IsSq ms lv l 0 2 q2
 s3 : IsSq ms lv l 1 0 q3
 s4 : IsSq ms lv l 1 1 q4
 s5 : IsSq ms lv l 1 2 q5
 s6 : IsSq ms lv l 2 0 q6
 s7 : IsSq ms lv l 2 1 q7
 s8 : IsSq ms lv l 2 2 q8
end R8
end Go.GL


namespace Go.GL
open R6 R7
namespace R8
theorem IsSq.k {ms : List Node} {lv : Nat} {l : List Int} {y x m : Int} (h : IsSq ms lv l y x m) : (nd ms m).k0 = g l (4 * y + x) ∧ (nd ms m).k1 = g l (4 * y + x + 1) ∧ (nd ms m).k2 = g l (4 * y + x + 4) ∧ (nd ms m).k3 = g l (4 * y + x + 5) := by
 have := h.kids
 unfold Node.kids sqK at this
 simpa using this
end R8
namespace RL
open R8
end RL
end Go.GL


namespace Go.GL
open R6 R7
namespace R8
def b2i (b : Bool) : Int := if b = true then 1 else 0
/-- How many of the eight about a place are alive. -/
def cnt (f : Int → Int → Bool) (y x : Int) : Int := b2i (f (x - 1) (y - 1)) + b2i (f x (y - 1)) + b2i (f (x + 1) (y - 1)) + b2i (f (x - 1) y) + b2i (f (x + 1) y) + b2i (f (x - 1) (y + 1)) + b2i (f x (y + 1)) + b2i (f (x + 1) (y + 1))
/-- A place behind a generation. -/
def nx (f : Int → Int → Bool) (y x : Int) : Bool := R2.lives (f x y) (cnt f y x)
theorem g16_al {ns : List Node} (h : Wf ns) {n : Int} (hn : IsN ns 2 n) {x y : Int} (hx : 0 ≤ x ∧ x ≤ 3) (hy : 0 ≤ y ∧ y ≤ 3) : g (s16 ns n) (4 * y + x) = b2i (al ns 2 n x y) := by
 have hz := fun i a b => isN0 h (s16_is (lv := 0) h hn i a b)
 have key : ∀ k : Int, (k = 0 ∨ k = 1) → k = b2i (decide (k = 1)) := by rintro k (rfl | rfl) <;> rfl
 have e := key _ (hz (4 * y + x) (by omega) (by omega))
 rw [e]
 congr 1
 simp only [al]
 rcases (by omega : x = 0 ∨ x = 1 ∨ x = 2 ∨ x = 3) with rfl | rfl | rfl | rfl <;> rcases (by omega : y = 0 ∨ y = 1 ∨ y = 2 ∨ y = 3) with rfl | rfl | rfl | rfl <;> rfl
theorem b2i_one (b : Bool) : decide (b2i b = 1) = b := by cases b <;> rfl
theorem bit_nx {ns : List Node} (h : Wf ns) {n : Int} (hn : IsN ns 2 n) {x y : Int} (hx : 1 ≤ x ∧ x ≤ 2) (hy : 1 ≤ y ∧ y ≤ 2) : bit (s16 ns n) y x = b2i (nx (al ns 2 n) y x) := by
 unfold bit nx
 rw [g16_al h hn (by omega) (by omega), b2i_one]
 have e : about (s16 ns n) y x 9 = cnt (al ns 2 n) y x := by
  have gg : ∀ i : Int, ∀ X Y : Int, 0 ≤ X ∧ X ≤ 3 → 0 ≤ Y ∧ Y ≤ 3 → i = 4 * Y + X → g (s16 ns n) i = b2i (al ns 2 n X Y) := fun i X Y a b e => by rw [e]; exact g16_al h hn a b
  have hab : about (s16 ns n) y x 9 = (((((((((0 + g (s16 ns n) (4 * (y + ((0 : Nat) : Int) / 3 - 1) + x + ((0 : Nat) : Int) % 3 - 1)) + g (s16 ns n) (4 * (y + ((1 : Nat) : Int) / 3 - 1) + x + ((1 : Nat) : Int) % 3 - 1)) + g (s16 ns n) (4 * (y + ((2 : Nat) : Int) / 3 - 1) + x + ((2 : Nat) : Int) % 3 - 1)) + g (s16 ns n) (4 * (y + ((3 : Nat) : Int) / 3 - 1) + x + ((3 : Nat) : Int) % 3 - 1)) + 0) + g (s16 ns n) (4 * (y + ((5 : Nat) : Int) / 3 - 1) + x + ((5 : Nat) : Int) % 3 - 1)) + g (s16 ns n) (4 * (y + ((6 : Nat) : Int) / 3 - 1) + x + ((6 : Nat) : Int) % 3 - 1)) + g (s16 ns n) (4 * (y + ((7 : Nat) : Int) / 3 - 1) + x + ((7 : Nat) : Int) % 3 - 1)) + g (s16 ns n) (4 * (y + ((8 : Nat) : Int) / 3 - 1) + x + ((8 : Nat) : Int) % 3 - 1)) := rfl
  rw [hab, gg (4 * (y + ((0 : Nat) : Int) / 3 - 1) + x + ((0 : Nat) : Int) % 3 - 1) (x - 1) (y - 1) (by omega) (by omega) (by omega), gg (4 * (y + ((1 : Nat) : Int) / 3 - 1) + x + ((1 : Nat) : Int) % 3 - 1) x (y - 1) (by omega) (by omega) (by omega), gg (4 * (y + ((2 : Nat) : Int) / 3 - 1) + x + ((2 : Nat) : Int) % 3 - 1) (x + 1) (y - 1) (by omega) (by omega) (by omega), gg (4 * (y + ((3 : Nat) : Int) / 3 - 1) + x + ((3 : Nat) : Int) % 3 - 1) (x - 1) y (by omega) (by omega) (by omega), gg (4 * (y + ((5 : Nat) : Int) / 3 - 1) + x + ((5 : Nat) : Int) % 3 - 1) (x + 1) y (by omega) (by omega) (by omega), gg (4 * (y + ((6 : Nat) : Int) / 3 - 1) + x + ((6 : Nat) : Int) % 3 - 1) (x - 1) (y + 1) (by omega) (by omega) (by omega), gg (4 * (y + ((7 : Nat) : Int) / 3 - 1) + x + ((7 : Nat) : Int) % 3 - 1) x (y + 1) (by omega) (by omega) (by omega), gg (4 * (y + ((8 : Nat) : Int) / 3 - 1) + x + ((8 : Nat) : Int) % 3 - 1) (x + 1) (y + 1) (by omega) (by omega) (by omega)]
  unfold cnt
  omega
 rw [e]
 rfl
theorem isN_b2i {ns : List Node} (h : Wf ns) (b : Bool) : IsN ns 0 (b2i b) := by
 cases b
 ·exact ⟨h.in0, by rw [show b2i false = 0 from rfl, h.nd0]; rfl⟩
 ·exact ⟨h.in1, by rw [show b2i true = 1 from rfl, h.nd1]; rfl⟩
/-- What a step's node is. -/
structure Stp (ms : List Node) (f : Int → Int → Bool) (m : Int) : Prop where
 is : IsN ms 1 m
 kids : (nd ms m).kids = [b2i (nx f 1 1), b2i (nx f 1 2), b2i (nx f 2 1), b2i (nx f 2 2)]
theorem Stp.pre {ns ms : List Node} (hp : ns <+: ms) {f : Int → Int → Bool} {m : Int} (h : Stp ns f m) : Stp ms f m := ⟨h.is.pre hp, by rw [nd_pre hp h.is.1]; exact h.kids⟩
theorem Stp.uniq {ns : List Node} (h : Wf ns) {f f' : Int → Int → Bool} {m m' : Int} (a : Stp ns f m) (b : Stp ns f' m') (e : ∀ y x, nx f y x = nx f' y x) : m = m' := by
 refine h.uniq a.is.1 b.is.1 (by rw [a.is.2]; decide) (by rw [b.is.2]; decide) ?_
 rw [a.kids, b.kids, e, e, e, e]
/-- Only what is of the sixteen counts. -/
theorem nx_congr {f f' : Int → Int → Bool} (h : ∀ x y, 0 ≤ x ∧ x ≤ 3 → 0 ≤ y ∧ y ≤ 3 → f x y = f' x y) {y x : Int} (hx : 1 ≤ x ∧ x ≤ 2) (hy : 1 ≤ y ∧ y ≤ 2) : nx f y x = nx f' y x := by
 unfold nx cnt
 rw [h x y (by omega) (by omega), h (x - 1) (y - 1) (by omega) (by omega), h x (y - 1) (by omega) (by omega), h (x + 1) (y - 1) (by omega) (by omega), h (x - 1) y (by omega) (by omega), h (x + 1) y (by omega) (by omega), h (x - 1) (y + 1) (by omega) (by omega), h x (y + 1) (by omega) (by omega), h (x + 1) (y + 1) (by omega) (by omega)]
end R8
namespace RL
def cell4 (r : Cell) : Cell := ⟨pk r.x 4 - 2, pk r.y 4 - 2⟩
def turn (c : Cell) : Cell := ⟨-1 - c.x, -1 - c.y⟩
def small (raw : List Cell) : List Cell := R1.puts ((raw.take 16).map cell4)
def smallT (raw : List Cell) : List Cell := R1.puts ((raw.take 16).map fun r => turn (cell4 r))
theorem puts_le (l : List Cell) : (R1.puts l).length ≤ l.length := by
 have key : ∀ (l acc : List Cell), (l.foldl R1.put acc).length ≤ acc.length + l.length := by
  intro l
  induction l with
  | nil => intro acc; simp
  | cons c l ih =>
   intro acc
   have h1 := ih (R1.put acc c)
   have h2 := R1.put_len acc c
   simp only [List.foldl_cons, List.length_cons]
   omega
 simpa [R1.puts] using key l []
end RL
end Go.GL


namespace Go.GL
open R6 R7
namespace R8
theorem s16_pre {ns ms : List Node} (h : Wf ns) (hp : ns <+: ms) {lv : Nat} {n : Int} (hn : IsN ns (lv + 2) n) : s16 ms n = s16 ns n := by
 obtain ⟨a, b, c, d⟩ := kids4 h hn
 unfold s16
 rw [nd_pre hp hn.1, nd_pre hp a.1, nd_pre hp b.1, nd_pre hp c.1, nd_pre hp d.1]
theorem putSq_again {ns : List Node} {room : Int} {lv : Nat} (hl : lv + 1 ≤ 42) (h : Wf ns) {l : List Int} (hi : ∀ i : Int, 0 ≤ i → i < 16 → IsN ns lv (g l i)) {y x m : Int} (hy : 0 ≤ y ∧ y ≤ 2) (hx : 0 ≤ x ∧ x ≤ 2) (hm : IsSq ns lv l y x m) : putSq ns room l y x = (ns, m, 0) :=
 put_again h (fit4_of hl (hi (4 * y + x) (by omega) (by omega)) (hi (4 * y + x + 1) (by omega) (by omega)) (hi (4 * y + x + 4) (by omega) (by omega)) (hi (4 * y + x + 5) (by omega) (by omega))) hm.is.1 (by rw [hm.is.2]; omega) hm.kids
theorem nine_again {ns : List Node} {room n : Int} {lv : Nat} (h : R6.right ns room) (hn : IsN ns (lv + 2) n) {q0 q1 q2 q3 q4 q5 q6 q7 q8 : Int} (s0 : IsSq ns lv (s16 ns n) 0 0 q0) (s1 : IsSq ns lv (s16 ns n) 0 1 q1) (s2 : IsSq ns lv (s16 ns n) 0 2 q2) (s3 : IsSq ns lv (s16 ns n) 1 0 q3) (s4 : IsSq ns lv (s16 ns n) 1 1 q4) (s5 : IsSq ns lv (s16 ns n) 1 2 q5) (s6 : IsSq ns lv (s16 ns n) 2 0 q6) (s7 : IsSq ns lv (s16 ns n) 2 1 q7) (s8 : IsSq ns lv (s16 ns n) 2 2 q8) :
  nine ns room n = (ns, [q0, q1, q2, q3, q4, q5, q6, q7, q8], 0) := by
 have hw := (right_iff.1 h).2
 have hlv := (hw.lvb hn.1).2
 rw [hn.2] at hlv
 have hi := s16_is hw hn
 have hb : lv + 1 ≤ 42 := by omega
 unfold nine
 rw [if_pos ⟨h, hn.1, by rw [hn.2]; omega⟩]
 unfold all
 have e := fun {y x m : Int} (hy : 0 ≤ y ∧ y ≤ 2) (hx : 0 ≤ x ∧ x ≤ 2) (hm : IsSq ns lv (s16 ns n) y x m) => putSq_again (room := room) hb hw hi hy hx hm
 simp only [e (by omega) (by omega) s0, e (by omega) (by omega) s1, e (by omega) (by omega) s2, e (by omega) (by omega) s3, e (by omega) (by omega) s4, e (by omega) (by omega) s5, e (by omega) (by omega) s6, e (by omega) (by omega) s7, e (by omega) (by omega) s8]
 simp
end R8
namespace RL
open R8
end RL
end Go.GL


namespace Go.GL
open R6 R7
namespace R7
theorem flat_len (ns : List Node) : ∀ (lv : Nat) (n : Int) (o : Cell), (flat ns lv n o).length ≤ 4 ^ lv
 | 0, n, o => by unfold flat; split <;> simp
 | lv + 1, n, o => by
  unfold flat
  split
  ·simp
  ·simp only [List.length_append]
   have a := flat_len ns lv (nd ns n).k0 o
   have b := flat_len ns lv (nd ns n).k1 ⟨o.x + 2 ^ lv, o.y⟩
   have c := flat_len ns lv (nd ns n).k2 ⟨o.x, o.y + 2 ^ lv⟩
   have d := flat_len ns lv (nd ns n).k3 ⟨o.x + 2 ^ lv, o.y + 2 ^ lv⟩
   rw [Nat.pow_succ]; omega
def kid (ns : List Node) (n j : Int) : Int := (nd ns n).kids.getD j.toNat default
theorem al_kid (ns : List Node) {lv : Nat} {n x y : Int} (hq : inQ lv x y) {a b : Int} (ha : a = 0 ∨ a = 1) (hb : b = 0 ∨ b = 1) : al ns (lv + 1) n (x + a * 2 ^ lv) (y + b * 2 ^ lv) = al ns lv (kid ns n (2 * b + a)) x y := by
 unfold inQ at hq
 simp only [al]
 rcases ha with rfl | rfl <;> rcases hb with rfl | rfl <;> simp only [Int.zero_mul, Int.one_mul, Int.add_zero]
 ·rw [if_pos (by omega), if_pos (by omega)]; rfl
 ·rw [if_neg (by omega), if_pos (by omega), show y + 2 ^ lv - 2 ^ lv = y by omega]; rfl
 ·rw [if_pos (by omega), if_neg (by omega), show x + 2 ^ lv - 2 ^ lv = x by omega]; rfl
 ·rw [if_neg (by omega), if_neg (by omega), show x + 2 ^ lv - 2 ^ lv = x by omega, show y + 2 ^ lv - 2 ^ lv = y by omega]; rfl
end R7
namespace R8
theorem g_kid (ns : List Node) (n : Int) {a b c d : Int} (ha : a = 0 ∨ a = 1) (hb : b = 0 ∨ b = 1) (hc : c = 0 ∨ c = 1) (hd : d = 0 ∨ d = 1) : g (s16 ns n) (4 * (2 * b + d) + (2 * a + c)) = kid ns (kid ns n (2 * b + a)) (2 * d + c) := by
 rcases ha with rfl | rfl <;> rcases hb with rfl | rfl <;> rcases hc with rfl | rfl <;> rcases hd with rfl | rfl <;> rfl
theorem al16 (ns : List Node) {lv : Nat} {n x y : Int} (hq : inQ lv x y) {X Y : Int} (hX : 0 ≤ X ∧ X ≤ 3) (hY : 0 ≤ Y ∧ Y ≤ 3) : al ns (lv + 2) n (x + X * 2 ^ lv) (y + Y * 2 ^ lv) = al ns lv (g (s16 ns n) (4 * Y + X)) x y := by
 obtain ⟨a, c, ha, hc, rfl⟩ : ∃ a c : Int, (a = 0 ∨ a = 1) ∧ (c = 0 ∨ c = 1) ∧ X = 2 * a + c := ⟨X / 2, X % 2, by omega, by omega, by omega⟩
 obtain ⟨b, d, hb, hd, rfl⟩ : ∃ b d : Int, (b = 0 ∨ b = 1) ∧ (d = 0 ∨ d = 1) ∧ Y = 2 * b + d := ⟨Y / 2, Y % 2, by omega, by omega, by omega⟩
 rw [g_kid ns n ha hb hc hd, ← al_kid ns hq hc hd]
 have hq2 : inQ (lv + 1) (x + c * 2 ^ lv) (y + d * 2 ^ lv) := by
  unfold inQ at *
  rw [p2s]
  rcases hc with rfl | rfl <;> rcases hd with rfl | rfl <;> omega
 rw [← al_kid ns hq2 ha hb, p2s]
 congr 1
 ·rcases ha with rfl | rfl <;> rcases hc with rfl | rfl <;> omega
 ·rcases hb with rfl | rfl <;> rcases hd with rfl | rfl <;> omega
theorem IsSq.kid {ms : List Node} {lv : Nat} {l : List Int} {y x m : Int} (h : IsSq ms lv l y x m) {a b : Int} (ha : a = 0 ∨ a = 1) (hb : b = 0 ∨ b = 1) : R7.kid ms m (2 * b + a) = g l (4 * (y + b) + (x + a)) := by
 unfold R7.kid
 rw [h.kids]
 unfold sqK
 rcases ha with rfl | rfl <;> rcases hb with rfl | rfl
 ·show g l (4 * y + x) = _; congr 1; omega
 ·show g l (4 * y + x + 4) = _; congr 1; omega
 ·show g l (4 * y + x + 1) = _; congr 1; omega
 ·show g l (4 * y + x + 5) = _; congr 1; omega
end R8
namespace RL
open R8
/-- The square's cells are the raw set. -/
theorem Sq.mem {c : Int} {nodes : List Five} {raw : List Cell} {level : Int} {lv : Nat} {ms : List Node} {m : Int} (h : Sq c nodes raw level lv ms m) (d : Cell) : d ∈ R7.of ms m ↔ d ∈ set raw := by
 rw [mem_of h.wf h.is]
 constructor
 ·rintro ⟨h1, h2⟩
  rw [h.sem d h1] at h2
  simpa using h2
 ·intro hd
  have h8 := p8 (lv := lv) h.lv3.1
  have hb := mem_set hd
  have hin : inL ((lv + 1 : Nat) : Int) d := by unfold inL; rw [side_succ]; omega
  exact ⟨hin, by rw [h.sem d hin]; simpa using hd⟩
end RL
end Go.GL


namespace Go.GL
open R6 R7
/-! ### A leap stands for what stands in the middle behind so many generations -/
namespace R9
/-- One generation of all cells. -/
def gen (f : Int → Int → Bool) : Int → Int → Bool := fun x y => R8.nx f y x
def gens : Nat → (Int → Int → Bool) → Int → Int → Bool
 | 0, f => f
 | m + 1, f => gens m (gen f)
theorem gens_add : ∀ (a b : Nat) (f : Int → Int → Bool), gens (a + b) f = gens b (gens a f)
 | 0, b, f => by rw [Nat.zero_add]; rfl
 | a + 1, b, f => by
  rw [show a + 1 + b = (a + b) + 1 by omega]
  show gens (a + b) (gen f) = gens b (gens a (gen f))
  exact gens_add a b (gen f)
/-- A node stands for a part of the plane. -/
def Std (ns : List Node) (lv : Nat) (n : Int) (f : Int → Int → Bool) (ox oy : Int) : Prop := IsN ns lv n ∧ ∀ x y, inQ lv x y → al ns lv n x y = f (x + ox) (y + oy)
theorem Std.pre {ns ms : List Node} (h : Wf ns) (hp : ns <+: ms) {lv : Nat} {n : Int} {f : Int → Int → Bool} {ox oy : Int} (hs : Std ns lv n f ox oy) : Std ms lv n f ox oy :=
 ⟨hs.1.pre hp, fun x y hq => by rw [al_pre h hp lv n x y hs.1]; exact hs.2 x y hq⟩
theorem Std.back {ns ms : List Node} (h : Wf ns) (hp : ns <+: ms) {lv : Nat} {n : Int} {f : Int → Int → Bool} {ox oy : Int} (hn : IsN ns lv n) (hs : Std ms lv n f ox oy) : Std ns lv n f ox oy :=
 ⟨hn, fun x y hq => by rw [← al_pre h hp lv n x y hn]; exact hs.2 x y hq⟩
theorem Std.self {ns : List Node} {lv : Nat} {n : Int} (hn : IsN ns lv n) : Std ns lv n (al ns lv n) 0 0 := ⟨hn, fun x y _ => by rw [Int.add_zero, Int.add_zero]⟩
theorem Std.at {ns : List Node} {lv : Nat} {n : Int} {f : Int → Int → Bool} {ox oy ox' oy' : Int} (h : Std ns lv n f ox oy) (hx : ox = ox') (hy : oy = oy') : Std ns lv n f ox' oy' := by
 subst hx
 subst hy
 exact h
/-- Four that stand side by side. -/
theorem std_put {ns : List Node} (h : Wf ns) {room q0 q1 q2 q3 : Int} {lv : Nat} {f : Int → Int → Bool} {ox oy : Int} (h0 : Std ns lv q0 f ox oy) (h1 : Std ns lv q1 f (ox + 2 ^ lv) oy) (h2 : Std ns lv q2 f ox (oy + 2 ^ lv)) (h3 : Std ns lv q3 f (ox + 2 ^ lv) (oy + 2 ^ lv)) (he : (put ns room q0 q1 q2 q3).2.2 = 0) :
  Std (put ns room q0 q1 q2 q3).1 (lv + 1) (put ns room q0 q1 q2 q3).2.1 f ox oy := by
 have hf : fit4 ns q0 q1 q2 q3 := Decidable.byContradiction fun hf => by
  unfold put at he; rw [if_neg hf] at he; cases he
 have hr : 0 ≤ R6.at_ ns [q0, q1, q2, q3] ∨ (ns.length : Int) < room := Decidable.byContradiction fun hr => by
  unfold put at he
  rw [if_pos hf, if_neg (by omega), if_pos (by omega)] at he
  cases he
 obtain ⟨ms, m, e, ok⟩ := put_ok h hf hr
 rw [e]
 refine ⟨⟨ok.mem, by rw [ok.lv, h0.1.2]; omega⟩, fun x y hq => ?_⟩
 have hk := ok.nd
 show al ms (lv + 1) m x y = _
 simp only [al]
 rw [hk]
 show (if y < 2 ^ lv then (if x < 2 ^ lv then al ms lv q0 x y else al ms lv q1 (x - 2 ^ lv) y) else (if x < 2 ^ lv then al ms lv q2 x (y - 2 ^ lv) else al ms lv q3 (x - 2 ^ lv) (y - 2 ^ lv))) = _
 obtain ⟨a, b, c, d⟩ := inQ_succ hq
 by_cases hy : y < 2 ^ lv
 ·rw [if_pos hy]
  by_cases hx : x < 2 ^ lv
  ·rw [if_pos hx, al_pre h ok.pre lv _ _ _ h0.1, h0.2 _ _ (a hy hx)]
  ·rw [if_neg hx, al_pre h ok.pre lv _ _ _ h1.1, h1.2 _ _ (b hy hx)]
   congr 1
   omega
 ·rw [if_neg hy]
  by_cases hx : x < 2 ^ lv
  ·rw [if_pos hx, al_pre h ok.pre lv _ _ _ h2.1, h2.2 _ _ (c hy hx)]
   congr 1
   omega
  ·rw [if_neg hx, al_pre h ok.pre lv _ _ _ h3.1, h3.2 _ _ (d hy hx)]
   congr 1 <;> omega
/-- The sixteen. -/
theorem std_s16 {ns : List Node} (h : Wf ns) {lv : Nat} {n : Int} {f : Int → Int → Bool} {ox oy : Int} (hs : Std ns (lv + 2) n f ox oy) {X Y : Int} (hX : 0 ≤ X ∧ X ≤ 3) (hY : 0 ≤ Y ∧ Y ≤ 3) : Std ns lv (R8.g (R8.s16 ns n) (4 * Y + X)) f (ox + X * 2 ^ lv) (oy + Y * 2 ^ lv) := by
 refine ⟨s16_isN h hs.1 _ (by omega) (by omega), fun x y hq => ?_⟩
 rw [← R8.al16 ns hq hX hY, hs.2 _ _ ?_]
 ·congr 1 <;> omega
 ·unfold inQ at *
  have hpos := p2pos lv
  rw [p2s, p2s]
  have e0 : X = 0 ∨ X = 1 ∨ X = 2 ∨ X = 3 := by omega
  have e1 : Y = 0 ∨ Y = 1 ∨ Y = 2 ∨ Y = 3 := by omega
  rcases e0 with rfl | rfl | rfl | rfl <;> rcases e1 with rfl | rfl | rfl | rfl <;> omega
/-- A square of the sixteen. -/
theorem std_sq {ns ms : List Node} (h : Wf ns) (hm : Wf ms) (hp : ns <+: ms) {room : Int} {lv : Nat} {n : Int} {f : Int → Int → Bool} {ox oy : Int} (hs : Std ns (lv + 2) n f ox oy) {y x : Int} (hy : 0 ≤ y ∧ y ≤ 2) (hx : 0 ≤ x ∧ x ≤ 2) (he : (R8.putSq ms room (R8.s16 ns n) y x).2.2 = 0) :
  Std (R8.putSq ms room (R8.s16 ns n) y x).1 (lv + 1) (R8.putSq ms room (R8.s16 ns n) y x).2.1 f (ox + x * 2 ^ lv) (oy + y * 2 ^ lv) := by
 have k := fun {X Y : Int} (hX : 0 ≤ X ∧ X ≤ 3) (hY : 0 ≤ Y ∧ Y ≤ 3) => (std_s16 h hs hX hY).pre h hp
 unfold R8.putSq at he ⊢
 have k1 := k (X := x + 1) (Y := y) (by omega) (by omega)
 have k2 := k (X := x) (Y := y + 1) (by omega) (by omega)
 have k3 := k (X := x + 1) (Y := y + 1) (by omega) (by omega)
 rw [show 4 * y + (x + 1) = 4 * y + x + 1 by omega] at k1
 rw [show 4 * (y + 1) + x = 4 * y + x + 4 by omega] at k2
 rw [show 4 * (y + 1) + (x + 1) = 4 * y + x + 5 by omega] at k3
 rw [Int.add_mul, Int.one_mul, ← Int.add_assoc] at k1 k2 k3
 refine std_put hm (k (by omega) (by omega)) k1 k2 ?_ he
 rw [Int.add_mul, Int.one_mul, ← Int.add_assoc] at k3
 exact k3
theorem midS_std {room : Int} {s : LS} (h : Lk room s) {lv : Nat} {n : Int} {f : Int → Int → Bool} {ox oy : Int} (hs : Std s.ns (lv + 2) n f ox oy) (he : (midS room s n).2.2 = 0) : Std (midS room s n).1.ns (lv + 1) (midS room s n).2.1 f (ox + 2 ^ lv) (oy + 2 ^ lv) := by
 have := std_sq (room := room) h.wf h.wf (List.prefix_refl _) hs (y := 1) (x := 1) (by omega) (by omega) he
 rw [Int.one_mul] at this
 exact this
theorem gen_at (f : Int → Int → Bool) (ox oy x y : Int) : R8.nx (fun a b => f (a + ox) (b + oy)) y x = gen f (x + ox) (y + oy) := by
 unfold gen R8.nx R8.cnt
 dsimp only
 rw [show x - 1 + ox = x + ox - 1 by omega, show y - 1 + oy = y + oy - 1 by omega, show x + 1 + ox = x + ox + 1 by omega, show y + 1 + oy = y + oy + 1 by omega]
theorem std_b2i {ns : List Node} (h : Wf ns) {b : Bool} {f : Int → Int → Bool} {ox oy : Int} (he : f ox oy = b) : Std ns 0 (R8.b2i b) f ox oy := by
 refine ⟨R8.isN_b2i h b, fun x y hq => ?_⟩
 unfold inQ at hq
 have e1 : x = 0 := by have := hq.2.1; simp at this; omega
 have e2 : y = 0 := by have := hq.2.2.2; simp at this; omega
 subst e1
 subst e2
 rw [Int.zero_add, Int.zero_add, he]
 exact R8.b2i_one b
theorem oneS_std {room : Int} {s : LS} (h : Lk room s) {n : Int} {f : Int → Int → Bool} {ox oy : Int} (hs : Std s.ns 2 n f ox oy) (he : (oneS room s n).2.2 = 0) : Std (oneS room s n).1.ns 1 (oneS room s n).2.1 (gen f) (ox + 1) (oy + 1) := by
 have key : ∀ x y : Int, 1 ≤ x ∧ x ≤ 2 → 1 ≤ y ∧ y ≤ 2 → R8.bit (R8.s16 s.ns n) y x = R8.b2i (gen f (x + ox) (y + oy)) := fun x y hx hy => by
  rw [R8.bit_nx h.wf hs.1 hx hy, ← gen_at]
  congr 1
  refine R8.nx_congr (fun a b ha hb => hs.2 a b ?_) hx hy
  unfold inQ
  have : (2 : Int) ^ 2 = 4 := rfl
  omega
 have he2 : (R6.put s.ns room (R8.bit (R8.s16 s.ns n) 1 1) (R8.bit (R8.s16 s.ns n) 1 2) (R8.bit (R8.s16 s.ns n) 2 1) (R8.bit (R8.s16 s.ns n) 2 2)).2.2 = 0 := he
 show Std (R6.put s.ns room (R8.bit (R8.s16 s.ns n) 1 1) (R8.bit (R8.s16 s.ns n) 1 2) (R8.bit (R8.s16 s.ns n) 2 1) (R8.bit (R8.s16 s.ns n) 2 2)).1 1 (R6.put s.ns room (R8.bit (R8.s16 s.ns n) 1 1) (R8.bit (R8.s16 s.ns n) 1 2) (R8.bit (R8.s16 s.ns n) 2 1) (R8.bit (R8.s16 s.ns n) 2 2)).2.1 _ _ _
 rw [key 1 1 (by omega) (by omega), key 2 1 (by omega) (by omega), key 1 2 (by omega) (by omega), key 2 2 (by omega) (by omega)] at he2 ⊢
 have p0 : (2 : Int) ^ 0 = 1 := rfl
 refine std_put h.wf (lv := 0) (std_b2i h.wf ?_) (std_b2i h.wf ?_) (std_b2i h.wf ?_) (std_b2i h.wf ?_) he2
 ·congr 1 <;> omega
 ·rw [p0]; congr 1 <;> omega
 ·rw [p0]; congr 1 <;> omega
 ·rw [p0]; congr 1 <;> omega
end R9
end Go.GL

