/- Part 4: contracts of the functions that the law reaches: each answers as its model does. No condition beyond those that each theorem states. -/
import Derived.Test.YtfcijboaamelfaaPart3
set_option linter.unusedVariables false
namespace Go.GL
open Go.Proofs
attribute [local irreducible] wpList Code.wp Exit.then Exit.inBlock Ends Tri TriH OpV OpG FnC epf wpAnyH
variable {A : List Asrt} {I : List Chunk}
/-- What Maker.Nine tells and leaves behind. -/
def IxR9 (bx mb : Nat) (r : R8.R9) (room : Int) (A : List Asrt) (I : List Chunk) : Value → List Asrt → List Chunk → Prop :=
 fun v A' I' => ∃ a' cap' es' ns' q0 q1 q2 q3 q4 q5 q6 q7 q8, v = .tuple [.agg [.int .i64 q0, .int .i64 q1, .int .i64 q2, .int .i64 q3, .int .i64 q4, .int .i64 q5, .int .i64 q6, .int .i64 q7, .int .i64 q8].toArray, .int .i64 r.2.2].toArray ∧ A' = IxA bx mb a' cap' ns' room es' A ∧ (r.2.2 = 0 → ns' = r.1 ∧ r.2.1 = [q0, q1, q2, q3, q4, q5, q6, q7, q8] ∧ Idx r.1 es') ∧ I = I'
set_option maxHeartbeats 2000000 in
set_option maxRecDepth 100000 in
theorem maker_nine {ns : List Node} {a : Option Addr} {cap bx mb : Nat} {room n : Int} {es : KVs} (hg : R6.Good ns room) (h2 : 2 ≤ ns.length) (hi : Idx ns es) (hk : R8.Kid ns n) :
  FnC Try.prog 97 [.agg [pt bx 0].toArray, .int .i64 n].toArray (IxA bx mb a cap ns room es A) I (IxR9 bx mb (R8.all ns room n) room A I) := by
 obtain ⟨p0, e0⟩ : ∃ p, R8.putSq ns room (R8.s16 ns n) 0 0 = p := ⟨_, rfl⟩
 obtain ⟨p1, e1⟩ : ∃ p, R8.putSq p0.1 room (R8.s16 ns n) 0 1 = p := ⟨_, rfl⟩
 obtain ⟨p2, e2⟩ : ∃ p, R8.putSq p1.1 room (R8.s16 ns n) 0 2 = p := ⟨_, rfl⟩
 obtain ⟨p3, e3⟩ : ∃ p, R8.putSq p2.1 room (R8.s16 ns n) 1 0 = p := ⟨_, rfl⟩
 obtain ⟨p4, e4⟩ : ∃ p, R8.putSq p3.1 room (R8.s16 ns n) 1 1 = p := ⟨_, rfl⟩
 obtain ⟨p5, e5⟩ : ∃ p, R8.putSq p4.1 room (R8.s16 ns n) 1 2 = p := ⟨_, rfl⟩
 obtain ⟨p6, e6⟩ : ∃ p, R8.putSq p5.1 room (R8.s16 ns n) 2 0 = p := ⟨_, rfl⟩
 obtain ⟨p7, e7⟩ : ∃ p, R8.putSq p6.1 room (R8.s16 ns n) 2 1 = p := ⟨_, rfl⟩
 obtain ⟨p8, e8⟩ : ∃ p, R8.putSq p7.1 room (R8.s16 ns n) 2 2 = p := ⟨_, rfl⟩
 rw [R8.all_eq e0 e1 e2 e3 e4 e5 e6 e7 e8]
 have g0 : R6.Good p0.1 room := e0 ▸ hg.put ..
 have l0 : 2 ≤ p0.1.length := e0 ▸ R6.put_len h2
 have g1 : R6.Good p1.1 room := e1 ▸ g0.put ..
 have l1 : 2 ≤ p1.1.length := e1 ▸ R6.put_len l0
 have g2 : R6.Good p2.1 room := e2 ▸ g1.put ..
 have l2 : 2 ≤ p2.1.length := e2 ▸ R6.put_len l1
 have g3 : R6.Good p3.1 room := e3 ▸ g2.put ..
 have l3 : 2 ≤ p3.1.length := e3 ▸ R6.put_len l2
 have g4 : R6.Good p4.1 room := e4 ▸ g3.put ..
 have l4 : 2 ≤ p4.1.length := e4 ▸ R6.put_len l3
 have g5 : R6.Good p5.1 room := e5 ▸ g4.put ..
 have l5 : 2 ≤ p5.1.length := e5 ▸ R6.put_len l4
 have g6 : R6.Good p6.1 room := e6 ▸ g5.put ..
 have l6 : 2 ≤ p6.1.length := e6 ▸ R6.put_len l5
 have g7 : R6.Good p7.1 room := e7 ▸ g6.put ..
 have l7 : 2 ≤ p7.1.length := e7 ▸ R6.put_len l6
 have g8 : R6.Good p8.1 room := e8 ▸ g7.put ..
 have l8 : 2 ≤ p8.1.length := e8 ▸ R6.put_len l7
 skip
 refine fn_enter2 Try.func97 rfl Try.ntmps97 rfl fun w0 => ?_
 refine tS (tR ?_)
 first | refine tri_g (opg_box_agg rfl) rfl ?_ | refine tri_g (opg_box1 rfl rfl) rfl ?_
 rintro _ _ _ ⟨b2, rfl, rfl, rfl⟩
 refine tri_g opg_alloc rfl ?_
 rintro _ _ _ ⟨b4, rfl, rfl, rfl⟩
 refine tA rfl rfl (tN (tT (tS ?_)))
 refine tri_perm (A := ?a1_0 :: ?a1_1 :: ?a1_2 :: ?a1_3 :: ?a1_4 :: ?T1) (B := ?a1_2 :: ?a1_3 :: ?a1_4 :: ?a1_0 :: ?a1_1 :: ?T1) (by exact permL [2, 3, 4, 0, 1] [?a1_0, ?a1_1, ?a1_2, ?a1_3, ?a1_4] ?T1 (by decide) rfl) ?_
 refine tR ?_
 refine tri_v (by first | exact opv_load1 rfl rfl rfl | exact opv_loadA rfl rfl rfl | exact opv_loadE1 rfl (by assumption) rfl (by omega) rfl rfl | exact opv_loadEA rfl (by assumption) rfl (by omega) rfl rfl | exact opv_loadRX1 rfl rfl (by omega) rfl rfl | exact opv_loadRXA rfl rfl (by omega) rfl rfl rfl | exact opv_loadIX rfl rfl (by omega) | exact opv_loadR1 rfl rfl rfl | exact opv_loadRA rfl rfl rfl rfl) rfl ?_
 refine tM rfl rfl ?_
 refine tri_g (opg_call (xs := [_, _]) rfl (base_sixteen hk)) rfl ?_
 rintro _ _ _ ⟨rfl, rfl, rfl⟩
 refine tri_g opg_alloc rfl ?_
 rintro _ _ _ ⟨b6, rfl, rfl, rfl⟩
 refine tri_g (opg_store rfl rfl rfl rfl rfl rfl) rfl ?_
 rintro _ _ _ ⟨rfl, rfl⟩
 refine tN (tT (tS (tS (tR (tM rfl rfl (tN (tT ?_)))))))
 refine tri_block ?_
 refine tri_perm (A := ?a2_0 :: ?a2_1 :: ?a2_2 :: ?a2_3 :: ?a2_4 :: ?a2_5 :: ?T2) (B := ?a2_1 :: ?a2_2 :: ?a2_3 :: ?a2_4 :: ?a2_0 :: ?a2_5 :: ?T2) (by exact permL [1, 2, 3, 4, 0, 5] [?a2_0, ?a2_1, ?a2_2, ?a2_3, ?a2_4, ?a2_5] ?T2 (by decide) rfl) ?_
 refine tri_rounds 10 ?_
 refine tri_round ?_
 refine tS (tR ?_)
 refine tri_v (opv_lss rfl rfl) rfl ?_
 refine tN (tT (tS ?_))
 refine tri_cond_is rfl ((by decide)) ?_
 skip
 refine tri_skip (tT (tS (tri_block (tS (tR (tM rfl rfl (tA rfl rfl ?_)))))))
 refine tN (tT (tS ?_))
 refine tri_draw [0, 1, 2, 3, 4, 5, 6, 7, 8, 9, 10, 11, 12, 13, 14, 15] rfl [_, _, _, _] rfl mixed ?_
 refine th_take rfl rfl (by kernel_rfl)  (opv_move rfl) ?_
 refine th_take rfl rfl (by kernel_rfl)  (by first | exact opv_fieldAddr rfl rfl | exact opv_fieldAddrE rfl (by assumption) (by omega) rfl | exact opv_fieldAddrR rfl (by omega) rfl | exact opv_fieldAddrP rfl rfl rfl) ?_
 refine th_take rfl rfl (by kernel_rfl)  (by first | exact opv_load1 rfl rfl rfl | exact opv_loadA rfl rfl rfl | exact opv_loadE1 rfl (by assumption) rfl (by omega) rfl rfl | exact opv_loadEA rfl (by assumption) rfl (by omega) rfl rfl | exact opv_loadRX1 rfl rfl (by omega) rfl rfl | exact opv_loadRXA rfl rfl (by omega) rfl rfl rfl | exact opv_loadIX rfl rfl (by omega) | exact opv_loadR1 rfl rfl rfl | exact opv_loadRA rfl rfl rfl rfl) ?_
 refine th_take rfl rfl (by kernel_rfl)  (by first | exact opv_load1 rfl rfl rfl | exact opv_loadA rfl rfl rfl | exact opv_loadE1 rfl (by assumption) rfl (by omega) rfl rfl | exact opv_loadEA rfl (by assumption) rfl (by omega) rfl rfl | exact opv_loadRX1 rfl rfl (by omega) rfl rfl | exact opv_loadRXA rfl rfl (by omega) rfl rfl rfl | exact opv_loadIX rfl rfl (by omega) | exact opv_loadR1 rfl rfl rfl | exact opv_loadRA rfl rfl rfl rfl) ?_
 refine th_take rfl rfl (by kernel_rfl)  (opv_move rfl) ?_
 refine th_take rfl rfl (by kernel_rfl)  (by first | exact opv_quoE rfl rfl (by omega) (by omega) (by omega) | exact opv_quo rfl rfl (by omega) (w64 (by omega) (by omega))) ?_
 refine th_take rfl rfl (by kernel_rfl)  (opv_move rfl) ?_
 refine th_take rfl rfl (by kernel_rfl)  (by first | exact opv_remE rfl rfl (by omega) (by omega) | exact opv_rem rfl rfl (by omega) rfl) ?_
 refine th_one (by kernel_rfl) (step_m rfl rfl (opg_call (xs := [_, _, _]) rfl (base_square (R8.s16_len ns n) (by omega) (by omega) (by omega) (by omega))) ?_)
 rintro _ _ _ ⟨rfl, rfl, rfl⟩
 refine ⟨Suf.h, (by first | exact fun _ h => h | assumption | exact fun _ h => (by assumption : _ ⊆ _) ((by assumption : _ ⊆ _) h)), ?_⟩
 skip
 refine th_one (by kernel_rfl) (step_m rfl rfl (opg_call (xs := [_, _]) rfl (node_putR (r := p0) hg h2 hi e0)) ?_)
 rintro _ _ _ ⟨a0, c0, es0, rfl, rfl, hi0, rfl⟩
 refine ⟨Suf.h, (by first | exact fun _ h => h | assumption | exact fun _ h => (by assumption : _ ⊆ _) ((by assumption : _ ⊆ _) h)), ?_⟩
 refine th_take rfl rfl (by kernel_rfl)  (opv_move rfl) ?_
 refine th_take rfl rfl (by kernel_rfl)  (opv_extract rfl rfl) ?_
 refine th_take rfl rfl (by kernel_rfl)  (opv_extract rfl rfl) ?_
 refine th_take rfl rfl (by kernel_rfl)  (by first | exact opv_indexAddrA rfl rfl (by first | decide | omega) (by first | decide | omega) | exact opv_indexAddrSN rfl rfl (by omega) (by assumption) rfl | exact opv_indexAddrS rfl rfl (by omega) (by omega) (by assumption) rfl | exact opv_indexAddrE rfl (by assumption) (by omega) rfl (by first | decide | omega) (by first | decide | omega) | exact opv_indexAddrRN rfl rfl (by omega) | exact opv_indexAddrR rfl rfl (by omega) (by omega) | exact opv_indexAddrRA rfl (by omega) rfl (by first | decide | omega) (by first | decide | omega) | exact opv_indexAddrSP rfl rfl (by omega) (by omega) | exact opv_indexAddrSN rfl rfl (by omega) (by assumption) (by omega) | exact opv_indexAddrS rfl rfl (by omega) (by omega) (by assumption) (by omega)) ?_
 refine th_one (by kernel_rfl) (step_m rfl rfl (opg_store rfl rfl rfl rfl rfl rfl) ?_)
 rintro _ _ _ ⟨rfl, rfl⟩
 refine ⟨Suf.h, (by first | exact fun _ h => h | assumption | exact fun _ h => (by assumption : _ ⊆ _) ((by assumption : _ ⊆ _) h)), ?_⟩
 refine th_take rfl rfl (by kernel_rfl)  (opv_assign rfl) ?_
 refine th_done (by kernel_rfl) ?_
 refine tT (tS (tR (tM rfl rfl ?_)))
 refine tri_v (by first | exact opv_neq rfl rfl | exact opv_neqI rfl rfl rfl rfl rfl rfl | exact opv_neqB rfl rfl) rfl ?_
 refine tN (tT ?_)
 refine tri_cond_dec rfl (fun x0 => ?_) (fun x0 => ?_)
 ·rw [if_pos x0]
  refine tS (tR ?_)
  refine tri_v (by first | exact opv_buildS rfl rfl | exact opv_buildA rfl rfl) rfl ?_
  refine tM rfl rfl ?_
  refine tri_g (opg_store rfl rfl rfl rfl rfl rfl) rfl ?_
  rintro _ _ _ ⟨rfl, rfl⟩
  refine tA rfl rfl (tN (tT (tri_ret ?_)))
  refine tri_inBlock_ret ?_
  refine tri_then_ret (tri_then_ret ?_)
  refine tri_inBlock_ret ?_
  refine tri_then_ret ?_
  refine tri_perm (A := ?a3_0 :: ?a3_1 :: ?a3_2 :: ?a3_3 :: ?a3_4 :: ?a3_5 :: ?T3) (B := ?a3_3 :: ?a3_4 :: ?a3_5 :: ?a3_0 :: ?a3_1 :: ?a3_2 :: ?T3) (by exact permL [3, 4, 5, 0, 1, 2] [?a3_0, ?a3_1, ?a3_2, ?a3_3, ?a3_4, ?a3_5] ?T3 (by decide) rfl) ?_
  refine tri_end (IxA bx mb a0 c0 p0.1 room es0 A) Suf.h rfl (.cons (rv_cellA rfl rfl rfl) (.cons (rv_tmp rfl) .nil)) ⟨a0, c0, es0, p0.1, _, _, _, _, _, _, _, _, _, rfl, rfl, fun h => absurd h x0, rfl⟩
 refine tri_skip ?_
 refine tri_inBlock ?_
 refine tT (tR ?_)
 refine tri_v (by first | exact opv_add rfl rfl (w64 (by omega) (by omega))) rfl ?_
 refine tM rfl rfl (tN (tT ?_))
 refine tri_round ?_
 refine tS (tR ?_)
 refine tri_v (opv_lss rfl rfl) rfl ?_
 refine tN (tT (tS ?_))
 skip
 refine tri_cond_is rfl ((by decide)) ?_
 skip
 refine tri_skip (tT (tS (tri_block (tS (tR (tM rfl rfl (tA rfl rfl ?_)))))))
 refine tN (tT (tS ?_))
 refine tri_draw [0, 1, 2, 3, 4, 5, 6, 7, 8, 9, 10, 11, 12, 13, 14, 15] rfl [_, _, _, _] rfl mixed ?_
 refine th_take rfl rfl (by kernel_rfl)  (opv_move rfl) ?_
 refine th_take rfl rfl (by kernel_rfl)  (by first | exact opv_fieldAddr rfl rfl | exact opv_fieldAddrE rfl (by assumption) (by omega) rfl | exact opv_fieldAddrR rfl (by omega) rfl | exact opv_fieldAddrP rfl rfl rfl) ?_
 refine th_take rfl rfl (by kernel_rfl)  (by first | exact opv_load1 rfl rfl rfl | exact opv_loadA rfl rfl rfl | exact opv_loadE1 rfl (by assumption) rfl (by omega) rfl rfl | exact opv_loadEA rfl (by assumption) rfl (by omega) rfl rfl | exact opv_loadRX1 rfl rfl (by omega) rfl rfl | exact opv_loadRXA rfl rfl (by omega) rfl rfl rfl | exact opv_loadIX rfl rfl (by omega) | exact opv_loadR1 rfl rfl rfl | exact opv_loadRA rfl rfl rfl rfl) ?_
 refine th_take rfl rfl (by kernel_rfl)  (by first | exact opv_load1 rfl rfl rfl | exact opv_loadA rfl rfl rfl | exact opv_loadE1 rfl (by assumption) rfl (by omega) rfl rfl | exact opv_loadEA rfl (by assumption) rfl (by omega) rfl rfl | exact opv_loadRX1 rfl rfl (by omega) rfl rfl | exact opv_loadRXA rfl rfl (by omega) rfl rfl rfl | exact opv_loadIX rfl rfl (by omega) | exact opv_loadR1 rfl rfl rfl | exact opv_loadRA rfl rfl rfl rfl) ?_
 refine th_take rfl rfl (by kernel_rfl)  (opv_move rfl) ?_
 refine th_take rfl rfl (by kernel_rfl)  (by first | exact opv_quoE rfl rfl (by omega) (by omega) (by omega) | exact opv_quo rfl rfl (by omega) (w64 (by omega) (by omega))) ?_
 refine th_take rfl rfl (by kernel_rfl)  (opv_move rfl) ?_
 refine th_take rfl rfl (by kernel_rfl)  (by first | exact opv_remE rfl rfl (by omega) (by omega) | exact opv_rem rfl rfl (by omega) rfl) ?_
 refine th_one (by kernel_rfl) (step_m rfl rfl (opg_call (xs := [_, _, _]) rfl (base_square (R8.s16_len ns n) (by omega) (by omega) (by omega) (by omega))) ?_)
 rintro _ _ _ ⟨rfl, rfl, rfl⟩
 refine ⟨Suf.h, (by first | exact fun _ h => h | assumption | exact fun _ h => (by assumption : _ ⊆ _) ((by assumption : _ ⊆ _) h)), ?_⟩
 skip
 refine th_one (by kernel_rfl) (step_m rfl rfl (opg_call (xs := [_, _]) rfl (node_putR (r := p1) g0 l0 hi0 e1)) ?_)
 rintro _ _ _ ⟨a1, c1, es1, rfl, rfl, hi1, rfl⟩
 refine ⟨Suf.h, (by first | exact fun _ h => h | assumption | exact fun _ h => (by assumption : _ ⊆ _) ((by assumption : _ ⊆ _) h)), ?_⟩
 refine th_take rfl rfl (by kernel_rfl)  (opv_move rfl) ?_
 refine th_take rfl rfl (by kernel_rfl)  (opv_extract rfl rfl) ?_
 refine th_take rfl rfl (by kernel_rfl)  (opv_extract rfl rfl) ?_
 refine th_take rfl rfl (by kernel_rfl)  (by first | exact opv_indexAddrA rfl rfl (by first | decide | omega) (by first | decide | omega) | exact opv_indexAddrSN rfl rfl (by omega) (by assumption) rfl | exact opv_indexAddrS rfl rfl (by omega) (by omega) (by assumption) rfl | exact opv_indexAddrE rfl (by assumption) (by omega) rfl (by first | decide | omega) (by first | decide | omega) | exact opv_indexAddrRN rfl rfl (by omega) | exact opv_indexAddrR rfl rfl (by omega) (by omega) | exact opv_indexAddrRA rfl (by omega) rfl (by first | decide | omega) (by first | decide | omega) | exact opv_indexAddrSP rfl rfl (by omega) (by omega) | exact opv_indexAddrSN rfl rfl (by omega) (by assumption) (by omega) | exact opv_indexAddrS rfl rfl (by omega) (by omega) (by assumption) (by omega)) ?_
 refine th_one (by kernel_rfl) (step_m rfl rfl (opg_store rfl rfl rfl rfl rfl rfl) ?_)
 rintro _ _ _ ⟨rfl, rfl⟩
 refine ⟨Suf.h, (by first | exact fun _ h => h | assumption | exact fun _ h => (by assumption : _ ⊆ _) ((by assumption : _ ⊆ _) h)), ?_⟩
 refine th_take rfl rfl (by kernel_rfl)  (opv_assign rfl) ?_
 refine th_done (by kernel_rfl) ?_
 refine tT (tS (tR (tM rfl rfl ?_)))
 refine tri_v (by first | exact opv_neq rfl rfl | exact opv_neqI rfl rfl rfl rfl rfl rfl | exact opv_neqB rfl rfl) rfl ?_
 refine tN (tT ?_)
 refine tri_cond_dec rfl (fun x1 => ?_) (fun x1 => ?_)
 ·rw [if_neg x0, if_pos x1]
  refine tS (tR ?_)
  refine tri_v (by first | exact opv_buildS rfl rfl | exact opv_buildA rfl rfl) rfl ?_
  refine tM rfl rfl ?_
  refine tri_g (opg_store rfl rfl rfl rfl rfl rfl) rfl ?_
  rintro _ _ _ ⟨rfl, rfl⟩
  refine tA rfl rfl (tN (tT (tri_ret ?_)))
  refine tri_inBlock_ret ?_
  refine tri_then_ret (tri_then_ret ?_)
  refine tri_inBlock_ret ?_
  refine tri_then_ret ?_
  refine tri_perm (A := ?a4_0 :: ?a4_1 :: ?a4_2 :: ?a4_3 :: ?a4_4 :: ?a4_5 :: ?T4) (B := ?a4_3 :: ?a4_4 :: ?a4_5 :: ?a4_0 :: ?a4_1 :: ?a4_2 :: ?T4) (by exact permL [3, 4, 5, 0, 1, 2] [?a4_0, ?a4_1, ?a4_2, ?a4_3, ?a4_4, ?a4_5] ?T4 (by decide) rfl) ?_
  refine tri_end (IxA bx mb a1 c1 p1.1 room es1 A) Suf.h rfl (.cons (rv_cellA rfl rfl rfl) (.cons (rv_tmp rfl) .nil)) ⟨a1, c1, es1, p1.1, _, _, _, _, _, _, _, _, _, rfl, rfl, fun h => absurd h x1, rfl⟩
 refine tri_skip ?_
 refine tri_inBlock ?_
 refine tT (tR ?_)
 refine tri_v (by first | exact opv_add rfl rfl (w64 (by omega) (by omega))) rfl ?_
 refine tM rfl rfl (tN (tT ?_))
 refine tri_round ?_
 refine tS (tR ?_)
 refine tri_v (opv_lss rfl rfl) rfl ?_
 refine tN (tT (tS ?_))
 skip
 refine tri_cond_is rfl ((by decide)) ?_
 skip
 refine tri_skip (tT (tS (tri_block (tS (tR (tM rfl rfl (tA rfl rfl ?_)))))))
 refine tN (tT (tS ?_))
 refine tri_draw [0, 1, 2, 3, 4, 5, 6, 7, 8, 9, 10, 11, 12, 13, 14, 15] rfl [_, _, _, _] rfl mixed ?_
 refine th_take rfl rfl (by kernel_rfl)  (opv_move rfl) ?_
 refine th_take rfl rfl (by kernel_rfl)  (by first | exact opv_fieldAddr rfl rfl | exact opv_fieldAddrE rfl (by assumption) (by omega) rfl | exact opv_fieldAddrR rfl (by omega) rfl | exact opv_fieldAddrP rfl rfl rfl) ?_
 refine th_take rfl rfl (by kernel_rfl)  (by first | exact opv_load1 rfl rfl rfl | exact opv_loadA rfl rfl rfl | exact opv_loadE1 rfl (by assumption) rfl (by omega) rfl rfl | exact opv_loadEA rfl (by assumption) rfl (by omega) rfl rfl | exact opv_loadRX1 rfl rfl (by omega) rfl rfl | exact opv_loadRXA rfl rfl (by omega) rfl rfl rfl | exact opv_loadIX rfl rfl (by omega) | exact opv_loadR1 rfl rfl rfl | exact opv_loadRA rfl rfl rfl rfl) ?_
 refine th_take rfl rfl (by kernel_rfl)  (by first | exact opv_load1 rfl rfl rfl | exact opv_loadA rfl rfl rfl | exact opv_loadE1 rfl (by assumption) rfl (by omega) rfl rfl | exact opv_loadEA rfl (by assumption) rfl (by omega) rfl rfl | exact opv_loadRX1 rfl rfl (by omega) rfl rfl | exact opv_loadRXA rfl rfl (by omega) rfl rfl rfl | exact opv_loadIX rfl rfl (by omega) | exact opv_loadR1 rfl rfl rfl | exact opv_loadRA rfl rfl rfl rfl) ?_
 refine th_take rfl rfl (by kernel_rfl)  (opv_move rfl) ?_
 refine th_take rfl rfl (by kernel_rfl)  (by first | exact opv_quoE rfl rfl (by omega) (by omega) (by omega) | exact opv_quo rfl rfl (by omega) (w64 (by omega) (by omega))) ?_
 refine th_take rfl rfl (by kernel_rfl)  (opv_move rfl) ?_
 refine th_take rfl rfl (by kernel_rfl)  (by first | exact opv_remE rfl rfl (by omega) (by omega) | exact opv_rem rfl rfl (by omega) rfl) ?_
 refine th_one (by kernel_rfl) (step_m rfl rfl (opg_call (xs := [_, _, _]) rfl (base_square (R8.s16_len ns n) (by omega) (by omega) (by omega) (by omega))) ?_)
 rintro _ _ _ ⟨rfl, rfl, rfl⟩
 refine ⟨Suf.h, (by first | exact fun _ h => h | assumption | exact fun _ h => (by assumption : _ ⊆ _) ((by assumption : _ ⊆ _) h)), ?_⟩
 skip
 refine th_one (by kernel_rfl) (step_m rfl rfl (opg_call (xs := [_, _]) rfl (node_putR (r := p2) g1 l1 hi1 e2)) ?_)
 rintro _ _ _ ⟨a2, c2, es2, rfl, rfl, hi2, rfl⟩
 refine ⟨Suf.h, (by first | exact fun _ h => h | assumption | exact fun _ h => (by assumption : _ ⊆ _) ((by assumption : _ ⊆ _) h)), ?_⟩
 refine th_take rfl rfl (by kernel_rfl)  (opv_move rfl) ?_
 refine th_take rfl rfl (by kernel_rfl)  (opv_extract rfl rfl) ?_
 refine th_take rfl rfl (by kernel_rfl)  (opv_extract rfl rfl) ?_
 refine th_take rfl rfl (by kernel_rfl)  (by first | exact opv_indexAddrA rfl rfl (by first | decide | omega) (by first | decide | omega) | exact opv_indexAddrSN rfl rfl (by omega) (by assumption) rfl | exact opv_indexAddrS rfl rfl (by omega) (by omega) (by assumption) rfl | exact opv_indexAddrE rfl (by assumption) (by omega) rfl (by first | decide | omega) (by first | decide | omega) | exact opv_indexAddrRN rfl rfl (by omega) | exact opv_indexAddrR rfl rfl (by omega) (by omega) | exact opv_indexAddrRA rfl (by omega) rfl (by first | decide | omega) (by first | decide | omega) | exact opv_indexAddrSP rfl rfl (by omega) (by omega) | exact opv_indexAddrSN rfl rfl (by omega) (by assumption) (by omega) | exact opv_indexAddrS rfl rfl (by omega) (by omega) (by assumption) (by omega)) ?_
 refine th_one (by kernel_rfl) (step_m rfl rfl (opg_store rfl rfl rfl rfl rfl rfl) ?_)
 rintro _ _ _ ⟨rfl, rfl⟩
 refine ⟨Suf.h, (by first | exact fun _ h => h | assumption | exact fun _ h => (by assumption : _ ⊆ _) ((by assumption : _ ⊆ _) h)), ?_⟩
 refine th_take rfl rfl (by kernel_rfl)  (opv_assign rfl) ?_
 refine th_done (by kernel_rfl) ?_
 refine tT (tS (tR (tM rfl rfl ?_)))
 refine tri_v (by first | exact opv_neq rfl rfl | exact opv_neqI rfl rfl rfl rfl rfl rfl | exact opv_neqB rfl rfl) rfl ?_
 refine tN (tT ?_)
 refine tri_cond_dec rfl (fun x2 => ?_) (fun x2 => ?_)
 ·rw [if_neg x0, if_neg x1, if_pos x2]
  refine tS (tR ?_)
  refine tri_v (by first | exact opv_buildS rfl rfl | exact opv_buildA rfl rfl) rfl ?_
  refine tM rfl rfl ?_
  refine tri_g (opg_store rfl rfl rfl rfl rfl rfl) rfl ?_
  rintro _ _ _ ⟨rfl, rfl⟩
  refine tA rfl rfl (tN (tT (tri_ret ?_)))
  refine tri_inBlock_ret ?_
  refine tri_then_ret (tri_then_ret ?_)
  refine tri_inBlock_ret ?_
  refine tri_then_ret ?_
  refine tri_perm (A := ?a5_0 :: ?a5_1 :: ?a5_2 :: ?a5_3 :: ?a5_4 :: ?a5_5 :: ?T5) (B := ?a5_3 :: ?a5_4 :: ?a5_5 :: ?a5_0 :: ?a5_1 :: ?a5_2 :: ?T5) (by exact permL [3, 4, 5, 0, 1, 2] [?a5_0, ?a5_1, ?a5_2, ?a5_3, ?a5_4, ?a5_5] ?T5 (by decide) rfl) ?_
  refine tri_end (IxA bx mb a2 c2 p2.1 room es2 A) Suf.h rfl (.cons (rv_cellA rfl rfl rfl) (.cons (rv_tmp rfl) .nil)) ⟨a2, c2, es2, p2.1, _, _, _, _, _, _, _, _, _, rfl, rfl, fun h => absurd h x2, rfl⟩
 refine tri_skip ?_
 refine tri_inBlock ?_
 refine tT (tR ?_)
 refine tri_v (by first | exact opv_add rfl rfl (w64 (by omega) (by omega))) rfl ?_
 refine tM rfl rfl (tN (tT ?_))
 refine tri_round ?_
 refine tS (tR ?_)
 refine tri_v (opv_lss rfl rfl) rfl ?_
 refine tN (tT (tS ?_))
 skip
 refine tri_cond_is rfl ((by decide)) ?_
 skip
 refine tri_skip (tT (tS (tri_block (tS (tR (tM rfl rfl (tA rfl rfl ?_)))))))
 refine tN (tT (tS ?_))
 refine tri_draw [0, 1, 2, 3, 4, 5, 6, 7, 8, 9, 10, 11, 12, 13, 14, 15] rfl [_, _, _, _] rfl mixed ?_
 refine th_take rfl rfl (by kernel_rfl)  (opv_move rfl) ?_
 refine th_take rfl rfl (by kernel_rfl)  (by first | exact opv_fieldAddr rfl rfl | exact opv_fieldAddrE rfl (by assumption) (by omega) rfl | exact opv_fieldAddrR rfl (by omega) rfl | exact opv_fieldAddrP rfl rfl rfl) ?_
 refine th_take rfl rfl (by kernel_rfl)  (by first | exact opv_load1 rfl rfl rfl | exact opv_loadA rfl rfl rfl | exact opv_loadE1 rfl (by assumption) rfl (by omega) rfl rfl | exact opv_loadEA rfl (by assumption) rfl (by omega) rfl rfl | exact opv_loadRX1 rfl rfl (by omega) rfl rfl | exact opv_loadRXA rfl rfl (by omega) rfl rfl rfl | exact opv_loadIX rfl rfl (by omega) | exact opv_loadR1 rfl rfl rfl | exact opv_loadRA rfl rfl rfl rfl) ?_
 refine th_take rfl rfl (by kernel_rfl)  (by first | exact opv_load1 rfl rfl rfl | exact opv_loadA rfl rfl rfl | exact opv_loadE1 rfl (by assumption) rfl (by omega) rfl rfl | exact opv_loadEA rfl (by assumption) rfl (by omega) rfl rfl | exact opv_loadRX1 rfl rfl (by omega) rfl rfl | exact opv_loadRXA rfl rfl (by omega) rfl rfl rfl | exact opv_loadIX rfl rfl (by omega) | exact opv_loadR1 rfl rfl rfl | exact opv_loadRA rfl rfl rfl rfl) ?_
 refine th_take rfl rfl (by kernel_rfl)  (opv_move rfl) ?_
 refine th_take rfl rfl (by kernel_rfl)  (by first | exact opv_quoE rfl rfl (by omega) (by omega) (by omega) | exact opv_quo rfl rfl (by omega) (w64 (by omega) (by omega))) ?_
 refine th_take rfl rfl (by kernel_rfl)  (opv_move rfl) ?_
 refine th_take rfl rfl (by kernel_rfl)  (by first | exact opv_remE rfl rfl (by omega) (by omega) | exact opv_rem rfl rfl (by omega) rfl) ?_
 refine th_one (by kernel_rfl) (step_m rfl rfl (opg_call (xs := [_, _, _]) rfl (base_square (R8.s16_len ns n) (by omega) (by omega) (by omega) (by omega))) ?_)
 rintro _ _ _ ⟨rfl, rfl, rfl⟩
 refine ⟨Suf.h, (by first | exact fun _ h => h | assumption | exact fun _ h => (by assumption : _ ⊆ _) ((by assumption : _ ⊆ _) h)), ?_⟩
 skip
 refine th_one (by kernel_rfl) (step_m rfl rfl (opg_call (xs := [_, _]) rfl (node_putR (r := p3) g2 l2 hi2 e3)) ?_)
 rintro _ _ _ ⟨a3, c3, es3, rfl, rfl, hi3, rfl⟩
 refine ⟨Suf.h, (by first | exact fun _ h => h | assumption | exact fun _ h => (by assumption : _ ⊆ _) ((by assumption : _ ⊆ _) h)), ?_⟩
 refine th_take rfl rfl (by kernel_rfl)  (opv_move rfl) ?_
 refine th_take rfl rfl (by kernel_rfl)  (opv_extract rfl rfl) ?_
 refine th_take rfl rfl (by kernel_rfl)  (opv_extract rfl rfl) ?_
 refine th_take rfl rfl (by kernel_rfl)  (by first | exact opv_indexAddrA rfl rfl (by first | decide | omega) (by first | decide | omega) | exact opv_indexAddrSN rfl rfl (by omega) (by assumption) rfl | exact opv_indexAddrS rfl rfl (by omega) (by omega) (by assumption) rfl | exact opv_indexAddrE rfl (by assumption) (by omega) rfl (by first | decide | omega) (by first | decide | omega) | exact opv_indexAddrRN rfl rfl (by omega) | exact opv_indexAddrR rfl rfl (by omega) (by omega) | exact opv_indexAddrRA rfl (by omega) rfl (by first | decide | omega) (by first | decide | omega) | exact opv_indexAddrSP rfl rfl (by omega) (by omega) | exact opv_indexAddrSN rfl rfl (by omega) (by assumption) (by omega) | exact opv_indexAddrS rfl rfl (by omega) (by omega) (by assumption) (by omega)) ?_
 refine th_one (by kernel_rfl) (step_m rfl rfl (opg_store rfl rfl rfl rfl rfl rfl) ?_)
 rintro _ _ _ ⟨rfl, rfl⟩
 refine ⟨Suf.h, (by first | exact fun _ h => h | assumption | exact fun _ h => (by assumption : _ ⊆ _) ((by assumption : _ ⊆ _) h)), ?_⟩
 refine th_take rfl rfl (by kernel_rfl)  (opv_assign rfl) ?_
 refine th_done (by kernel_rfl) ?_
 refine tT (tS (tR (tM rfl rfl ?_)))
 refine tri_v (by first | exact opv_neq rfl rfl | exact opv_neqI rfl rfl rfl rfl rfl rfl | exact opv_neqB rfl rfl) rfl ?_
 refine tN (tT ?_)
 refine tri_cond_dec rfl (fun x3 => ?_) (fun x3 => ?_)
 ·rw [if_neg x0, if_neg x1, if_neg x2, if_pos x3]
  refine tS (tR ?_)
  refine tri_v (by first | exact opv_buildS rfl rfl | exact opv_buildA rfl rfl) rfl ?_
  refine tM rfl rfl ?_
  refine tri_g (opg_store rfl rfl rfl rfl rfl rfl) rfl ?_
  rintro _ _ _ ⟨rfl, rfl⟩
  refine tA rfl rfl (tN (tT (tri_ret ?_)))
  refine tri_inBlock_ret ?_
  refine tri_then_ret (tri_then_ret ?_)
  refine tri_inBlock_ret ?_
  refine tri_then_ret ?_
  refine tri_perm (A := ?a6_0 :: ?a6_1 :: ?a6_2 :: ?a6_3 :: ?a6_4 :: ?a6_5 :: ?T6) (B := ?a6_3 :: ?a6_4 :: ?a6_5 :: ?a6_0 :: ?a6_1 :: ?a6_2 :: ?T6) (by exact permL [3, 4, 5, 0, 1, 2] [?a6_0, ?a6_1, ?a6_2, ?a6_3, ?a6_4, ?a6_5] ?T6 (by decide) rfl) ?_
  refine tri_end (IxA bx mb a3 c3 p3.1 room es3 A) Suf.h rfl (.cons (rv_cellA rfl rfl rfl) (.cons (rv_tmp rfl) .nil)) ⟨a3, c3, es3, p3.1, _, _, _, _, _, _, _, _, _, rfl, rfl, fun h => absurd h x3, rfl⟩
 refine tri_skip ?_
 refine tri_inBlock ?_
 refine tT (tR ?_)
 refine tri_v (by first | exact opv_add rfl rfl (w64 (by omega) (by omega))) rfl ?_
 refine tM rfl rfl (tN (tT ?_))
 refine tri_round ?_
 refine tS (tR ?_)
 refine tri_v (opv_lss rfl rfl) rfl ?_
 refine tN (tT (tS ?_))
 skip
 refine tri_cond_is rfl ((by decide)) ?_
 skip
 refine tri_skip (tT (tS (tri_block (tS (tR (tM rfl rfl (tA rfl rfl ?_)))))))
 refine tN (tT (tS ?_))
 refine tri_draw [0, 1, 2, 3, 4, 5, 6, 7, 8, 9, 10, 11, 12, 13, 14, 15] rfl [_, _, _, _] rfl mixed ?_
 refine th_take rfl rfl (by kernel_rfl)  (opv_move rfl) ?_
 refine th_take rfl rfl (by kernel_rfl)  (by first | exact opv_fieldAddr rfl rfl | exact opv_fieldAddrE rfl (by assumption) (by omega) rfl | exact opv_fieldAddrR rfl (by omega) rfl | exact opv_fieldAddrP rfl rfl rfl) ?_
 refine th_take rfl rfl (by kernel_rfl)  (by first | exact opv_load1 rfl rfl rfl | exact opv_loadA rfl rfl rfl | exact opv_loadE1 rfl (by assumption) rfl (by omega) rfl rfl | exact opv_loadEA rfl (by assumption) rfl (by omega) rfl rfl | exact opv_loadRX1 rfl rfl (by omega) rfl rfl | exact opv_loadRXA rfl rfl (by omega) rfl rfl rfl | exact opv_loadIX rfl rfl (by omega) | exact opv_loadR1 rfl rfl rfl | exact opv_loadRA rfl rfl rfl rfl) ?_
 refine th_take rfl rfl (by kernel_rfl)  (by first | exact opv_load1 rfl rfl rfl | exact opv_loadA rfl rfl rfl | exact opv_loadE1 rfl (by assumption) rfl (by omega) rfl rfl | exact opv_loadEA rfl (by assumption) rfl (by omega) rfl rfl | exact opv_loadRX1 rfl rfl (by omega) rfl rfl | exact opv_loadRXA rfl rfl (by omega) rfl rfl rfl | exact opv_loadIX rfl rfl (by omega) | exact opv_loadR1 rfl rfl rfl | exact opv_loadRA rfl rfl rfl rfl) ?_
 refine th_take rfl rfl (by kernel_rfl)  (opv_move rfl) ?_
 refine th_take rfl rfl (by kernel_rfl)  (by first | exact opv_quoE rfl rfl (by omega) (by omega) (by omega) | exact opv_quo rfl rfl (by omega) (w64 (by omega) (by omega))) ?_
 refine th_take rfl rfl (by kernel_rfl)  (opv_move rfl) ?_
 refine th_take rfl rfl (by kernel_rfl)  (by first | exact opv_remE rfl rfl (by omega) (by omega) | exact opv_rem rfl rfl (by omega) rfl) ?_
 refine th_one (by kernel_rfl) (step_m rfl rfl (opg_call (xs := [_, _, _]) rfl (base_square (R8.s16_len ns n) (by omega) (by omega) (by omega) (by omega))) ?_)
 rintro _ _ _ ⟨rfl, rfl, rfl⟩
 refine ⟨Suf.h, (by first | exact fun _ h => h | assumption | exact fun _ h => (by assumption : _ ⊆ _) ((by assumption : _ ⊆ _) h)), ?_⟩
 skip
 refine th_one (by kernel_rfl) (step_m rfl rfl (opg_call (xs := [_, _]) rfl (node_putR (r := p4) g3 l3 hi3 e4)) ?_)
 rintro _ _ _ ⟨a4, c4, es4, rfl, rfl, hi4, rfl⟩
 refine ⟨Suf.h, (by first | exact fun _ h => h | assumption | exact fun _ h => (by assumption : _ ⊆ _) ((by assumption : _ ⊆ _) h)), ?_⟩
 refine th_take rfl rfl (by kernel_rfl)  (opv_move rfl) ?_
 refine th_take rfl rfl (by kernel_rfl)  (opv_extract rfl rfl) ?_
 refine th_take rfl rfl (by kernel_rfl)  (opv_extract rfl rfl) ?_
 refine th_take rfl rfl (by kernel_rfl)  (by first | exact opv_indexAddrA rfl rfl (by first | decide | omega) (by first | decide | omega) | exact opv_indexAddrSN rfl rfl (by omega) (by assumption) rfl | exact opv_indexAddrS rfl rfl (by omega) (by omega) (by assumption) rfl | exact opv_indexAddrE rfl (by assumption) (by omega) rfl (by first | decide | omega) (by first | decide | omega) | exact opv_indexAddrRN rfl rfl (by omega) | exact opv_indexAddrR rfl rfl (by omega) (by omega) | exact opv_indexAddrRA rfl (by omega) rfl (by first | decide | omega) (by first | decide | omega) | exact opv_indexAddrSP rfl rfl (by omega) (by omega) | exact opv_indexAddrSN rfl rfl (by omega) (by assumption) (by omega) | exact opv_indexAddrS rfl rfl (by omega) (by omega) (by assumption) (by omega)) ?_
 refine th_one (by kernel_rfl) (step_m rfl rfl (opg_store rfl rfl rfl rfl rfl rfl) ?_)
 rintro _ _ _ ⟨rfl, rfl⟩
 refine ⟨Suf.h, (by first | exact fun _ h => h | assumption | exact fun _ h => (by assumption : _ ⊆ _) ((by assumption : _ ⊆ _) h)), ?_⟩
 refine th_take rfl rfl (by kernel_rfl)  (opv_assign rfl) ?_
 refine th_done (by kernel_rfl) ?_
 refine tT (tS (tR (tM rfl rfl ?_)))
 refine tri_v (by first | exact opv_neq rfl rfl | exact opv_neqI rfl rfl rfl rfl rfl rfl | exact opv_neqB rfl rfl) rfl ?_
 refine tN (tT ?_)
 refine tri_cond_dec rfl (fun x4 => ?_) (fun x4 => ?_)
 ·rw [if_neg x0, if_neg x1, if_neg x2, if_neg x3, if_pos x4]
  refine tS (tR ?_)
  refine tri_v (by first | exact opv_buildS rfl rfl | exact opv_buildA rfl rfl) rfl ?_
  refine tM rfl rfl ?_
  refine tri_g (opg_store rfl rfl rfl rfl rfl rfl) rfl ?_
  rintro _ _ _ ⟨rfl, rfl⟩
  refine tA rfl rfl (tN (tT (tri_ret ?_)))
  refine tri_inBlock_ret ?_
  refine tri_then_ret (tri_then_ret ?_)
  refine tri_inBlock_ret ?_
  refine tri_then_ret ?_
  refine tri_perm (A := ?a7_0 :: ?a7_1 :: ?a7_2 :: ?a7_3 :: ?a7_4 :: ?a7_5 :: ?T7) (B := ?a7_3 :: ?a7_4 :: ?a7_5 :: ?a7_0 :: ?a7_1 :: ?a7_2 :: ?T7) (by exact permL [3, 4, 5, 0, 1, 2] [?a7_0, ?a7_1, ?a7_2, ?a7_3, ?a7_4, ?a7_5] ?T7 (by decide) rfl) ?_
  refine tri_end (IxA bx mb a4 c4 p4.1 room es4 A) Suf.h rfl (.cons (rv_cellA rfl rfl rfl) (.cons (rv_tmp rfl) .nil)) ⟨a4, c4, es4, p4.1, _, _, _, _, _, _, _, _, _, rfl, rfl, fun h => absurd h x4, rfl⟩
 refine tri_skip ?_
 refine tri_inBlock ?_
 refine tT (tR ?_)
 refine tri_v (by first | exact opv_add rfl rfl (w64 (by omega) (by omega))) rfl ?_
 refine tM rfl rfl (tN (tT ?_))
 refine tri_round ?_
 refine tS (tR ?_)
 refine tri_v (opv_lss rfl rfl) rfl ?_
 refine tN (tT (tS ?_))
 skip
 refine tri_cond_is rfl ((by decide)) ?_
 skip
 refine tri_skip (tT (tS (tri_block (tS (tR (tM rfl rfl (tA rfl rfl ?_)))))))
 refine tN (tT (tS ?_))
 refine tri_draw [0, 1, 2, 3, 4, 5, 6, 7, 8, 9, 10, 11, 12, 13, 14, 15] rfl [_, _, _, _] rfl mixed ?_
 refine th_take rfl rfl (by kernel_rfl)  (opv_move rfl) ?_
 refine th_take rfl rfl (by kernel_rfl)  (by first | exact opv_fieldAddr rfl rfl | exact opv_fieldAddrE rfl (by assumption) (by omega) rfl | exact opv_fieldAddrR rfl (by omega) rfl | exact opv_fieldAddrP rfl rfl rfl) ?_
 refine th_take rfl rfl (by kernel_rfl)  (by first | exact opv_load1 rfl rfl rfl | exact opv_loadA rfl rfl rfl | exact opv_loadE1 rfl (by assumption) rfl (by omega) rfl rfl | exact opv_loadEA rfl (by assumption) rfl (by omega) rfl rfl | exact opv_loadRX1 rfl rfl (by omega) rfl rfl | exact opv_loadRXA rfl rfl (by omega) rfl rfl rfl | exact opv_loadIX rfl rfl (by omega) | exact opv_loadR1 rfl rfl rfl | exact opv_loadRA rfl rfl rfl rfl) ?_
 refine th_take rfl rfl (by kernel_rfl)  (by first | exact opv_load1 rfl rfl rfl | exact opv_loadA rfl rfl rfl | exact opv_loadE1 rfl (by assumption) rfl (by omega) rfl rfl | exact opv_loadEA rfl (by assumption) rfl (by omega) rfl rfl | exact opv_loadRX1 rfl rfl (by omega) rfl rfl | exact opv_loadRXA rfl rfl (by omega) rfl rfl rfl | exact opv_loadIX rfl rfl (by omega) | exact opv_loadR1 rfl rfl rfl | exact opv_loadRA rfl rfl rfl rfl) ?_
 refine th_take rfl rfl (by kernel_rfl)  (opv_move rfl) ?_
 refine th_take rfl rfl (by kernel_rfl)  (by first | exact opv_quoE rfl rfl (by omega) (by omega) (by omega) | exact opv_quo rfl rfl (by omega) (w64 (by omega) (by omega))) ?_
 refine th_take rfl rfl (by kernel_rfl)  (opv_move rfl) ?_
 refine th_take rfl rfl (by kernel_rfl)  (by first | exact opv_remE rfl rfl (by omega) (by omega) | exact opv_rem rfl rfl (by omega) rfl) ?_
 refine th_one (by kernel_rfl) (step_m rfl rfl (opg_call (xs := [_, _, _]) rfl (base_square (R8.s16_len ns n) (by omega) (by omega) (by omega) (by omega))) ?_)
 rintro _ _ _ ⟨rfl, rfl, rfl⟩
 refine ⟨Suf.h, (by first | exact fun _ h => h | assumption | exact fun _ h => (by assumption : _ ⊆ _) ((by assumption : _ ⊆ _) h)), ?_⟩
 skip
 refine th_one (by kernel_rfl) (step_m rfl rfl (opg_call (xs := [_, _]) rfl (node_putR (r := p5) g4 l4 hi4 e5)) ?_)
 rintro _ _ _ ⟨a5, c5, es5, rfl, rfl, hi5, rfl⟩
 refine ⟨Suf.h, (by first | exact fun _ h => h | assumption | exact fun _ h => (by assumption : _ ⊆ _) ((by assumption : _ ⊆ _) h)), ?_⟩
 refine th_take rfl rfl (by kernel_rfl)  (opv_move rfl) ?_
 refine th_take rfl rfl (by kernel_rfl)  (opv_extract rfl rfl) ?_
 refine th_take rfl rfl (by kernel_rfl)  (opv_extract rfl rfl) ?_
 refine th_take rfl rfl (by kernel_rfl)  (by first | exact opv_indexAddrA rfl rfl (by first | decide | omega) (by first | decide | omega) | exact opv_indexAddrSN rfl rfl (by omega) (by assumption) rfl | exact opv_indexAddrS rfl rfl (by omega) (by omega) (by assumption) rfl | exact opv_indexAddrE rfl (by assumption) (by omega) rfl (by first | decide | omega) (by first | decide | omega) | exact opv_indexAddrRN rfl rfl (by omega) | exact opv_indexAddrR rfl rfl (by omega) (by omega) | exact opv_indexAddrRA rfl (by omega) rfl (by first | decide | omega) (by first | decide | omega) | exact opv_indexAddrSP rfl rfl (by omega) (by omega) | exact opv_indexAddrSN rfl rfl (by omega) (by assumption) (by omega) | exact opv_indexAddrS rfl rfl (by omega) (by omega) (by assumption) (by omega)) ?_
 refine th_one (by kernel_rfl) (step_m rfl rfl (opg_store rfl rfl rfl rfl rfl rfl) ?_)
 rintro _ _ _ ⟨rfl, rfl⟩
 refine ⟨Suf.h, (by first | exact fun _ h => h | assumption | exact fun _ h => (by assumption : _ ⊆ _) ((by assumption : _ ⊆ _) h)), ?_⟩
 refine th_take rfl rfl (by kernel_rfl)  (opv_assign rfl) ?_
 refine th_done (by kernel_rfl) ?_
 refine tT (tS (tR (tM rfl rfl ?_)))
 refine tri_v (by first | exact opv_neq rfl rfl | exact opv_neqI rfl rfl rfl rfl rfl rfl | exact opv_neqB rfl rfl) rfl ?_
 refine tN (tT ?_)
 refine tri_cond_dec rfl (fun x5 => ?_) (fun x5 => ?_)
 ·rw [if_neg x0, if_neg x1, if_neg x2, if_neg x3, if_neg x4, if_pos x5]
  refine tS (tR ?_)
  refine tri_v (by first | exact opv_buildS rfl rfl | exact opv_buildA rfl rfl) rfl ?_
  refine tM rfl rfl ?_
  refine tri_g (opg_store rfl rfl rfl rfl rfl rfl) rfl ?_
  rintro _ _ _ ⟨rfl, rfl⟩
  refine tA rfl rfl (tN (tT (tri_ret ?_)))
  refine tri_inBlock_ret ?_
  refine tri_then_ret (tri_then_ret ?_)
  refine tri_inBlock_ret ?_
  refine tri_then_ret ?_
  refine tri_perm (A := ?a8_0 :: ?a8_1 :: ?a8_2 :: ?a8_3 :: ?a8_4 :: ?a8_5 :: ?T8) (B := ?a8_3 :: ?a8_4 :: ?a8_5 :: ?a8_0 :: ?a8_1 :: ?a8_2 :: ?T8) (by exact permL [3, 4, 5, 0, 1, 2] [?a8_0, ?a8_1, ?a8_2, ?a8_3, ?a8_4, ?a8_5] ?T8 (by decide) rfl) ?_
  refine tri_end (IxA bx mb a5 c5 p5.1 room es5 A) Suf.h rfl (.cons (rv_cellA rfl rfl rfl) (.cons (rv_tmp rfl) .nil)) ⟨a5, c5, es5, p5.1, _, _, _, _, _, _, _, _, _, rfl, rfl, fun h => absurd h x5, rfl⟩
 refine tri_skip ?_
 refine tri_inBlock ?_
 refine tT (tR ?_)
 refine tri_v (by first | exact opv_add rfl rfl (w64 (by omega) (by omega))) rfl ?_
 refine tM rfl rfl (tN (tT ?_))
 refine tri_round ?_
 refine tS (tR ?_)
 refine tri_v (opv_lss rfl rfl) rfl ?_
 refine tN (tT (tS ?_))
 skip
 refine tri_cond_is rfl ((by decide)) ?_
 skip
 refine tri_skip (tT (tS (tri_block (tS (tR (tM rfl rfl (tA rfl rfl ?_)))))))
 refine tN (tT (tS ?_))
 refine tri_draw [0, 1, 2, 3, 4, 5, 6, 7, 8, 9, 10, 11, 12, 13, 14, 15] rfl [_, _, _, _] rfl mixed ?_
 refine th_take rfl rfl (by kernel_rfl)  (opv_move rfl) ?_
 refine th_take rfl rfl (by kernel_rfl)  (by first | exact opv_fieldAddr rfl rfl | exact opv_fieldAddrE rfl (by assumption) (by omega) rfl | exact opv_fieldAddrR rfl (by omega) rfl | exact opv_fieldAddrP rfl rfl rfl) ?_
 refine th_take rfl rfl (by kernel_rfl)  (by first | exact opv_load1 rfl rfl rfl | exact opv_loadA rfl rfl rfl | exact opv_loadE1 rfl (by assumption) rfl (by omega) rfl rfl | exact opv_loadEA rfl (by assumption) rfl (by omega) rfl rfl | exact opv_loadRX1 rfl rfl (by omega) rfl rfl | exact opv_loadRXA rfl rfl (by omega) rfl rfl rfl | exact opv_loadIX rfl rfl (by omega) | exact opv_loadR1 rfl rfl rfl | exact opv_loadRA rfl rfl rfl rfl) ?_
 refine th_take rfl rfl (by kernel_rfl)  (by first | exact opv_load1 rfl rfl rfl | exact opv_loadA rfl rfl rfl | exact opv_loadE1 rfl (by assumption) rfl (by omega) rfl rfl | exact opv_loadEA rfl (by assumption) rfl (by omega) rfl rfl | exact opv_loadRX1 rfl rfl (by omega) rfl rfl | exact opv_loadRXA rfl rfl (by omega) rfl rfl rfl | exact opv_loadIX rfl rfl (by omega) | exact opv_loadR1 rfl rfl rfl | exact opv_loadRA rfl rfl rfl rfl) ?_
 refine th_take rfl rfl (by kernel_rfl)  (opv_move rfl) ?_
 refine th_take rfl rfl (by kernel_rfl)  (by first | exact opv_quoE rfl rfl (by omega) (by omega) (by omega) | exact opv_quo rfl rfl (by omega) (w64 (by omega) (by omega))) ?_
 refine th_take rfl rfl (by kernel_rfl)  (opv_move rfl) ?_
 refine th_take rfl rfl (by kernel_rfl)  (by first | exact opv_remE rfl rfl (by omega) (by omega) | exact opv_rem rfl rfl (by omega) rfl) ?_
 refine th_one (by kernel_rfl) (step_m rfl rfl (opg_call (xs := [_, _, _]) rfl (base_square (R8.s16_len ns n) (by omega) (by omega) (by omega) (by omega))) ?_)
 rintro _ _ _ ⟨rfl, rfl, rfl⟩
 refine ⟨Suf.h, (by first | exact fun _ h => h | assumption | exact fun _ h => (by assumption : _ ⊆ _) ((by assumption : _ ⊆ _) h)), ?_⟩
 skip
 refine th_one (by kernel_rfl) (step_m rfl rfl (opg_call (xs := [_, _]) rfl (node_putR (r := p6) g5 l5 hi5 e6)) ?_)
 rintro _ _ _ ⟨a6, c6, es6, rfl, rfl, hi6, rfl⟩
 refine ⟨Suf.h, (by first | exact fun _ h => h | assumption | exact fun _ h => (by assumption : _ ⊆ _) ((by assumption : _ ⊆ _) h)), ?_⟩
 refine th_take rfl rfl (by kernel_rfl)  (opv_move rfl) ?_
 refine th_take rfl rfl (by kernel_rfl)  (opv_extract rfl rfl) ?_
 refine th_take rfl rfl (by kernel_rfl)  (opv_extract rfl rfl) ?_
 refine th_take rfl rfl (by kernel_rfl)  (by first | exact opv_indexAddrA rfl rfl (by first | decide | omega) (by first | decide | omega) | exact opv_indexAddrSN rfl rfl (by omega) (by assumption) rfl | exact opv_indexAddrS rfl rfl (by omega) (by omega) (by assumption) rfl | exact opv_indexAddrE rfl (by assumption) (by omega) rfl (by first | decide | omega) (by first | decide | omega) | exact opv_indexAddrRN rfl rfl (by omega) | exact opv_indexAddrR rfl rfl (by omega) (by omega) | exact opv_indexAddrRA rfl (by omega) rfl (by first | decide | omega) (by first | decide | omega) | exact opv_indexAddrSP rfl rfl (by omega) (by omega) | exact opv_indexAddrSN rfl rfl (by omega) (by assumption) (by omega) | exact opv_indexAddrS rfl rfl (by omega) (by omega) (by assumption) (by omega)) ?_
 refine th_one (by kernel_rfl) (step_m rfl rfl (opg_store rfl rfl rfl rfl rfl rfl) ?_)
 rintro _ _ _ ⟨rfl, rfl⟩
 refine ⟨Suf.h, (by first | exact fun _ h => h | assumption | exact fun _ h => (by assumption : _ ⊆ _) ((by assumption : _ ⊆ _) h)), ?_⟩
 refine th_take rfl rfl (by kernel_rfl)  (opv_assign rfl) ?_
 refine th_done (by kernel_rfl) ?_
 refine tT (tS (tR (tM rfl rfl ?_)))
 refine tri_v (by first | exact opv_neq rfl rfl | exact opv_neqI rfl rfl rfl rfl rfl rfl | exact opv_neqB rfl rfl) rfl ?_
 refine tN (tT ?_)
 refine tri_cond_dec rfl (fun x6 => ?_) (fun x6 => ?_)
 ·rw [if_neg x0, if_neg x1, if_neg x2, if_neg x3, if_neg x4, if_neg x5, if_pos x6]
  refine tS (tR ?_)
  refine tri_v (by first | exact opv_buildS rfl rfl | exact opv_buildA rfl rfl) rfl ?_
  refine tM rfl rfl ?_
  refine tri_g (opg_store rfl rfl rfl rfl rfl rfl) rfl ?_
  rintro _ _ _ ⟨rfl, rfl⟩
  refine tA rfl rfl (tN (tT (tri_ret ?_)))
  refine tri_inBlock_ret ?_
  refine tri_then_ret (tri_then_ret ?_)
  refine tri_inBlock_ret ?_
  refine tri_then_ret ?_
  refine tri_perm (A := ?a9_0 :: ?a9_1 :: ?a9_2 :: ?a9_3 :: ?a9_4 :: ?a9_5 :: ?T9) (B := ?a9_3 :: ?a9_4 :: ?a9_5 :: ?a9_0 :: ?a9_1 :: ?a9_2 :: ?T9) (by exact permL [3, 4, 5, 0, 1, 2] [?a9_0, ?a9_1, ?a9_2, ?a9_3, ?a9_4, ?a9_5] ?T9 (by decide) rfl) ?_
  refine tri_end (IxA bx mb a6 c6 p6.1 room es6 A) Suf.h rfl (.cons (rv_cellA rfl rfl rfl) (.cons (rv_tmp rfl) .nil)) ⟨a6, c6, es6, p6.1, _, _, _, _, _, _, _, _, _, rfl, rfl, fun h => absurd h x6, rfl⟩
 refine tri_skip ?_
 refine tri_inBlock ?_
 refine tT (tR ?_)
 refine tri_v (by first | exact opv_add rfl rfl (w64 (by omega) (by omega))) rfl ?_
 refine tM rfl rfl (tN (tT ?_))
 refine tri_round ?_
 refine tS (tR ?_)
 refine tri_v (opv_lss rfl rfl) rfl ?_
 refine tN (tT (tS ?_))
 skip
 refine tri_cond_is rfl ((by decide)) ?_
 skip
 refine tri_skip (tT (tS (tri_block (tS (tR (tM rfl rfl (tA rfl rfl ?_)))))))
 refine tN (tT (tS ?_))
 refine tri_draw [0, 1, 2, 3, 4, 5, 6, 7, 8, 9, 10, 11, 12, 13, 14, 15] rfl [_, _, _, _] rfl mixed ?_
 refine th_take rfl rfl (by kernel_rfl)  (opv_move rfl) ?_
 refine th_take rfl rfl (by kernel_rfl)  (by first | exact opv_fieldAddr rfl rfl | exact opv_fieldAddrE rfl (by assumption) (by omega) rfl | exact opv_fieldAddrR rfl (by omega) rfl | exact opv_fieldAddrP rfl rfl rfl) ?_
 refine th_take rfl rfl (by kernel_rfl)  (by first | exact opv_load1 rfl rfl rfl | exact opv_loadA rfl rfl rfl | exact opv_loadE1 rfl (by assumption) rfl (by omega) rfl rfl | exact opv_loadEA rfl (by assumption) rfl (by omega) rfl rfl | exact opv_loadRX1 rfl rfl (by omega) rfl rfl | exact opv_loadRXA rfl rfl (by omega) rfl rfl rfl | exact opv_loadIX rfl rfl (by omega) | exact opv_loadR1 rfl rfl rfl | exact opv_loadRA rfl rfl rfl rfl) ?_
 refine th_take rfl rfl (by kernel_rfl)  (by first | exact opv_load1 rfl rfl rfl | exact opv_loadA rfl rfl rfl | exact opv_loadE1 rfl (by assumption) rfl (by omega) rfl rfl | exact opv_loadEA rfl (by assumption) rfl (by omega) rfl rfl | exact opv_loadRX1 rfl rfl (by omega) rfl rfl | exact opv_loadRXA rfl rfl (by omega) rfl rfl rfl | exact opv_loadIX rfl rfl (by omega) | exact opv_loadR1 rfl rfl rfl | exact opv_loadRA rfl rfl rfl rfl) ?_
 refine th_take rfl rfl (by kernel_rfl)  (opv_move rfl) ?_
 refine th_take rfl rfl (by kernel_rfl)  (by first | exact opv_quoE rfl rfl (by omega) (by omega) (by omega) | exact opv_quo rfl rfl (by omega) (w64 (by omega) (by omega))) ?_
 refine th_take rfl rfl (by kernel_rfl)  (opv_move rfl) ?_
 refine th_take rfl rfl (by kernel_rfl)  (by first | exact opv_remE rfl rfl (by omega) (by omega) | exact opv_rem rfl rfl (by omega) rfl) ?_
 refine th_one (by kernel_rfl) (step_m rfl rfl (opg_call (xs := [_, _, _]) rfl (base_square (R8.s16_len ns n) (by omega) (by omega) (by omega) (by omega))) ?_)
 rintro _ _ _ ⟨rfl, rfl, rfl⟩
 refine ⟨Suf.h, (by first | exact fun _ h => h | assumption | exact fun _ h => (by assumption : _ ⊆ _) ((by assumption : _ ⊆ _) h)), ?_⟩
 skip
 refine th_one (by kernel_rfl) (step_m rfl rfl (opg_call (xs := [_, _]) rfl (node_putR (r := p7) g6 l6 hi6 e7)) ?_)
 rintro _ _ _ ⟨a7, c7, es7, rfl, rfl, hi7, rfl⟩
 refine ⟨Suf.h, (by first | exact fun _ h => h | assumption | exact fun _ h => (by assumption : _ ⊆ _) ((by assumption : _ ⊆ _) h)), ?_⟩
 refine th_take rfl rfl (by kernel_rfl)  (opv_move rfl) ?_
 refine th_take rfl rfl (by kernel_rfl)  (opv_extract rfl rfl) ?_
 refine th_take rfl rfl (by kernel_rfl)  (opv_extract rfl rfl) ?_
 refine th_take rfl rfl (by kernel_rfl)  (by first | exact opv_indexAddrA rfl rfl (by first | decide | omega) (by first | decide | omega) | exact opv_indexAddrSN rfl rfl (by omega) (by assumption) rfl | exact opv_indexAddrS rfl rfl (by omega) (by omega) (by assumption) rfl | exact opv_indexAddrE rfl (by assumption) (by omega) rfl (by first | decide | omega) (by first | decide | omega) | exact opv_indexAddrRN rfl rfl (by omega) | exact opv_indexAddrR rfl rfl (by omega) (by omega) | exact opv_indexAddrRA rfl (by omega) rfl (by first | decide | omega) (by first | decide | omega) | exact opv_indexAddrSP rfl rfl (by omega) (by omega) | exact opv_indexAddrSN rfl rfl (by omega) (by assumption) (by omega) | exact opv_indexAddrS rfl rfl (by omega) (by omega) (by assumption) (by omega)) ?_
 refine th_one (by kernel_rfl) (step_m rfl rfl (opg_store rfl rfl rfl rfl rfl rfl) ?_)
 rintro _ _ _ ⟨rfl, rfl⟩
 refine ⟨Suf.h, (by first | exact fun _ h => h | assumption | exact fun _ h => (by assumption : _ ⊆ _) ((by assumption : _ ⊆ _) h)), ?_⟩
 refine th_take rfl rfl (by kernel_rfl)  (opv_assign rfl) ?_
 refine th_done (by kernel_rfl) ?_
 refine tT (tS (tR (tM rfl rfl ?_)))
 refine tri_v (by first | exact opv_neq rfl rfl | exact opv_neqI rfl rfl rfl rfl rfl rfl | exact opv_neqB rfl rfl) rfl ?_
 refine tN (tT ?_)
 refine tri_cond_dec rfl (fun x7 => ?_) (fun x7 => ?_)
 ·rw [if_neg x0, if_neg x1, if_neg x2, if_neg x3, if_neg x4, if_neg x5, if_neg x6, if_pos x7]
  refine tS (tR ?_)
  refine tri_v (by first | exact opv_buildS rfl rfl | exact opv_buildA rfl rfl) rfl ?_
  refine tM rfl rfl ?_
  refine tri_g (opg_store rfl rfl rfl rfl rfl rfl) rfl ?_
  rintro _ _ _ ⟨rfl, rfl⟩
  refine tA rfl rfl (tN (tT (tri_ret ?_)))
  refine tri_inBlock_ret ?_
  refine tri_then_ret (tri_then_ret ?_)
  refine tri_inBlock_ret ?_
  refine tri_then_ret ?_
  refine tri_perm (A := ?a10_0 :: ?a10_1 :: ?a10_2 :: ?a10_3 :: ?a10_4 :: ?a10_5 :: ?T10) (B := ?a10_3 :: ?a10_4 :: ?a10_5 :: ?a10_0 :: ?a10_1 :: ?a10_2 :: ?T10) (by exact permL [3, 4, 5, 0, 1, 2] [?a10_0, ?a10_1, ?a10_2, ?a10_3, ?a10_4, ?a10_5] ?T10 (by decide) rfl) ?_
  refine tri_end (IxA bx mb a7 c7 p7.1 room es7 A) Suf.h rfl (.cons (rv_cellA rfl rfl rfl) (.cons (rv_tmp rfl) .nil)) ⟨a7, c7, es7, p7.1, _, _, _, _, _, _, _, _, _, rfl, rfl, fun h => absurd h x7, rfl⟩
 refine tri_skip ?_
 refine tri_inBlock ?_
 refine tT (tR ?_)
 refine tri_v (by first | exact opv_add rfl rfl (w64 (by omega) (by omega))) rfl ?_
 refine tM rfl rfl (tN (tT ?_))
 refine tri_round ?_
 refine tS (tR ?_)
 refine tri_v (opv_lss rfl rfl) rfl ?_
 refine tN (tT (tS ?_))
 skip
 refine tri_cond_is rfl ((by decide)) ?_
 skip
 refine tri_skip (tT (tS (tri_block (tS (tR (tM rfl rfl (tA rfl rfl ?_)))))))
 refine tN (tT (tS ?_))
 refine tri_draw [0, 1, 2, 3, 4, 5, 6, 7, 8, 9, 10, 11, 12, 13, 14, 15] rfl [_, _, _, _] rfl mixed ?_
 refine th_take rfl rfl (by kernel_rfl)  (opv_move rfl) ?_
 refine th_take rfl rfl (by kernel_rfl)  (by first | exact opv_fieldAddr rfl rfl | exact opv_fieldAddrE rfl (by assumption) (by omega) rfl | exact opv_fieldAddrR rfl (by omega) rfl | exact opv_fieldAddrP rfl rfl rfl) ?_
 refine th_take rfl rfl (by kernel_rfl)  (by first | exact opv_load1 rfl rfl rfl | exact opv_loadA rfl rfl rfl | exact opv_loadE1 rfl (by assumption) rfl (by omega) rfl rfl | exact opv_loadEA rfl (by assumption) rfl (by omega) rfl rfl | exact opv_loadRX1 rfl rfl (by omega) rfl rfl | exact opv_loadRXA rfl rfl (by omega) rfl rfl rfl | exact opv_loadIX rfl rfl (by omega) | exact opv_loadR1 rfl rfl rfl | exact opv_loadRA rfl rfl rfl rfl) ?_
 refine th_take rfl rfl (by kernel_rfl)  (by first | exact opv_load1 rfl rfl rfl | exact opv_loadA rfl rfl rfl | exact opv_loadE1 rfl (by assumption) rfl (by omega) rfl rfl | exact opv_loadEA rfl (by assumption) rfl (by omega) rfl rfl | exact opv_loadRX1 rfl rfl (by omega) rfl rfl | exact opv_loadRXA rfl rfl (by omega) rfl rfl rfl | exact opv_loadIX rfl rfl (by omega) | exact opv_loadR1 rfl rfl rfl | exact opv_loadRA rfl rfl rfl rfl) ?_
 refine th_take rfl rfl (by kernel_rfl)  (opv_move rfl) ?_
 refine th_take rfl rfl (by kernel_rfl)  (by first | exact opv_quoE rfl rfl (by omega) (by omega) (by omega) | exact opv_quo rfl rfl (by omega) (w64 (by omega) (by omega))) ?_
 refine th_take rfl rfl (by kernel_rfl)  (opv_move rfl) ?_
 refine th_take rfl rfl (by kernel_rfl)  (by first | exact opv_remE rfl rfl (by omega) (by omega) | exact opv_rem rfl rfl (by omega) rfl) ?_
 refine th_one (by kernel_rfl) (step_m rfl rfl (opg_call (xs := [_, _, _]) rfl (base_square (R8.s16_len ns n) (by omega) (by omega) (by omega) (by omega))) ?_)
 rintro _ _ _ ⟨rfl, rfl, rfl⟩
 refine ⟨Suf.h, (by first | exact fun _ h => h | assumption | exact fun _ h => (by assumption : _ ⊆ _) ((by assumption : _ ⊆ _) h)), ?_⟩
 skip
 refine th_one (by kernel_rfl) (step_m rfl rfl (opg_call (xs := [_, _]) rfl (node_putR (r := p8) g7 l7 hi7 e8)) ?_)
 rintro _ _ _ ⟨a8, c8, es8, rfl, rfl, hi8, rfl⟩
 refine ⟨Suf.h, (by first | exact fun _ h => h | assumption | exact fun _ h => (by assumption : _ ⊆ _) ((by assumption : _ ⊆ _) h)), ?_⟩
 refine th_take rfl rfl (by kernel_rfl)  (opv_move rfl) ?_
 refine th_take rfl rfl (by kernel_rfl)  (opv_extract rfl rfl) ?_
 refine th_take rfl rfl (by kernel_rfl)  (opv_extract rfl rfl) ?_
 refine th_take rfl rfl (by kernel_rfl)  (by first | exact opv_indexAddrA rfl rfl (by first | decide | omega) (by first | decide | omega) | exact opv_indexAddrSN rfl rfl (by omega) (by assumption) rfl | exact opv_indexAddrS rfl rfl (by omega) (by omega) (by assumption) rfl | exact opv_indexAddrE rfl (by assumption) (by omega) rfl (by first | decide | omega) (by first | decide | omega) | exact opv_indexAddrRN rfl rfl (by omega) | exact opv_indexAddrR rfl rfl (by omega) (by omega) | exact opv_indexAddrRA rfl (by omega) rfl (by first | decide | omega) (by first | decide | omega) | exact opv_indexAddrSP rfl rfl (by omega) (by omega) | exact opv_indexAddrSN rfl rfl (by omega) (by assumption) (by omega) | exact opv_indexAddrS rfl rfl (by omega) (by omega) (by assumption) (by omega)) ?_
 refine th_one (by kernel_rfl) (step_m rfl rfl (opg_store rfl rfl rfl rfl rfl rfl) ?_)
 rintro _ _ _ ⟨rfl, rfl⟩
 refine ⟨Suf.h, (by first | exact fun _ h => h | assumption | exact fun _ h => (by assumption : _ ⊆ _) ((by assumption : _ ⊆ _) h)), ?_⟩
 refine th_take rfl rfl (by kernel_rfl)  (opv_assign rfl) ?_
 refine th_done (by kernel_rfl) ?_
 refine tT (tS (tR (tM rfl rfl ?_)))
 refine tri_v (by first | exact opv_neq rfl rfl | exact opv_neqI rfl rfl rfl rfl rfl rfl | exact opv_neqB rfl rfl) rfl ?_
 refine tN (tT ?_)
 refine tri_cond_dec rfl (fun x8 => ?_) (fun x8 => ?_)
 ·rw [if_neg x0, if_neg x1, if_neg x2, if_neg x3, if_neg x4, if_neg x5, if_neg x6, if_neg x7, if_pos x8]
  refine tS (tR ?_)
  refine tri_v (by first | exact opv_buildS rfl rfl | exact opv_buildA rfl rfl) rfl ?_
  refine tM rfl rfl ?_
  refine tri_g (opg_store rfl rfl rfl rfl rfl rfl) rfl ?_
  rintro _ _ _ ⟨rfl, rfl⟩
  refine tA rfl rfl (tN (tT (tri_ret ?_)))
  refine tri_inBlock_ret ?_
  refine tri_then_ret (tri_then_ret ?_)
  refine tri_inBlock_ret ?_
  refine tri_then_ret ?_
  refine tri_perm (A := ?a11_0 :: ?a11_1 :: ?a11_2 :: ?a11_3 :: ?a11_4 :: ?a11_5 :: ?T11) (B := ?a11_3 :: ?a11_4 :: ?a11_5 :: ?a11_0 :: ?a11_1 :: ?a11_2 :: ?T11) (by exact permL [3, 4, 5, 0, 1, 2] [?a11_0, ?a11_1, ?a11_2, ?a11_3, ?a11_4, ?a11_5] ?T11 (by decide) rfl) ?_
  refine tri_end (IxA bx mb a8 c8 p8.1 room es8 A) Suf.h rfl (.cons (rv_cellA rfl rfl rfl) (.cons (rv_tmp rfl) .nil)) ⟨a8, c8, es8, p8.1, _, _, _, _, _, _, _, _, _, rfl, rfl, fun h => absurd h x8, rfl⟩
 refine tri_skip ?_
 refine tri_inBlock ?_
 refine tT (tR ?_)
 refine tri_v (by first | exact opv_add rfl rfl (w64 (by omega) (by omega))) rfl ?_
 refine tM rfl rfl (tN (tT ?_))
 refine tri_round ?_
 refine tS (tR ?_)
 refine tri_v (opv_lss rfl rfl) rfl ?_
 refine tN (tT (tS ?_))
 rw [if_neg x0, if_neg x1, if_neg x2, if_neg x3, if_neg x4, if_neg x5, if_neg x6, if_neg x7, if_neg x8]
 refine tri_cond_not rfl ((by decide)) ?_
 refine tri_exit ?_
 refine tri_then_exit ?_
 refine tri_then_exit ?_
 refine tri_inBlock_hit rfl ?_
 refine tT (tS (tR ?_))
 refine tri_v (by first | exact opv_load1 rfl rfl rfl | exact opv_loadA rfl rfl rfl | exact opv_loadE1 rfl (by assumption) rfl (by omega) rfl rfl | exact opv_loadEA rfl (by assumption) rfl (by omega) rfl rfl | exact opv_loadRX1 rfl rfl (by omega) rfl rfl | exact opv_loadRXA rfl rfl (by omega) rfl rfl rfl | exact opv_loadIX rfl rfl (by omega) | exact opv_loadR1 rfl rfl rfl | exact opv_loadRA rfl rfl rfl rfl) rfl ?_
 refine tri_g (opg_store rfl rfl rfl rfl rfl rfl) rfl ?_
 rintro _ _ _ ⟨rfl, rfl⟩
 refine tA rfl rfl (tN (tT (tri_ret ?_)))
 refine tri_perm (A := ?a12_0 :: ?a12_1 :: ?a12_2 :: ?a12_3 :: ?a12_4 :: ?a12_5 :: ?T12) (B := ?a12_3 :: ?a12_4 :: ?a12_5 :: ?a12_0 :: ?a12_1 :: ?a12_2 :: ?T12) (by exact permL [3, 4, 5, 0, 1, 2] [?a12_0, ?a12_1, ?a12_2, ?a12_3, ?a12_4, ?a12_5] ?T12 (by decide) rfl) ?_
 refine tri_end (IxA bx mb a8 c8 p8.1 room es8 A) Suf.h rfl (.cons (rv_cellA rfl rfl rfl) (.cons (rv_tmp rfl) .nil)) ⟨a8, c8, es8, p8.1, _, _, _, _, _, _, _, _, _, rfl, rfl, fun h => ⟨rfl, rfl, hi8⟩, rfl⟩
end Go.GL


set_option linter.unusedVariables false
namespace Go.GL
open Go.Proofs
attribute [local irreducible] wpList Code.wp Exit.then Exit.inBlock Ends Tri TriH OpV OpG FnC epf wpAnyH
variable {A : List Asrt} {I : List Chunk}
theorem keyTask (n j : Int) : (.agg [.int .i64 n, .int .i64 j].toArray : Value) = mkv Try.prog 102 [n, j] := by kernel_rfl
theorem keyTaskAt : intAt Try.prog 9 102 = some 2 := by kernel_rfl
/-- The map tells what was leapt. -/
def MemIx (mm : R9.Memo) (ds : KVs) : Prop := ∀ n j, mfind ds [n, j] = (R9.look9 mm n j).map (.int .i64)
theorem MemIx.nil : MemIx [] [] := fun _ _ => rfl
theorem look9_snoc : ∀ (mm : R9.Memo) (n j to n' j' : Int), R9.look9 (mm ++ [(n, j, to)]) n' j' = match R9.look9 mm n' j' with | some t => some t | none => if n = n' ∧ j = j' then some to else none
 | [], n, j, to, n', j' => rfl
 | p :: mm, n, j, to, n', j' => by
  simp only [List.cons_append, R9.look9]
  split
  ·rfl
  ·exact look9_snoc mm n j to n' j'
theorem MemIx.snoc {mm : R9.Memo} {ds : KVs} (h : MemIx mm ds) {n j : Int} (hn : R9.look9 mm n j = none) (to : Int) : MemIx (mm ++ [(n, j, to)]) (mset ds [n, j] (.int .i64 to)) := by
 intro n' j'
 rw [mfind_mset, look9_snoc, h n' j']
 by_cases e : n = n' ∧ j = j'
 ·obtain ⟨rfl, rfl⟩ := e
  rw [if_pos rfl, hn]
  simp
 ·rw [if_neg (by simpa using e)]
  cases R9.look9 mm n' j' with
  | some t => rfl
  | none => simp [e]
/-- The leaper, as it lies in the heap. -/
abbrev LxA (bl bx mb db : Nat) (a : Option Addr) (cap : Nat) (ns : List Node) (room : Int) (es ds : KVs) (A : List Asrt) : List Asrt :=
 IxA bx mb a cap ns room es (Box bl [pt bx 0, .map (some db)] 96 :: MapA Try.prog 102 db ds :: A)
set_option maxRecDepth 100000 in
theorem leaper_level {a : Option Addr} {cap bl bx mb db : Nat} {ns : List Node} {room n : Int} {es ds : KVs} (hn : R6.inS ns n) :
  FnC Try.prog 41 [pt bl 0, .int .i64 n].toArray (LxA bl bx mb db a cap ns room es ds A) I (fun v A' I' => v = .int .i64 (R6.nd ns n).lv ∧ LxA bl bx mb db a cap ns room es ds A = A' ∧ I = I') := by
 obtain ⟨hn0, hn1⟩ := hn
 refine fn_enter2 Try.func41 rfl Try.ntmps41 rfl fun w0 => ?_
 refine tS (tR (tA rfl rfl (tN (tT (tS (tR (tM rfl rfl ?_)))))))
 refine tri_v (opv_nilCheck rfl) rfl ?_
 refine tri_v (opv_fieldAddr rfl rfl) rfl ?_
 refine tri_v (opv_fieldAddr rfl rfl) rfl ?_
 refine tri_v (opv_load1 rfl rfl rfl) rfl ?_
 refine tri_v (opv_nilCheck rfl) rfl ?_
 refine tri_v (opv_fieldAddr rfl rfl) rfl ?_
 refine tri_v (opv_fieldAddr rfl rfl) rfl ?_
 refine tri_v (opv_load1 rfl rfl rfl) rfl ?_
 refine tM rfl rfl ?_
 refine tri_v (opv_indexAddrR rfl rfl (by omega) (by omega)) rfl ?_
 refine tri_v (opv_fieldAddrR rfl (by omega) rfl) rfl ?_
 refine tri_v (opv_loadRX1 rfl rfl (by omega) rfl rfl) rfl ?_
 refine tA rfl rfl (tN (tT (tri_ret ?_)))
 refine tri_end _ (⟨[], rfl⟩) rfl (.cons (rv_tmp rfl) .nil) ⟨rfl, rfl, rfl⟩
end Go.GL


set_option linter.unusedVariables false
namespace Go.GL
section
variable {w0 : World} {n : Nat} {F : Frm} {A : List Asrt} {I : List Chunk} {P : Program} {dst : Option Tmp} {ty t : TypeId} {pos : String} {af : Array Edge} {gd : Option (Nat × Bool)} {x y : Operand} {d : TypeDesc} {s by_ : Nat} {z : List Value}
theorem spl_ints : ∀ (l : List Int) (off : Nat) (v : Int), off < l.length → spl (ints l) off [.int .i64 v] = some (ints (l.set off v))
 | a :: l, 0, v, _ => by cases l <;> rfl
 | a :: l, k + 1, v, h => by
  have := spl_ints l k v (by simpa using h)
  simp only [ints, List.map_cons, spl, List.set_cons_succ] at this ⊢
  rw [this]
 | [], k, v, h => by simp at h
/-- A whole number into a block of such. -/
theorem opg_storeIX {l : List Int} {b off : Nat} {v : Int} {T : TypeId} {u : List Value → List Asrt} [TyI P t d 1 by_ z] [Sel A b (ints l) T u] (hx : ev F x = some (pt b off)) (hy : ev F y = some (.int .i64 v)) (hl : off < l.length) :
  OpG P w0 n ⟨dst, .store t x y, ty, pos, af, gd⟩ F A I (fun _ A' I' => A' = u (ints (l.set off v)) ∧ I = I') :=
 opg_store (vs := [.int .i64 v]) hx hy rfl rfl rfl (spl_ints l off v hl)
/-- A place of an array of whole numbers that is a value. -/
theorem opv_indexIX {l : List Int} {l2 : Nat} {k : IntKind} {i : Int} {ix : Operand} {e : TypeId} {b' : Nat} {z' : List Value} [TyI P t (.array l2 e) s by_ z] [TyI P e (.int .i64) 1 b' z'] (hx : ev F x = some (.agg (ints l).toArray)) (hi : ev F ix = some (.int k i)) (h0 : 0 ≤ i) (h1 : i < l2) (hl : l2 = l.length) :
  OpV P w0 n ⟨dst, .index t x ix, ty, pos, af, gd⟩ F A I (.int .i64 (l.getD i.toNat default)) :=
 opv_index hx hi h0 h1 rfl (by
  rw [Nat.mul_one]
  have : i.toNat < l.length := by omega
  simp [ints, this])
theorem and_two_pow' (m k : Nat) : m &&& 2 ^ k = (m.testBit k).toNat * 2 ^ k := by
 apply Nat.eq_of_testBit_eq
 intro j
 rw [Nat.testBit_and, Nat.testBit_two_pow]
 by_cases e : k = j
 ·subst e
  cases h : m.testBit k
  ·simp
  ·simp
 ·cases h : m.testBit k
  ·simp [e]
  ·simp [e]
theorem and_pow {m k : Nat} (hm : m < 4611686018427387904) (hk : k ≤ 61) : IntKind.i64.wrap ((BitVec.ofInt IntKind.i64.bits (m : Int) &&& BitVec.ofInt IntKind.i64.bits (2 ^ k)).toNat : Int) = if (m : Int) / 2 ^ k % 2 = 1 then 2 ^ k else 0 := by
 have hk2 : (2:Nat) ^ k ≤ 2 ^ 61 := Nat.pow_le_pow_right (by omega) hk
 have e1 : (2:Int) ^ k = ((2 ^ k : Nat) : Int) := by simp
 have e2 : (BitVec.ofInt IntKind.i64.bits (m : Int) &&& BitVec.ofInt IntKind.i64.bits (2 ^ k)).toNat = m &&& 2 ^ k := by
  rw [e1, BitVec.toNat_and]
  show (BitVec.ofInt 64 (m : Int)).toNat &&& (BitVec.ofInt 64 ((2 ^ k : Nat) : Int)).toNat = _
  rw [BitVec.ofInt_natCast, BitVec.ofInt_natCast, BitVec.toNat_ofNat, BitVec.toNat_ofNat, Nat.mod_eq_of_lt (by omega), Nat.mod_eq_of_lt (by omega)]
 rw [e2, and_two_pow', Nat.testBit_eq_decide_div_mod_eq]
 have e3 : ((m : Int) / 2 ^ k % 2 = 1) ↔ m / 2 ^ k % 2 = 1 := by
  rw [e1]
  constructor
  ·intro h; exact_mod_cast h
  ·intro h; exact_mod_cast h
 by_cases h : m / 2 ^ k % 2 = 1
 ·rw [if_pos (e3.2 h), decide_eq_true h, e1]
  generalize (2:Nat) ^ k = p at hk2
  simp only [Bool.toNat_true, Nat.one_mul]
  exact w64 (by omega) (by omega)
 ·rw [if_neg (fun x => h (e3.1 x)), decide_eq_false h]
  simp only [Bool.toNat_false, Nat.zero_mul]
  exact w64 (by omega) (by omega)
/-- One bit of a count. -/
theorem opv_bit {xt yt : TypeId} {a b : Int} {k : Nat} (hx : ev F x = some (.int .i64 a)) (hy : ev F y = some (.int .i64 b)) (h0 : 0 ≤ a) (h1 : a < 4611686018427387904) (hb : b = 2 ^ k) (hk : k ≤ 61) : OpV P w0 n ⟨dst, .binOp .and xt x y yt, ty, pos, af, gd⟩ F A I (.int .i64 (if a / 2 ^ k % 2 = 1 then 2 ^ k else 0)) :=
 fun t w hf hs => by
  subst hb
  obtain ⟨m, rfl⟩ : ∃ m : Nat, a = m := ⟨a.toNat, by omega⟩
  simp only [execOp, hf.eval hx, hf.eval hy, eqGuard_and, binOp_and, Op.intBits, and_pow (show m < 4611686018427387904 by omega) hk, Sem.run_bind, Sem.run_pure, Result.andThen_ok]
end
end Go.GL


set_option linter.unusedVariables false
namespace Go.GL
open Go.Proofs
attribute [local irreducible] wpList Code.wp Exit.then Exit.inBlock Ends Tri TriH OpV OpG FnC epf wpAnyH
/-- What a function on a leaper tells and leaves behind. -/
def LxR (bl bx mb db : Nat) (r : R9.L9) (room : Int) (A : List Asrt) (I : List Chunk) : Value → List Asrt → List Chunk → Prop :=
 fun v A' I' => ∃ a' cap' es' ds' ns' m, v = .tuple [.int .i64 m, .int .i64 r.2.2].toArray ∧ A' = LxA bl bx mb db a' cap' ns' room es' ds' A ∧ (r.2.2 = 0 → ns' = r.1.ns ∧ m = r.2.1 ∧ Idx r.1.ns es' ∧ MemIx r.1.mm ds') ∧ I = I'
def LeapSpec (k : Nat) : Prop := ∀ (A : List Asrt) (I : List Chunk) (s : R9.LS) (a : Option Addr) (cap bl bx mb db : Nat) (room n j : Int) (es ds : KVs) (r : R9.L9), R9.Lk room s → R7.IsN s.ns (k + 2) n → Idx s.ns es → MemIx s.mm ds → 0 ≤ j ∧ j ≤ 1000000 → R9.leap room k s n j = r →
 FnC Try.prog 43 [pt bl 0, .int .i64 n, .int .i64 j].toArray (LxA bl bx mb db a cap s.ns room es ds A) I (LxR bl bx mb db r room A I)
theorem R9.Lk.good {room : Int} {s : R9.LS} (h : R9.Lk room s) : R6.Good s.ns room := h.right.good (by have := h.right.1.2.1; omega)
theorem R9.Lk.len2 {room : Int} {s : R9.LS} (h : R9.Lk room s) : 2 ≤ s.ns.length := h.wf.len
theorem R9.Lk.kid {room : Int} {s : R9.LS} (h : R9.Lk room s) {lv : Nat} {n : Int} (hn : R7.IsN s.ns (lv + 2) n) : R8.Kid s.ns n := h.right.kids hn.1 (by rw [hn.2]; omega)
theorem nine_len {l : List Int} (h : l.length = 9) : ∃ q0 q1 q2 q3 q4 q5 q6 q7 q8, l = [q0, q1, q2, q3, q4, q5, q6, q7, q8] := by
 match l, h with
 | [a, b, c, d, e, f, g, h, i], _ => exact ⟨a, b, c, d, e, f, g, h, i, rfl⟩
/-- The first so many made. -/
theorem mapS_step {f : R9.LS → Int → R9.L9} {s : R9.LS} {qs : List Int} {i : Nat} (hi : i < qs.length) : R9.mapS f s (qs.drop i) = if (f s (qs.getD i default)).2.2 ≠ 0 then ((f s (qs.getD i default)).1, [], (f s (qs.getD i default)).2.2) else ((R9.mapS f (f s (qs.getD i default)).1 (qs.drop (i + 1))).1, (f s (qs.getD i default)).2.1 :: (R9.mapS f (f s (qs.getD i default)).1 (qs.drop (i + 1))).2.1, (R9.mapS f (f s (qs.getD i default)).1 (qs.drop (i + 1))).2.2) := by
 rw [List.drop_eq_getElem_cons hi, show qs.getD i default = qs[i] by simp [hi]]
 rfl
/-- The list in the middle of a round: what is made, and what is to be made. -/
def midL (res qs : List Int) : List Int := res ++ qs.drop res.length
theorem midL_len {res qs : List Int} (h : res.length ≤ qs.length) : (midL res qs).length = qs.length := by unfold midL; rw [List.length_append, List.length_drop]; omega
theorem midL_at {res qs : List Int} (h : res.length < qs.length) : (midL res qs).getD res.length default = qs.getD res.length default := by
 unfold midL
 rw [List.getD_eq_getElem?_getD, List.getElem?_append_right (Nat.le_refl _), Nat.sub_self, List.getElem?_drop]
 simp
theorem midL_set {res qs : List Int} (h : res.length < qs.length) (v : Int) : (midL res qs).set res.length v = midL (res ++ [v]) qs := by
 unfold midL
 rw [List.set_append_right _ _ (Nat.le_refl _), Nat.sub_self, show qs.drop res.length = qs[res.length] :: qs.drop (res.length + 1) from List.drop_eq_getElem_cons h, List.set_cons_zero, List.append_assoc, List.length_append]
 rfl
theorem midL_done {res qs : List Int} (h : res.length = qs.length) : midL res qs = res := by unfold midL; rw [List.drop_of_length_le (by omega)]; simp
theorem mapS_next {f : R9.LS → Int → R9.L9} {t : R9.LS} {res qs : List Int} {i : Nat} {r : R9.LS × List Int × Int} (hl : res.length = i) (hi : i < qs.length) (hr : r = ((R9.mapS f t (qs.drop i)).1, res ++ (R9.mapS f t (qs.drop i)).2.1, (R9.mapS f t (qs.drop i)).2.2)) {R : R9.L9} (hR : f t (qs.getD i default) = R) :
  (R.2.2 = 0 → (res ++ [R.2.1]).length = i + 1 ∧ r = ((R9.mapS f R.1 (qs.drop (i + 1))).1, (res ++ [R.2.1]) ++ (R9.mapS f R.1 (qs.drop (i + 1))).2.1, (R9.mapS f R.1 (qs.drop (i + 1))).2.2)) ∧ (R.2.2 ≠ 0 → r.2.2 = R.2.2) := by
 rw [mapS_step hi, hR] at hr
 constructor
 ·intro h
  rw [if_neg (by simpa using h)] at hr
  exact ⟨by simp [hl], by rw [hr]; simp⟩
 ·intro h
  rw [if_pos h] at hr
  rw [hr]
set_option maxHeartbeats 2000000 in
set_option maxRecDepth 100000 in
theorem leaper_half {A : List Asrt} {I : List Chunk} {k : Nat} (ih : LeapSpec k) {s : R9.LS} {a : Option Addr} {cap bl bx mb db : Nat} {room n j : Int} {es ds : KVs} {full : Bool} {r : R9.LS × List Int × Int} (h : R9.Lk room s) (hn : R7.IsN s.ns (k + 3) n) (hix : Idx s.ns es) (hmx : MemIx s.mm ds) (hj : 0 ≤ j ∧ j ≤ 1000000) (hfull : full = true → 1 ≤ j)
  (hr : R9.half (R9.leap room k) room full s n j = r) :
  FnC Try.prog 88 [pt bl 0, .int .i64 n, .int .i64 j, .bool full].toArray (LxA bl bx mb db a cap s.ns room es ds A) I (fun v A' I' => ∃ a' cap' es' ds' ns' q0 q1 q2 q3 q4 q5 q6 q7 q8, v = .tuple [.agg [.int .i64 q0, .int .i64 q1, .int .i64 q2, .int .i64 q3, .int .i64 q4, .int .i64 q5, .int .i64 q6, .int .i64 q7, .int .i64 q8].toArray, .int .i64 r.2.2].toArray ∧ A' = LxA bl bx mb db a' cap' ns' room es' ds' A ∧ (r.2.2 = 0 → ns' = r.1.ns ∧ r.2.1 = [q0, q1, q2, q3, q4, q5, q6, q7, q8] ∧ Idx r.1.ns es' ∧ MemIx r.1.mm ds') ∧ I = I') := by
 have hk := h.kid hn
 skip
 skip
 refine fn_enter4 Try.func88 rfl Try.ntmps88 rfl fun w0 => ?_
 refine tS (tR ?_)
 refine tri_g opg_alloc rfl ?_
 rintro _ _ _ ⟨b8, rfl, rfl, rfl⟩
 refine tA rfl rfl (tN (tT (tS ?_)))
 refine tri_perm (A := ?a1_0 :: ?a1_1 :: ?a1_2 :: ?a1_3 :: ?a1_4 :: ?a1_5 :: ?T1) (B := ?a1_1 :: ?a1_2 :: ?a1_3 :: ?a1_4 :: ?a1_5 :: ?a1_0 :: ?T1) (by exact permL [1, 2, 3, 4, 5, 0] [?a1_0, ?a1_1, ?a1_2, ?a1_3, ?a1_4, ?a1_5] ?T1 (by decide) rfl) ?_
 refine tR (tM rfl rfl ?_)
 refine tri_v (opv_nilCheck rfl) rfl ?_
 refine tri_v (opv_fieldAddr rfl rfl) rfl ?_
 refine tri_v (opv_loadA rfl rfl rfl) rfl ?_
 refine tM rfl rfl ?_
 refine tri_g (opg_call (xs := [_, _]) rfl (maker_nine h.good h.len2 hix hk)) rfl ?_
 rintro _ _ _ ⟨a1, c1, es1, ns1, q0, q1, q2, q3, q4, q5, q6, q7, q8, rfl, rfl, hq, rfl⟩
 refine tM rfl rfl ?_
 refine tri_v (opv_extract rfl rfl) rfl ?_
 refine tri_v (opv_extract rfl rfl) rfl ?_
 refine tri_g opg_alloc rfl ?_
 rintro _ _ _ ⟨b10, rfl, rfl, rfl⟩
 refine tri_g (opg_store rfl rfl rfl rfl rfl rfl) rfl ?_
 rintro _ _ _ ⟨rfl, rfl⟩
 refine tA rfl rfl (tN (tT (tS (tS (tR (tA rfl rfl (tN ?_)))))))
 refine tT (tri_block ?_)
 unfold R9.half at hr
 refine tri_perm (A := ?a2_0 :: ?a2_1 :: ?a2_2 :: ?a2_3 :: ?a2_4 :: ?a2_5 :: ?a2_6 :: ?T2) (B := ?a2_1 :: ?a2_2 :: ?a2_3 :: ?a2_4 :: ?a2_5 :: ?a2_0 :: ?a2_6 :: ?T2) (by exact permL [1, 2, 3, 4, 5, 0, 6] [?a2_0, ?a2_1, ?a2_2, ?a2_3, ?a2_4, ?a2_5, ?a2_6] ?T2 (by decide) rfl) ?_
 by_cases e0 : (R8.all s.ns room n).2.2 = 0
 ·rw [if_neg (by simpa using e0)] at hr
  obtain ⟨rfl, hq9, hi1⟩ := hq e0
  obtain ⟨ra, pa, la, ia⟩ := R9.all_gd h.right hn e0
  rw [hq9] at hr ia
  rw [e0]
  have hs0 : R9.Lk room ⟨(R8.all s.ns room n).1, s.mm⟩ := ⟨ra, h.mem.pre pa⟩
  rw [show ([.int .i64 q0, .int .i64 q1, .int .i64 q2, .int .i64 q3, .int .i64 q4, .int .i64 q5, .int .i64 q6, .int .i64 q7, .int .i64 q8] : List Value) = ints [q0, q1, q2, q3, q4, q5, q6, q7, q8] from rfl]
  generalize (R8.all s.ns room n).1 = n1 at *
  generalize hqs : ([q0, q1, q2, q3, q4, q5, q6, q7, q8] : List Int) = qs at *
  have hl9 : qs.length = 9 := by rw [← hqs]; rfl
  refine tri_sub (F' := [(0, pt bl 0), (2, .int .i64 j), (3, .bool full), (8, pt b8 0), (10, pt b10 0), (11, .int .i64 (0 : Int)), (12, .int .i64 (0 : Nat))]) ⟨rfl, rfl, rfl, rfl, rfl, rfl, rfl, trivial⟩ ?_
  refine loop_ind (G := Nat × R9.LS × List Int × Option Addr × Nat × KVs × KVs × List Node × Int) (fun g => 9 - g.1) (fun g => g.1 ≤ 9 ∧ (g.2.2.2.2.2.2.2.2 = 0 → g.2.2.1.length = g.1 ∧ r = ((R9.mapS (R9.halfF (R9.leap room k) room full j) g.2.1 (qs.drop g.1)).1, g.2.2.1 ++ (R9.mapS (R9.halfF (R9.leap room k) room full j) g.2.1 (qs.drop g.1)).2.1, (R9.mapS (R9.halfF (R9.leap room k) room full j) g.2.1 (qs.drop g.1)).2.2) ∧ g.2.2.2.2.2.2.2.1 = g.2.1.ns ∧ R9.Lk room g.2.1 ∧ n1 <+: g.2.1.ns ∧ Idx g.2.1.ns g.2.2.2.2.2.1 ∧ MemIx g.2.1.mm g.2.2.2.2.2.2.1) ∧ (g.2.2.2.2.2.2.2.2 ≠ 0 → r.2.2 = g.2.2.2.2.2.2.2.2) ∧ g.2.2.1.length ≤ 9) (fun g => [(0, pt bl 0), (2, .int .i64 j), (3, .bool full), (8, pt b8 0), (10, pt b10 0), (11, .int .i64 g.2.2.2.2.2.2.2.2), (12, .int .i64 (g.1 : Nat))]) (fun g => LxA bl bx mb db g.2.2.2.1 g.2.2.2.2.1 g.2.2.2.2.2.2.2.1 room g.2.2.2.2.2.1 g.2.2.2.2.2.2.1 (Box b10 (ints (midL g.2.2.1 qs)) 117 :: Box b8 [.int .i64 0, .int .i64 0, .int .i64 0, .int .i64 0, .int .i64 0, .int .i64 0, .int .i64 0, .int .i64 0, .int .i64 0] 117 :: A)) (fun _ => I) ?_ (0, ⟨n1, s.mm⟩, [], a1, c1, es1, ds, n1, 0) ⟨by omega, fun _ => ⟨rfl, by rw [List.drop_zero]; exact hr.symm, rfl, hs0, List.prefix_refl _, hi1, hmx⟩, fun hf => absurd rfl hf, by simp⟩
  rintro ⟨i, t, res, a2, c2, es2, ds2, ns2, er⟩ ⟨hi, ho, hne, hrl⟩ K hK
  simp only at hi ho hne hrl hK ⊢
  have hml := midL_len (res := res) (qs := qs) (by omega)
  skip
  refine tS (tS (tR (tM rfl rfl ?_)))
  refine tri_v (opv_lss rfl rfl) rfl ?_
  refine tM rfl rfl ?_
  refine tri_split rfl rfl (fun h9 => ?_) (fun h9 => ?_)
  ·refine tri_guard_run rfl rfl rfl (tM rfl rfl (tri_guard_run rfl rfl rfl ?_))
   refine tri_v (opv_eql rfl rfl) rfl ?_
   refine tri_v (opv_pick_t rfl rfl) rfl ?_
   refine tN (tT ?_)
   refine tri_cond_dec rfl (fun he => ?_) (fun he => ?_)
   ·have hi9 : i < 9 := by omega
    obtain ⟨hlen, hrr, rfl, hlk, hpre, hix2, hmx2⟩ := ho he
    have ei : 0 + ((i : Nat) : Int).toNat * 1 = i := by omega
    have eq : (midL res qs).getD (0 + ((i : Nat) : Int).toNat * 1) default = qs.getD i default := by rw [ei, ← hlen]; exact midL_at (res := res) (qs := qs) (by omega)
    have hqn : R7.IsN t.ns (k + 2) ((midL res qs).getD (0 + ((i : Nat) : Int).toNat * 1) default) := by
     rw [eq]
     exact (ia _ (by simp [show i < qs.length by omega])).pre hpre
    have eset : ∀ v, (midL res qs).set (0 + ((i : Nat) : Int).toNat * 1) v = midL (res ++ [v]) qs := fun v => by rw [ei, ← hlen]; exact midL_set (res := res) (qs := qs) (by omega) v
    refine tri_skip (tT (tS (tri_block (tS (tR (tM rfl rfl (tN ?_)))))))
    refine tT ?_
    refine tri_cond rfl (fun hf => ?_) (fun hf => ?_)
    ·have hf1 : full = true := by simpa using hf
     have hj1 := hfull hf1
     obtain ⟨R, hR⟩ : ∃ R, R9.leap room k t ((midL res qs).getD (0 + ((i : Nat) : Int).toNat * 1) default) (j - 1) = R := ⟨_, rfl⟩
     refine tR (tM rfl rfl (tM rfl rfl (tM rfl rfl ?_)))
     refine tri_v (opv_indexAddrA rfl rfl (by omega) (by omega)) rfl ?_
     refine tri_v (opv_loadIX rfl rfl (by omega)) rfl ?_
     refine tM rfl rfl ?_
     refine tri_v (opv_sub rfl rfl (w64 (by omega) (by omega))) rfl ?_
     refine tri_g (opg_call (xs := [_, _, _]) rfl (ih _ _ t _ _ _ _ _ _ _ _ (j - 1) _ _ R hlk hqn hix2 hmx2 (by omega) hR)) rfl ?_
     rintro _ _ _ ⟨a3, c3, es3, ds3, ns3, m3, rfl, rfl, h3, rfl⟩
     refine tM rfl rfl ?_
     refine tri_v (opv_extract rfl rfl) rfl ?_
     refine tri_v (opv_extract rfl rfl) rfl ?_
     refine tri_v (opv_indexAddrA rfl rfl (by omega) (by omega)) rfl ?_
     refine tri_g (opg_storeIX rfl rfl (by omega)) rfl ?_
     rintro _ _ _ ⟨rfl, rfl⟩
     rw [eset]
     refine tA rfl rfl (tN ?_)
     refine tri_inBlock ?_
     refine tT (tR (tM rfl rfl ?_))
     refine tU rfl rfl (by omega) (by omega) rfl ?_
     refine tA rfl rfl (tN (tT ?_))
     have hnx := mapS_next (R := R) hlen (by omega) hrr (by unfold R9.halfF; rw [if_pos hf1, ← eq]; exact hR)
     have hgd := fun e => R9.leap_gd k t _ (j - 1) hlk hqn (by rw [hR]; exact e)
     rw [hR] at hgd
     refine tri_sub ?_ (hK (i + 1, R.1, res ++ [m3], a3, c3, es3, ds3, ns3, R.2.2) ⟨by simp only; omega, fun e => ?_, fun e => hnx.2 e, by simp only [List.length_append, List.length_singleton]; omega⟩ (by simp only; omega))
     ·exact ⟨rfl, rfl, rfl, rfl, rfl, rfl, rfl, trivial⟩
     ·obtain ⟨rfl, rfl, hi3, hm3⟩ := h3 e
      exact ⟨(hnx.1 e).1, (hnx.1 e).2, rfl, (hgd e).lk, hpre.trans (hgd e).pre, hi3, hm3⟩
    ·have hf1 : ¬ full = true := by simpa using hf
     skip
     refine tri_perm (A := ?a3_0 :: ?a3_1 :: ?a3_2 :: ?a3_3 :: ?a3_4 :: ?a3_5 :: ?a3_6 :: ?T3) (B := ?a3_0 :: ?a3_1 :: ?a3_2 :: ?a3_5 :: ?a3_3 :: ?a3_4 :: ?a3_6 :: ?T3) (by exact permL [0, 1, 2, 5, 3, 4, 6] [?a3_0, ?a3_1, ?a3_2, ?a3_3, ?a3_4, ?a3_5, ?a3_6] ?T3 (by decide) rfl) ?_
     skip
     refine tri_draw [0, 1, 2, 3, 4, 5, 6, 7, 8, 9, 10, 11, 12, 13, 14] rfl [_, _, _, _] rfl mixed ?_
     refine th_take rfl rfl (by kernel_rfl)  (opv_move rfl) ?_
     refine th_take rfl rfl (by kernel_rfl)  (opv_move rfl) ?_
     refine th_take rfl rfl (by kernel_rfl)  (opv_nilCheck rfl) ?_
     refine th_take rfl rfl (by kernel_rfl)  (opv_fieldAddr rfl rfl) ?_
     refine th_take rfl rfl (by kernel_rfl)  (opv_loadA rfl rfl rfl) ?_
     refine th_take rfl rfl (by kernel_rfl)  (opv_move rfl) ?_
     refine th_take rfl rfl (by kernel_rfl)  (opv_indexAddrA rfl rfl (by omega) (by omega)) ?_
     refine th_one (by kernel_rfl) (step_m rfl rfl (OpV.toG (opv_loadIX rfl rfl (by omega))) ?_)
     rintro _ _ _ ⟨rfl, rfl, rfl⟩
     refine ⟨Suf.h, (fun _ h => h), ?_⟩
     refine th_one (by kernel_rfl) (step_m rfl rfl (opg_call (xs := [_, _]) rfl (maker_centre hlk.good hlk.len2 hix2 (hlk.kid hqn))) ?_)
     rintro _ _ _ ⟨a3, c3, es3, rfl, rfl, hi3, rfl⟩
     refine ⟨Suf.h, (fun _ h => h), ?_⟩
     obtain ⟨R, hR⟩ : ∃ R, R9.midS room t ((midL res qs).getD (0 + ((i : Nat) : Int).toNat * 1) default) = R := ⟨_, rfl⟩
     have er1 : (R8.putSq t.ns room (R8.s16 t.ns ((midL res qs).getD (0 + ((i : Nat) : Int).toNat * 1) default)) 1 1).1 = R.1.ns := by rw [← hR]; rfl
     have er2 : (R8.putSq t.ns room (R8.s16 t.ns ((midL res qs).getD (0 + ((i : Nat) : Int).toNat * 1) default)) 1 1).2.1 = R.2.1 := by rw [← hR]; rfl
     have er3 : (R8.putSq t.ns room (R8.s16 t.ns ((midL res qs).getD (0 + ((i : Nat) : Int).toNat * 1) default)) 1 1).2.2 = R.2.2 := by rw [← hR]; rfl
     have er4 : R.1.mm = t.mm := by rw [← hR]; rfl
     rw [er1] at hi3
     rw [er1, er2, er3]
     refine th_take rfl rfl (by kernel_rfl)  (opv_move rfl) ?_
     refine th_take rfl rfl (by kernel_rfl)  (opv_extract rfl rfl) ?_
     refine th_take rfl rfl (by kernel_rfl)  (opv_extract rfl rfl) ?_
     refine th_take rfl rfl (by kernel_rfl)  (opv_indexAddrA rfl rfl (by omega) (by omega)) ?_
     refine th_one (by kernel_rfl) (step_m rfl rfl (opg_storeIX rfl rfl (by omega)) ?_)
     rintro _ _ _ ⟨rfl, rfl⟩
     refine ⟨Suf.h, (fun _ h => h), ?_⟩
     rw [eset]
     refine th_take rfl rfl (by kernel_rfl)  (opv_assign rfl) ?_
     refine th_done (by kernel_rfl) ?_
     refine tri_inBlock ?_
     refine tT (tR (tM rfl rfl ?_))
     refine tU rfl rfl (by omega) (by omega) rfl ?_
     refine tA rfl rfl (tN (tT ?_))
     refine tri_perm (A := ?a4_0 :: ?a4_1 :: ?a4_2 :: ?a4_3 :: ?a4_4 :: ?a4_5 :: ?a4_6 :: ?T4) (B := ?a4_0 :: ?a4_1 :: ?a4_2 :: ?a4_4 :: ?a4_5 :: ?a4_3 :: ?a4_6 :: ?T4) (by exact permL [0, 1, 2, 4, 5, 3, 6] [?a4_0, ?a4_1, ?a4_2, ?a4_3, ?a4_4, ?a4_5, ?a4_6] ?T4 (by decide) rfl) ?_
     have hnx := mapS_next (R := R) hlen (by omega) hrr (by unfold R9.halfF; rw [if_neg hf1, ← eq]; exact hR)
     have hgd := fun e => R9.midS_gd (lv := k) hlk hqn (by rw [hR]; exact e)
     rw [hR] at hgd
     refine tri_sub ?_ (hK (i + 1, R.1, res ++ [R.2.1], a3, c3, es3, ds2, R.1.ns, R.2.2) ⟨by simp only; omega, fun e => ?_, fun e => hnx.2 e, by simp only [List.length_append, List.length_singleton]; omega⟩ (by simp only; omega))
     ·exact ⟨rfl, rfl, rfl, rfl, rfl, rfl, rfl, trivial⟩
     ·exact ⟨(hnx.1 e).1, (hnx.1 e).2, rfl, (hgd e).lk, hpre.trans (hgd e).pre, hi3, by rw [er4]; exact hmx2⟩
   ·obtain ⟨p0, p1, p2, p3, p4, p5, p6, p7, p8, hp⟩ := nine_len (l := midL res qs) (by omega)
    have fin : r.2.2 = er ∧ (er = 0 → ns2 = r.1.ns ∧ r.2.1 = midL res qs ∧ Idx r.1.ns es2 ∧ MemIx r.1.mm ds2) := ⟨hne he, fun e => absurd e he⟩
    rw [hp] at fin ⊢
    refine tri_exit ?_
    refine tri_then_exit ?_
    refine tri_then_exit ?_
    refine tri_inBlock_hit rfl ?_
    refine tT (tS (tR ?_))
    refine tri_v (opv_loadA rfl rfl rfl) rfl ?_
    refine tM rfl rfl ?_
    refine tri_g (opg_store rfl rfl rfl rfl rfl rfl) rfl ?_
    rintro _ _ _ ⟨rfl, rfl⟩
    refine tA rfl rfl (tN (tT (tri_ret ?_)))
    refine tri_perm (A := ?a5_0 :: ?a5_1 :: ?a5_2 :: ?a5_3 :: ?a5_4 :: ?a5_5 :: ?a5_6 :: ?T5) (B := ?a5_5 :: ?a5_6 :: ?a5_0 :: ?a5_1 :: ?a5_2 :: ?a5_3 :: ?a5_4 :: ?T5) (by exact permL [5, 6, 0, 1, 2, 3, 4] [?a5_0, ?a5_1, ?a5_2, ?a5_3, ?a5_4, ?a5_5, ?a5_6] ?T5 (by decide) rfl) ?_
    refine tri_end (LxA bl bx mb db a2 c2 ns2 room es2 ds2 A) Suf.h rfl (.cons (rv_cellA rfl rfl rfl) (.cons (rv_tmp rfl) .nil)) ⟨a2, c2, es2, ds2, ns2, p0, p1, p2, p3, p4, p5, p6, p7, p8, by rw [fin.1]; rfl, rfl, fun e => fin.2 (fin.1.symm.trans e), rfl⟩
  ·obtain ⟨p0, p1, p2, p3, p4, p5, p6, p7, p8, hp⟩ := nine_len (l := midL res qs) (by omega)
   have fin : r.2.2 = er ∧ (er = 0 → ns2 = r.1.ns ∧ r.2.1 = midL res qs ∧ Idx r.1.ns es2 ∧ MemIx r.1.mm ds2) := by
    by_cases he : er = 0
    ·obtain ⟨hlen, hrr, rfl, hlk, hpre, hix2, hmx2⟩ := ho he
     rw [List.drop_of_length_le (by omega)] at hrr
     have hr3 : r = (t, res, 0) := by rw [hrr]; simp [R9.mapS]
     rw [hr3, he, midL_done (by omega)]
     exact ⟨rfl, fun _ => ⟨rfl, rfl, hix2, hmx2⟩⟩
    ·exact ⟨hne he, fun e => absurd e he⟩
   rw [hp] at fin ⊢
   refine tri_guard_skip rfl rfl rfl rfl (tri_guard_skip rfl rfl rfl rfl ?_)
   refine tri_v (opv_pick_f rfl rfl) rfl ?_
   refine tN (tT ?_)
   refine tri_cond_false rfl ?_
   refine tri_exit ?_
   refine tri_then_exit ?_
   refine tri_then_exit ?_
   refine tri_inBlock_hit rfl ?_
   refine tT (tS (tR ?_))
   refine tri_v (opv_loadA rfl rfl rfl) rfl ?_
   refine tM rfl rfl ?_
   refine tri_g (opg_store rfl rfl rfl rfl rfl rfl) rfl ?_
   rintro _ _ _ ⟨rfl, rfl⟩
   refine tA rfl rfl (tN (tT (tri_ret ?_)))
   refine tri_perm (A := ?a6_0 :: ?a6_1 :: ?a6_2 :: ?a6_3 :: ?a6_4 :: ?a6_5 :: ?a6_6 :: ?T6) (B := ?a6_5 :: ?a6_6 :: ?a6_0 :: ?a6_1 :: ?a6_2 :: ?a6_3 :: ?a6_4 :: ?T6) (by exact permL [5, 6, 0, 1, 2, 3, 4] [?a6_0, ?a6_1, ?a6_2, ?a6_3, ?a6_4, ?a6_5, ?a6_6] ?T6 (by decide) rfl) ?_
   refine tri_end (LxA bl bx mb db a2 c2 ns2 room es2 ds2 A) Suf.h rfl (.cons (rv_cellA rfl rfl rfl) (.cons (rv_tmp rfl) .nil)) ⟨a2, c2, es2, ds2, ns2, p0, p1, p2, p3, p4, p5, p6, p7, p8, by rw [fin.1]; rfl, rfl, fun e => fin.2 (fin.1.symm.trans e), rfl⟩
 ·rw [if_pos e0] at hr
  subst hr
  refine tri_rounds 1 ?_
  refine tri_round ?_
  refine tS (tS (tR (tM rfl rfl ?_)))
  refine tri_v (opv_lss rfl rfl) rfl ?_
  refine tM rfl rfl ?_
  refine tri_true rfl rfl (by decide) ?_
  refine tri_guard_run rfl rfl rfl (tM rfl rfl (tri_guard_run rfl rfl rfl ?_))
  refine tri_v (opv_eql rfl rfl) rfl ?_
  refine tri_v (opv_pick_t rfl rfl) rfl ?_
  refine tN (tT ?_)
  refine tri_cond_not rfl (e0) ?_
  refine tri_exit ?_
  refine tri_then_exit ?_
  refine tri_then_exit ?_
  refine tri_inBlock_hit rfl ?_
  refine tT (tS (tR ?_))
  refine tri_v (opv_loadA rfl rfl rfl) rfl ?_
  refine tM rfl rfl ?_
  refine tri_g (opg_store rfl rfl rfl rfl rfl rfl) rfl ?_
  rintro _ _ _ ⟨rfl, rfl⟩
  refine tA rfl rfl (tN (tT (tri_ret ?_)))
  refine tri_perm (A := ?a7_0 :: ?a7_1 :: ?a7_2 :: ?a7_3 :: ?a7_4 :: ?a7_5 :: ?a7_6 :: ?T7) (B := ?a7_5 :: ?a7_6 :: ?a7_0 :: ?a7_1 :: ?a7_2 :: ?a7_3 :: ?a7_4 :: ?T7) (by exact permL [5, 6, 0, 1, 2, 3, 4] [?a7_0, ?a7_1, ?a7_2, ?a7_3, ?a7_4, ?a7_5, ?a7_6] ?T7 (by decide) rfl) ?_
  refine tri_end (LxA bl bx mb db a1 c1 ns1 room es1 ds A) Suf.h rfl (.cons (rv_cellA rfl rfl rfl) (.cons (rv_tmp rfl) .nil)) ⟨a1, c1, es1, ds, ns1, q0, q1, q2, q3, q4, q5, q6, q7, q8, rfl, rfl, fun e => absurd e e0, rfl⟩
end Go.GL


set_option linter.unusedVariables false
namespace Go.GL
open Go.Proofs
attribute [local irreducible] wpList Code.wp Exit.then Exit.inBlock Ends Tri TriH OpV OpG FnC epf wpAnyH
theorem four_len {l : List Int} (h : l.length = 4) : ∃ q0 q1 q2 q3, l = [q0, q1, q2, q3] := by
 match l, h with
 | [a, b, c, d], _ => exact ⟨a, b, c, d, rfl⟩
set_option maxHeartbeats 2000000 in
set_option maxRecDepth 100000 in
theorem leaper_make {A : List Asrt} {I : List Chunk} {k : Nat} (ih : LeapSpec k) {s : R9.LS} {a : Option Addr} {cap bl bx mb db : Nat} {room n j : Int} {es ds : KVs} {r : R9.L9} (h : R9.Lk room s) (hn : R7.IsN s.ns (k + 3) n) (hix : Idx s.ns es) (hmx : MemIx s.mm ds) (hj : 0 ≤ j ∧ j ≤ 1000000)
  (hr : R9.far (R9.leap room k) room (decide (j = k + 1)) s n j = r) :
  FnC Try.prog 69 [pt bl 0, .int .i64 n, .int .i64 j].toArray (LxA bl bx mb db a cap s.ns room es ds A) I (LxR bl bx mb db r room A I) := by
 have hlv : (R6.nd s.ns n).lv = k + 3 := by rw [hn.2]; omega
 have efull : decide (j = (R6.nd s.ns n).lv - 2) = decide (j = k + 1) := decide_eq_decide.2 (by omega)
 have hlb := h.wf.lvb hn.1
 obtain ⟨full, hfl⟩ : ∃ f, decide (j = k + 1) = f := ⟨_, rfl⟩
 have hfull : full = true → 1 ≤ j := fun e => by
  rw [← hfl] at e
  have := of_decide_eq_true e
  omega
 rw [hfl] at hr efull
 obtain ⟨r1, hr1⟩ : ∃ r1, R9.half (R9.leap room k) room full s n j = r1 := ⟨_, rfl⟩
 unfold R9.far at hr
 rw [hr1] at hr
 skip
 skip
 refine fn_enter3 Try.func69 rfl Try.ntmps69 rfl fun w0 => ?_
 refine tS (tR (tA rfl rfl (tA rfl rfl (tN (tT (tS (tR ?_)))))))
 refine tM rfl rfl (tM rfl rfl (tM rfl rfl ?_))
 refine tri_g (opg_call (xs := [_, _]) rfl (leaper_level hn.1)) rfl ?_
 rintro _ _ _ ⟨rfl, rfl, rfl⟩
 refine tri_v (opv_sub rfl rfl (w64 (by omega) (by omega))) rfl ?_
 refine tri_v (opv_eql rfl rfl) rfl ?_
 refine tA rfl rfl (tN (tT (tS (tR (tM rfl rfl (tM rfl rfl (tM rfl rfl ?_)))))))
 refine tM rfl rfl ?_
 rw [efull]
 refine tri_g (opg_call (xs := [_, _, _, _]) rfl (leaper_half ih h hn hix hmx hj hfull hr1)) rfl ?_
 rintro _ _ _ ⟨a1, c1, es1, ds1, ns1, q0, q1, q2, q3, q4, q5, q6, q7, q8, rfl, rfl, h1, rfl⟩
 refine tM rfl rfl ?_
 refine tri_v (opv_extract rfl rfl) rfl ?_
 refine tri_v (opv_extract rfl rfl) rfl ?_
 refine tri_g opg_alloc rfl ?_
 rintro _ _ _ ⟨b9, rfl, rfl, rfl⟩
 refine tri_g (opg_store rfl rfl rfl rfl rfl rfl) rfl ?_
 rintro _ _ _ ⟨rfl, rfl⟩
 refine tA rfl rfl (tN (tT (tS (tS (tR (tM rfl rfl ?_))))))
 refine tri_v (opv_neq rfl rfl) rfl ?_
 refine tN (tT ?_)
 refine tri_cond_dec rfl (fun x1 => ?_) (fun x1 => ?_)
 ·rw [R9.bindM_err x1] at hr
  subst hr
  refine tS (tR (tM rfl rfl (tA rfl rfl (tA rfl rfl (tN (tT (tri_ret ?_)))))))
  refine tri_then_ret ?_
  refine tri_end _ (⟨[_], rfl⟩) rfl (.cons (rv_tmp rfl) (.cons (rv_tmp rfl) .nil)) ⟨a1, c1, es1, ds1, ns1, 0, rfl, rfl, fun e => absurd e x1, rfl⟩
 refine tri_skip (tT (tS (tR ?_)))
 refine tri_g opg_alloc rfl ?_
 rintro _ _ _ ⟨b11, rfl, rfl, rfl⟩
 refine tN (tT (tS (tS (tR (tM rfl rfl (tN (tT ?_)))))))
 refine tri_block ?_
 have x1 : r1.2.2 = 0 := Decidable.not_not.1 x1
 rw [R9.bindM_ok x1] at hr
 obtain ⟨rfl, hq9, hi1, hm1⟩ := h1 x1
 obtain ⟨lk1, pre1, len1, is1⟩ := R9.half_gd (fun s q j hs hq he => R9.leap_gd k s q j hs hq he) h hn hr1 x1
 obtain ⟨T, L, e1⟩ := r1
 simp only at hq9 hi1 hm1 lk1 pre1 len1 is1 hr x1
 refine tri_perm (A := ?a1_0 :: ?a1_1 :: ?a1_2 :: ?a1_3 :: ?a1_4 :: ?a1_5 :: ?a1_6 :: ?T1) (B := ?a1_2 :: ?a1_3 :: ?a1_4 :: ?a1_0 :: ?a1_5 :: ?a1_6 :: ?a1_1 :: ?T1) (by exact permL [2, 3, 4, 0, 5, 6, 1] [?a1_0, ?a1_1, ?a1_2, ?a1_3, ?a1_4, ?a1_5, ?a1_6] ?T1 (by decide) rfl) ?_
 rw [show ([.int .i64 q0, .int .i64 q1, .int .i64 q2, .int .i64 q3, .int .i64 q4, .int .i64 q5, .int .i64 q6, .int .i64 q7, .int .i64 q8] : List Value) = ints [q0, q1, q2, q3, q4, q5, q6, q7, q8] from rfl, ← hq9]
 obtain ⟨R2, hR2⟩ : ∃ R2, R9.mapS (R9.fourP room L) T R9.fourE = R2 := ⟨_, rfl⟩
 rw [hR2] at hr
 refine tri_sub (F' := [(0, pt bl 0), (2, .int .i64 j), (8, .bool full), (9, pt b9 0), (11, pt b11 0), (32, .int .i64 (0 : Nat))]) ⟨rfl, rfl, rfl, rfl, rfl, rfl, trivial⟩ ?_
 refine loop_ind (G := Nat × R9.LS × List Int × Option Addr × Nat × KVs) (fun g => 4 - g.1) (fun g => g.1 ≤ 4 ∧ g.2.2.1.length = g.1 ∧ R2 = ((R9.mapS (R9.fourP room L) g.2.1 (R9.fourE.drop g.1)).1, g.2.2.1 ++ (R9.mapS (R9.fourP room L) g.2.1 (R9.fourE.drop g.1)).2.1, (R9.mapS (R9.fourP room L) g.2.1 (R9.fourE.drop g.1)).2.2) ∧ R9.Lk room g.2.1 ∧ T.ns <+: g.2.1.ns ∧ Idx g.2.1.ns g.2.2.2.2.2 ∧ g.2.1.mm = T.mm) (fun g => [(0, pt bl 0), (2, .int .i64 j), (8, .bool full), (9, pt b9 0), (11, pt b11 0), (32, .int .i64 (g.1 : Nat))]) (fun g => IxA bx mb g.2.2.2.1 g.2.2.2.2.1 g.2.1.ns room g.2.2.2.2.2 (Box b11 (ints (midL g.2.2.1 [0, 0, 0, 0])) 33 :: Box bl [pt bx 0, .map (some db)] 96 :: MapA Try.prog 102 db ds1 :: Box b9 (ints L) 117 :: A)) (fun _ => I) ?_ (0, T, [], a1, c1, es1) ⟨by omega, rfl, hR2.symm, lk1, List.prefix_refl _, hi1, rfl⟩
 rintro ⟨i, t, res, a2, c2, es2⟩ ⟨hi, hlen, hrr, hlk, hpre, hix2, hmm⟩ K hK
 simp only at hi hlen hrr hlk hpre hix2 hmm hK ⊢
 have hml := midL_len (res := res) (qs := [0, 0, 0, 0]) (by simp only [List.length_cons, List.length_nil]; omega)
 simp only [List.length_cons, List.length_nil] at hml
 skip
 refine tS (tR ?_)
 refine tri_v (opv_lss rfl rfl) rfl ?_
 refine tN (tT (tS ?_))
 refine tri_cond_dec rfl (fun h4 => ?_) (fun h4 => ?_)
 ·have hi4 : i < 4 := by omega
  have ekk : R9.fourE.getD i default = (i : Int) / 2 * 3 + (i : Int) % 2 := by
   rcases (by omega : i = 0 ∨ i = 1 ∨ i = 2 ∨ i = 3) with rfl | rfl | rfl | rfl <;> rfl
  have eset : ∀ v, (midL res [0, 0, 0, 0]).set (0 + ((i : Nat) : Int).toNat * 1) v = midL (res ++ [v]) [0, 0, 0, 0] := fun v => by
   rw [show 0 + ((i : Nat) : Int).toNat * 1 = i by omega, ← hlen]
   exact midL_set (res := res) (qs := [0, 0, 0, 0]) (by simp only [List.length_cons, List.length_nil]; omega) v
  have eg : ∀ x : Int, L.getD (0 + x.toNat * 1) default = R8.g L x := fun x => by rw [show 0 + x.toNat * 1 = x.toNat by omega]; rfl
  obtain ⟨R, hR⟩ : ∃ R, R9.fourP room L t (R9.fourE.getD i default) = R := ⟨_, rfl⟩
  have hnx := mapS_next (R := R) hlen (by show i < 4; omega) hrr hR
  have hgd := fun e : R.2.2 = 0 => R9.putS_gd (lv := k + 1) hlk ((is1 _ (R9.g_mem (i := R9.fourE.getD i default) (by rw [ekk]; omega) (by rw [ekk, len1]; omega))).pre hpre) (by unfold R9.fourP at hR; rw [hR]; exact e)
  unfold R9.fourP at hR
  rw [ekk] at hR hgd
  rw [hR] at hgd
  have er1 : (R6.put t.ns room (R8.g L ((i : Int) / 2 * 3 + (i : Int) % 2)) (R8.g L ((i : Int) / 2 * 3 + (i : Int) % 2 + 1)) (R8.g L ((i : Int) / 2 * 3 + (i : Int) % 2 + 3)) (R8.g L ((i : Int) / 2 * 3 + (i : Int) % 2 + 4))) = (R.1.ns, R.2.1, R.2.2) := by rw [← hR]; rfl
  have er4 : R.1.mm = t.mm := by rw [← hR]; rfl
  rw [← eg, ← eg, ← eg, ← eg] at er1
  refine tri_skip (tT (tS (tri_block (tS (tR (tM rfl rfl (tA rfl rfl ?_)))))))
  refine tN (tT (tS (tR (tM rfl rfl ?_))))
  refine tri_v (opv_quoE rfl rfl (by omega) (by omega) (by omega)) rfl ?_
  refine tri_v (opv_mul rfl rfl (w64 (by omega) (by omega))) rfl ?_
  refine tM rfl rfl ?_
  refine tri_v (opv_remE rfl rfl (by omega) (by omega)) rfl ?_
  refine tU rfl rfl (by omega) (by omega) rfl ?_
  refine tA rfl rfl (tN (tT (tS ?_)))
  skip
  refine tri_draw [0, 1, 2, 3, 4, 5, 6, 7, 8, 9, 10, 11, 12, 13, 14, 15, 16, 17, 18, 19, 20, 21, 22, 23, 24, 25, 26, 27, 28] rfl [_, _, _, _] rfl mixed ?_
  refine th_take rfl rfl (by kernel_rfl)  (opv_move rfl) ?_
  refine th_take rfl rfl (by kernel_rfl)  (opv_move rfl) ?_
  refine th_take rfl rfl (by kernel_rfl)  (opv_nilCheck rfl) ?_
  refine th_take rfl rfl (by kernel_rfl)  (opv_fieldAddr rfl rfl) ?_
  refine th_take rfl rfl (by kernel_rfl)  (opv_fieldAddr rfl rfl) ?_
  refine th_take rfl rfl (by kernel_rfl)  (opv_load1 rfl rfl rfl) ?_
  refine th_take rfl rfl (by kernel_rfl)  (opv_move rfl) ?_
  refine th_take rfl rfl (by kernel_rfl)  (opv_indexAddrA rfl rfl (by omega) (by omega)) ?_
  refine th_take rfl rfl (by kernel_rfl)  (opv_loadIX rfl rfl (by omega)) ?_
  refine th_take rfl rfl (by kernel_rfl)  (opv_move rfl) ?_
  refine th_take rfl rfl (by kernel_rfl)  (opv_add rfl rfl (w64 (by omega) (by omega))) ?_
  refine th_take rfl rfl (by kernel_rfl)  (opv_indexAddrA rfl rfl (by omega) (by omega)) ?_
  refine th_take rfl rfl (by kernel_rfl)  (opv_loadIX rfl rfl (by omega)) ?_
  refine th_take rfl rfl (by kernel_rfl)  (opv_move rfl) ?_
  refine th_take rfl rfl (by kernel_rfl)  (opv_add rfl rfl (w64 (by omega) (by omega))) ?_
  refine th_take rfl rfl (by kernel_rfl)  (opv_indexAddrA rfl rfl (by omega) (by omega)) ?_
  refine th_take rfl rfl (by kernel_rfl)  (opv_loadIX rfl rfl (by omega)) ?_
  refine th_take rfl rfl (by kernel_rfl)  (opv_move rfl) ?_
  refine th_take rfl rfl (by kernel_rfl)  (opv_add rfl rfl (w64 (by omega) (by omega))) ?_
  refine th_take rfl rfl (by kernel_rfl)  (opv_indexAddrA rfl rfl (by omega) (by omega)) ?_
  refine th_take rfl rfl (by kernel_rfl)  (opv_loadIX rfl rfl (by omega)) ?_
  refine th_take rfl rfl (by kernel_rfl)  (opv_buildA rfl rfl) ?_
  refine th_one (by kernel_rfl) (step_m rfl rfl (opg_call (xs := [_, _]) rfl (node_putR (r := (R.1.ns, R.2.1, R.2.2)) hlk.good hlk.len2 hix2 er1)) ?_)
  rintro _ _ _ ⟨a3, c3, es3, rfl, rfl, hi3, rfl⟩
  refine ⟨Suf.h, (fun _ h => h), ?_⟩
  refine th_take rfl rfl (by kernel_rfl)  (opv_move rfl) ?_
  refine th_take rfl rfl (by kernel_rfl)  (opv_extract rfl rfl) ?_
  refine th_take rfl rfl (by kernel_rfl)  (opv_extract rfl rfl) ?_
  refine th_take rfl rfl (by kernel_rfl)  (opv_indexAddrA rfl rfl (by omega) (by omega)) ?_
  refine th_one (by kernel_rfl) (step_m rfl rfl (opg_storeIX rfl rfl (by omega)) ?_)
  rintro _ _ _ ⟨rfl, rfl⟩
  refine ⟨Suf.h, (fun _ h => h), ?_⟩
  rw [eset]
  refine th_take rfl rfl (by kernel_rfl)  (opv_assign rfl) ?_
  refine th_done (by kernel_rfl) ?_
  refine tT (tS (tR (tM rfl rfl ?_)))
  refine tri_v (opv_neq rfl rfl) rfl ?_
  refine tN (tT ?_)
  refine tri_cond_dec rfl (fun x2 => ?_) (fun x2 => ?_)
  ·have e2 := hnx.2 x2
   rw [R9.bindM_err (by rw [e2]; exact x2), e2] at hr
   subst hr
   refine tS (tR (tM rfl rfl (tA rfl rfl (tA rfl rfl (tN (tT (tri_ret ?_)))))))
   refine tri_inBlock_ret ?_
   refine tri_then_ret (tri_then_ret ?_)
   refine tri_inBlock_ret ?_
   refine tri_then_ret ?_
   refine tri_perm (A := ?a2_0 :: ?a2_1 :: ?a2_2 :: ?a2_3 :: ?a2_4 :: ?a2_5 :: ?a2_6 :: ?T2) (B := ?a2_0 :: ?a2_1 :: ?a2_2 :: ?a2_4 :: ?a2_5 :: ?a2_3 :: ?a2_6 :: ?T2) (by exact permL [0, 1, 2, 4, 5, 3, 6] [?a2_0, ?a2_1, ?a2_2, ?a2_3, ?a2_4, ?a2_5, ?a2_6] ?T2 (by decide) rfl) ?_
   refine tri_perm (A := ?a3_0 :: ?a3_1 :: ?a3_2 :: ?a3_3 :: ?a3_4 :: ?a3_5 :: ?a3_6 :: ?T3) (B := ?a3_5 :: ?a3_6 :: ?a3_0 :: ?a3_1 :: ?a3_2 :: ?a3_3 :: ?a3_4 :: ?T3) (by exact permL [5, 6, 0, 1, 2, 3, 4] [?a3_0, ?a3_1, ?a3_2, ?a3_3, ?a3_4, ?a3_5, ?a3_6] ?T3 (by decide) rfl) ?_
   refine tri_end _ (⟨[_, _], rfl⟩) rfl (.cons (rv_tmp rfl) (.cons (rv_tmp rfl) .nil)) ⟨a3, c3, es3, ds1, R.1.ns, 0, rfl, rfl, fun e => absurd e x2, rfl⟩
  ·have x2' : R.2.2 = 0 := Decidable.not_not.1 x2
   refine tri_skip ?_
   refine tri_inBlock ?_
   refine tT (tR ?_)
   refine tU rfl rfl (by omega) (by omega) rfl ?_
   refine tM rfl rfl (tN (tT ?_))
   refine tri_sub ?_ (hK (i + 1, R.1, res ++ [R.2.1], a3, c3, es3) ⟨by simp only; omega, (hnx.1 x2').1, (hnx.1 x2').2, (hgd x2').lk, hpre.trans (hgd x2').pre, hi3, by rw [er4, hmm]⟩ (by simp only; omega))
   exact ⟨rfl, rfl, rfl, rfl, rfl, rfl, trivial⟩
 ·have hi4 : i = 4 := by omega
  subst hi4
  have hR2' : R2 = (t, res, 0) := by rw [hrr]; simp [R9.fourE, R9.mapS]
  have g2 := R9.four_gd lk1 len1 is1 (by rw [hR2, hR2'])
  rw [hR2, hR2'] at g2
  obtain ⟨lk2, pre2, len2, is2⟩ := g2
  simp only at lk2 pre2 len2 is2
  rw [hR2', R9.bindM_ok rfl] at hr
  simp only at hr
  rw [midL_done (by rw [hlen]; rfl)]
  have hm2 : MemIx t.mm ds1 := by rw [hmm]; exact hm1
  refine tri_exit ?_
  refine tri_then_exit ?_
  refine tri_then_exit ?_
  refine tri_inBlock_hit rfl ?_
  refine tT (tS (tS (tR (tM rfl rfl (tN (tT ?_))))))
  refine tri_cut (fun F' A' J => F' = [(0, pt bl 0), (2, .int .i64 (if full = true then j - 1 else j)), (11, pt b11 0)] ∧ A' = IxA bx mb a2 c2 t.ns room es2 (Box b11 (ints res) 33 :: Box bl [pt bx 0, .map (some db)] 96 :: MapA Try.prog 102 db ds1 :: Box b9 (ints L) 117 :: A) ∧ I = J) ?_ ?_
  ·refine tri_cond rfl (fun hf => ?_) (fun hf => ?_)
   ·have hf1 : full = true := by simpa using hf
    have hj1 := hfull hf1
    refine tR (tM rfl rfl ?_)
    refine tri_v (opv_sub rfl rfl (w64 (by omega) (by omega))) rfl ?_
    refine tA rfl rfl (tN ?_)
    exact tri_cutEnd _ ⟨rfl, rfl, rfl⟩ ⟨rfl, by rw [if_pos hf1]; rfl, rfl, trivial⟩
   ·have hf1 : ¬ full = true := by simpa using hf
    refine tri_skip ?_
    exact tri_cutEnd _ ⟨rfl, rfl, rfl⟩ ⟨rfl, by rw [if_neg hf1]; rfl, rfl, trivial⟩
  rintro _ _ _ ⟨rfl, rfl, rfl⟩
  skip
  have hj' : 0 ≤ (if full = true then j - 1 else j) ∧ (if full = true then j - 1 else j) ≤ 1000000 := by
   by_cases hf : full = true
   ·have := hfull hf; rw [if_pos hf]; omega
   ·rw [if_neg hf]; omega
  generalize (if full = true then j - 1 else j) = j' at *
  refine tT (tS (tS (tR (tM rfl rfl (tN (tT (tri_block ?_)))))))
  refine tri_perm (A := ?a4_0 :: ?a4_1 :: ?a4_2 :: ?a4_3 :: ?a4_4 :: ?a4_5 :: ?a4_6 :: ?T4) (B := ?a4_0 :: ?a4_1 :: ?a4_2 :: ?a4_4 :: ?a4_5 :: ?a4_3 :: ?a4_6 :: ?T4) (by exact permL [0, 1, 2, 4, 5, 3, 6] [?a4_0, ?a4_1, ?a4_2, ?a4_3, ?a4_4, ?a4_5, ?a4_6] ?T4 (by decide) rfl) ?_
  obtain ⟨R3, hR3⟩ : ∃ R3, R9.mapS (R9.lastF (R9.leap room k) j') t res = R3 := ⟨_, rfl⟩
  rw [hR3] at hr
  refine tri_sub (F' := [(0, pt bl 0), (2, .int .i64 j'), (11, pt b11 0), (75, .int .i64 (0 : Nat))]) ⟨rfl, rfl, rfl, rfl, trivial⟩ ?_
  refine loop_ind (G := Nat × R9.LS × List Int × Option Addr × Nat × KVs × KVs) (fun g => 4 - g.1) (fun g => g.1 ≤ 4 ∧ g.2.2.1.length = g.1 ∧ R3 = ((R9.mapS (R9.lastF (R9.leap room k) j') g.2.1 (res.drop g.1)).1, g.2.2.1 ++ (R9.mapS (R9.lastF (R9.leap room k) j') g.2.1 (res.drop g.1)).2.1, (R9.mapS (R9.lastF (R9.leap room k) j') g.2.1 (res.drop g.1)).2.2) ∧ R9.Lk room g.2.1 ∧ t.ns <+: g.2.1.ns ∧ Idx g.2.1.ns g.2.2.2.2.2.1 ∧ MemIx g.2.1.mm g.2.2.2.2.2.2) (fun g => [(0, pt bl 0), (2, .int .i64 j'), (11, pt b11 0), (75, .int .i64 (g.1 : Nat))]) (fun g => LxA bl bx mb db g.2.2.2.1 g.2.2.2.2.1 g.2.1.ns room g.2.2.2.2.2.1 g.2.2.2.2.2.2 (Box b11 (ints (midL g.2.2.1 res)) 33 :: Box b9 (ints L) 117 :: A)) (fun _ => I) ?_ (0, t, [], a2, c2, es2, ds1) ⟨by omega, rfl, hR3.symm, lk2, List.prefix_refl _, hix2, hm2⟩
  rintro ⟨i, u, out, a3, c3, es3, ds3⟩ ⟨hi5, hlen5, hrr5, hlk5, hpre5, hix5, hmx5⟩ K2 hK2
  simp only at hi5 hlen5 hrr5 hlk5 hpre5 hix5 hmx5 hK2 ⊢
  have hml5 := midL_len (res := out) (qs := res) (by omega)
  skip
  refine tS (tR ?_)
  refine tri_v (opv_lss rfl rfl) rfl ?_
  refine tN (tT (tS ?_))
  refine tri_cond_dec rfl (fun h5 => ?_) (fun h5 => ?_)
  ·have hi6 : i < 4 := by omega
   have ei : 0 + ((i : Nat) : Int).toNat * 1 = i := by omega
   have eq : (midL out res).getD (0 + ((i : Nat) : Int).toNat * 1) default = res.getD i default := by rw [ei, ← hlen5]; exact midL_at (res := out) (qs := res) (by omega)
   have eset : ∀ v, (midL out res).set (0 + ((i : Nat) : Int).toNat * 1) v = midL (out ++ [v]) res := fun v => by rw [ei, ← hlen5]; exact midL_set (res := out) (qs := res) (by omega) v
   have hqn : R7.IsN u.ns (k + 2) ((midL out res).getD (0 + ((i : Nat) : Int).toNat * 1) default) := by
    rw [eq]
    exact (is2 _ (by simp [show i < res.length by omega])).pre hpre5
   obtain ⟨R, hR⟩ : ∃ R, R9.leap room k u ((midL out res).getD (0 + ((i : Nat) : Int).toNat * 1) default) j' = R := ⟨_, rfl⟩
   have hnx := mapS_next (R := R) hlen5 (by omega) hrr5 (by unfold R9.lastF; rw [← eq]; exact hR)
   have hgd := fun e : R.2.2 = 0 => R9.leap_gd k u _ j' hlk5 hqn (by rw [hR]; exact e)
   rw [hR] at hgd
   refine tri_skip (tT (tS (tri_block (tS (tR (tM rfl rfl (tA rfl rfl ?_)))))))
   refine tN (tT (tS (tR (tM rfl rfl (tM rfl rfl (tM rfl rfl ?_))))))
   refine tri_v (opv_indexAddrA rfl rfl (by omega) (by omega)) rfl ?_
   refine tri_v (opv_loadIX rfl rfl (by omega)) rfl ?_
   refine tM rfl rfl ?_
   refine tri_g (opg_call (xs := [_, _, _]) rfl (ih _ _ u _ _ _ _ _ _ _ _ j' _ _ R hlk5 hqn hix5 hmx5 hj' hR)) rfl ?_
   rintro _ _ _ ⟨a4, c4, es4, ds4, ns4, m4, rfl, rfl, h4', rfl⟩
   refine tM rfl rfl ?_
   refine tri_v (opv_extract rfl rfl) rfl ?_
   refine tri_v (opv_extract rfl rfl) rfl ?_
   refine tri_v (opv_indexAddrA rfl rfl (by omega) (by omega)) rfl ?_
   refine tri_g (opg_storeIX rfl rfl (by omega)) rfl ?_
   rintro _ _ _ ⟨rfl, rfl⟩
   rw [eset]
   refine tA rfl rfl (tN (tT (tS (tR (tM rfl rfl ?_)))))
   refine tri_v (opv_neq rfl rfl) rfl ?_
   refine tN (tT ?_)
   refine tri_cond_dec rfl (fun x3 => ?_) (fun x3 => ?_)
   ·have e2 := hnx.2 x3
    rw [R9.bindM_err (by rw [e2]; exact x3), e2] at hr
    subst hr
    refine tS (tR (tM rfl rfl (tA rfl rfl (tA rfl rfl (tN (tT (tri_ret ?_)))))))
    refine tri_inBlock_ret ?_
    refine tri_then_ret (tri_then_ret ?_)
    refine tri_inBlock_ret ?_
    refine tri_then_ret ?_
    refine tri_perm (A := ?a5_0 :: ?a5_1 :: ?a5_2 :: ?a5_3 :: ?a5_4 :: ?a5_5 :: ?a5_6 :: ?T5) (B := ?a5_5 :: ?a5_6 :: ?a5_0 :: ?a5_1 :: ?a5_2 :: ?a5_3 :: ?a5_4 :: ?T5) (by exact permL [5, 6, 0, 1, 2, 3, 4] [?a5_0, ?a5_1, ?a5_2, ?a5_3, ?a5_4, ?a5_5, ?a5_6] ?T5 (by decide) rfl) ?_
    refine tri_end _ (⟨[_, _], rfl⟩) rfl (.cons (rv_tmp rfl) (.cons (rv_tmp rfl) .nil)) ⟨a4, c4, es4, ds4, ns4, 0, rfl, rfl, fun e => absurd e x3, rfl⟩
   ·have x3' : R.2.2 = 0 := Decidable.not_not.1 x3
    obtain ⟨rfl, rfl, hi6', hm6⟩ := h4' x3'
    refine tri_skip ?_
    refine tri_inBlock ?_
    refine tT (tR ?_)
    refine tU rfl rfl (by omega) (by omega) rfl ?_
    refine tM rfl rfl (tN (tT ?_))
    refine tri_sub ?_ (hK2 (i + 1, R.1, out ++ [R.2.1], a4, c4, es4, ds4) ⟨by simp only; omega, (hnx.1 x3').1, (hnx.1 x3').2, (hgd x3').lk, hpre5.trans (hgd x3').pre, hi6', hm6⟩ (by simp only; omega))
    exact ⟨rfl, rfl, rfl, rfl, trivial⟩
  ·have hi6 : i = 4 := by omega
   subst hi6
   have hR3' : R3 = (u, out, 0) := by rw [hrr5, List.drop_of_length_le (by omega)]; simp [R9.mapS]
   rw [hR3', R9.bindM_ok rfl] at hr
   simp only at hr
   obtain ⟨p0, p1, p2, p3, hp⟩ := four_len hlen5
   rw [midL_done (by omega), hp]
   rw [hp] at hr
   have er1 : R6.put u.ns room p0 p1 p2 p3 = (r.1.ns, r.2.1, r.2.2) := by rw [← hr]; rfl
   have er4 : r.1.mm = u.mm := by rw [← hr]; rfl
   refine tri_exit ?_
   refine tri_then_exit ?_
   refine tri_then_exit ?_
   refine tri_inBlock_hit rfl ?_
   refine tT (tS ?_)
   skip
   refine tri_draw [0, 1, 2, 3, 4, 5, 6, 7, 8, 9, 10] rfl [_, _, _] rfl mixed ?_
   refine th_take rfl rfl (by kernel_rfl)  (opv_move rfl) ?_
   refine th_take rfl rfl (by kernel_rfl)  (opv_nilCheck rfl) ?_
   refine th_take rfl rfl (by kernel_rfl)  (opv_fieldAddr rfl rfl) ?_
   refine th_take rfl rfl (by kernel_rfl)  (opv_fieldAddr rfl rfl) ?_
   refine th_take rfl rfl (by kernel_rfl)  (opv_load1 rfl rfl rfl) ?_
   refine th_take rfl rfl (by kernel_rfl)  (opv_loadA rfl rfl rfl) ?_
   refine th_one (by kernel_rfl) (step_m rfl rfl (opg_call (xs := [_, _]) rfl (node_putR (r := (r.1.ns, r.2.1, r.2.2)) hlk5.good hlk5.len2 hix5 er1)) ?_)
   rintro _ _ _ ⟨a4, c4, es4, rfl, rfl, hi4', rfl⟩
   refine ⟨Suf.h, (fun _ h => h), ?_⟩
   refine th_take rfl rfl (by kernel_rfl)  (opv_extract rfl rfl) ?_
   refine th_take rfl rfl (by kernel_rfl)  (opv_extract rfl rfl) ?_
   refine th_take rfl rfl (by kernel_rfl)  (opv_assign rfl) ?_
   refine th_take rfl rfl (by kernel_rfl)  (opv_assign rfl) ?_
   refine th_done (by kernel_rfl) ?_
   refine tT (tri_ret ?_)
   refine tri_perm (A := ?a6_0 :: ?a6_1 :: ?a6_2 :: ?a6_3 :: ?a6_4 :: ?a6_5 :: ?a6_6 :: ?T6) (B := ?a6_5 :: ?a6_6 :: ?a6_0 :: ?a6_1 :: ?a6_2 :: ?a6_3 :: ?a6_4 :: ?T6) (by exact permL [5, 6, 0, 1, 2, 3, 4] [?a6_0, ?a6_1, ?a6_2, ?a6_3, ?a6_4, ?a6_5, ?a6_6] ?T6 (by decide) rfl) ?_
   refine tri_end _ (⟨[_, _], rfl⟩) rfl (.cons (rv_tmp rfl) (.cons (rv_tmp rfl) .nil)) ⟨a4, c4, es4, ds3, r.1.ns, r.2.1, rfl, rfl, fun _ => ⟨rfl, rfl, hi4', by rw [er4]; exact hmx5⟩, rfl⟩
end Go.GL


set_option linter.unusedVariables false
namespace Go.GL
open Go.Proofs
attribute [local irreducible] wpList Code.wp Exit.then Exit.inBlock Ends Tri TriH OpV OpG FnC epf wpAnyH
set_option maxHeartbeats 2000000 in
set_option maxRecDepth 100000 in
theorem leap_zero : LeapSpec 0 := by
 intro A I s a cap bl bx mb db room n j es ds r h hn hix hmx hj hr
 have hlv : (R6.nd s.ns n).lv = 2 := by rw [hn.2]; omega
 have hmf := hmx n j
 unfold R9.leap at hr
 skip
 refine fn_enter3 Try.func43 rfl Try.ntmps43 rfl fun w0 => ?_
 refine tS (tR (tA rfl rfl (tA rfl rfl (tN (tT (tS (tS ?_)))))))
 refine tR (tM rfl rfl ?_)
 refine tri_v (opv_nilCheck rfl) rfl ?_
 refine tri_v (opv_fieldAddr rfl rfl) rfl ?_
 refine tri_v (opv_load1 rfl rfl rfl) rfl ?_
 refine tM rfl rfl (tM rfl rfl ?_)
 refine tri_v (opv_buildS rfl rfl) rfl ?_
 refine tri_v (opv_lookup2 (P := Try.prog) (ks := [n, j]) zeroInt rfl rfl (keyTask n j) keyTaskAt rfl) rfl ?_
 refine tM rfl rfl ?_
 refine tri_v (opv_extract rfl rfl) rfl ?_
 refine tri_v (opv_extract rfl rfl) rfl ?_
 refine tA rfl rfl (tA rfl rfl (tN (tT (tS (tR (tM rfl rfl (tN ?_)))))))
 refine tT ?_
 obtain ⟨o, ho⟩ : ∃ o, R9.look9 s.mm n j = o := ⟨_, rfl⟩
 rw [ho] at hmf hr
 rcases o with _ | to
 ·simp only at hr
  refine tri_cond_false (congrArg (fun o => some (Value.bool (Option.isSome o))) hmf) ?_
  refine tri_skip (tT (tS (tS (tR (tM rfl rfl (tM rfl rfl ?_))))))
  refine tri_g (opg_call (xs := [_, _]) rfl (leaper_level hn.1)) rfl ?_
  rintro _ _ _ ⟨rfl, rfl, rfl⟩
  refine tri_v (opv_eql rfl rfl) rfl ?_
  refine tN (tT ?_)
  refine tri_cond_is rfl (hlv) ?_
  refine tR (tM rfl rfl ?_)
  refine tri_v (opv_nilCheck rfl) rfl ?_
  refine tri_v (opv_fieldAddr rfl rfl) rfl ?_
  refine tri_v (opv_loadA rfl rfl rfl) rfl ?_
  refine tM rfl rfl ?_
  refine tri_g (opg_call (xs := [_, _]) rfl (maker_step h.good h.len2 hix (h.kid hn) (h.right.bits hn.1 hlv))) rfl ?_
  rintro _ _ _ ⟨a1, c1, es1, rfl, rfl, hi1, rfl⟩
  obtain ⟨R, hR⟩ : ∃ R, R9.oneS room s n = R := ⟨_, rfl⟩
  have er1 : (R8.one s.ns room n).1 = R.1.ns := by rw [← hR]; rfl
  have er2 : (R8.one s.ns room n).2.1 = R.2.1 := by rw [← hR]; rfl
  have er3 : (R8.one s.ns room n).2.2 = R.2.2 := by rw [← hR]; rfl
  have er4 : R.1.mm = s.mm := by rw [← hR]; rfl
  rw [er1] at hi1
  rw [er1, er2, er3]
  rw [hR] at hr
  have hm1 : R.2.2 = 0 → MemIx (R.1.mm ++ [(n, j, R.2.1)]) (mset ds [n, j] (.int .i64 R.2.1)) := fun _ => by
   rw [er4]; exact hmx.snoc ho R.2.1
  have hst : R.2.2 = 0 → R.1.ns = R.1.ns ∧ R.2.1 = R.2.1 ∧ Idx R.1.ns es1 := fun _ => ⟨rfl, rfl, hi1⟩
  refine tM rfl rfl ?_
  refine tri_v (opv_extract rfl rfl) rfl ?_
  refine tri_v (opv_extract rfl rfl) rfl ?_
  refine tA rfl rfl (tA rfl rfl (tN (tT (tS (tS (tR (tM rfl rfl ?_)))))))
  refine tri_v (opv_eql rfl rfl) rfl ?_
  refine tN (tT ?_)
  refine tri_cond_dec rfl (fun x => ?_) (fun x => ?_)
  ·have hr' : r = (⟨R.1.ns, R.1.mm ++ [(n, j, R.2.1)]⟩, R.2.1, 0) := by rw [← hr]; unfold R9.keep; rw [if_neg (by simpa using x)]
   obtain ⟨e1, e2, e3⟩ := hst x
   refine tR (tM rfl rfl ?_)
   refine tri_v (opv_nilCheck rfl) rfl ?_
   refine tri_v (opv_fieldAddr rfl rfl) rfl ?_
   refine tri_v (opv_load1 rfl rfl rfl) rfl ?_
   refine tM rfl rfl (tM rfl rfl ?_)
   refine tri_v (opv_buildS rfl rfl) rfl ?_
   refine tM rfl rfl ?_
   refine tri_g (opg_mapUpdate (P := Try.prog) (ks := [n, j]) rfl rfl rfl (keyTask n j) keyTaskAt rfl) rfl ?_
   rintro _ _ _ ⟨rfl, rfl⟩
   refine tN (tT (tS (tR (tM rfl rfl (tM rfl rfl (tA rfl rfl (tA rfl rfl ?_)))))))
   refine tN (tT (tri_ret ?_))
   refine tri_end _ (⟨[], rfl⟩) rfl (.cons (rv_tmp rfl) (.cons (rv_tmp rfl) .nil)) ⟨a1, c1, es1, mset ds [n, j] (.int .i64 R.2.1), R.1.ns, R.2.1, by rw [hr', x]; rfl, rfl, fun _ => ?_, rfl⟩
   rw [hr']
   exact ⟨e1, e2, e3, hm1 x⟩
  ·have hr' : r = (R.1, 0, R.2.2) := by rw [← hr]; unfold R9.keep; rw [if_pos x]
   refine tri_skip (tT (tS (tR (tM rfl rfl (tM rfl rfl (tA rfl rfl (tA rfl rfl ?_)))))))
   refine tN (tT (tri_ret ?_))
   refine tri_end _ (⟨[], rfl⟩) rfl (.cons (rv_tmp rfl) (.cons (rv_tmp rfl) .nil)) ⟨a1, c1, es1, ds, R.1.ns, R.2.1, by rw [hr']; rfl, rfl, fun e => ?_, rfl⟩
   rw [hr'] at e
   exact absurd e x
 ·simp only at hr
  subst hr
  refine tri_cond_true (congrArg (fun o => some (Value.bool (Option.isSome o))) hmf) ?_
  refine tS (tR (tM rfl rfl (tA rfl rfl (tA rfl rfl (tN (tT (tri_ret ?_)))))))
  refine tri_then_ret ?_
  refine tri_end _ (⟨[], rfl⟩) rfl (.cons (rv_tmp rfl) (.cons (rv_tmp rfl) .nil)) ⟨a, cap, es, ds, s.ns, to, ?_, rfl, fun _ => ⟨rfl, rfl, hix, hmx⟩, rfl⟩
  rw [hmf]; rfl
set_option maxHeartbeats 2000000 in
set_option maxRecDepth 100000 in
theorem leap_succ {k : Nat} (ih : LeapSpec k) : LeapSpec (k + 1) := by
 intro A I s a cap bl bx mb db room n j es ds r h hn hix hmx hj hr
 have hlv : (R6.nd s.ns n).lv = k + 3 := by rw [hn.2]; omega
 have hmf := hmx n j
 unfold R9.leap at hr
 skip
 refine fn_enter3 Try.func43 rfl Try.ntmps43 rfl fun w0 => ?_
 refine tS (tR (tA rfl rfl (tA rfl rfl (tN (tT (tS (tS ?_)))))))
 refine tR (tM rfl rfl ?_)
 refine tri_v (opv_nilCheck rfl) rfl ?_
 refine tri_v (opv_fieldAddr rfl rfl) rfl ?_
 refine tri_v (opv_load1 rfl rfl rfl) rfl ?_
 refine tM rfl rfl (tM rfl rfl ?_)
 refine tri_v (opv_buildS rfl rfl) rfl ?_
 refine tri_v (opv_lookup2 (P := Try.prog) (ks := [n, j]) zeroInt rfl rfl (keyTask n j) keyTaskAt rfl) rfl ?_
 refine tM rfl rfl ?_
 refine tri_v (opv_extract rfl rfl) rfl ?_
 refine tri_v (opv_extract rfl rfl) rfl ?_
 refine tA rfl rfl (tA rfl rfl (tN (tT (tS (tR (tM rfl rfl (tN ?_)))))))
 refine tT ?_
 obtain ⟨o, ho⟩ : ∃ o, R9.look9 s.mm n j = o := ⟨_, rfl⟩
 rw [ho] at hmf hr
 rcases o with _ | to
 ·simp only at hr
  refine tri_cond_false (congrArg (fun o => some (Value.bool (Option.isSome o))) hmf) ?_
  refine tri_skip (tT (tS (tS (tR (tM rfl rfl (tM rfl rfl ?_))))))
  refine tri_g (opg_call (xs := [_, _]) rfl (leaper_level hn.1)) rfl ?_
  rintro _ _ _ ⟨rfl, rfl, rfl⟩
  refine tri_v (opv_eql rfl rfl) rfl ?_
  refine tN (tT ?_)
  refine tri_cond_not rfl (by rw [hlv]; omega) ?_
  refine tR (tM rfl rfl (tM rfl rfl (tM rfl rfl ?_)))
  obtain ⟨R, hR⟩ : ∃ R, R9.far (R9.leap room k) room (decide (j = k + 1)) s n j = R := ⟨_, rfl⟩
  rw [hR] at hr
  refine tri_g (opg_call (xs := [_, _, _]) rfl (leaper_make ih h hn hix hmx hj hR)) rfl ?_
  rintro _ _ _ ⟨a1, c1, es1, ds1, ns1, m1, rfl, rfl, h1, rfl⟩
  have hst : R.2.2 = 0 → ns1 = R.1.ns ∧ m1 = R.2.1 ∧ Idx R.1.ns es1 := fun e => ⟨(h1 e).1, (h1 e).2.1, (h1 e).2.2.1⟩
  refine tM rfl rfl ?_
  refine tri_v (opv_extract rfl rfl) rfl ?_
  refine tri_v (opv_extract rfl rfl) rfl ?_
  refine tA rfl rfl (tA rfl rfl (tN (tT (tS (tS (tR (tM rfl rfl ?_)))))))
  refine tri_v (opv_eql rfl rfl) rfl ?_
  refine tN (tT ?_)
  refine tri_cond_dec rfl (fun x => ?_) (fun x => ?_)
  ·have hr' : r = (⟨R.1.ns, R.1.mm ++ [(n, j, R.2.1)]⟩, R.2.1, 0) := by rw [← hr]; unfold R9.keep; rw [if_neg (by simpa using x)]
   obtain ⟨e1, e2, e3⟩ := hst x
   refine tR (tM rfl rfl ?_)
   refine tri_v (opv_nilCheck rfl) rfl ?_
   refine tri_v (opv_fieldAddr rfl rfl) rfl ?_
   refine tri_v (opv_load1 rfl rfl rfl) rfl ?_
   refine tM rfl rfl (tM rfl rfl ?_)
   refine tri_v (opv_buildS rfl rfl) rfl ?_
   refine tM rfl rfl ?_
   refine tri_g (opg_mapUpdate (P := Try.prog) (ks := [n, j]) rfl rfl rfl (keyTask n j) keyTaskAt rfl) rfl ?_
   rintro _ _ _ ⟨rfl, rfl⟩
   refine tN (tT (tS (tR (tM rfl rfl (tM rfl rfl (tA rfl rfl (tA rfl rfl ?_)))))))
   refine tN (tT (tri_ret ?_))
   refine tri_end _ (⟨[], rfl⟩) rfl (.cons (rv_tmp rfl) (.cons (rv_tmp rfl) .nil)) ⟨a1, c1, es1, mset ds1 [n, j] (.int .i64 m1), ns1, m1, by rw [hr', x]; rfl, rfl, fun _ => ?_, rfl⟩
   rw [hr']
   exact ⟨e1, e2, e3, by rw [← e2]; exact (h1 x).2.2.2.snoc ((R9.far_new (fun s q j hs hq he => R9.leap_gd k s q j hs hq he) (fun s q j hs hq he => R9.leap_new k s q j hs hq he) h hn (by rw [hR]; exact x)) |>.look (lv := k + 1) (hn.pre (R9.far_gd (fun s q j hs hq he => R9.leap_gd k s q j hs hq he) h hn (by rw [hR]; exact x)).pre) (by omega) ho |> fun q => by rw [hR] at q; exact q) _⟩
  ·have hr' : r = (R.1, 0, R.2.2) := by rw [← hr]; unfold R9.keep; rw [if_pos x]
   refine tri_skip (tT (tS (tR (tM rfl rfl (tM rfl rfl (tA rfl rfl (tA rfl rfl ?_)))))))
   refine tN (tT (tri_ret ?_))
   refine tri_end _ (⟨[], rfl⟩) rfl (.cons (rv_tmp rfl) (.cons (rv_tmp rfl) .nil)) ⟨a1, c1, es1, ds1, ns1, m1, by rw [hr']; rfl, rfl, fun e => ?_, rfl⟩
   rw [hr'] at e
   exact absurd e x
 ·simp only at hr
  subst hr
  refine tri_cond_true (congrArg (fun o => some (Value.bool (Option.isSome o))) hmf) ?_
  refine tS (tR (tM rfl rfl (tA rfl rfl (tA rfl rfl (tN (tT (tri_ret ?_)))))))
  refine tri_then_ret ?_
  refine tri_end _ (⟨[], rfl⟩) rfl (.cons (rv_tmp rfl) (.cons (rv_tmp rfl) .nil)) ⟨a, cap, es, ds, s.ns, to, ?_, rfl, fun _ => ⟨rfl, rfl, hix, hmx⟩, rfl⟩
  rw [hmf]; rfl
theorem leaper_leap : ∀ k, LeapSpec k
 | 0 => leap_zero
 | k + 1 => leap_succ (leaper_leap k)
end Go.GL


set_option linter.unusedVariables false
namespace Go.GL
open Go.Proofs
attribute [local irreducible] wpList Code.wp Exit.then Exit.inBlock Ends Tri TriH OpV OpG FnC epf wpAnyH
variable {A : List Asrt} {I : List Chunk}
namespace R9
def kd (ns : List Node) (n : Int) (i : Nat) : Int := (R6.nd ns n).kids.getD i default
def edgedP (ns : List Node) (n : Int) : Prop := ∃ k q : Nat, k < 4 ∧ q < 4 ∧ q + k ≠ 3 ∧ (R6.nd ns (kd ns (kd ns n k) q)).pop ≠ 0
theorem edged_iff (ns : List Node) (n : Int) : edged ns n = true ↔ edgedP ns n := by
 unfold edged edgedP
 rw [List.any_eq_true]
 constructor
 ·rintro ⟨i, hi, h⟩
  have h' := of_decide_eq_true h
  simp only [List.mem_cons, List.not_mem_nil, or_false] at hi
  rcases hi with rfl | rfl | rfl | rfl | rfl | rfl | rfl | rfl | rfl | rfl | rfl | rfl
  ·exact ⟨0, 0, by omega, by omega, by omega, h'⟩
  ·exact ⟨0, 1, by omega, by omega, by omega, h'⟩
  ·exact ⟨1, 0, by omega, by omega, by omega, h'⟩
  ·exact ⟨1, 1, by omega, by omega, by omega, h'⟩
  ·exact ⟨0, 2, by omega, by omega, by omega, h'⟩
  ·exact ⟨1, 3, by omega, by omega, by omega, h'⟩
  ·exact ⟨2, 0, by omega, by omega, by omega, h'⟩
  ·exact ⟨3, 1, by omega, by omega, by omega, h'⟩
  ·exact ⟨2, 2, by omega, by omega, by omega, h'⟩
  ·exact ⟨2, 3, by omega, by omega, by omega, h'⟩
  ·exact ⟨3, 2, by omega, by omega, by omega, h'⟩
  ·exact ⟨3, 3, by omega, by omega, by omega, h'⟩
 ·rintro ⟨k, q, hk, hq, hn, h⟩
  have key : ∀ i : Int, i ∈ [0, 1, 2, 3, 4, 7, 8, 11, 12, 13, 14, (15 : Int)] → (R6.nd ns (R8.g (R8.s16 ns n) i)).pop ≠ 0 → ∃ x, x ∈ [0, 1, 2, 3, 4, 7, 8, 11, 12, 13, 14, (15 : Int)] ∧ decide ((R6.nd ns (R8.g (R8.s16 ns n) x)).pop ≠ 0) = true := fun i hi h => ⟨i, hi, decide_eq_true h⟩
  match k, hk, q, hq, hn, h with
  | 0, _, 0, _, _, h => exact key 0 (by simp) h
  | 0, _, 1, _, _, h => exact key 1 (by simp) h
  | 0, _, 2, _, _, h => exact key 4 (by simp) h
  | 1, _, 0, _, _, h => exact key 2 (by simp) h
  | 1, _, 1, _, _, h => exact key 3 (by simp) h
  | 1, _, 3, _, _, h => exact key 7 (by simp) h
  | 2, _, 0, _, _, h => exact key 8 (by simp) h
  | 2, _, 2, _, _, h => exact key 12 (by simp) h
  | 2, _, 3, _, _, h => exact key 13 (by simp) h
  | 3, _, 1, _, _, h => exact key 11 (by simp) h
  | 3, _, 2, _, _, h => exact key 14 (by simp) h
  | 3, _, 3, _, _, h => exact key 15 (by simp) h
  | 0, _, 3, _, hn, _ => exact absurd rfl hn
  | 1, _, 2, _, hn, _ => exact absurd rfl hn
  | 2, _, 1, _, hn, _ => exact absurd rfl hn
  | 3, _, 0, _, hn, _ => exact absurd rfl hn
theorem kd_is {room : Int} {s : LS} (h : Lk room s) {lv : Nat} {n : Int} (hn : R7.IsN s.ns (lv + 1) n) {i : Nat} (hi : i < 4) : R7.IsN s.ns lv (kd s.ns n i) := by
 obtain ⟨a, b, c, d⟩ := R7.kids4 h.wf hn
 match i, hi with
 | 0, _ => exact a
 | 1, _ => exact b
 | 2, _ => exact c
 | 3, _ => exact d
end R9
set_option maxHeartbeats 2000000 in
set_option maxRecDepth 100000 in
theorem leaper_edged {lv : Nat} {s : R9.LS} {a : Option Addr} {cap bl bx mb db : Nat} {room n : Int} {es ds : KVs} (h : R9.Lk room s) (hn : R7.IsN s.ns (lv + 2) n) :
  FnC Try.prog 72 [pt bl 0, .int .i64 n].toArray (LxA bl bx mb db a cap s.ns room es ds A) I (fun v A' I' => v = .bool (R9.edged s.ns n) ∧ LxA bl bx mb db a cap s.ns room es ds A = A' ∧ I = I') := by
 obtain ⟨hn0, hn1⟩ := hn.1
 skip
 skip
 refine fn_enter2 Try.func72 rfl Try.ntmps72 rfl fun w0 => ?_
 refine tS (tR (tA rfl rfl (tN (tT (tS (tS (tR ?_)))))))
 refine tM rfl rfl ?_
 refine tri_v (opv_nilCheck rfl) rfl ?_
 refine tri_v (opv_fieldAddr rfl rfl) rfl ?_
 refine tri_v (opv_fieldAddr rfl rfl) rfl ?_
 refine tri_v (opv_load1 rfl rfl rfl) rfl ?_
 refine tri_v (opv_nilCheck rfl) rfl ?_
 refine tri_v (opv_fieldAddr rfl rfl) rfl ?_
 refine tri_v (opv_fieldAddr rfl rfl) rfl ?_
 refine tri_v (opv_load1 rfl rfl rfl) rfl ?_
 refine tM rfl rfl ?_
 refine tri_v (opv_indexAddrR rfl rfl (by omega) (by omega)) rfl ?_
 refine tri_v (opv_fieldAddrR rfl (by omega) rfl) rfl ?_
 refine tri_v (opv_loadRXA rfl rfl (by omega) rfl rfl rfl) rfl ?_
 refine tM rfl rfl (tN (tT (tri_block ?_)))
 refine tri_sub (F' := [(0, pt bl 0), (21, .agg (ints (R6.nd s.ns n).kids).toArray), (22, .int .i64 (0 : Nat))]) ⟨rfl, rfl, rfl, trivial⟩ ?_
 refine loop_ind (G := Nat) (fun i => 4 - i) (fun i => i ≤ 4 ∧ ∀ k q : Nat, k < i → q < 4 → q + k ≠ 3 → (R6.nd s.ns (R9.kd s.ns (R9.kd s.ns n k) q)).pop = 0) (fun i => [(0, pt bl 0), (21, .agg (ints (R6.nd s.ns n).kids).toArray), (22, .int .i64 (i : Nat))]) (fun _ => _) (fun _ => _) ?_ 0 ⟨by omega, fun k q hk => absurd hk (by omega)⟩
 rintro i ⟨hi, hz⟩ K hK
 skip
 refine tS (tR ?_)
 refine tri_v (opv_lss rfl rfl) rfl ?_
 refine tN (tT (tS ?_))
 refine tri_cond_dec rfl (fun h4 => ?_) (fun h4 => ?_)
 ·have hi4 : i < 4 := by omega
  have hkid := R9.kd_is h hn hi4
  obtain ⟨hk0, hk1⟩ := hkid.1
  have ekd : (R6.nd s.ns n).kids.getD ((i : Nat) : Int).toNat default = R9.kd s.ns n i := by rw [Int.toNat_natCast]; rfl
  refine tri_skip (tT (tS (tri_block (tS (tR (tM rfl rfl ?_))))))
  refine tri_v (opv_indexIX (l := (R6.nd s.ns n).kids) (l2 := 4) rfl rfl (by omega) (by omega) rfl) rfl ?_
  rw [ekd]
  refine tA rfl rfl (tA rfl rfl (tN (tT (tS (tR (tM rfl rfl ?_))))))
  refine tri_v (opv_nilCheck rfl) rfl ?_
  refine tri_v (opv_fieldAddr rfl rfl) rfl ?_
  refine tri_v (opv_fieldAddr rfl rfl) rfl ?_
  refine tri_v (opv_load1 rfl rfl rfl) rfl ?_
  refine tri_v (opv_nilCheck rfl) rfl ?_
  refine tri_v (opv_fieldAddr rfl rfl) rfl ?_
  refine tri_v (opv_fieldAddr rfl rfl) rfl ?_
  refine tri_v (opv_load1 rfl rfl rfl) rfl ?_
  refine tM rfl rfl ?_
  refine tri_v (opv_indexAddrR rfl rfl (by omega) (by omega)) rfl ?_
  refine tri_v (opv_fieldAddrR rfl (by omega) rfl) rfl ?_
  refine tri_v (opv_loadRXA rfl rfl (by omega) rfl rfl rfl) rfl ?_
  refine tM rfl rfl (tN (tT (tri_block ?_)))
  refine tri_sub (F' := [(0, pt bl 0), (5, .int .i64 (i : Nat)), (21, .agg (ints (R6.nd s.ns n).kids).toArray), (22, .int .i64 (i : Nat)), (38, .agg (ints (R6.nd s.ns (R9.kd s.ns n i)).kids).toArray), (39, .int .i64 (0 : Nat))]) ⟨rfl, rfl, rfl, rfl, rfl, rfl, trivial⟩ ?_
  refine loop_ind (G := Nat) (fun q => 4 - q) (fun q => q ≤ 4 ∧ ∀ q' : Nat, q' < q → q' + i ≠ 3 → (R6.nd s.ns (R9.kd s.ns (R9.kd s.ns n i) q')).pop = 0) (fun q => [(0, pt bl 0), (5, .int .i64 (i : Nat)), (21, .agg (ints (R6.nd s.ns n).kids).toArray), (22, .int .i64 (i : Nat)), (38, .agg (ints (R6.nd s.ns (R9.kd s.ns n i)).kids).toArray), (39, .int .i64 (q : Nat))]) (fun _ => _) (fun _ => _) ?_ 0 ⟨by omega, fun q' hq => absurd hq (by omega)⟩
  rintro q ⟨hq, hzq⟩ K2 hK2
  skip
  refine tS (tR ?_)
  refine tri_v (opv_lss rfl rfl) rfl ?_
  refine tN (tT (tS ?_))
  refine tri_cond_dec rfl (fun h5 => ?_) (fun h5 => ?_)
  ·have hq4 : q < 4 := by omega
   have hg := R9.kd_is h hkid hq4
   obtain ⟨hg0, hg1⟩ := hg.1
   have ekd2 : (R6.nd s.ns (R9.kd s.ns n i)).kids.getD ((q : Nat) : Int).toNat default = R9.kd s.ns (R9.kd s.ns n i) q := by rw [Int.toNat_natCast]; rfl
   refine tri_skip (tT (tS (tri_block (tS (tR (tM rfl rfl ?_))))))
   refine tri_v (opv_indexIX (l := (R6.nd s.ns (R9.kd s.ns n i)).kids) (l2 := 4) rfl rfl (by omega) (by omega) rfl) rfl ?_
   rw [ekd2]
   refine tA rfl rfl (tA rfl rfl (tN (tT (tS (tR (tM rfl rfl (tM rfl rfl ?_)))))))
   refine tri_v (opv_sub rfl rfl (w64 (by omega) (by omega))) rfl ?_
   refine tri_v (opv_neq rfl rfl) rfl ?_
   refine tM rfl rfl ?_
   refine tri_split rfl rfl (fun h6 => ?_) (fun h6 => ?_)
   ·refine tri_guard_run rfl rfl rfl (tM rfl rfl (tri_guard_run rfl rfl rfl ?_))
    refine tri_v (opv_nilCheck rfl) rfl ?_
    refine tri_guard_run rfl rfl rfl ?_
    refine tri_v (opv_fieldAddr rfl rfl) rfl ?_
    refine tri_guard_run rfl rfl rfl ?_
    refine tri_v (opv_fieldAddr rfl rfl) rfl ?_
    refine tri_guard_run rfl rfl rfl ?_
    refine tri_v (opv_load1 rfl rfl rfl) rfl ?_
    refine tri_guard_run rfl rfl rfl ?_
    refine tri_v (opv_nilCheck rfl) rfl ?_
    refine tri_guard_run rfl rfl rfl ?_
    refine tri_v (opv_fieldAddr rfl rfl) rfl ?_
    refine tri_guard_run rfl rfl rfl ?_
    refine tri_v (opv_fieldAddr rfl rfl) rfl ?_
    refine tri_guard_run rfl rfl rfl ?_
    refine tri_v (opv_load1 rfl rfl rfl) rfl ?_
    refine tri_guard_run rfl rfl rfl (tM rfl rfl (tri_guard_run rfl rfl rfl ?_))
    refine tri_v (opv_indexAddrR rfl rfl (by omega) (by omega)) rfl ?_
    refine tri_guard_run rfl rfl rfl ?_
    refine tri_v (opv_fieldAddrR rfl (by omega) rfl) rfl ?_
    refine tri_guard_run rfl rfl rfl ?_
    refine tri_v (opv_loadRX1 rfl rfl (by omega) rfl rfl) rfl ?_
    refine tri_guard_run rfl rfl rfl ?_
    refine tri_v (opv_neq rfl rfl) rfl ?_
    refine tri_v (opv_pick_t rfl rfl) rfl ?_
    refine tN (tT ?_)
    refine tri_cond_dec rfl (fun h7 => ?_) (fun h7 => ?_)
    ·refine tS (tR (tA rfl rfl (tN (tT (tri_ret ?_)))))
     refine tri_inBlock_ret ?_
     refine tri_then_ret (tri_then_ret ?_)
     refine tri_inBlock_ret ?_
     refine tri_inBlock_ret ?_
     refine tri_then_ret (tri_then_ret ?_)
     refine tri_inBlock_ret ?_
     refine tri_then_ret ?_
     refine tri_end _ (⟨[], rfl⟩) rfl (.cons (rv_tmp rfl) .nil) ⟨?_, rfl, rfl⟩
     rw [(R9.edged_iff s.ns n).2 ⟨i, q, hi4, hq4, by omega, h7⟩]; rfl
    ·refine tri_skip ?_
     refine tri_inBlock ?_
     refine tT (tR ?_)
     refine tU rfl rfl (by omega) (by omega) rfl ?_
     refine tM rfl rfl (tN (tT ?_))
     refine tri_sub ?_ (hK2 (q + 1) ⟨by omega, fun q' hq' hne => ?_⟩ (by omega))
     ·exact ⟨rfl, rfl, rfl, rfl, rfl, rfl, trivial⟩
     ·by_cases e : q' = q
      ·subst e; exact Decidable.not_not.1 h7
      ·exact hzq q' (by omega) hne
   ·refine tri_guard_skip rfl rfl rfl rfl (tri_guard_skip rfl rfl rfl rfl (tri_guard_skip rfl rfl rfl rfl (tri_guard_skip rfl rfl rfl rfl (tri_guard_skip rfl rfl rfl rfl (tri_guard_skip rfl rfl rfl rfl (tri_guard_skip rfl rfl rfl rfl (tri_guard_skip rfl rfl rfl rfl ?_)))))))
    refine tri_guard_skip rfl rfl rfl rfl (tri_guard_skip rfl rfl rfl rfl (tri_guard_skip rfl rfl rfl rfl (tri_guard_skip rfl rfl rfl rfl (tri_guard_skip rfl rfl rfl rfl (tri_guard_skip rfl rfl rfl rfl ?_)))))
    refine tri_v (opv_pick_f rfl rfl) rfl ?_
    refine tN (tT ?_)
    refine tri_cond_false rfl ?_
    refine tri_skip ?_
    refine tri_inBlock ?_
    refine tT (tR ?_)
    refine tU rfl rfl (by omega) (by omega) rfl ?_
    refine tM rfl rfl (tN (tT ?_))
    refine tri_sub ?_ (hK2 (q + 1) ⟨by omega, fun q' hq' hne => ?_⟩ (by omega))
    ·exact ⟨rfl, rfl, rfl, rfl, rfl, rfl, trivial⟩
    ·by_cases e : q' = q
     ·subst e; exfalso; omega
     ·exact hzq q' (by omega) hne
  ·refine tri_exit ?_
   refine tri_then_exit ?_
   refine tri_then_exit ?_
   refine tri_inBlock_hit rfl ?_
   refine tri_inBlock ?_
   refine tT (tR ?_)
   refine tU rfl rfl (by omega) (by omega) rfl ?_
   refine tM rfl rfl (tN (tT ?_))
   refine tri_sub ?_ (hK (i + 1) ⟨by omega, fun k q' hk hq' hne => ?_⟩ (by omega))
   ·exact ⟨rfl, rfl, rfl, trivial⟩
   ·by_cases e : k = i
    ·subst e; exact hzq q' (by omega) hne
    ·exact hz k q' (by omega) hq' hne
 ·refine tri_exit ?_
  refine tri_then_exit ?_
  refine tri_then_exit ?_
  refine tri_inBlock_hit rfl ?_
  refine tT (tS (tR (tA rfl rfl (tN (tT (tri_ret ?_))))))
  refine tri_end _ (⟨[], rfl⟩) rfl (.cons (rv_tmp rfl) .nil) ⟨?_, rfl, rfl⟩
  have : R9.edged s.ns n = false := by
   cases he : R9.edged s.ns n
   ·rfl
   ·obtain ⟨k, q, hk, hq, hne, hp⟩ := (R9.edged_iff s.ns n).1 he
    exact absurd (hz k q (by omega) hq hne) hp
  rw [this]; rfl
end Go.GL


set_option linter.unusedVariables false
namespace Go.GL
open Go.Proofs
attribute [local irreducible] wpList Code.wp Exit.then Exit.inBlock Ends Tri TriH OpV OpG FnC epf wpAnyH
variable {A : List Asrt} {I : List Chunk}
set_option maxHeartbeats 2000000 in
set_option maxRecDepth 100000 in
theorem leaper_trim {k : Nat} {s : R9.LS} {a : Option Addr} {cap bl bx mb db : Nat} {room n : Int} {es ds : KVs} {r : R9.L9} (h : R9.Lk room s) (hn : R7.IsN s.ns (k + 2) n) (hix : Idx s.ns es) (hmx : MemIx s.mm ds) (hr : R9.trim room k s n = r) :
  FnC Try.prog 48 [pt bl 0, .int .i64 n].toArray (LxA bl bx mb db a cap s.ns room es ds A) I (LxR bl bx mb db r room A I) := by
 skip
 refine fn_enter2 Try.func48 rfl Try.ntmps48 rfl fun w0 => ?_
 refine tS (tR (tA rfl rfl (tA rfl rfl (tN (tT (tS (tR ?_)))))))
 refine tA rfl rfl (tN (tT (tS (tri_block ?_))))
 refine tri_sub (F' := [(0, pt bl 0), (1, .int .i64 n), (6, .int .i64 0)]) ⟨rfl, rfl, rfl, trivial⟩ ?_
 refine loop_ind (G := Nat × R9.LS × Int × Option Addr × Nat × KVs × Int) (fun g => 2 * g.1 + (if g.2.2.2.2.2.2 = 0 then 1 else 0)) (fun g => (g.2.2.2.2.2.2 = 0 → R9.Lk room g.2.1 ∧ R7.IsN g.2.1.ns (g.1 + 2) g.2.2.1 ∧ Idx g.2.1.ns g.2.2.2.2.2.1 ∧ MemIx g.2.1.mm ds ∧ R9.trim room g.1 g.2.1 g.2.2.1 = r) ∧ (g.2.2.2.2.2.2 ≠ 0 → r.2.2 = g.2.2.2.2.2.2)) (fun g => [(0, pt bl 0), (1, .int .i64 g.2.2.1), (6, .int .i64 g.2.2.2.2.2.2)]) (fun g => LxA bl bx mb db g.2.2.2.1 g.2.2.2.2.1 g.2.1.ns room g.2.2.2.2.2.1 ds A) (fun _ => I) ?_ (k, s, n, a, cap, es, 0) ⟨fun _ => ⟨h, hn, hix, hmx, hr⟩, fun e => absurd rfl e⟩
 rintro ⟨k1, s1, n1, a1, c1, es1, er⟩ ⟨ho, hne⟩ K hK
 simp only at ho hne hK ⊢
 skip
 refine tS (tS (tR (tM rfl rfl ?_)))
 refine tri_v (by first | exact opv_eql rfl rfl | exact opv_eqlI rfl rfl rfl rfl rfl rfl | exact opv_eqlB rfl rfl | exact opv_eqlNil rfl rfl) rfl ?_
 refine tM rfl rfl ?_
 refine tri_split rfl rfl (fun h1 => ?_) (fun h1 => ?_)
 ·obtain ⟨hlk, hn1, hx1, hm1, hr1⟩ := ho h1
  have hlv : (R6.nd s1.ns n1).lv = k1 + 2 := by rw [hn1.2]; omega
  refine tri_guard_run rfl rfl rfl (tM rfl rfl (tri_guard_run rfl rfl rfl (tM rfl rfl (tri_guard_run rfl rfl rfl ?_))))
  refine tri_g (opg_call (xs := [_, _]) rfl (leaper_level hn1.1)) rfl ?_
  rintro _ _ _ ⟨rfl, rfl, rfl⟩
  refine tri_guard_run rfl rfl rfl ?_
  refine tri_v (opv_gtr rfl rfl) rfl ?_
  refine tri_v (by first | exact opv_pick_t rfl rfl | exact opv_pick_f rfl rfl | exact opv_pick_bool rfl rfl rfl | exact opv_pick rfl rfl rfl) rfl ?_
  refine tM rfl rfl ?_
  refine tri_split rfl rfl (fun h2 => ?_) (fun h2 => ?_)
  ·obtain ⟨k2, rfl⟩ : ∃ k2, k1 = k2 + 1 := ⟨k1 - 1, by omega⟩
   unfold R9.trim at hr1
   refine tri_guard_run rfl rfl rfl (tM rfl rfl (tri_guard_run rfl rfl rfl (tM rfl rfl (tri_guard_run rfl rfl rfl ?_))))
   refine tri_g (opg_call (xs := [_, _]) rfl (leaper_edged (lv := k2 + 1) hlk hn1)) rfl ?_
   rintro _ _ _ ⟨rfl, rfl, rfl⟩
   refine tri_guard_run rfl rfl rfl ?_
   refine tri_v (by first | exact opv_notD rfl | exact opv_not rfl) rfl ?_
   refine tri_v (by first | exact opv_pick_t rfl rfl | exact opv_pick_f rfl rfl | exact opv_pick_bool rfl rfl rfl | exact opv_pick rfl rfl rfl) rfl ?_
   refine tN (tT ?_)
   refine tri_cond rfl (fun h3 => ?_) (fun h3 => ?_)
   ·have h3' : ¬ R9.edged s1.ns n1 = true := by simpa using h3
    rw [if_neg h3'] at hr1
    obtain ⟨R, hR⟩ : ∃ R, R9.midS room s1 n1 = R := ⟨_, rfl⟩
    rw [hR] at hr1
    have hgd := fun e => R9.midS_gd (lv := k2 + 1) hlk hn1 (by rw [hR]; exact e)
    rw [hR] at hgd
    have er1 : (R8.putSq s1.ns room (R8.s16 s1.ns n1) 1 1).1 = R.1.ns := by rw [← hR]; rfl
    have er2 : (R8.putSq s1.ns room (R8.s16 s1.ns n1) 1 1).2.1 = R.2.1 := by rw [← hR]; rfl
    have er3 : (R8.putSq s1.ns room (R8.s16 s1.ns n1) 1 1).2.2 = R.2.2 := by rw [← hR]; rfl
    have er4 : R.1.mm = s1.mm := by rw [← hR]; rfl
    refine tri_skip (tT (tri_block (tR (tM rfl rfl ?_))))
    refine tri_v (opv_nilCheck rfl) rfl ?_
    refine tri_v (by first | exact opv_fieldAddr rfl rfl | exact opv_fieldAddrE rfl (by assumption) (by omega) rfl | exact opv_fieldAddrR rfl (by omega) rfl | exact opv_fieldAddrP rfl rfl rfl) rfl ?_
    refine tri_v (by first | exact opv_load1 rfl rfl rfl | exact opv_loadA rfl rfl rfl | exact opv_loadE1 rfl (by assumption) rfl (by omega) rfl rfl | exact opv_loadEA rfl (by assumption) rfl (by omega) rfl rfl | exact opv_loadRX1 rfl rfl (by omega) rfl rfl | exact opv_loadRXA rfl rfl (by omega) rfl rfl rfl | exact opv_loadIX rfl rfl (by omega) | exact opv_loadR1 rfl rfl rfl | exact opv_loadRA rfl rfl rfl rfl) rfl ?_
    refine tM rfl rfl ?_
    refine tri_g (opg_call (xs := [_, _]) rfl (maker_centre hlk.good hlk.len2 hx1 (hlk.kid hn1))) rfl ?_
    rintro _ _ _ ⟨a3, c3, es3, rfl, rfl, hi3, rfl⟩
    rw [er1] at hi3
    rw [er1, er2, er3]
    refine tM rfl rfl ?_
    refine tri_v (opv_extract rfl rfl) rfl ?_
    refine tri_v (opv_extract rfl rfl) rfl ?_
    refine tA rfl rfl (tA rfl rfl (tN ?_))
    refine tri_inBlock ?_
    refine tT ?_
    refine tri_sub ?_ (hK (k2, R.1, R.2.1, a3, c3, es3, R.2.2) ⟨fun e => ?_, fun e => ?_⟩ (by simp only; rw [if_pos h1]; split <;> omega))
    ·exact ⟨rfl, rfl, rfl, trivial⟩
    ·simp only at e
     rw [if_neg (by simpa using e)] at hr1
     exact ⟨(hgd e).lk, (hgd e).is, hi3, by rw [er4]; exact hm1, hr1⟩
    ·simp only at e
     rw [if_pos e] at hr1
     rw [← hr1]
   ·have h3' : R9.edged s1.ns n1 = true := by simpa using h3
    rw [if_pos h3'] at hr1
    subst hr1
    refine tri_exit ?_
    refine tri_then_exit ?_
    refine tri_then_exit ?_
    refine tri_inBlock_hit rfl ?_
    refine tT (tS (tR (tM rfl rfl (tM rfl rfl (tA rfl rfl (tA rfl rfl (tN ?_)))))))
    refine tT (tri_ret ?_)
    refine tri_end _ (by first | exact ⟨[], rfl⟩ | exact ⟨[_], rfl⟩ | exact ⟨[_, _], rfl⟩ | exact ⟨[_, _, _], rfl⟩ | exact ⟨[_, _, _, _], rfl⟩ | exact ⟨[_, _, _, _, _], rfl⟩ | exact ⟨[_, _, _, _, _, _], rfl⟩ | exact ⟨[_, _, _, _, _, _, _], rfl⟩ | exact ⟨[_, _, _, _, _, _, _, _], rfl⟩) rfl (.cons (rv_tmp rfl) (.cons (rv_tmp rfl) .nil)) ⟨a1, c1, es1, ds, s1.ns, n1, by rw [h1]; rfl, rfl, fun _ => ⟨rfl, rfl, hx1, hm1⟩, rfl⟩
  ·have hk0 : k1 = 0 := by omega
   subst hk0
   unfold R9.trim at hr1
   subst hr1
   refine tri_guard_skip rfl rfl rfl rfl (tri_guard_skip rfl rfl rfl rfl (tri_guard_skip rfl rfl rfl rfl (tri_guard_skip rfl rfl rfl rfl ?_)))
   refine tri_v (by first | exact opv_pick_t rfl rfl | exact opv_pick_f rfl rfl | exact opv_pick_bool rfl rfl rfl | exact opv_pick rfl rfl rfl) rfl ?_
   refine tN (tT ?_)
   refine tri_cond_false rfl ?_
   refine tri_exit ?_
   refine tri_then_exit ?_
   refine tri_then_exit ?_
   refine tri_inBlock_hit rfl ?_
   refine tT (tS (tR (tM rfl rfl (tM rfl rfl (tA rfl rfl (tA rfl rfl (tN ?_)))))))
   refine tT (tri_ret ?_)
   refine tri_end _ (by first | exact ⟨[], rfl⟩ | exact ⟨[_], rfl⟩ | exact ⟨[_, _], rfl⟩ | exact ⟨[_, _, _], rfl⟩ | exact ⟨[_, _, _, _], rfl⟩ | exact ⟨[_, _, _, _, _], rfl⟩ | exact ⟨[_, _, _, _, _, _], rfl⟩ | exact ⟨[_, _, _, _, _, _, _], rfl⟩ | exact ⟨[_, _, _, _, _, _, _, _], rfl⟩) rfl (.cons (rv_tmp rfl) (.cons (rv_tmp rfl) .nil)) ⟨a1, c1, es1, ds, s1.ns, n1, by rw [h1]; rfl, rfl, fun _ => ⟨rfl, rfl, hx1, hm1⟩, rfl⟩
 ·refine tri_guard_skip rfl rfl rfl rfl (tri_guard_skip rfl rfl rfl rfl (tri_guard_skip rfl rfl rfl rfl (tri_guard_skip rfl rfl rfl rfl ?_)))
  refine tri_v (by first | exact opv_pick_t rfl rfl | exact opv_pick_f rfl rfl | exact opv_pick_bool rfl rfl rfl | exact opv_pick rfl rfl rfl) rfl ?_
  refine tM rfl rfl (tri_guard_skip rfl rfl rfl rfl (tri_guard_skip rfl rfl rfl rfl (tri_guard_skip rfl rfl rfl rfl (tri_guard_skip rfl rfl rfl rfl ?_))))
  refine tri_v (by first | exact opv_pick_t rfl rfl | exact opv_pick_f rfl rfl | exact opv_pick_bool rfl rfl rfl | exact opv_pick rfl rfl rfl) rfl ?_
  refine tN (tT ?_)
  refine tri_cond_false rfl ?_
  refine tri_exit ?_
  refine tri_then_exit ?_
  refine tri_then_exit ?_
  refine tri_inBlock_hit rfl ?_
  refine tT (tS (tR (tM rfl rfl (tM rfl rfl (tA rfl rfl (tA rfl rfl (tN ?_)))))))
  refine tT (tri_ret ?_)
  refine tri_end _ (by first | exact ⟨[], rfl⟩ | exact ⟨[_], rfl⟩ | exact ⟨[_, _], rfl⟩ | exact ⟨[_, _, _], rfl⟩ | exact ⟨[_, _, _, _], rfl⟩ | exact ⟨[_, _, _, _, _], rfl⟩ | exact ⟨[_, _, _, _, _, _], rfl⟩ | exact ⟨[_, _, _, _, _, _, _], rfl⟩ | exact ⟨[_, _, _, _, _, _, _, _], rfl⟩) rfl (.cons (rv_tmp rfl) (.cons (rv_tmp rfl) .nil)) ⟨a1, c1, es1, ds, s1.ns, n1, by rw [hne h1]; rfl, rfl, fun e => absurd ((hne h1).symm.trans e) h1, rfl⟩
end Go.GL


set_option linter.unusedVariables false
namespace Go.GL
open Go.Proofs
attribute [local irreducible] wpList Code.wp Exit.then Exit.inBlock Ends Tri TriH OpV OpG FnC epf wpAnyH
variable {A : List Asrt} {I : List Chunk}
theorem bigK_set (d v : Int) {i : Nat} (hi : i < 4) : ([d, d, d, d] : List Int).set (0 + (3 - ((i : Nat) : Int)).toNat * 1) v = [R9.bigK d i v 0, R9.bigK d i v 1, R9.bigK d i v 2, R9.bigK d i v 3] := by
 match i, hi with
 | 0, _ => rfl
 | 1, _ => rfl
 | 2, _ => rfl
 | 3, _ => rfl
set_option maxHeartbeats 2000000 in
set_option maxRecDepth 100000 in
theorem leaper_grow {k : Nat} {s : R9.LS} {a : Option Addr} {cap bl bx mb db : Nat} {room n : Int} {es ds : KVs} {r : R9.L9} (h : R9.Lk room s) (hn : R7.IsN s.ns (k + 2) n) (hix : Idx s.ns es) (hmx : MemIx s.mm ds) (hr : R9.grow room s n = r) :
  FnC Try.prog 94 [pt bl 0, .int .i64 n].toArray (LxA bl bx mb db a cap s.ns room es ds A) I (LxR bl bx mb db r room A I) := by
 have hlv : (R6.nd s.ns n).lv = (k + 2 : Nat) := by rw [hn.2]
 have hlvb := (h.wf.lvb hn.1).2
 rw [R9.grow_eq, show ((R6.nd s.ns n).lv - 1).toNat = k + 1 by omega] at hr
 skip
 skip
 skip
 refine fn_enter2 Try.func94 rfl Try.ntmps94 rfl fun w0 => ?_
 refine tS (tR (tA rfl rfl (tA rfl rfl (tN (tT (tS (tS ?_)))))))
 refine tR (tM rfl rfl (tM rfl rfl ?_))
 refine tri_g (opg_call (xs := [_, _]) rfl (leaper_level hn.1)) rfl ?_
 rintro _ _ _ ⟨rfl, rfl, rfl⟩
 refine tri_v (opv_geq rfl rfl) rfl ?_
 refine tN (tT ?_)
 refine tri_cond_dec rfl (fun h1 => ?_) (fun h1 => ?_)
 ·rw [if_pos h1] at hr
  subst hr
  refine tS (tR (tA rfl rfl (tA rfl rfl (tN (tT (tri_ret (tri_then_ret ?_)))))))
  refine tri_end _ (⟨[], rfl⟩) rfl (.cons (rv_tmp rfl) (.cons (rv_tmp rfl) .nil)) ⟨a, cap, es, ds, s.ns, 0, rfl, rfl, fun e => absurd e (show ¬ (2 : Int) = 0 by decide), rfl⟩
 skip
 rw [if_neg h1] at hr
 obtain ⟨D, hD⟩ : ∃ D, R7.empty s.ns room (k + 1) = D := ⟨_, rfl⟩
 rw [hD] at hr
 have hDg := fun e : D.2.2 = 0 => R9.empty_gd (lv := k + 1) h.right (by rw [hD]; exact e)
 rw [hD] at hDg
 skip
 refine tri_skip (tT (tS ?_))
 refine tri_draw [0, 1, 2, 3, 4, 5, 6, 7, 8, 9, 10, 11, 12, 13, 14] rfl [_, _, _] rfl mixed ?_
 refine th_take rfl rfl (by kernel_rfl)  (opv_move rfl) ?_
 refine th_take rfl rfl (by kernel_rfl)  (opv_nilCheck rfl) ?_
 refine th_take rfl rfl (by kernel_rfl)  (opv_fieldAddr rfl rfl) ?_
 refine th_take rfl rfl (by kernel_rfl)  (opv_fieldAddr rfl rfl) ?_
 refine th_take rfl rfl (by kernel_rfl)  (opv_load1 rfl rfl rfl) ?_
 refine th_take rfl rfl (by kernel_rfl)  (opv_move rfl) ?_
 refine th_take rfl rfl (by kernel_rfl)  (opv_move rfl) ?_
 refine th_one (by kernel_rfl) (step_m rfl rfl (opg_call (xs := [_, _]) rfl (leaper_level hn.1)) ?_)
 rintro _ _ _ ⟨rfl, rfl, rfl⟩
 refine ⟨Suf.h, (fun _ h => h), ?_⟩
 rw [hlv]
 refine th_take rfl rfl (by kernel_rfl)  (opv_sub rfl rfl (w64 (by omega) (by omega))) ?_
 rw [show ((k + 2 : Nat) : Int) - 1 = ((k + 1 : Nat) : Int) by omega]
 refine th_one (by kernel_rfl) (step_m rfl rfl (opg_call (xs := [_, _]) rfl (index_empty (lv := k + 1) (by omega) h.good h.len2 hix)) ?_)
 rintro _ _ _ ⟨a1, c1, es1, rfl, rfl, hi1, rfl⟩
 refine ⟨Suf.h, (fun _ h => h), ?_⟩
 rw [hD] at hi1
 rw [hD]
 refine th_take rfl rfl (by kernel_rfl)  (opv_move rfl) ?_
 refine th_take rfl rfl (by kernel_rfl)  (opv_extract rfl rfl) ?_
 refine th_take rfl rfl (by kernel_rfl)  (opv_extract rfl rfl) ?_
 refine th_take rfl rfl (by kernel_rfl)  (opv_assign rfl) ?_
 refine th_take rfl rfl (by kernel_rfl)  (opv_assign rfl) ?_
 refine th_done (by kernel_rfl) ?_
 refine tT (tS (tS (tR (tM rfl rfl ?_))))
 refine tri_v (opv_neq rfl rfl) rfl ?_
 refine tN (tT ?_)
 refine tri_cond_dec rfl (fun h2 => ?_) (fun h2 => ?_)
 ·rw [if_pos h2] at hr
  subst hr
  refine tS (tR (tM rfl rfl (tA rfl rfl (tA rfl rfl (tN (tT (tri_ret ?_)))))))
  refine tri_then_ret ?_
  refine tri_end _ (⟨[], rfl⟩) rfl (.cons (rv_tmp rfl) (.cons (rv_tmp rfl) .nil)) ⟨a1, c1, es1, ds, D.1, 0, rfl, rfl, fun e => absurd e h2, rfl⟩
 skip
 have h2' : D.2.2 = 0 := Decidable.not_not.1 h2
 rw [if_neg h2] at hr
 obtain ⟨dr, dp, di⟩ := hDg h2'
 have hnp : R6.nd D.1 n = R6.nd s.ns n := R6.nd_pre dp hn.1
 have lk1 : R9.Lk room (⟨D.1, s.mm⟩ : R9.LS) := ⟨dr, h.mem.pre dp⟩
 have hkid : ∀ q : Nat, q < 4 → R7.IsN D.1 (k + 1) ((R6.nd s.ns n).kids.getD q default) := fun q hq => (R9.kids_getD h.wf hn hq).pre dp
 obtain ⟨hn0, hn1⟩ := hn.1
 have hn2 : n < (D.1.length : Int) := by have := dp.length_le; omega
 obtain ⟨R2, hR2⟩ : ∃ R2, R9.mapS (R9.growF room D.2.1 (R6.nd s.ns n).kids) ⟨D.1, s.mm⟩ R9.k4 = R2 := ⟨_, rfl⟩
 rw [hR2] at hr
 rw [← hnp] at hkid hR2
 obtain ⟨ks, hks⟩ : ∃ ks, (R6.nd D.1 n).kids = ks := ⟨_, rfl⟩
 have hkl : (4 : Nat) = ks.length := by rw [← hks]; rfl
 rw [hks] at hkid hR2
 refine tri_skip (tT (tS (tR ?_)))
 refine tri_g opg_alloc rfl ?_
 rintro _ _ _ ⟨b8, rfl, rfl, rfl⟩
 refine tN (tT (tS (tS (tR (tM rfl rfl ?_)))))
 refine tri_v (opv_nilCheck rfl) rfl ?_
 refine tri_v (opv_fieldAddr rfl rfl) rfl ?_
 refine tri_v (opv_fieldAddr rfl rfl) rfl ?_
 refine tri_v (opv_load1 rfl rfl rfl) rfl ?_
 refine tri_v (opv_nilCheck rfl) rfl ?_
 refine tri_v (opv_fieldAddr rfl rfl) rfl ?_
 refine tri_v (opv_fieldAddr rfl rfl) rfl ?_
 refine tri_v (opv_load1 rfl rfl rfl) rfl ?_
 refine tM rfl rfl ?_
 refine tri_v (opv_indexAddrR rfl rfl (by omega) (by omega)) rfl ?_
 refine tri_v (opv_fieldAddrR rfl (by omega) rfl) rfl ?_
 refine tri_v (opv_loadRXA rfl rfl (by omega) rfl rfl rfl) rfl ?_
 refine tM rfl rfl (tN (tT (tri_block ?_)))
 refine tri_perm (A := ?a1_0 :: ?a1_1 :: ?a1_2 :: ?a1_3 :: ?a1_4 :: ?a1_5 :: ?T1) (B := ?a1_1 :: ?a1_2 :: ?a1_3 :: ?a1_0 :: ?a1_4 :: ?a1_5 :: ?T1) (by exact permL [1, 2, 3, 0, 4, 5] [?a1_0, ?a1_1, ?a1_2, ?a1_3, ?a1_4, ?a1_5] ?T1 (by decide) rfl) ?_
 refine tri_sub (F' := [(0, pt bl 0), (6, .int .i64 D.2.1), (8, pt b8 0), (44, .agg (ints (R6.nd D.1 n).kids).toArray), (45, .int .i64 (0 : Nat))]) ⟨rfl, rfl, rfl, rfl, rfl, trivial⟩ ?_
 rw [hks]
 refine loop_ind (G := Nat × R9.LS × List Int × Option Addr × Nat × KVs) (fun g => 4 - g.1) (fun g => g.1 ≤ 4 ∧ g.2.2.1.length = g.1 ∧ R2 = ((R9.mapS (R9.growF room D.2.1 ks) g.2.1 (R9.k4.drop g.1)).1, g.2.2.1 ++ (R9.mapS (R9.growF room D.2.1 ks) g.2.1 (R9.k4.drop g.1)).2.1, (R9.mapS (R9.growF room D.2.1 ks) g.2.1 (R9.k4.drop g.1)).2.2) ∧ R9.Lk room g.2.1 ∧ D.1 <+: g.2.1.ns ∧ Idx g.2.1.ns g.2.2.2.2.2 ∧ g.2.1.mm = s.mm) (fun g => [(0, pt bl 0), (6, .int .i64 D.2.1), (8, pt b8 0), (44, .agg (ints ks).toArray), (45, .int .i64 (g.1 : Nat))]) (fun g => IxA bx mb g.2.2.2.1 g.2.2.2.2.1 g.2.1.ns room g.2.2.2.2.2 (Box b8 (ints (midL g.2.2.1 [0, 0, 0, 0])) 33 :: Box bl [pt bx 0, .map (some db)] 96 :: MapA Try.prog 102 db ds :: A)) (fun _ => I) ?_ (0, ⟨D.1, s.mm⟩, [], a1, c1, es1) ⟨by omega, rfl, hR2.symm, lk1, List.prefix_refl _, hi1, rfl⟩
 rintro ⟨i, t, res, a2, c2, es2⟩ ⟨hi, hlen, hrr, hlk, hpre, hix2, hmm⟩ K hK
 simp only at hi hlen hrr hlk hpre hix2 hmm hK ⊢
 have hml := midL_len (res := res) (qs := [0, 0, 0, 0]) (by simp only [List.length_cons, List.length_nil]; omega)
 simp only [List.length_cons, List.length_nil] at hml
 skip
 refine tS (tR ?_)
 refine tri_v (opv_lss rfl rfl) rfl ?_
 refine tN (tT (tS ?_))
 refine tri_cond_dec rfl (fun h4 => ?_) (fun h4 => ?_)
 ·have hi4 : i < 4 := by omega
  have ek : ks.getD ((i : Nat) : Int).toNat default = ks.getD i default := by rw [Int.toNat_natCast]
  have ekk : R9.k4.getD i default = (i : Int) := by
   rcases (by omega : i = 0 ∨ i = 1 ∨ i = 2 ∨ i = 3) with rfl | rfl | rfl | rfl <;> rfl
  have eset : ∀ v, (midL res [0, 0, 0, 0]).set (0 + ((i : Nat) : Int).toNat * 1) v = midL (res ++ [v]) [0, 0, 0, 0] := fun v => by
   rw [show 0 + ((i : Nat) : Int).toNat * 1 = i by omega, ← hlen]
   exact midL_set (res := res) (qs := [0, 0, 0, 0]) (by simp only [List.length_cons, List.length_nil]; omega) v
  obtain ⟨R, hR⟩ : ∃ R, R9.growF room D.2.1 ks t (R9.k4.getD i default) = R := ⟨_, rfl⟩
  have hnx := mapS_next (R := R) hlen (by show i < 4; omega) hrr hR
  rw [ekk] at hR
  have hgd := fun e : R.2.2 = 0 => R9.growF_gd (lv := k + 1) (k := (i : Int)) hlk ⟨di.pre hpre, by rw [ek]; exact (hkid i hi4).pre hpre⟩ (by rw [hR]; exact e)
  rw [hR] at hgd
  have er1 : R6.put t.ns room (R9.bigK D.2.1 i (ks.getD i default) 0) (R9.bigK D.2.1 i (ks.getD i default) 1) (R9.bigK D.2.1 i (ks.getD i default) 2) (R9.bigK D.2.1 i (ks.getD i default) 3) = (R.1.ns, R.2.1, R.2.2) := by rw [← hR]; rfl
  have er4 : R.1.mm = t.mm := by rw [← hR]; rfl
  have hdl := di.1
  refine tri_skip (tT (tS (tri_block (tS (tR (tM rfl rfl ?_))))))
  refine tri_v (opv_indexIX (l := ks) (l2 := 4) rfl rfl (by omega) (by omega) hkl) rfl ?_
  rw [ek]
  refine tA rfl rfl (tA rfl rfl (tN (tT (tS (tR (tM rfl rfl (tM rfl rfl ?_)))))))
  refine tM rfl rfl (tM rfl rfl ?_)
  refine tri_v (opv_buildA rfl rfl) rfl ?_
  refine tri_g opg_alloc rfl ?_
  rintro _ _ _ ⟨b11, rfl, rfl, rfl⟩
  refine tri_g (opg_store rfl rfl rfl rfl rfl rfl) rfl ?_
  rintro _ _ _ ⟨rfl, rfl⟩
  refine tN (tT (tS ?_))
  rw [show ([.int .i64 D.2.1, .int .i64 D.2.1, .int .i64 D.2.1, .int .i64 D.2.1] : List Value) = ints [D.2.1, D.2.1, D.2.1, D.2.1] from rfl]
  refine tR (tM rfl rfl ?_)
  refine tri_v (opv_sub rfl rfl (w64 (by omega) (by omega))) rfl ?_
  refine tM rfl rfl ?_
  refine tri_v (opv_indexAddrA rfl rfl (by omega) (by omega)) rfl ?_
  refine tri_g (opg_storeIX rfl rfl (by simp only [List.length_cons, List.length_nil]; omega)) rfl ?_
  rintro _ _ _ ⟨rfl, rfl⟩
  rw [bigK_set _ _ hi4]
  refine tN (tT (tS ?_))
  refine tri_perm (A := ?a2_0 :: ?a2_1 :: ?a2_2 :: ?a2_3 :: ?a2_4 :: ?a2_5 :: ?a2_6 :: ?T2) (B := ?a2_1 :: ?a2_2 :: ?a2_3 :: ?a2_4 :: ?a2_0 :: ?a2_5 :: ?a2_6 :: ?T2) (by exact permL [1, 2, 3, 4, 0, 5, 6] [?a2_0, ?a2_1, ?a2_2, ?a2_3, ?a2_4, ?a2_5, ?a2_6] ?T2 (by decide) rfl) ?_
  skip
  refine tri_draw [0, 1, 2, 3, 4, 5, 6, 7, 8, 9, 10, 11, 12, 13] rfl [_, _, _, _] rfl mixed ?_
  refine th_take rfl rfl (by kernel_rfl)  (opv_move rfl) ?_
  refine th_take rfl rfl (by kernel_rfl)  (opv_move rfl) ?_
  refine th_take rfl rfl (by kernel_rfl)  (opv_nilCheck rfl) ?_
  refine th_take rfl rfl (by kernel_rfl)  (opv_fieldAddr rfl rfl) ?_
  refine th_take rfl rfl (by kernel_rfl)  (opv_fieldAddr rfl rfl) ?_
  refine th_take rfl rfl (by kernel_rfl)  (opv_load1 rfl rfl rfl) ?_
  refine th_take rfl rfl (by kernel_rfl)  (opv_loadA rfl rfl rfl) ?_
  refine th_one (by kernel_rfl) (step_m rfl rfl (opg_call (xs := [_, _]) rfl (node_putR (r := (R.1.ns, R.2.1, R.2.2)) hlk.good hlk.len2 hix2 er1)) ?_)
  rintro _ _ _ ⟨a3, c3, es3, rfl, rfl, hi3, rfl⟩
  refine ⟨Suf.h, (fun _ h => h), ?_⟩
  refine th_take rfl rfl (by kernel_rfl)  (opv_move rfl) ?_
  refine th_take rfl rfl (by kernel_rfl)  (opv_extract rfl rfl) ?_
  refine th_take rfl rfl (by kernel_rfl)  (opv_extract rfl rfl) ?_
  refine th_take rfl rfl (by kernel_rfl)  (opv_indexAddrA rfl rfl (by omega) (by omega)) ?_
  refine th_one (by kernel_rfl) (step_m rfl rfl (opg_storeIX rfl rfl (by omega)) ?_)
  rintro _ _ _ ⟨rfl, rfl⟩
  refine ⟨Suf.h, (fun _ h => h), ?_⟩
  rw [eset]
  refine th_take rfl rfl (by kernel_rfl)  (opv_assign rfl) ?_
  refine th_done (by kernel_rfl) ?_
  refine tT (tS (tR (tM rfl rfl ?_)))
  refine tri_v (opv_neq rfl rfl) rfl ?_
  refine tN (tT ?_)
  refine tri_cond_dec rfl (fun x2 => ?_) (fun x2 => ?_)
  ·have e2 := hnx.2 x2
   rw [R9.bindM_err (by rw [e2]; exact x2), e2] at hr
   subst hr
   refine tS (tR (tM rfl rfl (tA rfl rfl (tA rfl rfl (tN (tT (tri_ret ?_)))))))
   refine tri_inBlock_ret ?_
   refine tri_then_ret (tri_then_ret ?_)
   refine tri_inBlock_ret ?_
   refine tri_then_ret ?_
   refine tri_perm (A := ?a3_0 :: ?a3_1 :: ?a3_2 :: ?a3_3 :: ?a3_4 :: ?a3_5 :: ?a3_6 :: ?T3) (B := ?a3_3 :: ?a3_4 :: ?a3_0 :: ?a3_1 :: ?a3_2 :: ?a3_5 :: ?a3_6 :: ?T3) (by exact permL [3, 4, 0, 1, 2, 5, 6] [?a3_0, ?a3_1, ?a3_2, ?a3_3, ?a3_4, ?a3_5, ?a3_6] ?T3 (by decide) rfl) ?_
   refine tri_end _ (⟨[_, _], rfl⟩) rfl (.cons (rv_tmp rfl) (.cons (rv_tmp rfl) .nil)) ⟨a3, c3, es3, ds, R.1.ns, 0, rfl, rfl, fun e => absurd e x2, rfl⟩
  ·have x2' : R.2.2 = 0 := Decidable.not_not.1 x2
   refine tri_skip ?_
   refine tri_inBlock ?_
   refine tT (tR ?_)
   refine tU rfl rfl (by omega) (by omega) rfl ?_
   refine tM rfl rfl (tN (tT ?_))
   refine tri_perm (A := ?a4_0 :: ?a4_1 :: ?a4_2 :: ?a4_3 :: ?a4_4 :: ?a4_5 :: ?a4_6 :: ?T4) (B := ?a4_4 :: ?a4_0 :: ?a4_1 :: ?a4_2 :: ?a4_3 :: ?a4_5 :: ?a4_6 :: ?T4) (by exact permL [4, 0, 1, 2, 3, 5, 6] [?a4_0, ?a4_1, ?a4_2, ?a4_3, ?a4_4, ?a4_5, ?a4_6] ?T4 (by decide) rfl) ?_
   refine tri_drop ?_
   refine tri_sub ?_ (hK (i + 1, R.1, res ++ [R.2.1], a3, c3, es3) ⟨by simp only; omega, (hnx.1 x2').1, (hnx.1 x2').2, (hgd x2').lk, hpre.trans (hgd x2').pre, hi3, by rw [er4, hmm]⟩ (by simp only; omega))
   exact ⟨rfl, rfl, rfl, rfl, rfl, trivial⟩
 ·have hi4 : i = 4 := by omega
  subst hi4
  have hR2' : R2 = (t, res, 0) := by rw [hrr]; simp [R9.k4, R9.mapS]
  rw [hR2', R9.bindM_ok rfl] at hr
  simp only at hr
  obtain ⟨p0, p1, p2, p3, hp⟩ := four_len hlen
  rw [midL_done (by rw [hlen]; rfl), hp]
  rw [hp] at hr
  have er1 : R6.put t.ns room p0 p1 p2 p3 = (r.1.ns, r.2.1, r.2.2) := by rw [← hr]; rfl
  have er4 : r.1.mm = t.mm := by rw [← hr]; rfl
  refine tri_exit ?_
  refine tri_then_exit ?_
  refine tri_then_exit ?_
  refine tri_inBlock_hit rfl ?_
  refine tT (tS ?_)
  skip
  refine tri_draw [0, 1, 2, 3, 4, 5, 6, 7, 8, 9, 10] rfl [_, _, _] rfl mixed ?_
  refine th_take rfl rfl (by kernel_rfl)  (opv_move rfl) ?_
  refine th_take rfl rfl (by kernel_rfl)  (opv_nilCheck rfl) ?_
  refine th_take rfl rfl (by kernel_rfl)  (opv_fieldAddr rfl rfl) ?_
  refine th_take rfl rfl (by kernel_rfl)  (opv_fieldAddr rfl rfl) ?_
  refine th_take rfl rfl (by kernel_rfl)  (opv_load1 rfl rfl rfl) ?_
  refine th_take rfl rfl (by kernel_rfl)  (opv_loadA rfl rfl rfl) ?_
  refine th_one (by kernel_rfl) (step_m rfl rfl (opg_call (xs := [_, _]) rfl (node_putR (r := (r.1.ns, r.2.1, r.2.2)) hlk.good hlk.len2 hix2 er1)) ?_)
  rintro _ _ _ ⟨a4, c4, es4, rfl, rfl, hi4', rfl⟩
  refine ⟨Suf.h, (fun _ h => h), ?_⟩
  refine th_take rfl rfl (by kernel_rfl)  (opv_extract rfl rfl) ?_
  refine th_take rfl rfl (by kernel_rfl)  (opv_extract rfl rfl) ?_
  refine th_take rfl rfl (by kernel_rfl)  (opv_assign rfl) ?_
  refine th_take rfl rfl (by kernel_rfl)  (opv_assign rfl) ?_
  refine th_done (by kernel_rfl) ?_
  refine tT (tri_ret ?_)
  refine tri_perm (A := ?a5_0 :: ?a5_1 :: ?a5_2 :: ?a5_3 :: ?a5_4 :: ?a5_5 :: ?T5) (B := ?a5_3 :: ?a5_0 :: ?a5_1 :: ?a5_2 :: ?a5_4 :: ?a5_5 :: ?T5) (by exact permL [3, 0, 1, 2, 4, 5] [?a5_0, ?a5_1, ?a5_2, ?a5_3, ?a5_4, ?a5_5] ?T5 (by decide) rfl) ?_
  refine tri_end _ (⟨[_], rfl⟩) rfl (.cons (rv_tmp rfl) (.cons (rv_tmp rfl) .nil)) ⟨a4, c4, es4, ds, r.1.ns, r.2.1, rfl, rfl, fun _ => ⟨rfl, rfl, hi4', by rw [er4, hmm]; exact hmx⟩, rfl⟩
end Go.GL


set_option linter.unusedVariables false
namespace Go.GL
open Go.Proofs
attribute [local irreducible] wpList Code.wp Exit.then Exit.inBlock Ends Tri TriH OpV OpG FnC epf wpAnyH
variable {A : List Asrt} {I : List Chunk}
set_option maxHeartbeats 2000000 in
set_option maxRecDepth 100000 in
theorem leaper_power {k : Nat} {s : R9.LS} {a : Option Addr} {cap bl bx mb db : Nat} {room n j : Int} {es ds : KVs} {r : R9.L9} (h : R9.Lk room s) (hn : R7.IsN s.ns (k + 2) n) (hix : Idx s.ns es) (hmx : MemIx s.mm ds) (hj : 0 ≤ j ∧ j ≤ 1000) (hr : R9.power room s n j = r) :
  FnC Try.prog 77 [pt bl 0, .int .i64 n, .int .i64 j].toArray (LxA bl bx mb db a cap s.ns room es ds A) I (LxR bl bx mb db r room A I) := by
 obtain ⟨r1, hr1⟩ : ∃ r1, R9.trimS room s n = r1 := ⟨_, rfl⟩
 obtain ⟨r0, hr0⟩ : ∃ r0, R9.bindS r1 (R9.more room j 0) = r0 := ⟨_, rfl⟩
 rw [R9.power_eq, hr1, hr0] at hr
 have hge := fun e : r1.2.2 = 0 => R9.trimS_ge h hn (by rw [hr1]; exact e)
 rw [hr1] at hge
 unfold R9.trimS at hr1
 rw [R9.lvS_is hn] at hr1
 skip
 refine fn_enter3 Try.func77 rfl Try.ntmps77 rfl fun w0 => ?_
 refine tS (tR (tA rfl rfl (tA rfl rfl (tN (tT (tS (tR ?_)))))))
 refine tM rfl rfl (tM rfl rfl ?_)
 refine tri_g (opg_call (xs := [_, _]) rfl (leaper_trim h hn hix hmx hr1)) rfl ?_
 rintro _ _ _ ⟨a1, c1, es1, ds1, ns1, m1, rfl, rfl, h1, rfl⟩
 refine tM rfl rfl ?_
 refine tri_v (opv_extract rfl rfl) rfl ?_
 refine tri_v (opv_extract rfl rfl) rfl ?_
 refine tA rfl rfl (tA rfl rfl (tN (tT (tS (tS (tR (tA rfl rfl ?_)))))))
 refine tN (tT (tri_block ?_))
 refine tri_sub (F' := [(0, pt bl 0), (1, .int .i64 m1), (2, .int .i64 j), (8, .int .i64 r1.2.2), (9, .int .i64 (0 : Nat))]) ⟨rfl, rfl, rfl, rfl, rfl, trivial⟩ ?_
 refine loop_ind (G := Nat × R9.LS × Int × Option Addr × Nat × KVs × KVs × List Node × Int) (fun g => 100 - g.1) (fun g => (g.2.2.2.2.2.2.2.2 = 0 → g.2.2.2.2.2.2.2.1 = g.2.1.ns ∧ R9.Lk room g.2.1 ∧ (∃ k : Nat, g.1 ≤ k ∧ k ≤ 40 ∧ R7.IsN g.2.1.ns (k + 2) g.2.2.1) ∧ Idx g.2.1.ns g.2.2.2.2.2.1 ∧ MemIx g.2.1.mm g.2.2.2.2.2.2.1 ∧ r0 = R9.more room j g.1 g.2.1 g.2.2.1) ∧ (g.2.2.2.2.2.2.2.2 ≠ 0 → r0.2.2 = g.2.2.2.2.2.2.2.2) ∧ g.1 ≤ 41) (fun g => [(0, pt bl 0), (1, .int .i64 g.2.2.1), (2, .int .i64 j), (8, .int .i64 g.2.2.2.2.2.2.2.2), (9, .int .i64 (g.1 : Nat))]) (fun g => LxA bl bx mb db g.2.2.2.1 g.2.2.2.2.1 g.2.2.2.2.2.2.2.1 room g.2.2.2.2.2.1 g.2.2.2.2.2.2.1 A) (fun _ => I) ?_ (0, r1.1, m1, a1, c1, es1, ds1, ns1, r1.2.2) ⟨fun e => ?_, fun e => ?_, by simp only; omega⟩
 ·rintro ⟨i, s1, n1, a1, c1, es1, ds1, ns1, er⟩ ⟨ho, hne, hi41⟩ K hK
  simp only at ho hne hK hi41 ⊢
  skip
  refine tS (tS (tR (tM rfl rfl ?_)))
  refine tri_v (opv_eql rfl rfl) rfl ?_
  refine tM rfl rfl ?_
  refine tri_split rfl rfl (fun h1 => ?_) (fun h1 => ?_)
  ·obtain ⟨rfl, hlk, ⟨k1, hik, hk40, hn1⟩, hx1, hm1, hr1⟩ := ho h1
   have hlv : (R6.nd s1.ns n1).lv = k1 + 2 := by rw [hn1.2]; omega
   have go : ∀ R : R9.L9, R9.grow room s1 n1 = R → (i < 2 ∨ (R6.nd s1.ns n1).lv < j + 3) → (R.2.2 = 0 → R9.Lk room R.1 ∧ (∃ k : Nat, i + 1 ≤ k ∧ k ≤ 40 ∧ R7.IsN R.1.ns (k + 2) R.2.1) ∧ r0 = R9.more room j (i + 1) R.1 R.2.1) ∧ (R.2.2 ≠ 0 → r0.2.2 = R.2.2) := by
    intro R hR hc
    have e := hr1
    rw [R9.more_step (by omega) hc, hR] at e
    refine ⟨fun e2 => ?_, fun e2 => by rw [e, R9.bindS_err e2]⟩
    have g := R9.grow_gd hlk hn1 (by rw [hR]; exact e2)
    rw [hR] at g
    have hb := (g.lk.wf.lvb g.is.1).2
    rw [g.is.2] at hb
    exact ⟨g.lk, ⟨k1 + 1, by omega, by omega, g.is⟩, by rw [e, R9.bindS_ok e2]⟩
   refine tri_guard_run rfl rfl rfl (tM rfl rfl (tri_guard_run rfl rfl rfl ?_))
   refine tri_v (opv_lss rfl rfl) rfl ?_
   refine tri_guard_run rfl rfl rfl (tM rfl rfl ?_)
   refine tri_split rfl rfl (fun h2 => ?_) (fun h2 => ?_)
   ·refine tri_guard_skip rfl rfl rfl rfl (tri_guard_skip rfl rfl rfl rfl (tri_guard_skip rfl rfl rfl rfl (tri_guard_skip rfl rfl rfl rfl (tri_guard_skip rfl rfl rfl rfl (tri_guard_skip rfl rfl rfl rfl (tri_guard_run rfl rfl rfl ?_))))))
    refine tri_v (opv_pick_t rfl rfl) rfl ?_
    refine tri_v (opv_pick_t rfl rfl) rfl ?_
    refine tN (tT ?_)
    refine tri_cond_true rfl ?_
    refine tri_skip (tT (tS (tri_block (tR (tM rfl rfl (tM rfl rfl ?_))))))
    obtain ⟨R, hR⟩ : ∃ R, R9.grow room s1 n1 = R := ⟨_, rfl⟩
    have hg := go R hR (.inl (by omega))
    refine tri_g (opg_call (xs := [_, _]) rfl (leaper_grow hlk hn1 hx1 hm1 hR)) rfl ?_
    rintro _ _ _ ⟨a3, c3, es3, ds3, ns3, m3, rfl, rfl, h3, rfl⟩
    refine tM rfl rfl ?_
    refine tri_v (opv_extract rfl rfl) rfl ?_
    refine tri_v (opv_extract rfl rfl) rfl ?_
    refine tA rfl rfl (tA rfl rfl (tN ?_))
    refine tri_inBlock ?_
    refine tT (tR (tM rfl rfl ?_))
    refine tU rfl rfl (by omega) (by omega) rfl ?_
    refine tA rfl rfl (tN (tT ?_))
    refine tri_sub ?_ (hK (i + 1, R.1, m3, a3, c3, es3, ds3, ns3, R.2.2) ⟨fun e => ?_, fun e => ?_, by simp only; omega⟩ (by simp only; omega))
    ·exact ⟨rfl, rfl, rfl, rfl, rfl, trivial⟩
    ·obtain ⟨b1, b2, b3⟩ := hg.1 e
     obtain ⟨d1, rfl, d3, d4⟩ := h3 e
     exact ⟨d1, b1, b2, d3, d4, b3⟩
    ·exact hg.2 e
   ·refine tri_guard_run rfl rfl rfl (tM rfl rfl (tri_guard_run rfl rfl rfl (tM rfl rfl (tri_guard_run rfl rfl rfl ?_))))
    refine tri_g (opg_call (xs := [_, _]) rfl (leaper_level hn1.1)) rfl ?_
    rintro _ _ _ ⟨rfl, rfl, rfl⟩
    refine tri_guard_run rfl rfl rfl (tM rfl rfl (tri_guard_run rfl rfl rfl ?_))
    refine tU rfl rfl (by omega) (by omega) rfl ?_
    refine tri_guard_run rfl rfl rfl ?_
    refine tri_v (opv_lss rfl rfl) rfl ?_
    refine tri_guard_run rfl rfl rfl ?_
    refine tri_v (opv_pick_f rfl rfl) rfl ?_
    refine tri_v (opv_pick_t rfl rfl) rfl ?_
    refine tN (tT ?_)
    refine tri_cond_dec rfl (fun h4 => ?_) (fun h4 => ?_)
    ·refine tri_skip (tT (tS (tri_block (tR (tM rfl rfl (tM rfl rfl ?_))))))
     obtain ⟨R, hR⟩ : ∃ R, R9.grow room s1 n1 = R := ⟨_, rfl⟩
     have hg := go R hR (.inr (by omega))
     refine tri_g (opg_call (xs := [_, _]) rfl (leaper_grow hlk hn1 hx1 hm1 hR)) rfl ?_
     rintro _ _ _ ⟨a3, c3, es3, ds3, ns3, m3, rfl, rfl, h3, rfl⟩
     refine tM rfl rfl ?_
     refine tri_v (opv_extract rfl rfl) rfl ?_
     refine tri_v (opv_extract rfl rfl) rfl ?_
     refine tA rfl rfl (tA rfl rfl (tN ?_))
     refine tri_inBlock ?_
     refine tT (tR (tM rfl rfl ?_))
     refine tU rfl rfl (by omega) (by omega) rfl ?_
     refine tA rfl rfl (tN (tT ?_))
     refine tri_sub ?_ (hK (i + 1, R.1, m3, a3, c3, es3, ds3, ns3, R.2.2) ⟨fun e => ?_, fun e => ?_, by simp only; omega⟩ (by simp only; omega))
     ·exact ⟨rfl, rfl, rfl, rfl, rfl, trivial⟩
     ·obtain ⟨b1, b2, b3⟩ := hg.1 e
      obtain ⟨d1, rfl, d3, d4⟩ := h3 e
      exact ⟨d1, b1, b2, d3, d4, b3⟩
     ·exact hg.2 e
    ·rw [R9.more_stop (by omega) (by omega)] at hr1
     rw [R9.bindS_ok (by rw [hr1]), hr1] at hr
     simp only at hr
     rw [R9.lvS_is hn1] at hr
     refine tri_exit ?_
     refine tri_then_exit ?_
     refine tri_then_exit ?_
     refine tri_inBlock_hit rfl ?_
     refine tT (tS (tS (tR (tM rfl rfl ?_))))
     refine tri_v (opv_neq rfl rfl) rfl ?_
     refine tN (tT ?_)
     refine tri_cond_not rfl (by omega) ?_
     refine tri_skip (tT (tS (tR (tM rfl rfl (tM rfl rfl (tM rfl rfl ?_))))))
     refine tri_g (opg_call (xs := [_, _, _]) rfl (leaper_leap k1 _ _ s1 _ _ _ _ _ _ _ n1 j _ _ r hlk hn1 hx1 hm1 (by omega) hr)) rfl ?_
     rintro _ _ _ ⟨a4, c4, es4, ds4, ns4, m4, rfl, rfl, h4, rfl⟩
     refine tri_v (opv_extract rfl rfl) rfl ?_
     refine tri_v (opv_extract rfl rfl) rfl ?_
     refine tA rfl rfl (tA rfl rfl (tN (tT (tri_ret ?_))))
     refine tri_end _ (⟨[], rfl⟩) rfl (.cons (rv_tmp rfl) (.cons (rv_tmp rfl) .nil)) ⟨a4, c4, es4, ds4, ns4, m4, rfl, rfl, h4, rfl⟩
  ·have e0 : r0.2.2 ≠ 0 := by rw [hne h1]; exact h1
   rw [R9.bindS_err e0] at hr
   subst hr
   refine tri_guard_skip rfl rfl rfl rfl (tri_guard_skip rfl rfl rfl rfl (tri_guard_skip rfl rfl rfl rfl ?_))
   refine tri_guard_skip_u rfl rfl rfl ?_
   refine tri_guard_skip_u rfl rfl rfl ?_
   refine tri_guard_skip_u rfl rfl rfl ?_
   refine tri_guard_skip_u rfl rfl rfl ?_
   refine tri_guard_skip_u rfl rfl rfl ?_
   refine tri_guard_skip_u rfl rfl rfl ?_
   refine tri_guard_skip rfl rfl rfl rfl ?_
   refine tri_v (opv_pick_f rfl rfl) rfl ?_
   refine tN (tT ?_)
   refine tri_cond_false rfl ?_
   refine tri_exit ?_
   refine tri_then_exit ?_
   refine tri_then_exit ?_
   refine tri_inBlock_hit rfl ?_
   refine tT (tS (tS (tR (tM rfl rfl ?_))))
   refine tri_v (opv_neq rfl rfl) rfl ?_
   refine tN (tT ?_)
   refine tri_cond_is rfl (h1) ?_
   refine tS (tR (tM rfl rfl (tA rfl rfl (tA rfl rfl (tN (tT (tri_ret ?_)))))))
   refine tri_then_ret ?_
   refine tri_end _ (⟨[], rfl⟩) rfl (.cons (rv_tmp rfl) (.cons (rv_tmp rfl) .nil)) ⟨a1, c1, es1, ds1, ns1, 0, by rw [← hne h1]; rfl, rfl, fun e => absurd e e0, rfl⟩
 ·simp only at e ⊢
  obtain ⟨d1, rfl, d3, d4⟩ := h1 e
  have g := hge e
  obtain ⟨k', hk'⟩ := g.is
  have hb := (g.lk.wf.lvb hk'.1).2
  rw [hk'.2] at hb
  rw [R9.bindS_ok e] at hr0
  exact ⟨d1, g.lk, ⟨k', by omega, by omega, hk'⟩, d3, d4, hr0.symm⟩
 ·simp only at e ⊢
  rw [R9.bindS_err e] at hr0
  rw [← hr0]
end Go.GL


set_option linter.unusedVariables false
namespace Go.GL
open Go.Proofs
attribute [local irreducible] wpList Code.wp Exit.then Exit.inBlock Ends Tri TriH OpV OpG FnC epf wpAnyH
variable {A : List Asrt} {I : List Chunk}
namespace R9
def bitsTo (c : Int) (k : Nat) : List Int := ((List.range k).filter fun i => decide (c / 2 ^ i % 2 = 1)).map fun i => ((i : Nat) : Int)
theorem bitsTo_succ (c : Int) (k : Nat) : bitsTo c (k + 1) = if c / 2 ^ k % 2 = 1 then bitsTo c k ++ [(k : Int)] else bitsTo c k := by
 unfold bitsTo
 rw [List.range_succ, List.filter_append, List.map_append]
 by_cases h : c / 2 ^ k % 2 = 1
 ·rw [if_pos h]; simp [h]
 ·rw [if_neg h]; simp [h]
theorem bitsTo_len (c : Int) (k : Nat) : (bitsTo c k).length ≤ k := by
 unfold bitsTo
 rw [List.length_map]
 exact Nat.le_trans (List.length_filter_le _ _) (by rw [List.length_range]; exact Nat.le_refl _)
theorem bits_bd {c j : Int} (h : j ∈ bits c) : 0 ≤ j ∧ j ≤ 61 := by
 unfold bits at h
 obtain ⟨i, hi, rfl⟩ := List.mem_map.1 h
 have := List.mem_range.1 (List.mem_filter.1 hi).1
 omega
end R9
/-- What tells the bits of a count. -/
def BitsR (c : Int) (A : List Asrt) (I : List Chunk) : Value → List Asrt → List Chunk → Prop := fun v A' I' => ∃ a' cap', v = .slice a' (R9.bits c).length cap' ∧ SlAt I' a' (R9.bits c) ∧ A = A' ∧ I ⊆ I'
set_option maxHeartbeats 2000000 in
set_option maxRecDepth 100000 in
theorem count_bits {c : Int} (hc : 0 ≤ c ∧ c ≤ 4611686018427387903) :
  FnC Try.prog 76 [.int .i64 c].toArray A I (BitsR c A I) := by
 skip
 skip
 refine fn_enter1 Try.func76 rfl Try.ntmps76 rfl fun w0 => ?_
 refine tS (tR (tA rfl rfl (tN (tT (tS (tS (tR ?_)))))))
 refine tM rfl rfl ?_
 refine tri_v (opv_lss rfl rfl) rfl ?_
 refine tM rfl rfl ?_
 refine tri_false rfl rfl (by omega) ?_
 refine tri_guard_run rfl rfl rfl (tM rfl rfl (tri_guard_run rfl rfl rfl ?_))
 refine tri_v (opv_gtr rfl rfl) rfl ?_
 refine tri_v (opv_pick_f rfl rfl) rfl ?_
 refine tN (tT ?_)
 refine tri_cond_not rfl (by omega) ?_
 refine tri_skip (tT (tS (tS (tR (tM rfl rfl (tN (tT ?_)))))))
 refine tri_block ?_
 refine tri_nilRow (E := 3) (sz := 1) ?_
 refine tri_sub (F' := [(0, .int .i64 c), (2, .slice none 0 0), (10, .int .i64 (0 : Nat))]) ⟨rfl, rfl, rfl, trivial⟩ ?_
 refine loop_ind (G := Nat × Option Addr × Nat) (fun g => 62 - g.1) (fun g => g.1 ≤ 62) (fun g => [(0, .int .i64 c), (2, .slice g.2.1 (R9.bitsTo c g.1).length g.2.2), (10, .int .i64 (g.1 : Nat))]) (fun g => Row g.2.1 g.2.2 (R9.bitsTo c g.1).length 3 1 (encs (R9.bitsTo c g.1)) :: A) (fun _ => I) ?_ (0, none, 0) (by omega)
 rintro ⟨i, a1, cap1⟩ hi K hK
 simp only at hi hK ⊢
 have hbl := R9.bitsTo_len c i
 skip
 refine tS (tR ?_)
 refine tri_v (opv_lss rfl rfl) rfl ?_
 refine tN (tT (tS ?_))
 refine tri_cond_dec rfl (fun h => ?_) (fun h => ?_)
 ·have hlt : i < 62 := by omega
  have hs := R9.bitsTo_succ c i
  refine tri_skip (tT (tS (tri_block (tS (tR (tM rfl rfl (tA rfl rfl ?_)))))))
  refine tN (tT (tS (tR (tM rfl rfl (tM rfl rfl ?_)))))
  refine tri_v (opv_shl1 rfl rfl (by omega) (by omega)) rfl ?_
  refine tri_v (opv_bit (k := i) rfl rfl hc.1 (by omega) (by rw [Int.toNat_natCast]) (by omega)) rfl ?_
  refine tri_v (opv_neq rfl rfl) rfl ?_
  refine tN (tT ?_)
  refine tri_cond_dec rfl (fun hb => ?_) (fun hb => ?_)
  ·have hb1 : c / 2 ^ i % 2 = 1 := Decidable.byContradiction fun e => hb (if_neg e)
   rw [if_pos hb1] at hs
   refine tR (tM rfl rfl (tM rfl rfl ?_))
   refine tri_g (opg_buildSlice rfl rfl rfl rfl) rfl ?_
   rintro _ _ _ ⟨b20, rfl, rfl, rfl⟩
   refine tri_g (opg_appendB rfl rfl rfl rfl (by omega) rfl) rfl ?_
   rintro _ _ _ ⟨a3, cap3, rfl, rfl, rfl⟩
   refine tA rfl rfl (tN ?_)
   refine tri_inBlock ?_
   refine tT (tR ?_)
   refine tU rfl rfl (by omega) (by omega) rfl ?_
   refine tM rfl rfl (tN (tT ?_))
   refine tri_drop ?_
   refine tri_rowEq (len' := (R9.bitsTo c (i + 1)).length) (cells' := encs (R9.bitsTo c (i + 1))) (by rw [hs, List.length_append]; rfl) (by rw [hs, encs_append]; rfl) ?_
   refine tri_sub ?_ (hK (i + 1, a3, cap3) (by simp only; omega) (by simp only; omega))
   exact ⟨rfl, by rw [hs, List.length_append]; rfl, rfl, trivial⟩
  ·have hb1 : ¬ c / 2 ^ i % 2 = 1 := fun e => hb (by rw [if_pos e]; exact Int.ne_of_gt (Int.pow_pos (by omega)))
   rw [if_neg hb1] at hs
   refine tri_skip ?_
   refine tri_inBlock ?_
   refine tT (tR ?_)
   refine tU rfl rfl (by omega) (by omega) rfl ?_
   refine tM rfl rfl (tN (tT ?_))
   refine tri_rowEq (len' := (R9.bitsTo c (i + 1)).length) (cells' := encs (R9.bitsTo c (i + 1))) (by rw [hs]) (by rw [hs]) ?_
   refine tri_sub ?_ (hK (i + 1, a1, cap1) (by simp only; omega) (by simp only; omega))
   exact ⟨rfl, by rw [hs]; rfl, rfl, trivial⟩
 ·have hi' : i = 62 := by omega
  subst hi'
  refine tri_exit ?_
  refine tri_then_exit ?_
  refine tri_then_exit ?_
  refine tri_inBlock_hit rfl ?_
  refine tT (tS (tR (tM rfl rfl (tA rfl rfl (tN (tT (tri_ret ?_)))))))
  refine tri_freezeRow rfl fun I' hI hs' => ?_
  refine tri_end A Suf.h rfl (.cons (rv_tmp rfl) .nil) ⟨a1, cap1, rfl, hs', rfl, hI⟩
end Go.GL


set_option linter.unusedVariables false
namespace Go.GL
open Go.Proofs
attribute [local irreducible] wpList Code.wp Exit.then Exit.inBlock Ends Tri TriH OpV OpG FnC epf wpAnyH
variable {A : List Asrt} {I : List Chunk}
/-- As LxR, where something may have been frozen. -/
def LxS (bl bx mb db : Nat) (r : R9.L9) (room : Int) (A : List Asrt) (I : List Chunk) : Value → List Asrt → List Chunk → Prop :=
 fun v A' I' => ∃ a' cap' es' ds' ns' m, v = .tuple [.int .i64 m, .int .i64 r.2.2].toArray ∧ A' = LxA bl bx mb db a' cap' ns' room es' ds' A ∧ (r.2.2 = 0 → ns' = r.1.ns ∧ m = r.2.1 ∧ Idx r.1.ns es' ∧ MemIx r.1.mm ds') ∧ I ⊆ I'
theorem runL_drop {room : Int} {js : List Int} {i : Nat} (hi : i < js.length) (t : R9.LS) (n : Int) : R9.runL room (js.drop i) t n = R9.bindS (R9.power room t n (js.getD i default)) (R9.runL room (js.drop (i + 1))) := by
 rw [List.drop_eq_getElem_cons hi, show js.getD i default = js[i] by simp [hi]]
 rfl
set_option maxHeartbeats 2000000 in
set_option maxRecDepth 100000 in
theorem leaper_run {k : Nat} {s : R9.LS} {a : Option Addr} {cap bl bx mb db : Nat} {room n c : Int} {es ds : KVs} {r : R9.L9} (h : R9.Lk room s) (hn : R7.IsN s.ns (k + 2) n) (hix : Idx s.ns es) (hmx : MemIx s.mm ds) (hc : 0 ≤ c ∧ c ≤ 4611686018427387903) (hr : R9.runL room (R9.bits c) s n = r) :
  FnC Try.prog 52 [pt bl 0, .int .i64 n, .int .i64 c].toArray (LxA bl bx mb db a cap s.ns room es ds A) I (LxS bl bx mb db r room A I) := by
 have hbd := fun j (hj : j ∈ R9.bits c) => R9.bits_bd hj
 have hbl : (R9.bits c).length ≤ 62 := R9.bitsTo_len c 62
 skip
 refine fn_enter3 Try.func52 rfl Try.ntmps52 rfl fun w0 => ?_
 refine tS (tR (tA rfl rfl (tA rfl rfl (tN (tT (tS (tS ?_)))))))
 refine tR (tM rfl rfl ?_)
 refine tri_g (opg_call (xs := [_]) rfl (count_bits hc)) rfl ?_
 rintro _ _ I1 ⟨a1, c1, rfl, hs, rfl, hI⟩
 generalize R9.bits c = js at *
 refine tri_v (opv_len rfl) rfl ?_
 refine tM rfl rfl (tN (tT (tri_block ?_)))
 refine tri_sub (F' := [(0, pt bl 0), (1, .int .i64 n), (12, .slice a1 js.length c1), (13, .int .i64 (js.length : Nat)), (14, .int .i64 (0 : Nat))]) ⟨rfl, rfl, rfl, rfl, rfl, trivial⟩ ?_
 refine loop_ind (G := Nat × R9.LS × Int × Option Addr × Nat × KVs × KVs) (fun g => js.length - g.1) (fun g => g.1 ≤ js.length ∧ R9.Lk room g.2.1 ∧ (∃ k : Nat, R7.IsN g.2.1.ns (k + 2) g.2.2.1) ∧ Idx g.2.1.ns g.2.2.2.2.2.1 ∧ MemIx g.2.1.mm g.2.2.2.2.2.2 ∧ R9.runL room (js.drop g.1) g.2.1 g.2.2.1 = r) (fun g => [(0, pt bl 0), (1, .int .i64 g.2.2.1), (12, .slice a1 js.length c1), (13, .int .i64 (js.length : Nat)), (14, .int .i64 (g.1 : Nat))]) (fun g => LxA bl bx mb db g.2.2.2.1 g.2.2.2.2.1 g.2.1.ns room g.2.2.2.2.2.1 g.2.2.2.2.2.2 A) (fun _ => I1) ?_ (0, s, n, a, cap, es, ds) ⟨by omega, h, ⟨k, hn⟩, hix, hmx, hr⟩
 rintro ⟨i, t, n1, a2, c2, es2, ds2⟩ ⟨hi, hlk, ⟨k1, hn1⟩, hx1, hm1, hr1⟩ K hK
 simp only at hi hlk hn1 hx1 hm1 hr1 hK ⊢
 skip
 refine tS (tR ?_)
 refine tri_v (opv_lss rfl rfl) rfl ?_
 refine tN (tT (tS ?_))
 refine tri_cond_dec rfl (fun h1 => ?_) (fun h1 => ?_)
 ·have hlt : i < js.length := by omega
  rw [runL_drop hlt] at hr1
  have hj := hbd (js.getD i default) (by simp [hlt])
  obtain ⟨R, hR⟩ : ∃ R, R9.power room t n1 (js.getD i default) = R := ⟨_, rfl⟩
  rw [hR] at hr1
  have hge := fun e : R.2.2 = 0 => R9.power_ge hlk hn1 (by rw [hR]; exact e)
  rw [hR] at hge
  refine tri_skip (tT (tS (tri_block (tS (tR ?_)))))
  refine tri_v (opv_indexAddrSN rfl rfl (by omega) (by assumption) rfl) rfl ?_
  refine tri_v (opv_loadE1 rfl (by assumption) rfl (by omega) rfl rfl) rfl ?_
  refine tA rfl rfl (tN (tT (tS (tR (tA rfl rfl (tN (tT ?_)))))))
  refine tS (tR (tM rfl rfl (tM rfl rfl (tM rfl rfl ?_))))
  refine tri_g (opg_call (xs := [_, _, _]) rfl (leaper_power hlk hn1 hx1 hm1 (by omega) hR)) rfl ?_
  rintro _ _ _ ⟨a3, c3, es3, ds3, ns3, m3, rfl, rfl, h3, rfl⟩
  refine tM rfl rfl ?_
  refine tri_v (opv_extract rfl rfl) rfl ?_
  refine tri_v (opv_extract rfl rfl) rfl ?_
  refine tA rfl rfl (tA rfl rfl (tN (tT (tS (tR (tM rfl rfl ?_))))))
  refine tri_v (opv_neq rfl rfl) rfl ?_
  refine tN (tT ?_)
  refine tri_cond_dec rfl (fun x => ?_) (fun x => ?_)
  ·rw [R9.bindS_err x] at hr1
   subst hr1
   refine tS (tR (tM rfl rfl (tA rfl rfl (tA rfl rfl (tN (tT (tri_ret ?_)))))))
   refine tri_inBlock_ret ?_
   refine tri_then_ret (tri_then_ret ?_)
   refine tri_inBlock_ret ?_
   refine tri_then_ret ?_
   refine tri_end _ (⟨[], rfl⟩) rfl (.cons (rv_tmp rfl) (.cons (rv_tmp rfl) .nil)) ⟨a3, c3, es3, ds3, ns3, 0, rfl, rfl, fun e => absurd e x, hI⟩
  ·have x' : R.2.2 = 0 := Decidable.not_not.1 x
   rw [R9.bindS_ok x'] at hr1
   obtain ⟨rfl, rfl, h5, h6⟩ := h3 x'
   have g := hge x'
   refine tri_skip ?_
   refine tri_inBlock ?_
   refine tT (tR ?_)
   refine tU rfl rfl (by omega) (by omega) rfl ?_
   refine tM rfl rfl (tN (tT ?_))
   refine tri_sub ?_ (hK (i + 1, R.1, R.2.1, a3, c3, es3, ds3) ⟨by simp only; omega, g.lk, g.is, h5, h6, hr1⟩ (by simp only; omega))
   exact ⟨rfl, rfl, rfl, rfl, rfl, trivial⟩
 ·have hi' : i = js.length := by omega
  subst hi'
  rw [List.drop_of_length_le (by omega)] at hr1
  unfold R9.runL R9.trimS at hr1
  rw [R9.lvS_is hn1] at hr1
  refine tri_exit ?_
  refine tri_then_exit ?_
  refine tri_then_exit ?_
  refine tri_inBlock_hit rfl ?_
  refine tT (tS (tR (tM rfl rfl (tM rfl rfl ?_))))
  refine tri_g (opg_call (xs := [_, _]) rfl (leaper_trim hlk hn1 hx1 hm1 hr1)) rfl ?_
  rintro _ _ _ ⟨a3, c3, es3, ds3, ns3, m3, rfl, rfl, h3, rfl⟩
  refine tri_v (opv_extract rfl rfl) rfl ?_
  refine tri_v (opv_extract rfl rfl) rfl ?_
  refine tA rfl rfl (tA rfl rfl (tN (tT (tri_ret ?_))))
  refine tri_end _ (⟨[], rfl⟩) rfl (.cons (rv_tmp rfl) (.cons (rv_tmp rfl) .nil)) ⟨a3, c3, es3, ds3, ns3, m3, rfl, rfl, h3, hI⟩
end Go.GL


set_option linter.unusedVariables false
namespace Go.GL
open Go.Proofs
attribute [local irreducible] wpList Code.wp Exit.then Exit.inBlock Ends Tri TriH OpV OpG FnC epf wpAnyH
variable {A : List Asrt} {I : List Chunk}
def LeapOfR (ns : List Node) (room n : Int) (A : List Asrt) (I : List Chunk) : Value → List Asrt → List Chunk → Prop := fun v A' I' =>
 (R8.may ns room n 2 ∧ ∃ bl bx mb db a' cap' es, v = .tuple [pt bl 0, .bool true].toArray ∧ A' = LxA bl bx mb db a' cap' ns room es [] A ∧ Idx ns es ∧ I = I') ∨ (¬ R8.may ns room n 2 ∧ ∃ p, v = .tuple [p, .bool false].toArray ∧ A = A' ∧ I = I')
set_option maxHeartbeats 1000000 in
set_option maxRecDepth 100000 in
theorem leap_of {ns : List Node} {a : Option Addr} {cap : Nat} {room n : Int} (hs : StA I a cap ns) (hn : ns.length ≤ 1000000000) :
  FnC Try.prog 67 [storeV a ns.length cap room, .int .i64 n].toArray A I (LeapOfR ns room n A I) := by
 skip
 refine fn_enter2 Try.func67 rfl Try.ntmps67 rfl fun w0 => ?_
 refine tS (tR ?_)
 refine tri_g (opg_box_agg rfl) rfl ?_
 rintro _ _ _ ⟨b2, rfl, rfl, rfl⟩
 refine tA rfl rfl (tA rfl rfl (tN (tT (tS (tR ?_)))))
 refine tri_v (opv_loadA rfl rfl rfl) rfl ?_
 refine tM rfl rfl ?_
 refine tri_g (opg_call (xs := [_, _, _]) rfl (base_of (lv := 2) hs hn)) rfl ?_
 rintro v A1 I1 hR
 rcases hR with ⟨hr, bx, mb, a1, c1, es, rfl, rfl, hix, rfl⟩ | ⟨hr, p, rfl, rfl, rfl⟩
 ·refine tM rfl rfl ?_
  refine tri_v (opv_extract rfl rfl) rfl ?_
  refine tri_v (opv_extract rfl rfl) rfl ?_
  refine tri_g opg_alloc rfl ?_
  rintro _ _ _ ⟨b6, rfl, rfl, rfl⟩
  refine tri_g (opg_store rfl rfl rfl rfl rfl rfl) rfl ?_
  rintro _ _ _ ⟨rfl, rfl⟩
  refine tA rfl rfl (tN (tT (tS (tR ?_))))
  refine tri_v (opv_loadA rfl rfl rfl) rfl ?_
  refine tri_g opg_makeMap rfl ?_
  rintro _ _ _ ⟨b15, rfl, rfl, rfl⟩
  refine tri_v (opv_buildS rfl rfl) rfl ?_
  refine tri_g (opg_box_agg rfl) rfl ?_
  rintro _ _ _ ⟨b17, rfl, rfl, rfl⟩
  refine tM rfl rfl (tA rfl rfl (tA rfl rfl (tN (tT (tri_ret ?_)))))
  refine tri_perm (A := ?a1_0 :: ?a1_1 :: ?a1_2 :: ?a1_3 :: ?a1_4 :: ?a1_5 :: ?a1_6 :: ?T1) (B := ?a1_2 :: ?a1_6 :: ?a1_3 :: ?a1_4 :: ?a1_5 :: ?a1_0 :: ?a1_1 :: ?T1) (by exact permL [2, 6, 3, 4, 5, 0, 1] [?a1_0, ?a1_1, ?a1_2, ?a1_3, ?a1_4, ?a1_5, ?a1_6] ?T1 (by decide) rfl) ?_
  refine tri_end _ (⟨[_, _], rfl⟩) rfl (.cons (rv_tmp rfl) (.cons (rv_tmp rfl) .nil)) (.inl ⟨hr, b17, bx, mb, b15, a1, c1, es, rfl, rfl, hix, rfl⟩)
 ·refine tM rfl rfl ?_
  refine tri_v (opv_extract rfl rfl) rfl ?_
  refine tri_v (opv_extract rfl rfl) rfl ?_
  refine tri_g opg_alloc rfl ?_
  rintro _ _ _ ⟨b6, rfl, rfl, rfl⟩
  refine tri_g (opg_store rfl rfl rfl rfl rfl rfl) rfl ?_
  rintro _ _ _ ⟨rfl, rfl⟩
  refine tA rfl rfl (tN (tT (tS (tR ?_))))
  refine tri_v (opv_loadA rfl rfl rfl) rfl ?_
  refine tri_g opg_makeMap rfl ?_
  rintro _ _ _ ⟨b15, rfl, rfl, rfl⟩
  refine tri_v (opv_buildS rfl rfl) rfl ?_
  refine tri_g (opg_box_agg rfl) rfl ?_
  rintro _ _ _ ⟨b17, rfl, rfl, rfl⟩
  refine tM rfl rfl (tA rfl rfl (tA rfl rfl (tN (tT (tri_ret ?_)))))
  refine tri_end A Suf.h rfl (.cons (rv_tmp rfl) (.cons (rv_tmp rfl) .nil)) (.inr ⟨hr, _, rfl, rfl, rfl⟩)
/-- What told makes of what a leaper told. -/
def toldL (ns : List Node) (room n : Int) (p : Prop) [Decidable p] (r : R9.L9) : List Node × Int × Int := if R8.may ns room n 2 ∧ p then R9.out ns r else (ns, 0, 1)
set_option maxHeartbeats 1000000 in
set_option maxRecDepth 100000 in
theorem leap_told {ns : List Node} {a : Option Addr} {cap f1 f2 : Nat} {room n : Int} {ca1 ca2 : List Value} {p : Prop} [Decidable p] {r : R9.L9} [FnI Try.prog f1] [FnI Try.prog f2] (hs : StA I a cap ns) (hn : ns.length ≤ 1000000000)
  (hc1 : R8.may ns room n 2 → ∀ bl bx mb db a cap es (X Y : Asrt), Idx ns es → FnC Try.prog f1 (pt bl 0 :: ca1).toArray (LxA bl bx mb db a cap ns room es [] (X :: Y :: A)) I (fun v A' I' => v = .bool (decide p) ∧ LxA bl bx mb db a cap ns room es [] (X :: Y :: A) = A' ∧ I = I'))
  (hc2 : R8.may ns room n 2 → p → ∀ bl bx mb db a cap es (X Y : Asrt), Idx ns es → FnC Try.prog f2 (pt bl 0 :: ca2).toArray (LxA bl bx mb db a cap ns room es [] (X :: Y :: A)) I (LxS bl bx mb db r room (X :: Y :: A) I)) :
  FnC Try.prog 39 [storeV a ns.length cap room, .int .i64 n, .func (.func f1) [].toArray ca1.toArray, .func (.func f2) [].toArray ca2.toArray].toArray A I (StoreR (toldL ns room n p r) room A I) := by
 skip
 refine fn_enter4 Try.func39 rfl Try.ntmps39 rfl fun w0 => ?_
 refine tS (tR ?_)
 refine tri_g (opg_box_agg rfl) rfl ?_
 rintro _ _ _ ⟨b4, rfl, rfl, rfl⟩
 refine tri_g opg_alloc rfl ?_
 rintro _ _ _ ⟨b8, rfl, rfl, rfl⟩
 refine tA rfl rfl (tA rfl rfl (tN (tT (tS (tR ?_)))))
 refine tri_v (opv_loadA rfl rfl rfl) rfl ?_
 refine tM rfl rfl ?_
 refine tri_g (opg_call (xs := [_, _]) rfl (leap_of hs hn)) rfl ?_
 rintro v A1 I1 hR
 rcases hR with ⟨hr, bl, bx, mb, db, a1, c1, es, rfl, rfl, hix, rfl⟩ | ⟨hr, q, rfl, rfl, rfl⟩
 ·refine tM rfl rfl ?_
  refine tri_v (opv_extract rfl rfl) rfl ?_
  refine tri_v (opv_extract rfl rfl) rfl ?_
  refine tA rfl rfl (tA rfl rfl (tN (tT (tS (tS (tR (tM rfl rfl ?_)))))))
  refine tri_v (opv_not rfl) rfl ?_
  refine tM rfl rfl ?_
  skip
  refine tri_guard_run rfl rfl rfl (tM rfl rfl (tri_guard_run rfl rfl rfl (tM rfl rfl (tri_guard_run rfl rfl rfl ?_))))
  refine tri_g (opg_callv (vs := [pt bl 0]) (xs := [_]) rfl rfl (hc1 hr bl bx mb db a1 c1 es _ _ hix)) rfl ?_
  rintro _ _ _ ⟨rfl, rfl, rfl⟩
  refine tri_guard_run rfl rfl rfl ?_
  refine tri_v (opv_notD rfl) rfl ?_
  refine tri_v (opv_pick_f rfl rfl) rfl ?_
  refine tN (tT ?_)
  refine tri_cond rfl (fun hp => ?_) (fun hp => ?_)
  ·have hp' : ¬ p := by simpa using hp
   refine tS (tR ?_)
   refine tri_v (opv_loadA rfl rfl rfl) rfl ?_
   refine tri_g (opg_store rfl rfl rfl rfl rfl rfl) rfl ?_
   rintro _ _ _ ⟨rfl, rfl⟩
   refine tA rfl rfl (tA rfl rfl (tN (tT (tri_ret (tri_then_ret ?_)))))
   refine tri_end A Suf.h rfl (.cons (rv_cellA rfl rfl rfl) (.cons (rv_tmp rfl) (.cons (rv_tmp rfl) .nil))) ?_
   rw [show toldL ns room n p r = (ns, 0, 1) from if_neg fun h => hp' h.2]
   exact ⟨a, cap, rfl, hs, rfl, fun _ h => h⟩
  ·have hp' : p := by simpa using hp
   refine tri_skip (tT (tS (tR (tM rfl rfl (tM rfl rfl ?_)))))
   refine tri_g (opg_callv (vs := [pt bl 0]) (xs := [_]) rfl rfl (hc2 hr hp' bl bx mb db a1 c1 es _ _ hix)) rfl ?_
   rintro _ _ I2 ⟨a2, c2, es2, ds2, ns2, m2, rfl, rfl, h2, hI⟩
   refine tM rfl rfl ?_
   refine tri_v (opv_extract rfl rfl) rfl ?_
   refine tri_v (opv_extract rfl rfl) rfl ?_
   refine tA rfl rfl (tA rfl rfl (tN (tT (tS (tS (tR (tM rfl rfl ?_)))))))
   refine tri_v (opv_neq rfl rfl) rfl ?_
   refine tN (tT ?_)
   refine tri_cond_dec rfl (fun h => ?_) (fun h => ?_)
   ·refine tS (tR ?_)
    refine tri_v (opv_loadA rfl rfl rfl) rfl ?_
    refine tM rfl rfl ?_
    refine tri_g (opg_store rfl rfl rfl rfl rfl rfl) rfl ?_
    rintro _ _ _ ⟨rfl, rfl⟩
    refine tA rfl rfl (tA rfl rfl (tN (tT (tri_ret (tri_then_ret ?_)))))
    refine tri_end A Suf.h rfl (.cons (rv_cellA rfl rfl rfl) (.cons (rv_tmp rfl) (.cons (rv_tmp rfl) .nil))) ?_
    rw [show toldL ns room n p r = (ns, 0, r.2.2) from (if_pos ⟨hr, hp'⟩).trans (if_pos h)]
    exact ⟨a, cap, rfl, hs.mono hI, rfl, hI⟩
   ·have h0 : r.2.2 = 0 := Decidable.not_not.1 h
    obtain ⟨rfl, rfl, _, _⟩ := h2 h0
    refine tri_skip (tT (tS (tR (tM rfl rfl ?_))))
    refine tri_v (opv_nilCheck rfl) rfl ?_
    refine tri_v (opv_fieldAddr rfl rfl) rfl ?_
    refine tri_v (opv_fieldAddr rfl rfl) rfl ?_
    refine tri_v (opv_load1 rfl rfl rfl) rfl ?_
    refine tri_v (opv_nilCheck rfl) rfl ?_
    refine tri_v (opv_fieldAddr rfl rfl) rfl ?_
    refine tri_v (opv_loadA rfl rfl rfl) rfl ?_
    refine tM rfl rfl ?_
    refine tri_g (opg_store rfl rfl rfl rfl rfl rfl) rfl ?_
    rintro _ _ _ ⟨rfl, rfl⟩
    refine tA rfl rfl (tA rfl rfl (tN (tT (tri_ret ?_))))
    refine tri_perm (A := ?a2_0 :: ?a2_1 :: ?T2) (B := ?a2_1 :: ?a2_0 :: ?T2) (by exact permL [1, 0] [?a2_0, ?a2_1] ?T2 (by decide) rfl) ?_
    refine tri_freezeRowC rfl fun I' hI' hs' => ?_
    refine tri_end A Suf.h rfl (.cons (rv_cellA rfl rfl rfl) (.cons (rv_tmp rfl) (.cons (rv_tmp rfl) .nil))) ?_
    rw [show toldL ns room n p r = (r.1.ns, r.2.1, 0) from (if_pos ⟨hr, hp'⟩).trans (if_neg h)]
    exact ⟨a2, c2, rfl, hs', rfl, fun _ h => hI' (hI h)⟩
 ·refine tM rfl rfl ?_
  refine tri_v (opv_extract rfl rfl) rfl ?_
  refine tri_v (opv_extract rfl rfl) rfl ?_
  refine tA rfl rfl (tA rfl rfl (tN (tT (tS (tS (tR (tM rfl rfl ?_)))))))
  refine tri_v (opv_not rfl) rfl ?_
  refine tM rfl rfl ?_
  skip
  refine tri_guard_skip rfl rfl rfl rfl (tri_guard_skip rfl rfl rfl rfl (tri_guard_skip rfl rfl rfl rfl (tri_guard_skip rfl rfl rfl rfl ?_)))
  refine tri_v (opv_pick_t rfl rfl) rfl ?_
  refine tN (tT ?_)
  refine tri_cond_true rfl ?_
  refine tS (tR ?_)
  refine tri_v (opv_loadA rfl rfl rfl) rfl ?_
  refine tri_g (opg_store rfl rfl rfl rfl rfl rfl) rfl ?_
  rintro _ _ _ ⟨rfl, rfl⟩
  refine tA rfl rfl (tA rfl rfl (tN (tT (tri_ret (tri_then_ret ?_)))))
  refine tri_end A Suf.h rfl (.cons (rv_cellA rfl rfl rfl) (.cons (rv_tmp rfl) (.cons (rv_tmp rfl) .nil))) ?_
  rw [show toldL ns room n p r = (ns, 0, 1) from if_neg fun h => hr h.1]
  exact ⟨a, cap, rfl, hs, rfl, fun _ h => h⟩
end Go.GL


set_option linter.unusedVariables false
namespace Go.GL
open Go.Proofs
attribute [local irreducible] wpList Code.wp Exit.then Exit.inBlock Ends Tri TriH OpV OpG FnC epf wpAnyH
variable {A : List Asrt} {I : List Chunk}
theorem may_lk {ns : List Node} {room n : Int} (h : R8.may ns room n 2) : R9.Lk room (⟨ns, []⟩ : R9.LS) ∧ ∃ k : Nat, R7.IsN ns (k + 2) n ∧ R9.lvS (⟨ns, []⟩ : R9.LS) n = k := by
 have h2 := h.2.2
 refine ⟨⟨h.1, fun p hp => by cases hp⟩, ((R6.nd ns n).lv - 2).toNat, ⟨h.2.1, by omega⟩, rfl⟩
set_option maxHeartbeats 1000000 in
set_option maxRecDepth 100000 in
theorem leap_clo1 {ns : List Node} {bn bj : Nat} {room n j : Int} (hr : R8.may ns room n 2) (bl bx mb db : Nat) (a : Option Addr) (cap : Nat) (es : KVs) (X Y : Asrt) (hix : Idx ns es) :
  FnC Try.prog 40 [pt bl 0, pt bj 0, pt bn 0].toArray (LxA bl bx mb db a cap ns room es [] (X :: Y :: Box bj [.int .i64 j] 3 :: Box bn [.int .i64 n] 3 :: A)) I (fun v A' I' => v = .bool (decide (0 ≤ j ∧ j ≤ (R6.nd ns n).lv - 2)) ∧ LxA bl bx mb db a cap ns room es [] (X :: Y :: Box bj [.int .i64 j] 3 :: Box bn [.int .i64 n] 3 :: A) = A' ∧ I = I') := by
 obtain ⟨lk, k, hn, hk⟩ := may_lk hr
 have hlb := lk.wf.lvb hn.1
 simp only at hlb
 skip
 refine fn_enter3 Try.func40 rfl Try.ntmps40 rfl fun w0 => ?_
 refine tS (tR (tA rfl rfl (tN (tT (tS ?_)))))
 refine tri_draw [0, 1, 2, 3, 4, 5, 6, 7, 8, 9, 10] rfl [] rfl mixed ?_
 refine th_take rfl rfl (by kernel_rfl)  (opv_load1 rfl rfl rfl) ?_
 refine th_take rfl rfl (by kernel_rfl)  (opv_geq rfl rfl) ?_
 refine th_take rfl rfl (by kernel_rfl)  (opv_move rfl) ?_
 refine th_split rfl rfl rfl (fun h1 => ?_) (fun h1 => ?_)
 ·refine th_take_g rfl rfl rfl rfl rfl (by kernel_rfl)  (opv_load1 rfl rfl rfl) ?_
  refine th_take_g rfl rfl rfl rfl rfl (by kernel_rfl)  (opv_move rfl) ?_
  refine th_take_g rfl rfl rfl rfl rfl (by kernel_rfl)  (opv_load1 rfl rfl rfl) ?_
  refine th_one (by kernel_rfl) (step_mg rfl rfl rfl rfl rfl (opg_call (xs := [_, _]) rfl (leaper_level hn.1)) ?_)
  rintro _ _ _ ⟨rfl, rfl, rfl⟩
  refine ⟨Suf.h, (fun _ h => h), ?_⟩
  refine th_take_g rfl rfl rfl rfl rfl (by kernel_rfl)  (opv_sub rfl rfl (w64 (by omega) (by omega))) ?_
  refine th_take_g rfl rfl rfl rfl rfl (by kernel_rfl)  (opv_leq rfl rfl) ?_
  refine th_take rfl rfl (by kernel_rfl)  (opv_pick_t rfl rfl) ?_
  refine th_take rfl rfl (by kernel_rfl)  (opv_assign rfl) ?_
  refine th_done (by kernel_rfl) ?_
  refine tT (tri_ret ?_)
  refine tri_end _ (⟨[], rfl⟩) rfl (.cons (rv_tmp rfl) .nil) ⟨?_, rfl, rfl⟩
  rw [show decide (0 ≤ j ∧ j ≤ (R6.nd ns n).lv - 2) = decide (j ≤ (R6.nd ns n).lv - 2) from decide_eq_decide.2 ⟨fun h => h.2, fun h => ⟨h1, h⟩⟩]
  rfl
 ·refine th_skip rfl rfl rfl rfl rfl (by kernel_rfl)  ?_
  refine th_skip rfl rfl rfl rfl rfl (by kernel_rfl)  ?_
  refine th_skip rfl rfl rfl rfl rfl (by kernel_rfl)  ?_
  refine th_one (by kernel_rfl) (step_skip rfl rfl rfl rfl rfl ?_)
  refine th_skip rfl rfl rfl rfl rfl (by kernel_rfl)  ?_
  refine th_skip rfl rfl rfl rfl rfl (by kernel_rfl)  ?_
  refine th_take rfl rfl (by kernel_rfl)  (opv_pick_f rfl rfl) ?_
  refine th_take rfl rfl (by kernel_rfl)  (opv_assign rfl) ?_
  refine th_done (by kernel_rfl) ?_
  refine tT (tri_ret ?_)
  refine tri_end _ (⟨[], rfl⟩) rfl (.cons (rv_tmp rfl) .nil) ⟨?_, rfl, rfl⟩
  rw [decide_eq_false fun h => h1 h.1]
  rfl
set_option maxHeartbeats 1000000 in
set_option maxRecDepth 100000 in
theorem leap_clo2 {ns : List Node} {bn bj : Nat} {room n j : Int} (hr : R8.may ns room n 2) (hj : 0 ≤ j ∧ j ≤ (R6.nd ns n).lv - 2) (bl bx mb db : Nat) (a : Option Addr) (cap : Nat) (es : KVs) (X Y : Asrt) (hix : Idx ns es) :
  FnC Try.prog 42 [pt bl 0, pt bn 0, pt bj 0].toArray (LxA bl bx mb db a cap ns room es [] (X :: Y :: Box bj [.int .i64 j] 3 :: Box bn [.int .i64 n] 3 :: A)) I (LxS bl bx mb db (R9.leap room (R9.lvS (⟨ns, []⟩ : R9.LS) n) ⟨ns, []⟩ n j) room (X :: Y :: Box bj [.int .i64 j] 3 :: Box bn [.int .i64 n] 3 :: A) I) := by
 obtain ⟨lk, k, hn, hk⟩ := may_lk hr
 have hlb := lk.wf.lvb hn.1
 simp only at hlb
 rw [hk]
 skip
 refine fn_enter3 Try.func42 rfl Try.ntmps42 rfl fun w0 => ?_
 refine tS (tR (tA rfl rfl (tA rfl rfl (tN (tT (tS (tR ?_)))))))
 refine tM rfl rfl ?_
 refine tri_v (opv_load1 rfl rfl rfl) rfl ?_
 refine tri_v (opv_load1 rfl rfl rfl) rfl ?_
 refine tri_g (opg_call (xs := [_, _, _]) rfl (leaper_leap k _ _ (⟨ns, []⟩ : R9.LS) _ _ _ _ _ _ _ n j _ _ _ lk hn hix MemIx.nil (by omega) rfl)) rfl ?_
 rintro _ _ _ ⟨a4, c4, es4, ds4, ns4, m4, rfl, rfl, h4, rfl⟩
 refine tri_v (opv_extract rfl rfl) rfl ?_
 refine tri_v (opv_extract rfl rfl) rfl ?_
 refine tA rfl rfl (tA rfl rfl (tN (tT (tri_ret ?_))))
 refine tri_end _ (⟨[], rfl⟩) rfl (.cons (rv_tmp rfl) (.cons (rv_tmp rfl) .nil)) ⟨a4, c4, es4, ds4, ns4, m4, rfl, rfl, h4, fun _ h => h⟩
set_option maxHeartbeats 1000000 in
set_option maxRecDepth 100000 in
theorem leap_leap {ns : List Node} {a : Option Addr} {cap : Nat} {room n j : Int} (hs : StA I a cap ns) (hn : ns.length ≤ 1000000000) :
  FnC Try.prog 15 [storeV a ns.length cap room, .int .i64 n, .int .i64 j].toArray A I (StoreR (R9.leapT ns room n j) room A I) := by
 skip
 refine fn_enter3 Try.func15 rfl Try.ntmps15 rfl fun w0 => ?_
 refine tS (tR ?_)
 refine tri_g (opg_box_agg rfl) rfl ?_
 rintro _ _ _ ⟨b3, rfl, rfl, rfl⟩
 refine tri_g (opg_box1 rfl rfl) rfl ?_
 rintro _ _ _ ⟨b4, rfl, rfl, rfl⟩
 refine tri_g (opg_box1 rfl rfl) rfl ?_
 rintro _ _ _ ⟨b5, rfl, rfl, rfl⟩
 refine tri_g opg_alloc rfl ?_
 rintro _ _ _ ⟨b6, rfl, rfl, rfl⟩
 refine tA rfl rfl (tA rfl rfl (tN (tT (tS (tR ?_)))))
 refine tri_v (opv_loadA rfl rfl rfl) rfl ?_
 refine tri_v (opv_load1 rfl rfl rfl) rfl ?_
 refine tri_v (opv_makeFunc (fs := []) (cs := [_, _]) (vf := []) (vc := [_, _]) rfl rfl) rfl ?_
 refine tri_v (opv_makeFunc (fs := []) (cs := [_, _]) (vf := []) (vc := [_, _]) rfl rfl) rfl ?_
 refine tri_perm (A := ?a1_0 :: ?a1_1 :: ?a1_2 :: ?a1_3 :: ?T1) (B := ?a1_1 :: ?a1_2 :: ?a1_0 :: ?a1_3 :: ?T1) (by exact permL [1, 2, 0, 3] [?a1_0, ?a1_1, ?a1_2, ?a1_3] ?T1 (by decide) rfl) ?_
 refine tri_g (opg_call (xs := [_, _, _, _]) rfl (leap_told (ca1 := [_, _]) (ca2 := [_, _]) (p := 0 ≤ j ∧ j ≤ (R6.nd ns n).lv - 2) (r := R9.leap room (R9.lvS (⟨ns, []⟩ : R9.LS) n) ⟨ns, []⟩ n j) hs hn (fun hr bl bx mb db a cap es X Y hix => leap_clo1 hr bl bx mb db a cap es X Y hix) (fun hr hp bl bx mb db a cap es X Y hix => leap_clo2 hr hp bl bx mb db a cap es X Y hix))) rfl ?_
 rintro _ _ _ ⟨a2, c2, rfl, hs2, rfl, hI⟩
 refine tri_v (opv_extract rfl rfl) rfl ?_
 refine tri_v (opv_extract rfl rfl) rfl ?_
 refine tri_v (opv_extract rfl rfl) rfl ?_
 refine tri_g (opg_store rfl rfl rfl rfl rfl rfl) rfl ?_
 rintro _ _ _ ⟨rfl, rfl⟩
 refine tA rfl rfl (tA rfl rfl (tN (tT (tri_ret ?_))))
 refine tri_end A Suf.h rfl (.cons (rv_cellA rfl rfl rfl) (.cons (rv_tmp rfl) (.cons (rv_tmp rfl) .nil))) ⟨a2, c2, rfl, hs2, rfl, hI⟩
set_option maxHeartbeats 1000000 in
set_option maxRecDepth 100000 in
theorem run_clo1 {ns : List Node} {bn bj : Nat} {room n j : Int} (hr : R8.may ns room n 2) (bl bx mb db : Nat) (a : Option Addr) (cap : Nat) (es : KVs) (X Y : Asrt) (hix : Idx ns es) :
  FnC Try.prog 50 [pt bl 0, pt bj 0].toArray (LxA bl bx mb db a cap ns room es [] (X :: Y :: Box bj [.int .i64 j] 3 :: Box bn [.int .i64 n] 3 :: A)) I (fun v A' I' => v = .bool (decide (0 ≤ j ∧ j ≤ 4611686018427387903)) ∧ LxA bl bx mb db a cap ns room es [] (X :: Y :: Box bj [.int .i64 j] 3 :: Box bn [.int .i64 n] 3 :: A) = A' ∧ I = I') := by
 skip
 refine fn_enter2 Try.func50 rfl Try.ntmps50 rfl fun w0 => ?_
 refine tS (tR (tA rfl rfl (tN (tT (tS (tR ?_))))))
 refine tri_v (opv_load1 rfl rfl rfl) rfl ?_
 refine tri_v (opv_geq rfl rfl) rfl ?_
 refine tM rfl rfl ?_
 refine tri_split rfl rfl (fun h1 => ?_) (fun h1 => ?_)
 ·refine tri_guard_run rfl rfl rfl ?_
  refine tri_v (opv_load1 rfl rfl rfl) rfl ?_
  refine tri_guard_run rfl rfl rfl ?_
  refine tri_v (opv_leq rfl rfl) rfl ?_
  refine tri_v (opv_pick_t rfl rfl) rfl ?_
  refine tA rfl rfl (tN (tT (tri_ret ?_)))
  refine tri_end _ (⟨[], rfl⟩) rfl (.cons (rv_tmp rfl) .nil) ⟨?_, rfl, rfl⟩
  rw [show decide (0 ≤ j ∧ j ≤ 4611686018427387903) = decide (j ≤ 4611686018427387903) from decide_eq_decide.2 ⟨fun h => h.2, fun h => ⟨h1, h⟩⟩]
  rfl
 ·refine tri_guard_skip rfl rfl rfl rfl (tri_guard_skip rfl rfl rfl rfl ?_)
  refine tri_v (opv_pick_f rfl rfl) rfl ?_
  refine tA rfl rfl (tN (tT (tri_ret ?_)))
  refine tri_end _ (⟨[], rfl⟩) rfl (.cons (rv_tmp rfl) .nil) ⟨?_, rfl, rfl⟩
  rw [decide_eq_false fun h => h1 h.1]
  rfl
set_option maxHeartbeats 1000000 in
set_option maxRecDepth 100000 in
theorem run_clo2 {ns : List Node} {bn bj : Nat} {room n j : Int} (hr : R8.may ns room n 2) (hj : 0 ≤ j ∧ j ≤ 4611686018427387903) (bl bx mb db : Nat) (a : Option Addr) (cap : Nat) (es : KVs) (X Y : Asrt) (hix : Idx ns es) :
  FnC Try.prog 51 [pt bl 0, pt bn 0, pt bj 0].toArray (LxA bl bx mb db a cap ns room es [] (X :: Y :: Box bj [.int .i64 j] 3 :: Box bn [.int .i64 n] 3 :: A)) I (LxS bl bx mb db (R9.runL room (R9.bits j) ⟨ns, []⟩ n) room (X :: Y :: Box bj [.int .i64 j] 3 :: Box bn [.int .i64 n] 3 :: A) I) := by
 obtain ⟨lk, k, hn, hk⟩ := may_lk hr
 skip
 refine fn_enter3 Try.func51 rfl Try.ntmps51 rfl fun w0 => ?_
 refine tS (tR (tA rfl rfl (tA rfl rfl (tN (tT (tS (tR ?_)))))))
 refine tM rfl rfl ?_
 refine tri_v (opv_load1 rfl rfl rfl) rfl ?_
 refine tri_v (opv_load1 rfl rfl rfl) rfl ?_
 refine tri_g (opg_call (xs := [_, _, _]) rfl (leaper_run (s := (⟨ns, []⟩ : R9.LS)) lk hn hix MemIx.nil hj rfl)) rfl ?_
 rintro _ _ _ ⟨a4, c4, es4, ds4, ns4, m4, rfl, rfl, h4, hI⟩
 refine tri_v (opv_extract rfl rfl) rfl ?_
 refine tri_v (opv_extract rfl rfl) rfl ?_
 refine tA rfl rfl (tA rfl rfl (tN (tT (tri_ret ?_))))
 refine tri_end _ (⟨[], rfl⟩) rfl (.cons (rv_tmp rfl) (.cons (rv_tmp rfl) .nil)) ⟨a4, c4, es4, ds4, ns4, m4, rfl, rfl, h4, hI⟩
set_option maxHeartbeats 1000000 in
set_option maxRecDepth 100000 in
theorem leap_run {ns : List Node} {a : Option Addr} {cap : Nat} {room n j : Int} (hs : StA I a cap ns) (hn : ns.length ≤ 1000000000) :
  FnC Try.prog 20 [storeV a ns.length cap room, .int .i64 n, .int .i64 j].toArray A I (StoreR (R9.runT ns room n j) room A I) := by
 skip
 refine fn_enter3 Try.func20 rfl Try.ntmps20 rfl fun w0 => ?_
 refine tS (tR ?_)
 refine tri_g (opg_box_agg rfl) rfl ?_
 rintro _ _ _ ⟨b3, rfl, rfl, rfl⟩
 refine tri_g (opg_box1 rfl rfl) rfl ?_
 rintro _ _ _ ⟨b4, rfl, rfl, rfl⟩
 refine tri_g (opg_box1 rfl rfl) rfl ?_
 rintro _ _ _ ⟨b5, rfl, rfl, rfl⟩
 refine tri_g opg_alloc rfl ?_
 rintro _ _ _ ⟨b6, rfl, rfl, rfl⟩
 refine tA rfl rfl (tA rfl rfl (tN (tT (tS (tR ?_)))))
 refine tri_v (opv_loadA rfl rfl rfl) rfl ?_
 refine tri_v (opv_load1 rfl rfl rfl) rfl ?_
 refine tri_v (opv_makeFunc (fs := []) (cs := [_]) (vf := []) (vc := [_]) rfl rfl) rfl ?_
 refine tri_v (opv_makeFunc (fs := []) (cs := [_, _]) (vf := []) (vc := [_, _]) rfl rfl) rfl ?_
 refine tri_perm (A := ?a2_0 :: ?a2_1 :: ?a2_2 :: ?a2_3 :: ?T2) (B := ?a2_1 :: ?a2_2 :: ?a2_0 :: ?a2_3 :: ?T2) (by exact permL [1, 2, 0, 3] [?a2_0, ?a2_1, ?a2_2, ?a2_3] ?T2 (by decide) rfl) ?_
 refine tri_g (opg_call (xs := [_, _, _, _]) rfl (leap_told (ca1 := [_]) (ca2 := [_, _]) (p := 0 ≤ j ∧ j ≤ 4611686018427387903) (r := R9.runL room (R9.bits j) ⟨ns, []⟩ n) hs hn (fun hr bl bx mb db a cap es X Y hix => run_clo1 hr bl bx mb db a cap es X Y hix) (fun hr hp bl bx mb db a cap es X Y hix => run_clo2 hr hp bl bx mb db a cap es X Y hix))) rfl ?_
 rintro _ _ _ ⟨a2, c2, rfl, hs2, rfl, hI⟩
 refine tri_v (opv_extract rfl rfl) rfl ?_
 refine tri_v (opv_extract rfl rfl) rfl ?_
 refine tri_v (opv_extract rfl rfl) rfl ?_
 refine tri_g (opg_store rfl rfl rfl rfl rfl rfl) rfl ?_
 rintro _ _ _ ⟨rfl, rfl⟩
 refine tA rfl rfl (tA rfl rfl (tN (tT (tri_ret ?_))))
 refine tri_end A Suf.h rfl (.cons (rv_cellA rfl rfl rfl) (.cons (rv_tmp rfl) (.cons (rv_tmp rfl) .nil))) ⟨a2, c2, rfl, hs2, rfl, hI⟩
set_option maxHeartbeats 1000000 in
set_option maxRecDepth 100000 in
theorem trim_clo1 {ns : List Node} {bn : Nat} {room n : Int} (bl bx mb db : Nat) (a : Option Addr) (cap : Nat) (es : KVs) (X Y : Asrt) :
  FnC Try.prog 46 [pt bl 0].toArray (LxA bl bx mb db a cap ns room es [] (X :: Y :: Box bn [.int .i64 n] 3 :: A)) I (fun v A' I' => v = .bool (decide True) ∧ LxA bl bx mb db a cap ns room es [] (X :: Y :: Box bn [.int .i64 n] 3 :: A) = A' ∧ I = I') := by
 skip
 refine fn_enter1 Try.func46 rfl Try.ntmps46 rfl fun w0 => ?_
 refine tS (tR (tA rfl rfl (tN (tT (tS (tR (tA rfl rfl ?_)))))))
 refine tN (tT (tri_ret ?_))
 refine tri_end _ (⟨[], rfl⟩) rfl (.cons (rv_tmp rfl) .nil) ⟨rfl, rfl, rfl⟩
set_option maxHeartbeats 1000000 in
set_option maxRecDepth 100000 in
theorem trim_clo2 {ns : List Node} {bn : Nat} {room n : Int} (hr : R8.may ns room n 2) (bl bx mb db : Nat) (a : Option Addr) (cap : Nat) (es : KVs) (X Y : Asrt) (hix : Idx ns es) :
  FnC Try.prog 47 [pt bl 0, pt bn 0].toArray (LxA bl bx mb db a cap ns room es [] (X :: Y :: Box bn [.int .i64 n] 3 :: A)) I (LxS bl bx mb db (R9.trimS room ⟨ns, []⟩ n) room (X :: Y :: Box bn [.int .i64 n] 3 :: A) I) := by
 obtain ⟨lk, k, hn, hk⟩ := may_lk hr
 unfold R9.trimS
 rw [hk]
 skip
 refine fn_enter2 Try.func47 rfl Try.ntmps47 rfl fun w0 => ?_
 refine tS (tR (tA rfl rfl (tA rfl rfl (tN (tT (tS (tR ?_)))))))
 refine tM rfl rfl ?_
 refine tri_v (opv_load1 rfl rfl rfl) rfl ?_
 refine tri_g (opg_call (xs := [_, _]) rfl (leaper_trim (s := (⟨ns, []⟩ : R9.LS)) lk hn hix MemIx.nil rfl)) rfl ?_
 rintro _ _ _ ⟨a4, c4, es4, ds4, ns4, m4, rfl, rfl, h4, rfl⟩
 refine tri_v (opv_extract rfl rfl) rfl ?_
 refine tri_v (opv_extract rfl rfl) rfl ?_
 refine tA rfl rfl (tA rfl rfl (tN (tT (tri_ret ?_))))
 refine tri_end _ (⟨[], rfl⟩) rfl (.cons (rv_tmp rfl) (.cons (rv_tmp rfl) .nil)) ⟨a4, c4, es4, ds4, ns4, m4, rfl, rfl, h4, fun _ h => h⟩
set_option maxHeartbeats 1000000 in
set_option maxRecDepth 100000 in
theorem leap_trim {ns : List Node} {a : Option Addr} {cap : Nat} {room n : Int} (hs : StA I a cap ns) (hn : ns.length ≤ 1000000000) :
  FnC Try.prog 18 [storeV a ns.length cap room, .int .i64 n].toArray A I (StoreR (R9.trimT ns room n) room A I) := by
 have e : R9.trimT ns room n = toldL ns room n True (R9.trimS room ⟨ns, []⟩ n) := by
  unfold R9.trimT toldL
  by_cases h : R8.may ns room n 2
  ·rw [if_pos h, if_pos ⟨h, trivial⟩]
  ·rw [if_neg h, if_neg fun x => h x.1]
 rw [e]
 skip
 refine fn_enter2 Try.func18 rfl Try.ntmps18 rfl fun w0 => ?_
 refine tS (tR ?_)
 refine tri_g (opg_box_agg rfl) rfl ?_
 rintro _ _ _ ⟨b2, rfl, rfl, rfl⟩
 refine tri_g (opg_box1 rfl rfl) rfl ?_
 rintro _ _ _ ⟨b3, rfl, rfl, rfl⟩
 refine tri_g opg_alloc rfl ?_
 rintro _ _ _ ⟨b4, rfl, rfl, rfl⟩
 refine tA rfl rfl (tA rfl rfl (tN (tT (tS (tR ?_)))))
 refine tri_v (opv_loadA rfl rfl rfl) rfl ?_
 refine tri_v (opv_load1 rfl rfl rfl) rfl ?_
 refine tri_v (opv_makeFunc (fs := []) (cs := [_]) (vf := []) (vc := [_]) rfl rfl) rfl ?_
 refine tri_perm (A := ?a3_0 :: ?a3_1 :: ?a3_2 :: ?T3) (B := ?a3_1 :: ?a3_0 :: ?a3_2 :: ?T3) (by exact permL [1, 0, 2] [?a3_0, ?a3_1, ?a3_2] ?T3 (by decide) rfl) ?_
 refine tri_g (opg_call (xs := [_, _, _, _]) rfl (leap_told (ca1 := []) (ca2 := [_]) (p := True) (r := R9.trimS room ⟨ns, []⟩ n) hs hn (fun hr bl bx mb db a cap es X Y hix => trim_clo1 bl bx mb db a cap es X Y) (fun hr _ bl bx mb db a cap es X Y hix => trim_clo2 hr bl bx mb db a cap es X Y hix))) rfl ?_
 rintro _ _ _ ⟨a2, c2, rfl, hs2, rfl, hI⟩
 refine tri_v (opv_extract rfl rfl) rfl ?_
 refine tri_v (opv_extract rfl rfl) rfl ?_
 refine tri_v (opv_extract rfl rfl) rfl ?_
 refine tri_g (opg_store rfl rfl rfl rfl rfl rfl) rfl ?_
 rintro _ _ _ ⟨rfl, rfl⟩
 refine tA rfl rfl (tA rfl rfl (tN (tT (tri_ret ?_))))
 refine tri_end A Suf.h rfl (.cons (rv_cellA rfl rfl rfl) (.cons (rv_tmp rfl) (.cons (rv_tmp rfl) .nil))) ⟨a2, c2, rfl, hs2, rfl, hI⟩
end Go.GL


set_option linter.unusedVariables false
namespace Go.GL
namespace RL
def glider : List Cell := [⟨0, 0⟩, ⟨1, 1⟩, ⟨-1, 2⟩, ⟨0, 2⟩, ⟨1, 2⟩]
def awM9 : List Node × Int × Int := R7.make [R6.n0, R6.n1] 9000 glider 4
def awA9 : List Node × Int × Int := R9.runT awM9.1 9000 awM9.2.1 4
def awB9 : List Node × Int × Int := R9.leapT awM9.1 9000 awM9.2.1 2
def awT9 : List Node × Int × Int := R9.trimT awM9.1 9000 awM9.2.1
set_option maxRecDepth 100000 in
theorem aw9_ok : (R6.right awM9.1 9000 ∧ R6.inS awM9.1 awM9.2.1)
  ∧ (0 ≤ awA9.2.1 ∧ awA9.2.1 < awA9.1.length ∧ awA9.2.2 = 0 ∧ 2 ≤ (awA9.1.getD awA9.2.1.toNat default).lv ∧ R6.right awA9.1 9000 ∧ (R7.of awA9.1 awA9.2.1).length = 5)
  ∧ (0 ≤ awB9.2.1 ∧ awB9.2.1 < awB9.1.length ∧ 3 ≤ awB9.1.length ∧ awB9.2.2 = 0 ∧ (awB9.1.getD awB9.2.1.toNat default).lv = 3 ∧ (awB9.1.getD awB9.2.1.toNat default).pop = 5)
  ∧ (0 ≤ awT9.2.1 ∧ awT9.2.1 < awT9.1.length ∧ awT9.2.2 = 0 ∧ (awT9.1.getD awT9.2.1.toNat default).lv = 3)
  ∧ (R9.leapT awM9.1 9000 awM9.2.1 3).2.2 = 1 ∧ (R9.runT awM9.1 9000 awM9.2.1 2305843009213693952).2.2 = 2 := by
 refine ⟨by decide +kernel, by decide +kernel, by decide +kernel, by decide +kernel, by decide +kernel, by decide +kernel⟩
end RL
end Go.GL


set_option linter.unusedVariables false
namespace Go.GL
open Go.Proofs
attribute [local irreducible] wpList Code.wp Exit.then Exit.inBlock Ends Tri TriH OpV OpG FnC epf wpAnyH
variable {A : List Asrt} {I : List Chunk}
set_option maxRecDepth 100000 in
theorem law09_glider : FnC Try.prog 32 #[] A I (fun v A' I' => ∃ a' cap', v = .slice a' RL.glider.length cap' ∧ SlAt I' a' RL.glider ∧ A = A' ∧ I ⊆ I') := by
 skip
 refine fn_enter0 Try.func32 rfl Try.ntmps32 rfl fun w0 => ?_
 refine tS (tR (tA rfl rfl (tN (tT (tS (tR ?_))))))
 refine tri_v (opv_buildS rfl rfl) rfl ?_
 refine tri_v (opv_buildS rfl rfl) rfl ?_
 refine tri_v (opv_buildS rfl rfl) rfl ?_
 refine tri_v (opv_buildS rfl rfl) rfl ?_
 refine tri_v (opv_buildS rfl rfl) rfl ?_
 refine tri_g (opg_buildSlice rfl rfl rfl rfl) rfl ?_
 rintro _ _ _ ⟨b6, rfl, rfl, rfl⟩
 refine tA rfl rfl (tN (tT (tri_ret ?_)))
 refine tri_freezeBoxS RL.glider rfl fun I1 hI1 hs1 => ?_
 refine tri_end A Suf.h rfl (.cons (rv_tmp rfl) .nil) ⟨_, _, rfl, hs1, rfl, hI1⟩
theorem ref06_newR {room : Int} {p : List Node × Int} (h : R6.new room = p) : FnC Try.prog 31 [.int .i64 room].toArray A I (fun v A' I' => ∃ a' cap', v = storeV a' p.1.length cap' p.2 ∧ StA I' a' cap' p.1 ∧ A = A' ∧ I ⊆ I') := by
 subst h
 exact ref06_new
theorem ref07_makeR {ns : List Node} {a bb : Option Addr} {cap cap2 : Nat} {room lv : Int} {l : List Cell} {p : List Node × Int × Int} (hs : StA I a cap ns) (hn : ns.length ≤ 1000000000) (hr : R6.Rng ns) (hsl : SlAt I bb l) (hnl : l.length ≤ 1000000000) (h : R7.make ns room l lv = p) :
  FnC Try.prog 30 [storeV a ns.length cap room, .slice bb l.length cap2, .int .i64 lv].toArray A I (StoreR p room A I) := by
 subst h
 exact ref07_make hs hn hr hsl hnl
theorem leap_leapR {ns : List Node} {a : Option Addr} {cap : Nat} {room n j : Int} {p : List Node × Int × Int} (hs : StA I a cap ns) (hn : ns.length ≤ 1000000000) (h : R9.leapT ns room n j = p) :
  FnC Try.prog 15 [storeV a ns.length cap room, .int .i64 n, .int .i64 j].toArray A I (StoreR p room A I) := by
 subst h
 exact leap_leap hs hn
theorem leap_runR {ns : List Node} {a : Option Addr} {cap : Nat} {room n j : Int} {p : List Node × Int × Int} (hs : StA I a cap ns) (hn : ns.length ≤ 1000000000) (h : R9.runT ns room n j = p) :
  FnC Try.prog 20 [storeV a ns.length cap room, .int .i64 n, .int .i64 j].toArray A I (StoreR p room A I) := by
 subst h
 exact leap_run hs hn
theorem leap_trimR {ns : List Node} {a : Option Addr} {cap : Nat} {room n : Int} {p : List Node × Int × Int} (hs : StA I a cap ns) (hn : ns.length ≤ 1000000000) (h : R9.trimT ns room n = p) :
  FnC Try.prog 18 [storeV a ns.length cap room, .int .i64 n].toArray A I (StoreR p room A I) := by
 subst h
 exact leap_trim hs hn
set_option maxHeartbeats 2000000 in
set_option maxRecDepth 100000 in
theorem law09_awake : FnC Try.prog 12 #[] A I (fun v A' I' => v = .bool true ∧ A = A' ∧ I ⊆ I') := by
 obtain ⟨⟨hmr, hmi⟩, ⟨a1, a2, a3, a4, a5, a6⟩, ⟨g1, g2, g3, g4, g5, g6⟩, ⟨t1, t2, t3, t4⟩, e1, e2⟩ := RL.aw9_ok
 have eN : R6.new 9000 = ([R6.n0, R6.n1], 9000) := by decide
 obtain ⟨M, eM⟩ : ∃ M, RL.awM9 = M := ⟨_, rfl⟩
 obtain ⟨rA, eA⟩ : ∃ M, RL.awA9 = M := ⟨_, rfl⟩
 obtain ⟨rB, eB⟩ : ∃ M, RL.awB9 = M := ⟨_, rfl⟩
 obtain ⟨rT, eT⟩ : ∃ M, RL.awT9 = M := ⟨_, rfl⟩
 have eM' : R7.make [R6.n0, R6.n1] 9000 RL.glider 4 = M := eM
 have eA' : R9.runT M.1 9000 M.2.1 4 = rA := by rw [← eM]; exact eA
 have eB' : R9.leapT M.1 9000 M.2.1 2 = rB := by rw [← eM]; exact eB
 have eT' : R9.trimT M.1 9000 M.2.1 = rT := by rw [← eM]; exact eT
 rw [eM] at hmr hmi e1 e2
 rw [eA] at a1 a2 a3 a4 a5 a6
 rw [eB] at g1 g2 g3 g4 g5 g6
 rw [eT] at t1 t2 t3 t4
 obtain ⟨rC, eC⟩ : ∃ r, R9.leapT M.1 9000 M.2.1 3 = r := ⟨_, rfl⟩
 obtain ⟨rD, eD⟩ : ∃ r, R9.runT M.1 9000 M.2.1 2305843009213693952 = r := ⟨_, rfl⟩
 rw [eC] at e1
 rw [eD] at e2
 have hml : M.1.length ≤ 1000000000 := by have := hmr.1; omega
 skip
 refine fn_enter0 Try.func12 rfl Try.ntmps12 rfl fun w0 => ?_
 refine tS (tR (tA rfl rfl (tN (tT (tS (tR ?_))))))
 refine tri_g (opg_call (xs := [_]) rfl (ref06_newR eN)) rfl ?_
 rintro _ _ I0 ⟨x0, y0, rfl, hs0, rfl, hI0⟩
 skip
 refine tri_g (opg_call (xs := []) rfl (law09_glider)) rfl ?_
 rintro _ _ I1 ⟨x1, y1, rfl, hs1, rfl, hI1⟩
 skip
 refine tri_g (opg_call (xs := [_, _, _]) rfl (ref07_makeR (hs0.mono hI1) (by decide) (by unfold R6.Rng; decide) hs1 (by decide) eM')) rfl ?_
 rintro _ _ I2 ⟨x2, y2, rfl, hs2, rfl, hI2⟩
 refine tM rfl rfl ?_
 refine tri_v (opv_extract rfl rfl) rfl ?_
 refine tri_v (opv_extract rfl rfl) rfl ?_
 refine tri_v (opv_extract rfl rfl) rfl ?_
 refine tri_g opg_alloc rfl ?_
 rintro _ _ _ ⟨b1, rfl, rfl, rfl⟩
 refine tri_g (opg_store rfl rfl rfl rfl rfl rfl) rfl ?_
 rintro _ _ _ ⟨rfl, rfl⟩
 refine tA rfl rfl (tA rfl rfl (tN (tT (tS (tR ?_)))))
 refine tri_v (opv_loadA rfl rfl rfl) rfl ?_
 refine tM rfl rfl ?_
 refine tri_g (opg_call (xs := [_, _, _]) rfl (leap_runR hs2 hml eA')) rfl ?_
 rintro _ _ I3 ⟨x3, y3, rfl, hs3, rfl, hI3⟩
 refine tM rfl rfl ?_
 refine tri_v (opv_extract rfl rfl) rfl ?_
 refine tri_v (opv_extract rfl rfl) rfl ?_
 refine tri_v (opv_extract rfl rfl) rfl ?_
 refine tri_g opg_alloc rfl ?_
 rintro _ _ _ ⟨b4, rfl, rfl, rfl⟩
 refine tri_g (opg_store rfl rfl rfl rfl rfl rfl) rfl ?_
 rintro _ _ _ ⟨rfl, rfl⟩
 refine tA rfl rfl (tA rfl rfl (tN (tT (tS (tR ?_)))))
 refine tri_v (opv_loadA rfl rfl rfl) rfl ?_
 refine tM rfl rfl ?_
 refine tri_g (opg_call (xs := [_, _, _]) rfl (leap_leapR (hs2.mono hI3) hml eB')) rfl ?_
 rintro _ _ I4 ⟨x4, y4, rfl, hs4, rfl, hI4⟩
 refine tM rfl rfl ?_
 refine tri_v (opv_extract rfl rfl) rfl ?_
 refine tri_v (opv_extract rfl rfl) rfl ?_
 refine tri_v (opv_extract rfl rfl) rfl ?_
 refine tri_g opg_alloc rfl ?_
 rintro _ _ _ ⟨b7, rfl, rfl, rfl⟩
 refine tri_g (opg_store rfl rfl rfl rfl rfl rfl) rfl ?_
 rintro _ _ _ ⟨rfl, rfl⟩
 refine tA rfl rfl (tA rfl rfl (tN (tT (tS (tR ?_)))))
 refine tri_v (opv_loadA rfl rfl rfl) rfl ?_
 refine tM rfl rfl ?_
 refine tri_g (opg_call (xs := [_, _]) rfl (leap_trimR ((hs2.mono hI3).mono hI4) hml eT')) rfl ?_
 rintro _ _ I5 ⟨x5, y5, rfl, hs5, rfl, hI5⟩
 refine tM rfl rfl ?_
 refine tri_v (opv_extract rfl rfl) rfl ?_
 refine tri_v (opv_extract rfl rfl) rfl ?_
 refine tri_v (opv_extract rfl rfl) rfl ?_
 refine tri_g opg_alloc rfl ?_
 rintro _ _ _ ⟨b10, rfl, rfl, rfl⟩
 refine tri_g (opg_store rfl rfl rfl rfl rfl rfl) rfl ?_
 rintro _ _ _ ⟨rfl, rfl⟩
 refine tA rfl rfl (tA rfl rfl (tN (tT (tS (tR ?_)))))
 refine tri_v (opv_loadA rfl rfl rfl) rfl ?_
 refine tM rfl rfl ?_
 refine tri_g (opg_call (xs := [_, _, _]) rfl (leap_leapR (((hs2.mono hI3).mono hI4).mono hI5) hml eC)) rfl ?_
 rintro _ _ I6 ⟨x6, y6, rfl, hs6, rfl, hI6⟩
 refine tM rfl rfl ?_
 refine tri_v (opv_extract rfl rfl) rfl ?_
 refine tri_v (opv_extract rfl rfl) rfl ?_
 refine tri_v (opv_extract rfl rfl) rfl ?_
 refine tri_g opg_alloc rfl ?_
 rintro _ _ _ ⟨b13, rfl, rfl, rfl⟩
 refine tri_g (opg_store rfl rfl rfl rfl rfl rfl) rfl ?_
 rintro _ _ _ ⟨rfl, rfl⟩
 refine tA rfl rfl (tA rfl rfl (tN (tT (tS (tR ?_)))))
 refine tri_v (opv_loadA rfl rfl rfl) rfl ?_
 refine tM rfl rfl ?_
 refine tri_g (opg_call (xs := [_, _, _]) rfl (leap_runR ((((hs2.mono hI3).mono hI4).mono hI5).mono hI6) hml eD)) rfl ?_
 rintro _ _ I7 ⟨x7, y7, rfl, hs7, rfl, hI7⟩
 have sA : SlAt I7 x3 rA.1 := ((((hs3.mono hI4).mono hI5).mono hI6).mono hI7).sl
 have sB : SlAt I7 x4 rB.1 := (((hs4.mono hI5).mono hI6).mono hI7).sl
 have sT : SlAt I7 x5 rT.1 := ((hs5.mono hI6).mono hI7).sl
 refine tM rfl rfl ?_
 refine tri_v (opv_extract rfl rfl) rfl ?_
 refine tri_v (opv_extract rfl rfl) rfl ?_
 refine tri_v (opv_extract rfl rfl) rfl ?_
 refine tri_g opg_alloc rfl ?_
 rintro _ _ _ ⟨b16, rfl, rfl, rfl⟩
 refine tri_g (opg_store rfl rfl rfl rfl rfl rfl) rfl ?_
 rintro _ _ _ ⟨rfl, rfl⟩
 refine tA rfl rfl (tA rfl rfl (tN (tT (tS (tS (tR (tM rfl rfl ?_)))))))
 refine tri_v (opv_fieldAddr rfl rfl) rfl ?_
 refine tri_v (opv_load1 rfl rfl rfl) rfl ?_
 refine tri_v (opv_len rfl) rfl ?_
 refine tri_v (opv_geq rfl rfl) rfl ?_
 refine tM rfl rfl ?_
 refine tri_false rfl rfl (by omega) ?_
 refine tri_guard_run rfl rfl rfl (tM rfl rfl (tri_guard_run rfl rfl rfl ?_))
 refine tri_v (opv_fieldAddr rfl rfl) rfl ?_
 refine tri_guard_run rfl rfl rfl ?_
 refine tri_v (opv_load1 rfl rfl rfl) rfl ?_
 refine tri_guard_run rfl rfl rfl ?_
 refine tri_v (opv_len rfl) rfl ?_
 refine tri_guard_run rfl rfl rfl ?_
 refine tri_v (opv_geq rfl rfl) rfl ?_
 refine tri_v (opv_pick_f rfl rfl) rfl ?_
 refine tM rfl rfl ?_
 refine tri_false rfl rfl (by omega) ?_
 refine tri_guard_run rfl rfl rfl (tM rfl rfl (tri_guard_run rfl rfl rfl ?_))
 refine tri_v (opv_fieldAddr rfl rfl) rfl ?_
 refine tri_guard_run rfl rfl rfl ?_
 refine tri_v (opv_load1 rfl rfl rfl) rfl ?_
 refine tri_guard_run rfl rfl rfl ?_
 refine tri_v (opv_len rfl) rfl ?_
 refine tri_guard_run rfl rfl rfl ?_
 refine tri_v (opv_geq rfl rfl) rfl ?_
 refine tri_v (opv_pick_f rfl rfl) rfl ?_
 refine tM rfl rfl ?_
 refine tri_false rfl rfl (by omega) ?_
 refine tri_guard_run rfl rfl rfl ?_
 refine tri_v (opv_fieldAddr rfl rfl) rfl ?_
 refine tri_guard_run rfl rfl rfl ?_
 refine tri_v (opv_load1 rfl rfl rfl) rfl ?_
 refine tri_guard_run rfl rfl rfl ?_
 refine tri_v (opv_len rfl) rfl ?_
 refine tri_guard_run rfl rfl rfl ?_
 refine tri_v (opv_lss rfl rfl) rfl ?_
 refine tri_v (opv_pick_f rfl rfl) rfl ?_
 refine tM rfl rfl ?_
 refine tri_false rfl rfl (by omega) ?_
 refine tri_guard_run rfl rfl rfl ?_
 refine tri_v (opv_fieldAddr rfl rfl) rfl ?_
 refine tri_guard_run rfl rfl rfl ?_
 refine tri_v (opv_load1 rfl rfl rfl) rfl ?_
 refine tri_guard_run rfl rfl rfl (tM rfl rfl (tri_guard_run rfl rfl rfl ?_))
 refine tri_v (opv_indexAddrS rfl rfl (by omega) (by omega) (by assumption) rfl) rfl ?_
 refine tri_guard_run rfl rfl rfl ?_
 refine tri_v (opv_fieldAddrE rfl (by assumption) (by omega) rfl) rfl ?_
 refine tri_guard_run rfl rfl rfl ?_
 refine tri_v (opv_loadE1 rfl (by assumption) rfl (by omega) rfl rfl) rfl ?_
 refine tri_guard_run rfl rfl rfl ?_
 refine tri_v (opv_lss rfl rfl) rfl ?_
 refine tri_v (opv_pick_f rfl rfl) rfl ?_
 refine tN (tT ?_)
 refine tri_cond_not rfl (by omega) ?_
 refine tri_skip (tT (tS (tR ?_)))
 refine tri_v (opv_loadA rfl rfl rfl) rfl ?_
 refine tM rfl rfl ?_
 refine tri_g (opg_call (xs := [_, _]) rfl (ref07_of a5 sA ⟨a1, a2⟩ (show 1 ≤ (R6.nd rA.1 rA.2.1).lv by unfold R6.nd; omega) (by omega))) rfl ?_
 rintro _ _ I8 ⟨x8, y8, rfl, hs8, rfl, hI8⟩
 have sB' := sB.mono hI8
 have sT' := sT.mono hI8
 rw [a6]
 refine tA rfl rfl (tN (tT (tS (tR (tM rfl rfl ?_)))))
 refine tri_v (opv_eql rfl rfl) rfl ?_
 refine tM rfl rfl ?_
 refine tri_true rfl rfl (a3) ?_
 refine tri_guard_run rfl rfl rfl (tM rfl rfl (tri_guard_run rfl rfl rfl ?_))
 refine tri_v (opv_len rfl) rfl ?_
 refine tri_guard_run rfl rfl rfl ?_
 refine tri_v (opv_eql rfl rfl) rfl ?_
 refine tri_v (opv_pick_t rfl rfl) rfl ?_
 refine tM rfl rfl ?_
 refine tri_true rfl rfl (by decide) ?_
 refine tri_guard_run rfl rfl rfl (tM rfl rfl (tri_guard_run rfl rfl rfl ?_))
 refine tri_v (opv_eql rfl rfl) rfl ?_
 refine tri_v (opv_pick_t rfl rfl) rfl ?_
 refine tM rfl rfl ?_
 refine tri_true rfl rfl (g4) ?_
 refine tri_guard_run rfl rfl rfl ?_
 refine tri_v (opv_fieldAddr rfl rfl) rfl ?_
 refine tri_guard_run rfl rfl rfl ?_
 refine tri_v (opv_load1 rfl rfl rfl) rfl ?_
 refine tri_guard_run rfl rfl rfl (tM rfl rfl (tri_guard_run rfl rfl rfl ?_))
 refine tri_v (opv_indexAddrS rfl rfl (by omega) (by omega) (by assumption) rfl) rfl ?_
 refine tri_guard_run rfl rfl rfl ?_
 refine tri_v (opv_fieldAddrE rfl (by assumption) (by omega) rfl) rfl ?_
 refine tri_guard_run rfl rfl rfl ?_
 refine tri_v (opv_loadE1 rfl (by assumption) rfl (by omega) rfl rfl) rfl ?_
 refine tri_guard_run rfl rfl rfl ?_
 refine tri_v (opv_eql rfl rfl) rfl ?_
 refine tri_v (opv_pick_t rfl rfl) rfl ?_
 refine tM rfl rfl ?_
 refine tri_true rfl rfl (g5) ?_
 refine tri_guard_run rfl rfl rfl ?_
 refine tri_v (opv_fieldAddr rfl rfl) rfl ?_
 refine tri_guard_run rfl rfl rfl ?_
 refine tri_v (opv_load1 rfl rfl rfl) rfl ?_
 refine tri_guard_run rfl rfl rfl (tM rfl rfl (tri_guard_run rfl rfl rfl ?_))
 refine tri_v (opv_indexAddrS rfl rfl (by omega) (by omega) (by assumption) rfl) rfl ?_
 refine tri_guard_run rfl rfl rfl ?_
 refine tri_v (opv_fieldAddrE rfl (by assumption) (by omega) rfl) rfl ?_
 refine tri_guard_run rfl rfl rfl ?_
 refine tri_v (opv_loadE1 rfl (by assumption) rfl (by omega) rfl rfl) rfl ?_
 refine tri_guard_run rfl rfl rfl ?_
 refine tri_v (opv_eql rfl rfl) rfl ?_
 refine tri_v (opv_pick_t rfl rfl) rfl ?_
 refine tM rfl rfl ?_
 refine tri_true rfl rfl (g6) ?_
 refine tri_guard_run rfl rfl rfl (tM rfl rfl (tri_guard_run rfl rfl rfl ?_))
 refine tri_v (opv_eql rfl rfl) rfl ?_
 refine tri_v (opv_pick_t rfl rfl) rfl ?_
 refine tM rfl rfl ?_
 refine tri_true rfl rfl (t3) ?_
 refine tri_guard_run rfl rfl rfl ?_
 refine tri_v (opv_fieldAddr rfl rfl) rfl ?_
 refine tri_guard_run rfl rfl rfl ?_
 refine tri_v (opv_load1 rfl rfl rfl) rfl ?_
 refine tri_guard_run rfl rfl rfl (tM rfl rfl (tri_guard_run rfl rfl rfl ?_))
 refine tri_v (opv_indexAddrS rfl rfl (by omega) (by omega) (by assumption) rfl) rfl ?_
 refine tri_guard_run rfl rfl rfl ?_
 refine tri_v (opv_fieldAddrE rfl (by assumption) (by omega) rfl) rfl ?_
 refine tri_guard_run rfl rfl rfl ?_
 refine tri_v (opv_loadE1 rfl (by assumption) rfl (by omega) rfl rfl) rfl ?_
 refine tri_guard_run rfl rfl rfl ?_
 refine tri_v (opv_eql rfl rfl) rfl ?_
 refine tri_v (opv_pick_t rfl rfl) rfl ?_
 refine tM rfl rfl ?_
 refine tri_true rfl rfl (t4) ?_
 refine tri_guard_run rfl rfl rfl (tM rfl rfl (tri_guard_run rfl rfl rfl ?_))
 refine tri_v (opv_eql rfl rfl) rfl ?_
 refine tri_v (opv_pick_t rfl rfl) rfl ?_
 refine tM rfl rfl ?_
 refine tri_true rfl rfl (e1) ?_
 refine tri_guard_run rfl rfl rfl (tM rfl rfl (tri_guard_run rfl rfl rfl ?_))
 refine tri_v (opv_eql rfl rfl) rfl ?_
 refine tri_v (opv_pick_t rfl rfl) rfl ?_
 refine tA rfl rfl (tN (tT (tri_ret ?_)))
 refine tri_end A Suf.h rfl (.cons (rv_tmp rfl) .nil) ⟨congrArg Value.bool (decide_eq_true e2), rfl, fun _ h => hI8 (hI7 (hI6 (hI5 (hI4 (hI3 (hI2 (hI1 (hI0 h)))))))) ⟩
end Go.GL


set_option linter.unusedVariables false
namespace Go.GL
/-! ### What is made of cells -/
namespace R7
open R6
def deadB (ns : List Node) (j : Nat) : Bool := ns.any fun x => decide (x.lv = (j : Int) ∧ x.pop = 0)
/-- Of how many levels there is no node yet in which all is dead. -/
def E (ns : List Node) : Nat → Nat
 | 0 => 0
 | L + 1 => E ns L + if deadB ns (L + 1) = true then 0 else 1
theorem deadB_iff {ns : List Node} {j : Nat} : deadB ns j = true ↔ ∃ n, IsN ns j n ∧ (nd ns n).pop = 0 := by
 unfold deadB
 rw [List.any_eq_true]
 constructor
 ·rintro ⟨x, hx, h⟩
  obtain ⟨i, hi, rfl⟩ := List.getElem_of_mem hx
  have h' := of_decide_eq_true h
  have e : nd ns (i : Int) = ns[i] := by simp [nd, hi]
  exact ⟨i, ⟨⟨by omega, by omega⟩, by rw [e]; exact h'.1⟩, by rw [e]; exact h'.2⟩
 ·rintro ⟨n, ⟨⟨h0, h1⟩, h2⟩, h3⟩
  have hlt : n.toNat < ns.length := by omega
  have e : nd ns n = ns[n.toNat] := by simp [nd, hlt]
  rw [e] at h2 h3
  exact ⟨_, List.getElem_mem hlt, by simp [h2, h3]⟩
theorem deadB_pre {ns ms : List Node} (h : ns <+: ms) {j : Nat} (hd : deadB ns j = true) : deadB ms j = true := by
 obtain ⟨t, rfl⟩ := h
 unfold deadB at *
 rw [List.any_append, hd]; rfl
theorem E_pre {ns ms : List Node} (h : ns <+: ms) : ∀ L, E ms L ≤ E ns L
 | 0 => Nat.le_refl _
 | L + 1 => by
  have := E_pre h L
  simp only [E]
  by_cases hd : deadB ns (L + 1) = true
  ·rw [if_pos hd, if_pos (deadB_pre h hd)]; omega
  ·rw [if_neg hd]; split <;> omega
theorem E_new {ns ms : List Node} (h : ns <+: ms) {j : Nat} (h0 : ¬ deadB ns (j + 1) = true) (h1 : deadB ms (j + 1) = true) : ∀ L, j < L → E ms L + 1 ≤ E ns L
 | 0, hj => absurd hj (by omega)
 | L + 1, hj => by
  simp only [E]
  by_cases e : j = L
  ·subst e
   have := E_pre h j
   rw [if_neg h0, if_pos h1]; omega
  ·have := E_new h h0 h1 L (by omega)
   by_cases hd : deadB ns (L + 1) = true
   ·rw [if_pos hd, if_pos (deadB_pre h hd)]; omega
   ·rw [if_neg hd]; split <;> omega
theorem E_le (ns : List Node) : ∀ L, E ns L ≤ L
 | 0 => Nat.le_refl _
 | L + 1 => by have := E_le ns L; simp only [E]; split <;> omega
theorem E_pos {ns : List Node} {j L : Nat} (hj : j < L) (h0 : ¬ deadB ns (j + 1) = true) : 1 ≤ E ns L := by
 induction L with
 | zero => omega
 | succ L ih =>
  simp only [E]
  by_cases e : j = L
  ·subst e; rw [if_neg h0]; omega
  ·have := ih (by omega); omega
/-- A node of a level is made; it cost so many nodes, and what was dead of the levels to L. -/
structure Mk (ns : List Node) (L cost lv : Nat) (ms : List Node) (m : Int) : Prop where
 wf : Wf ms
 pre : ns <+: ms
 is : IsN ms lv m
 len : ms.length + E ms L ≤ ns.length + E ns L + cost
theorem fit4_of {ns : List Node} {lv : Nat} (hl : lv + 1 ≤ 42) {a b c d : Int} (ha : IsN ns lv a) (hb : IsN ns lv b) (hc : IsN ns lv c) (hd : IsN ns lv d) : fit4 ns a b c d := by
 refine ⟨ha.1, ⟨hb.1, ?_⟩, ⟨hc.1, ?_⟩, ⟨hd.1, ?_⟩, ?_⟩
 ·rw [hb.2, ha.2]
 ·rw [hc.2, ha.2]
 ·rw [hd.2, ha.2]
 ·rw [ha.2]; omega
theorem dead_found {ns : List Node} (h : Wf ns) {j : Nat} {n d : Int} (hn : IsN ns j n) (hp : (nd ns n).pop = 0) (hd : IsN ns (j + 1) d) (hdp : (nd ns d).pop = 0) : R6.at_ ns [n, n, n, n] = d := by
 obtain ⟨a, b, c, e⟩ := kids4 h hd
 obtain ⟨a', b', c', e'⟩ := (dead_kids h hd).1 hdp
 have := h.at_ hd.1 (by rw [hd.2]; omega)
 unfold Node.kids at this
 rwa [dead_uniq h a hn a' hp, dead_uniq h b hn b' hp, dead_uniq h c hn c' hp, dead_uniq h e hn e' hp] at this
theorem emptyF_ok {room : Int} {L : Nat} (hL : L ≤ 42) : ∀ (k : Nat) (ns : List Node) (n : Int) (j : Nat), Wf ns → IsN ns j n → (nd ns n).pop = 0 → j + k ≤ L → ((ns.length + E ns L : Nat) : Int) ≤ room →
  ∃ ms m, emptyF room k ns n = (ms, m, 0) ∧ Mk ns L 0 (j + k) ms m ∧ (nd ms m).pop = 0
 | 0, ns, n, j, h, hn, hp, hj, hr => ⟨ns, n, rfl, ⟨h, List.prefix_refl _, hn, Nat.le_refl _⟩, hp⟩
 | k + 1, ns, n, j, h, hn, hp, hj, hr => by
  have hf := fit4_of (by omega) hn hn hn hn
  have hroom : 0 ≤ R6.at_ ns [n, n, n, n] ∨ (ns.length : Int) < room := by
   by_cases hd : deadB ns (j + 1) = true
   ·obtain ⟨d, hd1, hd2⟩ := deadB_iff.1 hd
    rw [dead_found h hn hp hd1 hd2]; exact .inl hd1.1.1
   ·have := E_pos (L := L) (by omega) hd
    exact .inr (by omega)
  obtain ⟨ms, m, e, ok⟩ := put_ok h hf hroom
  have him : IsN ms (j + 1) m := ⟨ok.mem, by rw [ok.lv, hn.2]; omega⟩
  have hpm : (nd ms m).pop = 0 := by rw [ok.nd]; exact (pop4_zero (by omega) (by omega) (by omega) (by omega)).2 ⟨hp, hp, hp, hp⟩
  have hlen : ms.length + E ms L ≤ ns.length + E ns L := by
   by_cases hd : deadB ns (j + 1) = true
   ·obtain ⟨d, hd1, hd2⟩ := deadB_iff.1 hd
    have hat := dead_found h hn hp hd1 hd2
    have : put ns room n n n n = (ns, d, 0) := put_again h hf hd1.1 (by rw [hd1.2]; omega) (by rw [← hat]; exact (at_found (by rw [hat]; exact hd1.1.1)).2.2)
    rw [this] at e
    cases e
    exact Nat.le_refl _
   ·have := E_new ok.pre hd (deadB_iff.2 ⟨m, him, hpm⟩) L (by omega)
    have := ok.len
    omega
  obtain ⟨ms2, m2, e2, ok2, hp2⟩ := emptyF_ok (room := room) hL k ms m (j + 1) ok.wf him hpm (by omega) (by omega)
  refine ⟨ms2, m2, ?_, ⟨ok2.wf, ok.pre.trans ok2.pre, by rw [show j + (k + 1) = j + 1 + k by omega]; exact ok2.is, by have := ok2.len; omega⟩, hp2⟩
  simp only [emptyF, e]
  rw [if_neg (by omega)]
  exact e2
theorem empty_ok {room : Int} {L : Nat} (hL : L ≤ 42) {ns : List Node} {lv : Nat} (h : Wf ns) (hlv : lv ≤ L) (hr : ((ns.length + E ns L : Nat) : Int) ≤ room) : ∃ ms m, empty ns room lv = (ms, m, 0) ∧ Mk ns L 0 lv ms m ∧ (nd ms m).pop = 0 := by
 have := emptyF_ok (room := room) hL lv ns 0 0 h ⟨h.in0, by rw [h.nd0]; rfl⟩ (by rw [h.nd0]; rfl) (by omega) hr
 unfold empty
 simpa using this
/-! #### the quarters of a list of cells -/
def qx' (h : Int) (c : Cell) : Nat := qx h c
theorem part_sum (h : Int) (l : List Cell) : (part h 0 l).length + (part h 1 l).length + (part h 2 l).length + (part h 3 l).length = l.length := by
 induction l with
 | nil => rfl
 | cons c l ih =>
  unfold part at *
  simp only [List.length_map] at *
  have hk : qx h c = 0 ∨ qx h c = 1 ∨ qx h c = 2 ∨ qx h c = 3 := by unfold qx; split <;> split <;> simp
  rcases hk with e | e | e | e <;> simp only [List.filter_cons, e] <;> simp <;> omega
theorem part_in {lv : Nat} {l : List Cell} (hb : ∀ c ∈ l, inQ (lv + 1) c.x c.y) (k : Nat) : ∀ c ∈ part (2 ^ lv) k l, inQ lv c.x c.y := by
 intro c hc
 obtain ⟨d, hd, rfl⟩ := List.mem_map.1 hc
 have := hb d (List.mem_filter.1 hd).1
 unfold inQ at *
 rw [p2s] at this
 have := p2pos lv
 unfold qc
 simp only
 split <;> split <;> omega
theorem mem_part {lv : Nat} {l : List Cell} (hb : ∀ c ∈ l, inQ (lv + 1) c.x c.y) {x y : Int} (hq : inQ lv x y) :
  ((⟨x, y⟩ : Cell) ∈ part (2 ^ lv) 0 l ↔ (⟨x, y⟩ : Cell) ∈ l) ∧ ((⟨x, y⟩ : Cell) ∈ part (2 ^ lv) 1 l ↔ (⟨x + 2 ^ lv, y⟩ : Cell) ∈ l) ∧ ((⟨x, y⟩ : Cell) ∈ part (2 ^ lv) 2 l ↔ (⟨x, y + 2 ^ lv⟩ : Cell) ∈ l) ∧ ((⟨x, y⟩ : Cell) ∈ part (2 ^ lv) 3 l ↔ (⟨x + 2 ^ lv, y + 2 ^ lv⟩ : Cell) ∈ l) := by
 have hp := p2pos lv
 unfold inQ at hq
 have key : ∀ k (X Y : Int), qx (2 ^ lv) ⟨X, Y⟩ = k → qc (2 ^ lv) ⟨X, Y⟩ = ⟨x, y⟩ → (∀ c ∈ l, qx (2 ^ lv) c = k → qc (2 ^ lv) c = ⟨x, y⟩ → c = ⟨X, Y⟩) → ((⟨x, y⟩ : Cell) ∈ part (2 ^ lv) k l ↔ (⟨X, Y⟩ : Cell) ∈ l) := by
  intro k X Y h1 h2 h3
  unfold part
  rw [List.mem_map]
  constructor
  ·rintro ⟨c, hc, e⟩
   obtain ⟨hc1, hc2⟩ := List.mem_filter.1 hc
   have := h3 c hc1 (by simpa using hc2) e
   rwa [this] at hc1
  ·intro hm
   exact ⟨_, List.mem_filter.2 ⟨hm, by simp [h1]⟩, h2⟩
 refine ⟨key 0 x y ?_ ?_ ?_, key 1 _ _ ?_ ?_ ?_, key 2 _ _ ?_ ?_ ?_, key 3 _ _ ?_ ?_ ?_⟩
 all_goals simp only [qx, qc]
 all_goals first
  | (rintro ⟨cx, cy⟩ hc; have := hb _ hc; unfold inQ at this; simp only [Cell.mk.injEq] at *; intro h1 h2; revert h1 h2; split <;> split <;> intro h1 h2 <;> omega)
  | (split <;> split <;> omega)
  | (simp only [Cell.mk.injEq]; constructor <;> split <;> omega)
end R7
end Go.GL


set_option linter.unusedVariables false
namespace Go.GL
namespace R7
open R6
theorem build_nl (room : Int) (lv : Nat) (ns : List Node) : build room lv ns [] = empty ns room lv := by cases lv <;> rfl
theorem build_sc (room : Int) (lv : Nat) (ns : List Node) {l : List Cell} (h : l ≠ []) {a0 a1 a2 a3 : List Node} {m0 m1 m2 m3 : Int} (h0 : build room lv ns (part (2 ^ lv) 0 l) = (a0, m0, 0)) (h1 : build room lv a0 (part (2 ^ lv) 1 l) = (a1, m1, 0)) (h2 : build room lv a1 (part (2 ^ lv) 2 l) = (a2, m2, 0)) (h3 : build room lv a2 (part (2 ^ lv) 3 l) = (a3, m3, 0)) :
  build room (lv + 1) ns l = R6.put a3 room m0 m1 m2 m3 := by
 cases l with
 | nil => exact absurd rfl h
 | cons c l =>
  simp only [build, h0, h1, h2, h3]
  rfl
theorem al_put {ns ms : List Node} {lv : Nat} {a b c d m : Int} (h : Wf ns) (ha : IsN ns lv a) (hb : IsN ns lv b) (hc : IsN ns lv c) (hd : IsN ns lv d) (ok : PutOk ns a b c d ms m) (x y : Int) :
  al ms (lv + 1) m x y = if y < 2 ^ lv then (if x < 2 ^ lv then al ns lv a x y else al ns lv b (x - 2 ^ lv) y) else (if x < 2 ^ lv then al ns lv c x (y - 2 ^ lv) else al ns lv d (x - 2 ^ lv) (y - 2 ^ lv)) := by
 simp only [al, ok.nd, mk4]
 rw [al_pre h ok.pre _ _ _ _ ha, al_pre h ok.pre _ _ _ _ hb, al_pre h ok.pre _ _ _ _ hc, al_pre h ok.pre _ _ _ _ hd]
theorem build_ok {room : Int} {L : Nat} (hL : L ≤ 42) : ∀ (lv : Nat) (ns : List Node) (l : List Cell), lv ≤ L → Wf ns → (∀ c ∈ l, inQ lv c.x c.y) → ((ns.length + E ns L + l.length * lv : Nat) : Int) ≤ room →
  ∃ ms m, build room lv ns l = (ms, m, 0) ∧ Mk ns L (l.length * lv) lv ms m ∧ ∀ x y, inQ lv x y → al ms lv m x y = decide ((⟨x, y⟩ : Cell) ∈ l)
 | lv, ns, [], hlv, h, hb, hr => by
  obtain ⟨ms, m, e, ok, hp⟩ := empty_ok (room := room) hL h hlv (by simpa using hr)
  refine ⟨ms, m, by rw [build_nl]; exact e, ?_, fun x y _ => ?_⟩
  ·simpa using ok
  ·rw [al_dead ok.wf lv m x y ok.is hp]; simp
 | 0, ns, c :: l, hlv, h, hb, hr => by
  refine ⟨ns, 1, rfl, ⟨h, List.prefix_refl _, ⟨h.in1, by rw [h.nd1]; rfl⟩, by omega⟩, fun x y hq => ?_⟩
  have hc := hb c List.mem_cons_self
  unfold inQ at hq hc
  simp only [Int.pow_zero] at hq hc
  have e : (⟨x, y⟩ : Cell) = c := by cases c; simp only [Cell.mk.injEq] at *; omega
  rw [e]
  simp [al]
 | lv + 1, ns, c :: l, hlv, h, hb, hr => by
  have hne : c :: l ≠ [] := by simp
  generalize hls : c :: l = ls at *
  have hpl := part_sum (2 ^ lv) ls
  have hlpos : 1 ≤ ls.length := by rw [← hls]; simp
  have hpb := part_in hb
  have hmul : (part (2 ^ lv) 0 ls).length * lv + (part (2 ^ lv) 1 ls).length * lv + (part (2 ^ lv) 2 ls).length * lv + (part (2 ^ lv) 3 ls).length * lv = ls.length * lv := by rw [← Nat.add_mul, ← Nat.add_mul, ← Nat.add_mul, hpl]
  have hmul2 : ls.length * (lv + 1) = ls.length * lv + ls.length := Nat.mul_succ _ _
  rw [hmul2] at hr
  obtain ⟨a0, m0, e0, k0, s0⟩ := build_ok (room := room) hL lv ns (part (2 ^ lv) 0 ls) (by omega) h (hpb 0) (by omega)
  have l0 := k0.len
  obtain ⟨a1, m1, e1, k1, s1⟩ := build_ok (room := room) hL lv a0 (part (2 ^ lv) 1 ls) (by omega) k0.wf (hpb 1) (by omega)
  have l1 := k1.len
  obtain ⟨a2, m2, e2, k2, s2⟩ := build_ok (room := room) hL lv a1 (part (2 ^ lv) 2 ls) (by omega) k1.wf (hpb 2) (by omega)
  have l2 := k2.len
  obtain ⟨a3, m3, e3, k3, s3⟩ := build_ok (room := room) hL lv a2 (part (2 ^ lv) 3 ls) (by omega) k2.wf (hpb 3) (by omega)
  have l3 := k3.len
  have i0 : IsN a3 lv m0 := ((k0.is.pre k1.pre).pre k2.pre).pre k3.pre
  have i1 : IsN a3 lv m1 := (k1.is.pre k2.pre).pre k3.pre
  have i2 : IsN a3 lv m2 := k2.is.pre k3.pre
  have i3 : IsN a3 lv m3 := k3.is
  obtain ⟨ms, m, e, ok⟩ := put_ok k3.wf (room := room) (fit4_of (by omega) i0 i1 i2 i3) (.inr (by omega))
  refine ⟨ms, m, by rw [build_sc room lv ns hne e0 e1 e2 e3]; exact e, ⟨ok.wf, ((((k0.pre.trans k1.pre).trans k2.pre).trans k3.pre).trans ok.pre), ⟨ok.mem, by rw [ok.lv, i0.2]; omega⟩, ?_⟩, fun x y hq => ?_⟩
  ·have := E_pre ok.pre L
   have := ok.len
   omega
  ·rw [al_put k3.wf i0 i1 i2 i3 ok]
   obtain ⟨q0, q1, q2, q3⟩ := inQ_succ hq
   by_cases hy : y < 2 ^ lv
   ·rw [if_pos hy]
    by_cases hx : x < 2 ^ lv
    ·rw [if_pos hx, al_pre k2.wf k3.pre _ _ _ _ ((k0.is.pre k1.pre).pre k2.pre), al_pre k1.wf k2.pre _ _ _ _ (k0.is.pre k1.pre), al_pre k0.wf k1.pre _ _ _ _ k0.is, s0 _ _ (q0 hy hx)]
     exact decide_eq_decide.2 (mem_part hb (q0 hy hx)).1
    ·rw [if_neg hx, al_pre k2.wf k3.pre _ _ _ _ (k1.is.pre k2.pre), al_pre k1.wf k2.pre _ _ _ _ k1.is, s1 _ _ (q1 hy hx)]
     have := (mem_part hb (q1 hy hx)).2.1
     rw [show x - 2 ^ lv + 2 ^ lv = x by omega] at this
     exact decide_eq_decide.2 this
   ·rw [if_neg hy]
    by_cases hx : x < 2 ^ lv
    ·rw [if_pos hx, al_pre k2.wf k3.pre _ _ _ _ k2.is, s2 _ _ (q2 hy hx)]
     have := (mem_part hb (q2 hy hx)).2.2.1
     rw [show y - 2 ^ lv + 2 ^ lv = y by omega] at this
     exact decide_eq_decide.2 this
    ·rw [if_neg hx, s3 _ _ (q3 hy hx)]
     have := (mem_part hb (q3 hy hx)).2.2.2
     rw [show y - 2 ^ lv + 2 ^ lv = y by omega, show x - 2 ^ lv + 2 ^ lv = x by omega] at this
     exact decide_eq_decide.2 this
theorem side_succ (lv : Nat) : side ((lv + 1 : Nat) : Int) = 2 ^ lv := by
 unfold side
 have : (((lv + 1 : Nat) : Int) - 1).toNat = lv := by omega
 rw [this]
/-- What 'make' comes to. -/
theorem make_ok {ns : List Node} {room : Int} {l : List Cell} {lv : Nat} {L : Nat} (hL : L ≤ 42) (hlv : lv + 1 ≤ L) (h : R6.right ns room) (hl : R1.right l) (hb : ∀ c ∈ l, inL ((lv + 1 : Nat) : Int) c) (hr : ((ns.length + E ns L + l.length * (lv + 1) : Nat) : Int) ≤ room) :
  ∃ ms m, make ns room l ((lv + 1 : Nat) : Int) = (ms, m, 0) ∧ Mk ns L (l.length * (lv + 1)) (lv + 1) ms m ∧ ∀ c : Cell, inL ((lv + 1 : Nat) : Int) c → al ms (lv + 1) m (c.x + 2 ^ lv) (c.y + 2 ^ lv) = decide (c ∈ l) := by
 have hw := (right_iff.1 h).2
 have hs := side_succ lv
 have hp := p2pos lv
 have hcb : ∀ c ∈ corner (side ((lv + 1 : Nat) : Int)) l, inQ (lv + 1) c.x c.y := fun c hc => by
  obtain ⟨d, hd, rfl⟩ := List.mem_map.1 hc
  have := hb d hd
  unfold inL at this
  rw [hs] at this
  unfold inQ
  rw [p2s, hs]
  simp only
  omega
 obtain ⟨ms, m, e, ok, sem⟩ := build_ok (room := room) hL (lv + 1) ns (corner (side ((lv + 1 : Nat) : Int)) l) hlv hw hcb (by unfold corner; rw [List.length_map]; exact hr)
 have hlen : (corner (side ((lv + 1 : Nat) : Int)) l).length = l.length := by unfold corner; rw [List.length_map]
 rw [hlen] at ok
 refine ⟨ms, m, ?_, ok, fun c hc => ?_⟩
 ·unfold make
  rw [if_pos ⟨h, by omega, by omega, hl⟩, if_pos (fun i hi => ?_)]
  ·have e3 : ((lv + 1 : Nat) : Int).toNat = lv + 1 := by omega
   rw [e3, e]
   simp
  ·have e4 : R1.g l i = l[i] := by simp [R1.g, hi]
   rw [e4]; exact hb _ (List.getElem_mem hi)
 ·unfold inL at hc
  rw [hs] at hc
  rw [sem _ _ (by unfold inQ; rw [p2s]; omega)]
  refine decide_eq_decide.2 ?_
  unfold corner
  rw [List.mem_map, hs]
  constructor
  ·rintro ⟨d, hd, e⟩
   have : d = c := by cases d; cases c; simp only [Cell.mk.injEq] at *; omega
   rwa [this] at hd
  ·intro hc
   exact ⟨c, hc, rfl⟩
/-- What 'of' tells. -/
theorem mem_of {ns : List Node} (h : Wf ns) {lv : Nat} {n : Int} (hn : IsN ns (lv + 1) n) (c : Cell) : c ∈ of ns n ↔ inL ((lv + 1 : Nat) : Int) c ∧ al ns (lv + 1) n (c.x + 2 ^ lv) (c.y + 2 ^ lv) = true := by
 unfold of
 have hs := side_succ lv
 have e3 : ((lv + 1 : Nat) : Int).toNat = lv + 1 := by omega
 rw [hn.2, e3, mem_flat h _ _ _ _ hn, hs]
 simp only
 rw [show c.x - -2 ^ lv = c.x + 2 ^ lv by omega, show c.y - -2 ^ lv = c.y + 2 ^ lv by omega]
 unfold inQ inL
 rw [hs, p2s]
 constructor
 ·rintro ⟨q, k⟩; exact ⟨by omega, k⟩
 ·rintro ⟨q, k⟩; exact ⟨by omega, k⟩
end R7
end Go.GL


set_option linter.unusedVariables false
namespace Go.GL
open R6 R7
/-! ### What the laws' squares are -/
namespace RL
theorem new_wf : Wf [n0, n1] := ⟨by decide, rfl, rfl, fun i hi h2 => absurd hi (by simp; omega)⟩
theorem cell16_bd (r : Cell) : -8 ≤ (cell16 r).x ∧ (cell16 r).x < 8 ∧ -8 ≤ (cell16 r).y ∧ (cell16 r).y < 8 := by
 have a := pk_bd (c := r.x) (n := 16) (by omega)
 have b := pk_bd (c := r.y) (n := 16) (by omega)
 unfold cell16
 simp only
 omega
theorem mem_set {raw : List Cell} {c : Cell} (h : c ∈ set raw) : -8 ≤ c.x ∧ c.x < 8 ∧ -8 ≤ c.y ∧ c.y < 8 := by
 unfold set at h
 rw [R1.mem_puts] at h
 obtain ⟨r, _, rfl⟩ := List.mem_map.1 h
 exact cell16_bd r
theorem p8 {lv : Nat} (h : 3 ≤ lv) : (8:Int) ≤ 2 ^ lv := by
 have h2 : (2:Nat) ^ 3 ≤ 2 ^ lv := Nat.pow_le_pow_right (by omega) h
 have h3 : (2:Int) ^ lv = ((2 ^ lv : Nat) : Int) := by simp
 rw [h3]; omega
/-- The raw square: a node of the set's cells. -/
structure Sq (c : Int) (nodes : List Five) (raw : List Cell) (level : Int) (lv : Nat) (ms : List Node) (m : Int) : Prop where
 lv3 : 3 ≤ lv ∧ lv ≤ 6
 lve : ((lv + 1 : Nat) : Int) = 4 + pk level 4
 eq : square c nodes raw level = (ms, m, 0)
 wf : Wf ms
 is : IsN ms (lv + 1) m
 len : (ms.length : Int) ≤ room c + 427
 pre : store (room c) nodes <+: ms
 sem : ∀ d : Cell, inL ((lv + 1 : Nat) : Int) d → al ms (lv + 1) m (d.x + 2 ^ lv) (d.y + 2 ^ lv) = decide (d ∈ set raw)
end RL
/-! ### Sixteen and nine -/
namespace R8
/-- A square of the sixteen. -/
def sqK (l : List Int) (y x : Int) : List Int := [g l (4 * y + x), g l (4 * y + x + 1), g l (4 * y + x + 4), g l (4 * y + x + 5)]
/-- A node that is a square of the sixteen. -/
structure IsSq (ms : List Node) (lv : Nat) (l : List Int) (y x m : Int) : Prop where
 is : IsN ms (lv + 1) m
 kids : (nd ms m).kids = sqK l y x
theorem IsSq.pre {ns ms : List Node} (hp : ns <+: ms) {lv : Nat} {l : List Int} {y x m : Int} (h : IsSq ns lv l y x m) : IsSq ms lv l y x m := ⟨h.is.pre hp, by rw [nd_pre hp h.is.1]; exact h.kids⟩
/-- Nine squares. -/
structure Nine9 (ns : List Node) (room : Int) (lv : Nat) (l : List Int) (ms : List Node) (q0 q1 q2 q3 q4 q5 q6 q7 q8 : Int) : Prop where
 wf : Wf ms
 pre : ns <+: ms
 len : ms.length ≤ ns.length + 9
 s0 : IsSq ms lv l 0 0 q0
 s1 : IsSq ms lv l 0 1 q1
 s2 : IsSq ms lv l 0 2 q2
 s3 : IsSq ms lv l 1 0 q3
 s4 : IsSq ms lv l 1 1 q4
 s5 : IsSq ms lv l 1 2 q5
 s6 : IsSq ms lv l 2 0 q6
 s7 : IsSq ms lv l 2 1 q7
 s8 : IsSq ms lv l 2 2 q8
end R8
end Go.GL


set_option linter.unusedVariables false
namespace Go.GL
open R6 R7
namespace R8
theorem IsSq.k {ms : List Node} {lv : Nat} {l : List Int} {y x m : Int} (h : IsSq ms lv l y x m) : (nd ms m).k0 = g l (4 * y + x) ∧ (nd ms m).k1 = g l (4 * y + x + 1) ∧ (nd ms m).k2 = g l (4 * y + x + 4) ∧ (nd ms m).k3 = g l (4 * y + x + 5) := by
 have := h.kids
 unfold Node.kids sqK at this
 simpa using this
end R8
namespace RL
open R8
end RL
end Go.GL


set_option linter.unusedVariables false
namespace Go.GL
open R6 R7
namespace R8
def b2i (b : Bool) : Int := if b = true then 1 else 0
/-- How many of the eight about a place are alive. -/
def cnt (f : Int → Int → Bool) (y x : Int) : Int := b2i (f (x - 1) (y - 1)) + b2i (f x (y - 1)) + b2i (f (x + 1) (y - 1)) + b2i (f (x - 1) y) + b2i (f (x + 1) y) + b2i (f (x - 1) (y + 1)) + b2i (f x (y + 1)) + b2i (f (x + 1) (y + 1))
/-- A place behind a generation. -/
def nx (f : Int → Int → Bool) (y x : Int) : Bool := R2.lives (f x y) (cnt f y x)
/-- What a step's node is. -/
structure Stp (ms : List Node) (f : Int → Int → Bool) (m : Int) : Prop where
 is : IsN ms 1 m
 kids : (nd ms m).kids = [b2i (nx f 1 1), b2i (nx f 1 2), b2i (nx f 2 1), b2i (nx f 2 2)]
theorem Stp.pre {ns ms : List Node} (hp : ns <+: ms) {f : Int → Int → Bool} {m : Int} (h : Stp ns f m) : Stp ms f m := ⟨h.is.pre hp, by rw [nd_pre hp h.is.1]; exact h.kids⟩
theorem Stp.uniq {ns : List Node} (h : Wf ns) {f f' : Int → Int → Bool} {m m' : Int} (a : Stp ns f m) (b : Stp ns f' m') (e : ∀ y x, nx f y x = nx f' y x) : m = m' := by
 refine h.uniq a.is.1 b.is.1 (by rw [a.is.2]; decide) (by rw [b.is.2]; decide) ?_
 rw [a.kids, b.kids, e, e, e, e]
end R8
namespace RL
def cell4 (r : Cell) : Cell := ⟨pk r.x 4 - 2, pk r.y 4 - 2⟩
def turn (c : Cell) : Cell := ⟨-1 - c.x, -1 - c.y⟩
def small (raw : List Cell) : List Cell := R1.puts ((raw.take 16).map cell4)
def smallT (raw : List Cell) : List Cell := R1.puts ((raw.take 16).map fun r => turn (cell4 r))
theorem puts_le (l : List Cell) : (R1.puts l).length ≤ l.length := by
 have key : ∀ (l acc : List Cell), (l.foldl R1.put acc).length ≤ acc.length + l.length := by
  intro l
  induction l with
  | nil => intro acc; simp
  | cons c l ih =>
   intro acc
   have h1 := ih (R1.put acc c)
   have h2 := R1.put_len acc c
   simp only [List.foldl_cons, List.length_cons]
   omega
 simpa [R1.puts] using key l []
end RL
end Go.GL


set_option linter.unusedVariables false
namespace Go.GL
open R6 R7
namespace R8
theorem s16_pre {ns ms : List Node} (h : Wf ns) (hp : ns <+: ms) {lv : Nat} {n : Int} (hn : IsN ns (lv + 2) n) : s16 ms n = s16 ns n := by
 obtain ⟨a, b, c, d⟩ := kids4 h hn
 unfold s16
 rw [nd_pre hp hn.1, nd_pre hp a.1, nd_pre hp b.1, nd_pre hp c.1, nd_pre hp d.1]
end R8
namespace RL
open R8
end RL
end Go.GL


set_option linter.unusedVariables false
namespace Go.GL
open R6 R7
namespace R7
theorem flat_len (ns : List Node) : ∀ (lv : Nat) (n : Int) (o : Cell), (flat ns lv n o).length ≤ 4 ^ lv
 | 0, n, o => by unfold flat; split <;> simp
 | lv + 1, n, o => by
  unfold flat
  split
  ·simp
  ·simp only [List.length_append]
   have a := flat_len ns lv (nd ns n).k0 o
   have b := flat_len ns lv (nd ns n).k1 ⟨o.x + 2 ^ lv, o.y⟩
   have c := flat_len ns lv (nd ns n).k2 ⟨o.x, o.y + 2 ^ lv⟩
   have d := flat_len ns lv (nd ns n).k3 ⟨o.x + 2 ^ lv, o.y + 2 ^ lv⟩
   rw [Nat.pow_succ]; omega
def kid (ns : List Node) (n j : Int) : Int := (nd ns n).kids.getD j.toNat default
theorem al_kid (ns : List Node) {lv : Nat} {n x y : Int} (hq : inQ lv x y) {a b : Int} (ha : a = 0 ∨ a = 1) (hb : b = 0 ∨ b = 1) : al ns (lv + 1) n (x + a * 2 ^ lv) (y + b * 2 ^ lv) = al ns lv (kid ns n (2 * b + a)) x y := by
 unfold inQ at hq
 simp only [al]
 rcases ha with rfl | rfl <;> rcases hb with rfl | rfl <;> simp only [Int.zero_mul, Int.one_mul, Int.add_zero]
 ·rw [if_pos (by omega), if_pos (by omega)]; rfl
 ·rw [if_neg (by omega), if_pos (by omega), show y + 2 ^ lv - 2 ^ lv = y by omega]; rfl
 ·rw [if_pos (by omega), if_neg (by omega), show x + 2 ^ lv - 2 ^ lv = x by omega]; rfl
 ·rw [if_neg (by omega), if_neg (by omega), show x + 2 ^ lv - 2 ^ lv = x by omega, show y + 2 ^ lv - 2 ^ lv = y by omega]; rfl
end R7
namespace R8
theorem g_kid (ns : List Node) (n : Int) {a b c d : Int} (ha : a = 0 ∨ a = 1) (hb : b = 0 ∨ b = 1) (hc : c = 0 ∨ c = 1) (hd : d = 0 ∨ d = 1) : g (s16 ns n) (4 * (2 * b + d) + (2 * a + c)) = kid ns (kid ns n (2 * b + a)) (2 * d + c) := by
 rcases ha with rfl | rfl <;> rcases hb with rfl | rfl <;> rcases hc with rfl | rfl <;> rcases hd with rfl | rfl <;> rfl
theorem al16 (ns : List Node) {lv : Nat} {n x y : Int} (hq : inQ lv x y) {X Y : Int} (hX : 0 ≤ X ∧ X ≤ 3) (hY : 0 ≤ Y ∧ Y ≤ 3) : al ns (lv + 2) n (x + X * 2 ^ lv) (y + Y * 2 ^ lv) = al ns lv (g (s16 ns n) (4 * Y + X)) x y := by
 obtain ⟨a, c, ha, hc, rfl⟩ : ∃ a c : Int, (a = 0 ∨ a = 1) ∧ (c = 0 ∨ c = 1) ∧ X = 2 * a + c := ⟨X / 2, X % 2, by omega, by omega, by omega⟩
 obtain ⟨b, d, hb, hd, rfl⟩ : ∃ b d : Int, (b = 0 ∨ b = 1) ∧ (d = 0 ∨ d = 1) ∧ Y = 2 * b + d := ⟨Y / 2, Y % 2, by omega, by omega, by omega⟩
 rw [g_kid ns n ha hb hc hd, ← al_kid ns hq hc hd]
 have hq2 : inQ (lv + 1) (x + c * 2 ^ lv) (y + d * 2 ^ lv) := by
  unfold inQ at *
  rw [p2s]
  rcases hc with rfl | rfl <;> rcases hd with rfl | rfl <;> omega
 rw [← al_kid ns hq2 ha hb, p2s]
 congr 1
 ·rcases ha with rfl | rfl <;> rcases hc with rfl | rfl <;> omega
 ·rcases hb with rfl | rfl <;> rcases hd with rfl | rfl <;> omega
theorem IsSq.kid {ms : List Node} {lv : Nat} {l : List Int} {y x m : Int} (h : IsSq ms lv l y x m) {a b : Int} (ha : a = 0 ∨ a = 1) (hb : b = 0 ∨ b = 1) : R7.kid ms m (2 * b + a) = g l (4 * (y + b) + (x + a)) := by
 unfold R7.kid
 rw [h.kids]
 unfold sqK
 rcases ha with rfl | rfl <;> rcases hb with rfl | rfl
 ·show g l (4 * y + x) = _; congr 1; omega
 ·show g l (4 * y + x + 4) = _; congr 1; omega
 ·show g l (4 * y + x + 1) = _; congr 1; omega
 ·show g l (4 * y + x + 5) = _; congr 1; omega
end R8
namespace RL
open R8
/-- The square's cells are the raw set. -/
theorem Sq.mem {c : Int} {nodes : List Five} {raw : List Cell} {level : Int} {lv : Nat} {ms : List Node} {m : Int} (h : Sq c nodes raw level lv ms m) (d : Cell) : d ∈ R7.of ms m ↔ d ∈ set raw := by
 rw [mem_of h.wf h.is]
 constructor
 ·rintro ⟨h1, h2⟩
  rw [h.sem d h1] at h2
  simpa using h2
 ·intro hd
  have h8 := p8 (lv := lv) h.lv3.1
  have hb := mem_set hd
  have hin : inL ((lv + 1 : Nat) : Int) d := by unfold inL; rw [side_succ]; omega
  exact ⟨hin, by rw [h.sem d hin]; simpa using hd⟩
end RL
end Go.GL


set_option linter.unusedVariables false
namespace Go.GL
open R6 R7
/-! ### A leap stands for what stands in the middle behind so many generations -/
namespace R9
/-- One generation of all cells. -/
def gen (f : Int → Int → Bool) : Int → Int → Bool := fun x y => R8.nx f y x
def gens : Nat → (Int → Int → Bool) → Int → Int → Bool
 | 0, f => f
 | m + 1, f => gens m (gen f)
/-- A node stands for a part of the plane. -/
def Std (ns : List Node) (lv : Nat) (n : Int) (f : Int → Int → Bool) (ox oy : Int) : Prop := IsN ns lv n ∧ ∀ x y, inQ lv x y → al ns lv n x y = f (x + ox) (y + oy)
theorem Std.pre {ns ms : List Node} (h : Wf ns) (hp : ns <+: ms) {lv : Nat} {n : Int} {f : Int → Int → Bool} {ox oy : Int} (hs : Std ns lv n f ox oy) : Std ms lv n f ox oy :=
 ⟨hs.1.pre hp, fun x y hq => by rw [al_pre h hp lv n x y hs.1]; exact hs.2 x y hq⟩
theorem Std.back {ns ms : List Node} (h : Wf ns) (hp : ns <+: ms) {lv : Nat} {n : Int} {f : Int → Int → Bool} {ox oy : Int} (hn : IsN ns lv n) (hs : Std ms lv n f ox oy) : Std ns lv n f ox oy :=
 ⟨hn, fun x y hq => by rw [← al_pre h hp lv n x y hn]; exact hs.2 x y hq⟩
theorem Std.at {ns : List Node} {lv : Nat} {n : Int} {f : Int → Int → Bool} {ox oy ox' oy' : Int} (h : Std ns lv n f ox oy) (hx : ox = ox') (hy : oy = oy') : Std ns lv n f ox' oy' := by
 subst hx
 subst hy
 exact h
/-- Four that stand side by side. -/
theorem std_put {ns : List Node} (h : Wf ns) {room q0 q1 q2 q3 : Int} {lv : Nat} {f : Int → Int → Bool} {ox oy : Int} (h0 : Std ns lv q0 f ox oy) (h1 : Std ns lv q1 f (ox + 2 ^ lv) oy) (h2 : Std ns lv q2 f ox (oy + 2 ^ lv)) (h3 : Std ns lv q3 f (ox + 2 ^ lv) (oy + 2 ^ lv)) (he : (put ns room q0 q1 q2 q3).2.2 = 0) :
  Std (put ns room q0 q1 q2 q3).1 (lv + 1) (put ns room q0 q1 q2 q3).2.1 f ox oy := by
 have hf : fit4 ns q0 q1 q2 q3 := Decidable.byContradiction fun hf => by
  unfold put at he; rw [if_neg hf] at he; cases he
 have hr : 0 ≤ R6.at_ ns [q0, q1, q2, q3] ∨ (ns.length : Int) < room := Decidable.byContradiction fun hr => by
  unfold put at he
  rw [if_pos hf, if_neg (by omega), if_pos (by omega)] at he
  cases he
 obtain ⟨ms, m, e, ok⟩ := put_ok h hf hr
 rw [e]
 refine ⟨⟨ok.mem, by rw [ok.lv, h0.1.2]; omega⟩, fun x y hq => ?_⟩
 have hk := ok.nd
 show al ms (lv + 1) m x y = _
 simp only [al]
 rw [hk]
 show (if y < 2 ^ lv then (if x < 2 ^ lv then al ms lv q0 x y else al ms lv q1 (x - 2 ^ lv) y) else (if x < 2 ^ lv then al ms lv q2 x (y - 2 ^ lv) else al ms lv q3 (x - 2 ^ lv) (y - 2 ^ lv))) = _
 obtain ⟨a, b, c, d⟩ := inQ_succ hq
 by_cases hy : y < 2 ^ lv
 ·rw [if_pos hy]
  by_cases hx : x < 2 ^ lv
  ·rw [if_pos hx, al_pre h ok.pre lv _ _ _ h0.1, h0.2 _ _ (a hy hx)]
  ·rw [if_neg hx, al_pre h ok.pre lv _ _ _ h1.1, h1.2 _ _ (b hy hx)]
   congr 1
   omega
 ·rw [if_neg hy]
  by_cases hx : x < 2 ^ lv
  ·rw [if_pos hx, al_pre h ok.pre lv _ _ _ h2.1, h2.2 _ _ (c hy hx)]
   congr 1
   omega
  ·rw [if_neg hx, al_pre h ok.pre lv _ _ _ h3.1, h3.2 _ _ (d hy hx)]
   congr 1 <;> omega
/-- The sixteen. -/
theorem std_s16 {ns : List Node} (h : Wf ns) {lv : Nat} {n : Int} {f : Int → Int → Bool} {ox oy : Int} (hs : Std ns (lv + 2) n f ox oy) {X Y : Int} (hX : 0 ≤ X ∧ X ≤ 3) (hY : 0 ≤ Y ∧ Y ≤ 3) : Std ns lv (R8.g (R8.s16 ns n) (4 * Y + X)) f (ox + X * 2 ^ lv) (oy + Y * 2 ^ lv) := by
 refine ⟨s16_isN h hs.1 _ (by omega) (by omega), fun x y hq => ?_⟩
 rw [← R8.al16 ns hq hX hY, hs.2 _ _ ?_]
 ·congr 1 <;> omega
 ·unfold inQ at *
  have hpos := p2pos lv
  rw [p2s, p2s]
  have e0 : X = 0 ∨ X = 1 ∨ X = 2 ∨ X = 3 := by omega
  have e1 : Y = 0 ∨ Y = 1 ∨ Y = 2 ∨ Y = 3 := by omega
  rcases e0 with rfl | rfl | rfl | rfl <;> rcases e1 with rfl | rfl | rfl | rfl <;> omega
/-- A square of the sixteen. -/
theorem std_sq {ns ms : List Node} (h : Wf ns) (hm : Wf ms) (hp : ns <+: ms) {room : Int} {lv : Nat} {n : Int} {f : Int → Int → Bool} {ox oy : Int} (hs : Std ns (lv + 2) n f ox oy) {y x : Int} (hy : 0 ≤ y ∧ y ≤ 2) (hx : 0 ≤ x ∧ x ≤ 2) (he : (R8.putSq ms room (R8.s16 ns n) y x).2.2 = 0) :
  Std (R8.putSq ms room (R8.s16 ns n) y x).1 (lv + 1) (R8.putSq ms room (R8.s16 ns n) y x).2.1 f (ox + x * 2 ^ lv) (oy + y * 2 ^ lv) := by
 have k := fun {X Y : Int} (hX : 0 ≤ X ∧ X ≤ 3) (hY : 0 ≤ Y ∧ Y ≤ 3) => (std_s16 h hs hX hY).pre h hp
 unfold R8.putSq at he ⊢
 have k1 := k (X := x + 1) (Y := y) (by omega) (by omega)
 have k2 := k (X := x) (Y := y + 1) (by omega) (by omega)
 have k3 := k (X := x + 1) (Y := y + 1) (by omega) (by omega)
 rw [show 4 * y + (x + 1) = 4 * y + x + 1 by omega] at k1
 rw [show 4 * (y + 1) + x = 4 * y + x + 4 by omega] at k2
 rw [show 4 * (y + 1) + (x + 1) = 4 * y + x + 5 by omega] at k3
 rw [Int.add_mul, Int.one_mul, ← Int.add_assoc] at k1 k2 k3
 refine std_put hm (k (by omega) (by omega)) k1 k2 ?_ he
 rw [Int.add_mul, Int.one_mul, ← Int.add_assoc] at k3
 exact k3
theorem midS_std {room : Int} {s : LS} (h : Lk room s) {lv : Nat} {n : Int} {f : Int → Int → Bool} {ox oy : Int} (hs : Std s.ns (lv + 2) n f ox oy) (he : (midS room s n).2.2 = 0) : Std (midS room s n).1.ns (lv + 1) (midS room s n).2.1 f (ox + 2 ^ lv) (oy + 2 ^ lv) := by
 have := std_sq (room := room) h.wf h.wf (List.prefix_refl _) hs (y := 1) (x := 1) (by omega) (by omega) he
 rw [Int.one_mul] at this
 exact this
end R9
end Go.GL


set_option linter.unusedVariables false
namespace Go.GL
open R6 R7
namespace R9
/-- What is kept is true. -/
def MS (s : LS) : Prop := ∀ p ∈ s.mm, ∃ k : Nat, (0 ≤ p.2.1 ∧ p.2.1 ≤ k) ∧ IsN s.ns (k + 2) p.1 ∧ IsN s.ns (k + 1) p.2.2 ∧ ∀ f ox oy, Std s.ns (k + 2) p.1 f ox oy → Std s.ns (k + 1) p.2.2 (gens (2 ^ p.2.1.toNat) f) (ox + 2 ^ k) (oy + 2 ^ k)
theorem MS.pre {s : LS} {ms : List Node} (hw : Wf s.ns) (h : MS s) (hp : s.ns <+: ms) : MS ⟨ms, s.mm⟩ := fun p hm => by
 obtain ⟨k, h1, h2, h3, h4⟩ := h p hm
 exact ⟨k, h1, h2.pre hp, h3.pre hp, fun f ox oy hs => (h4 f ox oy (hs.back hw hp h2)).pre hw hp⟩
theorem mapS_std {room : Int} {f : LS → Int → L9} (C D : Nat → List Node → Int → Prop) (hC : ∀ i ns ms q, Wf ns → ns <+: ms → C i ns q → C i ms q) (hD : ∀ i ns ms q, Wf ns → ns <+: ms → D i ns q → D i ms q)
  (hf : ∀ i s q, Lk room s → MS s → C i s.ns q → (f s q).2.2 = 0 → Lk room (f s q).1 ∧ s.ns <+: (f s q).1.ns ∧ MS (f s q).1 ∧ D i (f s q).1.ns (f s q).2.1) : ∀ (qs : List Int) (b : Nat) (s : LS), Lk room s → MS s → (∀ i, i < qs.length → C (b + i) s.ns (qs.getD i default)) → (mapS f s qs).2.2 = 0 →
  Lk room (mapS f s qs).1 ∧ s.ns <+: (mapS f s qs).1.ns ∧ MS (mapS f s qs).1 ∧ (mapS f s qs).2.1.length = qs.length ∧ ∀ i, i < qs.length → D (b + i) (mapS f s qs).1.ns ((mapS f s qs).2.1.getD i default)
 | [], b, s, h, hm, _, _ => ⟨h, List.prefix_refl _, hm, rfl, fun i hi => absurd hi (Nat.not_lt_zero _)⟩
 | q :: qs, b, s, h, hm, hq, he => by
  unfold mapS at he ⊢
  by_cases h0 : (f s q).2.2 = 0
  ·rw [if_neg (by simpa using h0)] at he ⊢
   obtain ⟨g1, g2, g3, g4⟩ := hf b s q h hm (hq 0 (by simp)) h0
   obtain ⟨a1, a2, a3, a4, a5⟩ := mapS_std C D hC hD hf qs (b + 1) (f s q).1 g1 g3 (fun i hi => hC _ _ _ _ h.wf g2 (by
    have := hq (i + 1) (by simp only [List.length_cons]; omega)
    rw [show b + 1 + i = b + (i + 1) by omega]
    exact this)) he
   refine ⟨a1, g2.trans a2, a3, by simp [a4], fun i hi => ?_⟩
   cases i with
   | zero => exact hD _ _ _ _ g1.wf a2 g4
   | succ i =>
    have := a5 i (by simp only [List.length_cons] at hi; omega)
    rw [show b + (i + 1) = b + 1 + i by omega]
    exact this
  ·rw [if_pos h0] at he
   exact absurd he h0
/-- What a leap that is right does. -/
def LpOk (room : Int) (k : Nat) (lp : LS → Int → Int → L9) : Prop := ∀ s q j, Lk room s → MS s → IsN s.ns (k + 2) q → 0 ≤ j ∧ j ≤ (k : Int) → (lp s q j).2.2 = 0 →
 Lk room (lp s q j).1 ∧ s.ns <+: (lp s q j).1.ns ∧ MS (lp s q j).1 ∧ ∀ f ox oy, Std s.ns (k + 2) q f ox oy → Std (lp s q j).1.ns (k + 1) (lp s q j).2.1 (gens (2 ^ j.toNat) f) (ox + 2 ^ k) (oy + 2 ^ k)
theorem p2s' (k : Nat) : (2 : Int) ^ (k + 1) = 2 * 2 ^ k := by rw [p2s]; omega
end R9
end Go.GL


set_option linter.unusedVariables false
namespace Go.GL
open R6 R7
/-! ### What errors a leap may tell -/
namespace R9
def Er (e : Int) : Prop := e = 0 ∨ e = 40
theorem put_er {ns : List Node} (h : Wf ns) {room q0 q1 q2 q3 : Int} {lv : Nat} (hl : lv + 1 ≤ 42) (h0 : IsN ns lv q0) (h1 : IsN ns lv q1) (h2 : IsN ns lv q2) (h3 : IsN ns lv q3) : Er (put ns room q0 q1 q2 q3).2.2 := by
 have hf : fit4 ns q0 q1 q2 q3 := fit4_of hl h0 h1 h2 h3
 unfold put
 rw [if_pos hf]
 split
 ·exact .inl rfl
 ·split
  ·exact .inr rfl
  ·exact .inl rfl
theorem putSq_er {ns : List Node} {room : Int} (h : R6.right ns room) {lv : Nat} (hl : lv + 1 ≤ 42) {l : List Int} (hi : ∀ i : Int, 0 ≤ i → i < 16 → IsN ns lv (R8.g l i)) {y x : Int} (hy : 0 ≤ y ∧ y ≤ 2) (hx : 0 ≤ x ∧ x ≤ 2) : Er (R8.putSq ns room l y x).2.2 :=
 put_er (right_iff.1 h).2 hl (hi _ (by omega) (by omega)) (hi _ (by omega) (by omega)) (hi _ (by omega) (by omega)) (hi _ (by omega) (by omega))
theorem mapS_er {room : Int} {f : LS → Int → L9} {C : List Node → Int → Prop} {lv : Nat} (hC : ∀ ns ms q, ns <+: ms → C ns q → C ms q) (hf : ∀ s q, Lk room s → C s.ns q → Er (f s q).2.2 ∧ ((f s q).2.2 = 0 → Gd room s (f s q) lv)) : ∀ (qs : List Int) (s : LS), Lk room s → (∀ q ∈ qs, C s.ns q) → Er (mapS f s qs).2.2
 | [], s, h, _ => .inl rfl
 | q :: qs, s, h, hq => by
  obtain ⟨e1, e2⟩ := hf s q h (hq q List.mem_cons_self)
  unfold mapS
  by_cases h0 : (f s q).2.2 = 0
  ·rw [if_neg (by simpa using h0)]
   have g := e2 h0
   exact mapS_er hC hf qs (f s q).1 g.lk (fun x hx => hC _ _ _ g.pre (hq x (List.mem_cons_of_mem _ hx)))
  ·rw [if_pos h0]
   exact e1
end R9
end Go.GL


set_option linter.unusedVariables false
namespace Go.GL
open R6 R7
namespace R9
theorem out_ok {ns : List Node} {r : L9} (h : r.2.2 = 0) : out ns r = (r.1.ns, r.2.1, 0) := if_neg (by simpa using h)
theorem lk_nil {ns : List Node} {room : Int} (h : R6.right ns room) : Lk room (⟨ns, []⟩ : LS) := ⟨h, fun p hp => by cases hp⟩
theorem ms_nil (ns : List Node) : MS (⟨ns, []⟩ : LS) := fun p hp => by cases hp
/-- What a leap tells. -/
structure LeapR (ns : List Node) (room : Int) (k : Nat) (n j : Int) (p : List Node × Int × Int) : Prop where
 er : Er p.2.2
 right : R6.right p.1 room
 pre : ns <+: p.1
 is : p.2.2 = 0 → IsN p.1 (k + 1) p.2.1
 std : p.2.2 = 0 → ∀ f ox oy, Std ns (k + 2) n f ox oy → Std p.1 (k + 1) p.2.1 (gens (2 ^ j.toNat) f) (ox + 2 ^ k) (oy + 2 ^ k)
/-- The cells that a node in the middle stands for. -/
theorem mem_std {ns : List Node} (h : Wf ns) {lv : Nat} {n : Int} {f : Int → Int → Bool} (hs : Std ns (lv + 1) n f (-2 ^ lv) (-2 ^ lv)) (c : Cell) : c ∈ R7.of ns n ↔ inL ((lv + 1 : Nat) : Int) c ∧ f c.x c.y = true := by
 rw [mem_of h hs.1]
 constructor
 ·rintro ⟨h1, h2⟩
  refine ⟨h1, ?_⟩
  rw [hs.2 _ _ ?_] at h2
  ·rwa [show c.x + 2 ^ lv + -2 ^ lv = c.x by omega, show c.y + 2 ^ lv + -2 ^ lv = c.y by omega] at h2
  ·unfold inL at h1
   rw [side_succ] at h1
   unfold inQ
   rw [p2s]
   omega
 ·rintro ⟨h1, h2⟩
  refine ⟨h1, ?_⟩
  rw [hs.2 _ _ ?_]
  ·rwa [show c.x + 2 ^ lv + -2 ^ lv = c.x by omega, show c.y + 2 ^ lv + -2 ^ lv = c.y by omega]
  ·unfold inL at h1
   rw [side_succ] at h1
   unfold inQ
   rw [p2s]
   omega
/-- A set, as a part of the plane. -/
def pl (l : List Cell) : Int → Int → Bool := fun x y => decide ((⟨x, y⟩ : Cell) ∈ l)
theorem std_make {ns : List Node} {lv : Nat} {m : Int} {l : List Cell} (hn : IsN ns (lv + 1) m) (h : ∀ c : Cell, inL ((lv + 1 : Nat) : Int) c → al ns (lv + 1) m (c.x + 2 ^ lv) (c.y + 2 ^ lv) = decide (c ∈ l)) : Std ns (lv + 1) m (pl l) (-2 ^ lv) (-2 ^ lv) := by
 refine ⟨hn, fun x y hq => ?_⟩
 have := h ⟨x - 2 ^ lv, y - 2 ^ lv⟩ (by
  unfold inQ at hq
  rw [p2s] at hq
  unfold inL
  rw [side_succ]
  simp only
  omega)
 simp only at this
 rw [show x - 2 ^ lv + 2 ^ lv = x by omega, show y - 2 ^ lv + 2 ^ lv = y by omega] at this
 rw [this]
 unfold pl
 rw [show x + -2 ^ lv = x - 2 ^ lv by omega, show y + -2 ^ lv = y - 2 ^ lv by omega]
theorem of_le {ns : List Node} {lv : Nat} {n : Int} (hn : IsN ns lv n) : (R7.of ns n).length ≤ 4 ^ lv := by
 have := flat_len ns lv n ⟨-side (nd ns n).lv, -side (nd ns n).lv⟩
 unfold R7.of
 rw [show (nd ns n).lv.toNat = lv by rw [hn.2]; omega]
 exact this
end R9
namespace RL
def cropF (l : List Cell) (half : Int) : List Cell := l.filter fun c => decide (((-half ≤ c.x ∧ c.x < half) ∧ -half ≤ c.y) ∧ c.y < half)
def hset (raw : List Cell) : List Cell := R1.puts ((raw.take 40).map cell16)
theorem new9_right {room : Int} (h2 : 2 ≤ room) (h3 : room ≤ 100000) : R6.right [n0, n1] room := R6.right_iff.2 ⟨⟨h2, h3, by simpa using h2⟩, new_wf⟩
end RL
end Go.GL


set_option linter.unusedVariables false
namespace Go.GL
open Go.Proofs
theorem num_int : NumTy Try.prog 3 1 := NumTy.int
theorem num_2 : NumTy Try.prog 46 2 := NumTy.arr num_int (by decide)
theorem num_5 : NumTy Try.prog 69 5 := NumTy.arr num_int (by decide)
theorem laid : laidOutB Try.prog = true := by kernel_rfl
theorem own : ownKnob Try.prog.godebug = none := by kernel_rfl
end Go.GL


set_option linter.unusedVariables false
namespace Go.GL
open R6 R7
/-! ### A run stands for what is there behind so many generations -/
namespace R9
/-- All that is alive is so near. -/
def Supp (f : Int → Int → Bool) (a : Int) : Prop := ∀ x y, f x y = true → -a ≤ x ∧ x < a ∧ -a ≤ y ∧ y < a
theorem Supp.le {f : Int → Int → Bool} {a b : Int} (h : Supp f a) (hab : a ≤ b) : Supp f b := fun x y hf => by
 have := h x y hf
 omega
/-- A node of the level k + 2 in the middle, and nothing outside. -/
def Ctr (ns : List Node) (k : Nat) (n : Int) (f : Int → Int → Bool) : Prop := Std ns (k + 2) n f (-2 ^ (k + 1)) (-2 ^ (k + 1)) ∧ Supp f (2 ^ (k + 1))
theorem Ctr.pre {ns ms : List Node} (h : Wf ns) (hp : ns <+: ms) {k : Nat} {n : Int} {f : Int → Int → Bool} (hs : Ctr ns k n f) : Ctr ms k n f := ⟨hs.1.pre h hp, hs.2⟩
/-- The edge is dead: all is nearer. -/
theorem unedged {ns : List Node} (h : Wf ns) {k : Nat} {n : Int} {f : Int → Int → Bool} (hs : Ctr ns (k + 1) n f) (he : ¬ edged ns n = true) : Supp f (2 ^ (k + 1)) := by
 obtain ⟨h1, h2⟩ := hs
 intro x y hf
 have hb := h2 x y hf
 have hpos := p2pos (k + 1)
 have hp2 : (2 : Int) ^ (k + 1 + 1) = 2 * 2 ^ (k + 1) := p2s' (k + 1)
 rw [hp2] at hb h1
 generalize hh : (2 : Int) ^ (k + 1) = H at *
 have key : ∀ X Y : Int, (0 ≤ X ∧ X ≤ 3) → (0 ≤ Y ∧ Y ≤ 3) → (4 * Y + X) ∈ ([0, 1, 2, 3, 4, 7, 8, 11, 12, 13, 14, 15] : List Int) → (-(2 * H) + X * H ≤ x ∧ x < -(2 * H) + X * H + H) → (-(2 * H) + Y * H ≤ y ∧ y < -(2 * H) + Y * H + H) → False := by
  intro X Y hX hY hm hx hy
  have hst := std_s16 (lv := k + 1) h h1 hX hY
  rw [hh] at hst
  have hpop : (nd ns (R8.g (R8.s16 ns n) (4 * Y + X))).pop = 0 := by
   apply Decidable.byContradiction
   intro hp
   exact he (List.any_eq_true.2 ⟨_, hm, decide_eq_true hp⟩)
  have ha := al_dead h (k + 1) _ (x - (-(2 * H) + X * H)) (y - (-(2 * H) + Y * H)) hst.1 hpop
  rw [hst.2 _ _ (by unfold inQ; rw [hh]; omega)] at ha
  rw [show x - (-(2 * H) + X * H) + (-(2 * H) + X * H) = x by omega, show y - (-(2 * H) + Y * H) + (-(2 * H) + Y * H) = y by omega, hf] at ha
  exact nomatch ha
 have ix : (-(2 * H) ≤ x ∧ x < -H) ∨ (-H ≤ x ∧ x < 0) ∨ (0 ≤ x ∧ x < H) ∨ (H ≤ x ∧ x < 2 * H) := by omega
 have iy : (-(2 * H) ≤ y ∧ y < -H) ∨ (-H ≤ y ∧ y < 0) ∨ (0 ≤ y ∧ y < H) ∨ (H ≤ y ∧ y < 2 * H) := by omega
 rcases ix with ix | ix | ix | ix <;> rcases iy with iy | iy | iy | iy
 ·exact (key 0 0 (by omega) (by omega) (by decide) (by omega) (by omega)).elim
 ·exact (key 0 1 (by omega) (by omega) (by decide) (by omega) (by omega)).elim
 ·exact (key 0 2 (by omega) (by omega) (by decide) (by omega) (by omega)).elim
 ·exact (key 0 3 (by omega) (by omega) (by decide) (by omega) (by omega)).elim
 ·exact (key 1 0 (by omega) (by omega) (by decide) (by omega) (by omega)).elim
 ·omega
 ·omega
 ·exact (key 1 3 (by omega) (by omega) (by decide) (by omega) (by omega)).elim
 ·exact (key 2 0 (by omega) (by omega) (by decide) (by omega) (by omega)).elim
 ·omega
 ·omega
 ·exact (key 2 3 (by omega) (by omega) (by decide) (by omega) (by omega)).elim
 ·exact (key 3 0 (by omega) (by omega) (by decide) (by omega) (by omega)).elim
 ·exact (key 3 1 (by omega) (by omega) (by decide) (by omega) (by omega)).elim
 ·exact (key 3 2 (by omega) (by omega) (by decide) (by omega) (by omega)).elim
 ·exact (key 3 3 (by omega) (by omega) (by decide) (by omega) (by omega)).elim
theorem putS_ms {room : Int} {s : LS} (h : Lk room s) (hm : MS s) {q0 q1 q2 q3 : Int} : MS (putS room s q0 q1 q2 q3).1 := hm.pre h.wf (right_put h.right q0 q1 q2 q3).2
theorem mid_ctr {room : Int} {s : LS} (h : Lk room s) {k : Nat} {n : Int} {f : Int → Int → Bool} (hs : Ctr s.ns (k + 1) n f) (he : ¬ edged s.ns n = true) (h0 : (midS room s n).2.2 = 0) : Ctr (midS room s n).1.ns k (midS room s n).2.1 f := by
 refine ⟨(midS_std h hs.1 h0).at ?_ ?_, unedged h.wf hs he⟩ <;> (rw [p2s' (k + 1)]; omega)
/-- Trimmed. -/
theorem trim_ctr {room : Int} : ∀ (k : Nat) (s : LS) (n : Int) (f : Int → Int → Bool), k + 2 ≤ 42 → Lk room s → MS s → Ctr s.ns k n f →
  Er (trim room k s n).2.2 ∧ ((trim room k s n).2.2 = 0 → Lk room (trim room k s n).1 ∧ s.ns <+: (trim room k s n).1.ns ∧ MS (trim room k s n).1 ∧ ∃ k', k' ≤ k ∧ Ctr (trim room k s n).1.ns k' (trim room k s n).2.1 f ∧ (k' = 0 ∨ edged (trim room k s n).1.ns (trim room k s n).2.1 = true))
 | 0, s, n, f, _, h, hm, hs => ⟨.inl rfl, fun _ => ⟨h, List.prefix_refl _, hm, 0, Nat.le_refl _, hs, .inl rfl⟩⟩
 | k + 1, s, n, f, hk, h, hm, hs => by
  unfold trim
  by_cases e : edged s.ns n = true
  ·rw [if_pos e]
   exact ⟨.inl rfl, fun _ => ⟨h, List.prefix_refl _, hm, k + 1, Nat.le_refl _, hs, .inr e⟩⟩
  rw [if_neg e]
  by_cases e1 : (midS room s n).2.2 = 0
  ·rw [if_neg (by simpa using e1)]
   have g := midS_gd (lv := k + 1) h hs.1.1 e1
   obtain ⟨a1, a2⟩ := trim_ctr k (midS room s n).1 (midS room s n).2.1 f (by omega) g.lk (putS_ms h hm) (mid_ctr h hs e e1)
   refine ⟨a1, fun h0 => ?_⟩
   obtain ⟨b1, b2, b3, k', b4, b5, b6⟩ := a2 h0
   exact ⟨b1, g.pre.trans b2, b3, k', by omega, b5, b6⟩
  ·rw [if_pos e1]
   exact ⟨putSq_er (lv := k + 1) h.right (by omega) (s16_isN h.wf hs.1.1) (y := 1) (x := 1) (by omega) (by omega), fun h0 => absurd h0 e1⟩
/-! #### grown -/
def nil2 : Int → Int → Bool := fun _ _ => false
theorem std_dead {ns : List Node} {lv : Nat} {d : Int} {f : Int → Int → Bool} {ox oy : Int} (hd : Std ns lv d nil2 0 0) (hf : ∀ x y, inQ lv x y → f (x + ox) (y + oy) = false) : Std ns lv d f ox oy :=
 ⟨hd.1, fun x y hq => by rw [hd.2 x y hq, hf x y hq]; rfl⟩
theorem nil2_at {ns : List Node} {lv : Nat} {d : Int} (hd : Std ns lv d nil2 0 0) (ox oy : Int) : Std ns lv d nil2 ox oy := ⟨hd.1, fun x y hq => by rw [hd.2 x y hq]; rfl⟩
theorem emptyF_std {room : Int} : ∀ (k : Nat) (ns : List Node) (n : Int) (j : Nat), j + k ≤ 42 → R6.right ns room → Std ns j n nil2 0 0 → Er (emptyF room k ns n).2.2 ∧ ((emptyF room k ns n).2.2 = 0 → Std (emptyF room k ns n).1 (j + k) (emptyF room k ns n).2.1 nil2 0 0)
 | 0, ns, n, j, _, h, hn => ⟨.inl rfl, fun _ => hn⟩
 | k + 1, ns, n, j, hj, h, hn => by
  have hw := (right_iff.1 h).2
  have her := put_er (room := room) hw (lv := j) (by omega) hn.1 hn.1 hn.1 hn.1
  unfold emptyF
  by_cases e : (put ns room n n n n).2.2 = 0
  ·rw [if_neg (by simpa using e)]
   obtain ⟨a, b⟩ := right_put h n n n n
   have c := std_put hw hn (nil2_at hn _ _) (nil2_at hn _ _) (nil2_at hn _ _) e
   have := emptyF_std k _ _ (j + 1) (by omega) a c
   rw [show j + (k + 1) = j + 1 + k by omega]
   exact this
  ·rw [if_pos e]
   exact ⟨her, fun h0 => absurd h0 e⟩
theorem empty_std {room : Int} {ns : List Node} (h : R6.right ns room) {lv : Nat} (hl : lv ≤ 42) : Er (R7.empty ns room lv).2.2 ∧ ((R7.empty ns room lv).2.2 = 0 → Std (R7.empty ns room lv).1 lv (R7.empty ns room lv).2.1 nil2 0 0) := by
 have hw := (right_iff.1 h).2
 have := emptyF_std lv ns 0 0 (by omega) h ⟨⟨hw.in0, by rw [hw.nd0]; rfl⟩, fun x y _ => rfl⟩
 rw [Nat.zero_add] at this
 exact this
theorem std_kids {ns : List Node} (h : Wf ns) {lv : Nat} {n : Int} {f : Int → Int → Bool} {ox oy : Int} (hs : Std ns (lv + 1) n f ox oy) {q : Nat} (hq : q < 4) : Std ns lv ((nd ns n).kids.getD q default) f (ox + ((q % 2 : Nat) : Int) * 2 ^ lv) (oy + ((q / 2 : Nat) : Int) * 2 ^ lv) := by
 refine ⟨kids_getD h hs.1 hq, fun x y hxy => ?_⟩
 have hpos := p2pos lv
 have hk : ∀ a b : Int, (a = 0 ∨ a = 1) → (b = 0 ∨ b = 1) → al ns lv (R7.kid ns n (2 * b + a)) x y = f (x + (ox + a * 2 ^ lv)) (y + (oy + b * 2 ^ lv)) := fun a b ha hb => by
  rw [← al_kid ns hxy ha hb, hs.2 _ _ ?_]
  ·congr 1 <;> omega
  ·unfold inQ at hxy ⊢
   rw [p2s]
   rcases ha with rfl | rfl <;> rcases hb with rfl | rfl <;> omega
 match q, hq with
 | 0, _ => exact hk 0 0 (.inl rfl) (.inl rfl)
 | 1, _ => exact hk 1 0 (.inr rfl) (.inl rfl)
 | 2, _ => exact hk 0 1 (.inl rfl) (.inr rfl)
 | 3, _ => exact hk 1 1 (.inr rfl) (.inr rfl)
theorem bigK_std {ns : List Node} {lv : Nat} {d : Int} {kd : Nat → Int} {f : Int → Int → Bool} {H : Int} (hH : (2 : Int) ^ lv = H) (hd : Std ns lv d nil2 0 0) (hs : Supp f H) (hk : ∀ q : Nat, q < 4 → Std ns lv (kd q) f (-H + ((q % 2 : Nat) : Int) * H) (-H + ((q / 2 : Nat) : Int) * H)) {q i : Nat} (hq : q < 4) (hi : i < 4) :
  Std ns lv (bigK d q (kd q) i) f (-(2 * H) + ((q % 2 : Nat) : Int) * (2 * H) + ((i % 2 : Nat) : Int) * H) (-(2 * H) + ((q / 2 : Nat) : Int) * (2 * H) + ((i / 2 : Nat) : Int) * H) := by
 have hpos := p2pos lv
 rw [hH] at hpos
 unfold bigK
 split
 ·rename_i e
  refine (hk q hq).at ?_ ?_
  all_goals
   rcases (by omega : (q = 0 ∧ i = 3) ∨ (q = 1 ∧ i = 2) ∨ (q = 2 ∧ i = 1) ∨ (q = 3 ∧ i = 0)) with ⟨rfl, rfl⟩ | ⟨rfl, rfl⟩ | ⟨rfl, rfl⟩ | ⟨rfl, rfl⟩ <;> simp only [Nat.reduceDiv, Nat.reduceMod] <;> omega
 ·rename_i e
  refine std_dead hd fun x y hxy => ?_
  unfold inQ at hxy
  rw [hH] at hxy
  apply Decidable.byContradiction
  intro hne
  have hb := hs _ _ (Bool.of_not_eq_false hne)
  rcases (by omega : q = 0 ∨ q = 1 ∨ q = 2 ∨ q = 3) with rfl | rfl | rfl | rfl <;> rcases (by omega : i = 0 ∨ i = 1 ∨ i = 2 ∨ i = 3) with rfl | rfl | rfl | rfl <;> simp only [Nat.reduceDiv, Nat.reduceMod] at hb <;> omega
theorem grow_ctr {room : Int} {s : LS} (h : Lk room s) (hm : MS s) {k : Nat} {n : Int} {f : Int → Int → Bool} (hk : k + 3 ≤ 42) (hs : Ctr s.ns k n f) :
  Er (grow room s n).2.2 ∧ ((grow room s n).2.2 = 0 → Lk room (grow room s n).1 ∧ s.ns <+: (grow room s n).1.ns ∧ MS (grow room s n).1 ∧ Std (grow room s n).1.ns (k + 3) (grow room s n).2.1 f (-2 ^ (k + 2)) (-2 ^ (k + 2))) := by
 have hn := hs.1.1
 have hlv : (nd s.ns n).lv = k + 2 := by rw [hn.2]; omega
 have hp1 := p2s' (k + 1)
 rw [grow_eq, show ((nd s.ns n).lv - 1).toNat = k + 1 by omega, if_neg (by omega)]
 obtain ⟨er1, st1⟩ := empty_std h.right (lv := k + 1) (by omega)
 by_cases e1 : (R7.empty s.ns room (k + 1)).2.2 = 0
 case neg => rw [if_pos e1]; exact ⟨er1, fun h0 => absurd h0 e1⟩
 rw [if_neg (by simpa using e1)]
 obtain ⟨r1, p1, i1⟩ := empty_gd h.right e1
 have st1 := st1 e1
 have l1 : Lk room (⟨(R7.empty s.ns room (k + 1)).1, s.mm⟩ : LS) := ⟨r1, h.mem.pre p1⟩
 have m1 : MS (⟨(R7.empty s.ns room (k + 1)).1, s.mm⟩ : LS) := hm.pre h.wf p1
 have hkd : ∀ q : Nat, q < 4 → Std (R7.empty s.ns room (k + 1)).1 (k + 1) ((nd s.ns n).kids.getD q default) f (-2 ^ (k + 1) + ((q % 2 : Nat) : Int) * 2 ^ (k + 1)) (-2 ^ (k + 1) + ((q / 2 : Nat) : Int) * 2 ^ (k + 1)) := fun q hq => (std_kids h.wf hs.1 hq).pre h.wf p1
 generalize hD : (R7.empty s.ns room (k + 1)).2.1 = d at *
 generalize hT : (⟨(R7.empty s.ns room (k + 1)).1, s.mm⟩ : LS) = T at *
 have hTn : T.ns = (R7.empty s.ns room (k + 1)).1 := by rw [← hT]
 rw [← hTn] at st1 hkd p1 i1
 generalize hks : (nd s.ns n).kids = ks at *
 have hsup := hs.2
 generalize hH : (2 : Int) ^ (k + 1) = H at *
 have hMer : Er (mapS (growF room d ks) T k4).2.2 := mapS_er (room := room) (f := growF room d ks) (C := fun ns k' => IsN ns (k + 1) d ∧ IsN ns (k + 1) (ks.getD k'.toNat default)) (lv := k + 2) (fun _ _ _ hp hq => ⟨hq.1.pre hp, hq.2.pre hp⟩) (fun s q hs hq => ⟨put_er hs.wf (lv := k + 1) (by omega) (bigK_isN hq.1 hq.2 _ _) (bigK_isN hq.1 hq.2 _ _) (bigK_isN hq.1 hq.2 _ _) (bigK_isN hq.1 hq.2 _ _), fun he => growF_gd hs hq he⟩) k4 T l1 (fun q hq => by
  simp only [k4, List.mem_cons, List.not_mem_nil, or_false] at hq
  exact ⟨i1, (hkd q.toNat (by omega)).1⟩)
 by_cases e2 : (mapS (growF room d ks) T k4).2.2 = 0
 case neg => rw [bindM_err e2]; exact ⟨hMer, fun h0 => absurd h0 e2⟩
 rw [bindM_ok e2]
 obtain ⟨l2, p2, m2, n2, i2⟩ := mapS_std (room := room) (f := growF room d ks) (fun i ns q => q = (i : Int) ∧ i < 4 ∧ Std ns (k + 1) d nil2 0 0 ∧ ∀ q : Nat, q < 4 → Std ns (k + 1) (ks.getD q default) f (-H + ((q % 2 : Nat) : Int) * H) (-H + ((q / 2 : Nat) : Int) * H))
  (fun i ns q => Std ns (k + 2) q f (-(2 * H) + ((i % 2 : Nat) : Int) * (2 * H)) (-(2 * H) + ((i / 2 : Nat) : Int) * (2 * H)))
  (fun i ns ms q hw hp hq => ⟨hq.1, hq.2.1, hq.2.2.1.pre hw hp, fun q h => (hq.2.2.2 q h).pre hw hp⟩) (fun i ns ms q hw hp hq => hq.pre hw hp) (fun i t q ht hmt hq he => by
   obtain ⟨rfl, hi4, hd, hkk⟩ := hq
   have g := growF_gd ht ⟨hd.1, (hkk i hi4).1⟩ he
   have hb := fun {i' : Nat} (h' : i' < 4) => bigK_std (kd := fun q => ks.getD q default) hH hd hsup hkk hi4 h'
   refine ⟨g.lk, g.pre, putS_ms ht hmt, ?_⟩
   have b0 := hb (i' := 0) (by omega)
   have b1 := hb (i' := 1) (by omega)
   have b2 := hb (i' := 2) (by omega)
   have b3 := hb (i' := 3) (by omega)
   refine std_put (lv := k + 1) ht.wf (b0.at ?_ ?_) (b1.at ?_ ?_) (b2.at ?_ ?_) (b3.at ?_ ?_) he
   all_goals (simp only [Nat.reduceDiv, Nat.reduceMod]; omega)) k4 0 T l1 m1 (fun i hi => by
   have hi4 : i < 4 := hi
   rw [Nat.zero_add]
   refine ⟨?_, hi4, st1, hkd⟩
   match i, hi4 with
   | 0, _ => rfl
   | 1, _ => rfl
   | 2, _ => rfl
   | 3, _ => rfl) e2
 have n2 : (mapS (growF room d ks) T k4).2.1.length = 4 := n2
 generalize mapS (growF room d ks) T k4 = R2 at *
 have h0 := i2 0 (by decide)
 have h1 := i2 1 (by decide)
 have h2 := i2 2 (by decide)
 have h3 := i2 3 (by decide)
 simp only [Nat.zero_add, Nat.reduceDiv, Nat.reduceMod] at h0 h1 h2 h3
 have her := put_er (room := room) l2.wf (lv := k + 2) (by omega) h0.1 h1.1 h2.1 h3.1
 refine ⟨her, fun he => ?_⟩
 have he : (putS room R2.1 (R8.g R2.2.1 0) (R8.g R2.2.1 1) (R8.g R2.2.1 2) (R8.g R2.2.1 3)).2.2 = 0 := he
 have g := putS_gd l2 (lv := k + 2) h0.1 he
 refine ⟨g.lk, (p1.trans p2).trans g.pre, putS_ms l2 m2, ?_⟩
 have hp2 : (2 : Int) ^ (k + 2) = 2 * H := hp1
 refine std_put (lv := k + 2) l2.wf (h0.at ?_ ?_) (h1.at ?_ ?_) (h2.at ?_ ?_) (h3.at ?_ ?_) he
 all_goals (rw [hp2]; omega)
theorem grow_ctr' {room : Int} {s : LS} (h : Lk room s) (hm : MS s) {k : Nat} {n : Int} {f : Int → Int → Bool} (hk : k + 3 ≤ 42) (hs : Ctr s.ns k n f) :
  Er (grow room s n).2.2 ∧ ((grow room s n).2.2 = 0 → Lk room (grow room s n).1 ∧ s.ns <+: (grow room s n).1.ns ∧ MS (grow room s n).1 ∧ Ctr (grow room s n).1.ns (k + 1) (grow room s n).2.1 f) := by
 obtain ⟨h1, h2⟩ := grow_ctr h hm hk hs
 refine ⟨h1, fun h0 => ?_⟩
 obtain ⟨a, b, c, d⟩ := h2 h0
 have hp := p2s' (k + 1)
 have hpos := p2pos (k + 1)
 exact ⟨a, b, c, d, hs.2.le (by show (2 : Int) ^ (k + 1) ≤ 2 ^ (k + 1 + 1); omega)⟩
end R9
end Go.GL


set_option linter.unusedVariables false
namespace Go.GL
open R6 R7
namespace R9
/-- An answer without an error. -/
def OkS (room : Int) (s : LS) (r : L9) : Prop := Lk room r.1 ∧ s.ns <+: r.1.ns ∧ MS r.1
theorem OkS.trans {room : Int} {s t : LS} {r : L9} (h : OkS room t r) (hp : s.ns <+: t.ns) : OkS room s r := ⟨h.1, hp.trans h.2.1, h.2.2⟩
theorem pow_le2 {a b : Nat} (h : a ≤ b) : (2 : Int) ^ a ≤ 2 ^ b := by
 induction b with
 | zero =>
  obtain rfl : a = 0 := by omega
  exact Int.le_refl _
 | succ b ih =>
  by_cases e : a = b + 1
  ·rw [e]; exact Int.le_refl _
  ·have := ih (by omega)
   have h2 := p2pos b
   rw [p2s' b]
   omega
/-- How many generations. -/
def total : List Nat → Nat
 | [] => 0
 | j :: js => 2 ^ j + total js
/-! #### the bits -/
def bitsN (c : Int) (m : Nat) : List Nat := (List.range m).filter fun i => decide (c / 2 ^ i % 2 = 1)
end R9
end Go.GL


set_option linter.unusedVariables false
namespace Go.GL
open R6 R7
namespace R9
/-- Trimmed. -/
def Trd (ns : List Node) (k : Nat) (n : Int) : Prop := k = 0 ∨ edged ns n = true
theorem edged_pre {ns ms : List Node} (h : Wf ns) (hp : ns <+: ms) {k : Nat} {n : Int} (hn : IsN ns (k + 2) n) : edged ms n = edged ns n := by
 unfold edged
 rw [R8.s16_pre h hp hn]
 have hi := s16_isN h hn
 have key : ∀ i : Int, 0 ≤ i → i < 16 → nd ms (R8.g (R8.s16 ns n) i) = nd ns (R8.g (R8.s16 ns n) i) := fun i a b => nd_pre hp (hi i a b).1
 simp only [List.any_cons, List.any_nil]
 rw [key 0 (by omega) (by omega), key 1 (by omega) (by omega), key 2 (by omega) (by omega), key 3 (by omega) (by omega), key 4 (by omega) (by omega), key 7 (by omega) (by omega), key 8 (by omega) (by omega), key 11 (by omega) (by omega), key 12 (by omega) (by omega), key 13 (by omega) (by omega), key 14 (by omega) (by omega), key 15 (by omega) (by omega)]
theorem Trd.pre {ns ms : List Node} (h : Wf ns) (hp : ns <+: ms) {k : Nat} {n : Int} (hn : IsN ns (k + 2) n) (ht : Trd ns k n) : Trd ms k n := ht.imp id fun e => by rw [edged_pre h hp hn]; exact e
theorem alive {ns : List Node} (h : Wf ns) : ∀ (lv : Nat) (n : Int), IsN ns lv n → (nd ns n).pop ≠ 0 → ∃ x y, inQ lv x y ∧ al ns lv n x y = true
 | 0, n, hn, hp => by
  rcases isN0 h hn with rfl | rfl
  ·exact absurd (by rw [h.nd0]; rfl) hp
  ·exact ⟨0, 0, ⟨by omega, by decide, by omega, by decide⟩, rfl⟩
 | lv + 1, n, hn, hp => by
  obtain ⟨a, b, c, d⟩ := kids4 h hn
  have hpos := p2pos lv
  have hk : ∀ (q : Int) (a b : Int), (a = 0 ∨ a = 1) → (b = 0 ∨ b = 1) → R7.kid ns n (2 * b + a) = q → (∃ x y, inQ lv x y ∧ al ns lv q x y = true) → ∃ x y, inQ (lv + 1) x y ∧ al ns (lv + 1) n x y = true := by
   rintro q a b ha hb hq ⟨x, y, h1, h2⟩
   refine ⟨x + a * 2 ^ lv, y + b * 2 ^ lv, ?_, ?_⟩
   ·unfold inQ at h1 ⊢
    rw [p2s]
    rcases ha with rfl | rfl <;> rcases hb with rfl | rfl <;> omega
   ·rw [al_kid ns h1 ha hb, hq]
    exact h2
  have hd := fun hc => hp ((dead_kids h hn).2 hc)
  by_cases e0 : (nd ns (nd ns n).k0).pop = 0
  ·by_cases e1 : (nd ns (nd ns n).k1).pop = 0
   ·by_cases e2 : (nd ns (nd ns n).k2).pop = 0
    ·exact hk _ 1 1 (.inr rfl) (.inr rfl) rfl (alive h lv _ d fun e3 => hd ⟨e0, e1, e2, e3⟩)
    ·exact hk _ 0 1 (.inl rfl) (.inr rfl) rfl (alive h lv _ c e2)
   ·exact hk _ 1 0 (.inr rfl) (.inl rfl) rfl (alive h lv _ b e1)
  ·exact hk _ 0 0 (.inl rfl) (.inl rfl) rfl (alive h lv _ a e0)
/-- The edge is not dead: some is so far. -/
theorem edged_far {ns : List Node} (h : Wf ns) {k : Nat} {n : Int} {f : Int → Int → Bool} (hs : Ctr ns (k + 1) n f) (he : edged ns n = true) : ¬ Supp f (2 ^ (k + 1)) := by
 intro hsup
 obtain ⟨h1, h2⟩ := hs
 have hp2 : (2 : Int) ^ (k + 1 + 1) = 2 * 2 ^ (k + 1) := p2s' (k + 1)
 have hpos := p2pos (k + 1)
 rw [hp2] at h1
 generalize hh : (2 : Int) ^ (k + 1) = H at *
 obtain ⟨i, hi, hp⟩ := List.any_eq_true.1 he
 have hp := of_decide_eq_true hp
 obtain ⟨X, Y, hX, hY, rfl, hout⟩ : ∃ X Y : Int, (0 ≤ X ∧ X ≤ 3) ∧ (0 ≤ Y ∧ Y ≤ 3) ∧ i = 4 * Y + X ∧ (X = 0 ∨ X = 3 ∨ Y = 0 ∨ Y = 3) := by
  simp only [List.mem_cons, List.not_mem_nil, or_false] at hi
  exact ⟨i % 4, i / 4, by omega, by omega, by omega, by omega⟩
 have hst := std_s16 (lv := k + 1) h h1 hX hY
 rw [hh] at hst
 obtain ⟨x, y, hq, ha⟩ := alive h (k + 1) _ hst.1 hp
 rw [hst.2 x y hq] at ha
 have hb := hsup _ _ ha
 unfold inQ at hq
 rw [hh] at hq
 rcases (by omega : X = 0 ∨ X = 1 ∨ X = 2 ∨ X = 3) with rfl | rfl | rfl | rfl <;> rcases (by omega : Y = 0 ∨ Y = 1 ∨ Y = 2 ∨ Y = 3) with rfl | rfl | rfl | rfl <;> omega
/-- The same, trimmed, is the same node. -/
theorem canon {ns : List Node} (h : Wf ns) {n m : Int} {k l : Nat} {f : Int → Int → Bool} (h1 : Ctr ns k n f) (t1 : Trd ns k n) (h2 : Ctr ns l m f) (t2 : Trd ns l m) : n = m := by
 have key : ∀ {a b : Nat} {u : Int}, a < b → Supp f (2 ^ (a + 1)) → Ctr ns b u f → Trd ns b u → False := fun {a b u} hab hsu hc ht => by
  obtain ⟨b', rfl⟩ : ∃ b', b = b' + 1 := ⟨b - 1, by omega⟩
  rcases ht with e | e
  ·omega
  ·exact edged_far h hc e (hsu.le (pow_le2 (by omega)))
 rcases Nat.lt_trichotomy k l with e | e | e
 ·exact (key e h1.2 h2 t2).elim
 ·subst e
  exact al_inj h (k + 2) n m h1.1.1 h2.1.1 fun x y hq => by rw [h1.1.2 x y hq, h2.1.2 x y hq]
 ·exact (key e h2.2 h1 t1).elim
/-- What a run tells. -/
structure RunR (ns : List Node) (room : Int) (K : Nat) (n c : Int) (f : Int → Int → Bool) (p : List Node × Int × Int) : Prop where
 er : Er p.2.2
 right : R6.right p.1 room
 pre : ns <+: p.1
 ok : p.2.2 = 0 → ∃ k', k' ≤ K ∧ Ctr p.1 k' p.2.1 (gens c.toNat f) ∧ Trd p.1 k' p.2.1
 trim : p.2.2 = 0 → (trimS room ⟨ns, []⟩ n).2.2 = 0 ∧ (trimS room ⟨ns, []⟩ n).1.ns <+: p.1
/-! #### turned by half -/
def refl (f : Int → Int → Bool) : Int → Int → Bool := fun x y => f (-x) (-y)
end R9
end Go.GL


set_option linter.unusedVariables false
namespace Go.GL
open R6 R7
/-! ### Where there is room nothing fails -/
namespace R9
theorem put_room' {ns : List Node} (h : Wf ns) {room q0 q1 q2 q3 : Int} {lv : Nat} (hl : lv + 1 ≤ 42) (h0 : IsN ns lv q0) (h1 : IsN ns lv q1) (h2 : IsN ns lv q2) (h3 : IsN ns lv q3) (hr : (ns.length : Int) < room) : (put ns room q0 q1 q2 q3).2.2 = 0 ∧ (put ns room q0 q1 q2 q3).1.length ≤ ns.length + 1 := by
 obtain ⟨ms, m, e, ok⟩ := put_ok h (room := room) (fit4_of hl h0 h1 h2 h3) (.inr hr)
 rw [e]
 exact ⟨rfl, ok.len⟩
theorem emptyF_room {room : Int} : ∀ (k : Nat) (ns : List Node) (n : Int) (j : Nat), j + k ≤ 42 → R6.right ns room → IsN ns j n → (ns.length : Int) + k ≤ room → (emptyF room k ns n).2.2 = 0 ∧ (emptyF room k ns n).1.length ≤ ns.length + k
 | 0, ns, n, j, _, _, _, _ => ⟨rfl, Nat.le_refl _⟩
 | k + 1, ns, n, j, hj, h, hn, hr => by
  have hw := (right_iff.1 h).2
  obtain ⟨e, l⟩ := put_room' (room := room) hw (lv := j) (by omega) hn hn hn hn (by omega)
  unfold emptyF
  rw [if_neg (by simpa using e)]
  obtain ⟨a, b⟩ := emptyF_room k _ _ (j + 1) (by omega) (right_put h n n n n).1 (put_gd hw hn e) (by omega)
  exact ⟨a, by omega⟩
theorem mapS_room {room : Int} {f : LS → Int → L9} {C : List Node → Int → Prop} {lv : Nat} (hC : ∀ ns ms q, ns <+: ms → C ns q → C ms q) (hf : ∀ s q, Lk room s → C s.ns q → (s.ns.length : Int) < room → (f s q).2.2 = 0 ∧ (f s q).1.ns.length ≤ s.ns.length + 1 ∧ Gd room s (f s q) lv) : ∀ (qs : List Int) (s : LS), Lk room s → (∀ q ∈ qs, C s.ns q) → (s.ns.length : Int) + qs.length ≤ room → (mapS f s qs).2.2 = 0 ∧ (mapS f s qs).1.ns.length ≤ s.ns.length + qs.length
 | [], s, h, _, _ => ⟨rfl, Nat.le_refl _⟩
 | q :: qs, s, h, hq, hr => by
  simp only [List.length_cons] at hr ⊢
  obtain ⟨e1, l1, g⟩ := hf s q h (hq q List.mem_cons_self) (by omega)
  unfold mapS
  rw [if_neg (by simpa using e1)]
  obtain ⟨a, b⟩ := mapS_room hC hf qs (f s q).1 g.lk (fun x hx => hC _ _ _ g.pre (hq x (List.mem_cons_of_mem _ hx))) (by omega)
  exact ⟨a, by show (mapS f (f s q).1 qs).1.ns.length ≤ _; omega⟩
theorem grow_room {room : Int} {s : LS} (h : Lk room s) {k : Nat} {n : Int} (hk : k + 3 ≤ 42) (hn : IsN s.ns (k + 2) n) (hr : (s.ns.length : Int) + k + 6 ≤ room) : (grow room s n).2.2 = 0 ∧ (grow room s n).1.ns.length ≤ s.ns.length + k + 6 := by
 have hlv : (nd s.ns n).lv = k + 2 := by rw [hn.2]; omega
 have hw := h.wf
 obtain ⟨e1, l1⟩ := emptyF_room (room := room) (k + 1) s.ns 0 0 (by omega) h.right ⟨hw.in0, by rw [hw.nd0]; rfl⟩ (by omega)
 have e1 : (R7.empty s.ns room (k + 1)).2.2 = 0 := e1
 have l1 : (R7.empty s.ns room (k + 1)).1.length ≤ s.ns.length + (k + 1) := l1
 rw [grow_eq, show ((nd s.ns n).lv - 1).toNat = k + 1 by omega, if_neg (by omega), if_neg (by simpa using e1)]
 obtain ⟨r1, p1, i1⟩ := empty_gd h.right e1
 have lk1 : Lk room (⟨(R7.empty s.ns room (k + 1)).1, s.mm⟩ : LS) := ⟨r1, h.mem.pre p1⟩
 obtain ⟨e2, l2⟩ := mapS_room (room := room) (f := growF room (R7.empty s.ns room (k + 1)).2.1 (nd s.ns n).kids) (C := fun ns k' => IsN ns (k + 1) (R7.empty s.ns room (k + 1)).2.1 ∧ IsN ns (k + 1) ((nd s.ns n).kids.getD k'.toNat default)) (lv := k + 2) (fun _ _ _ hp hq => ⟨hq.1.pre hp, hq.2.pre hp⟩) (fun t q ht hq hlt => by
  obtain ⟨a, b⟩ := put_room' (room := room) ht.wf (lv := k + 1) (by omega) (bigK_isN hq.1 hq.2 q.toNat 0) (bigK_isN hq.1 hq.2 q.toNat 1) (bigK_isN hq.1 hq.2 q.toNat 2) (bigK_isN hq.1 hq.2 q.toNat 3) hlt
  exact ⟨a, b, growF_gd ht hq a⟩) k4 _ lk1 (fun q hq => by
  simp only [k4, List.mem_cons, List.not_mem_nil, or_false] at hq
  exact ⟨i1, (kids_getD h.wf hn (by omega)).pre p1⟩) (by
  show ((R7.empty s.ns room (k + 1)).1.length : Int) + (4 : Nat) ≤ room
  omega)
 have l2 : (mapS (growF room (R7.empty s.ns room (k + 1)).2.1 (nd s.ns n).kids) ⟨(R7.empty s.ns room (k + 1)).1, s.mm⟩ k4).1.ns.length ≤ (R7.empty s.ns room (k + 1)).1.length + 4 := l2
 obtain ⟨g1, g2, g3, g4⟩ := growM_gd lk1 i1 (fun q hq => (kids_getD h.wf hn hq).pre p1) e2
 rw [bindM_ok e2]
 have hm := fun (i : Int) (a : 0 ≤ i) (b : i ≤ 3) => g4 _ (g_mem (i := i) a (by rw [g3]; omega))
 obtain ⟨e3, l3⟩ := put_room' (room := room) g1.wf (lv := k + 2) (by omega) (hm 0 (by omega) (by omega)) (hm 1 (by omega) (by omega)) (hm 2 (by omega) (by omega)) (hm 3 (by omega) (by omega)) (by omega)
 exact ⟨e3, by
  show (put _ room _ _ _ _).1.length ≤ _
  omega⟩
theorem trim_room {room : Int} : ∀ (k : Nat) (s : LS) (n : Int), k + 2 ≤ 42 → Lk room s → IsN s.ns (k + 2) n → (s.ns.length : Int) + k ≤ room → (trim room k s n).2.2 = 0 ∧ (trim room k s n).1.ns.length ≤ s.ns.length + k
 | 0, s, n, _, _, _, _ => ⟨rfl, Nat.le_refl _⟩
 | k + 1, s, n, hk, h, hn, hr => by
  unfold trim
  by_cases e : edged s.ns n = true
  ·rw [if_pos e]
   exact ⟨rfl, by show s.ns.length ≤ _; omega⟩
  rw [if_neg e]
  have hi := s16_isN h.wf hn
  obtain ⟨e1, l1⟩ := put_room' (room := room) h.wf (lv := k + 1) (by omega) (hi 5 (by omega) (by omega)) (hi 6 (by omega) (by omega)) (hi 9 (by omega) (by omega)) (hi 10 (by omega) (by omega)) (by omega)
  have e1 : (midS room s n).2.2 = 0 := e1
  have l1 : (midS room s n).1.ns.length ≤ s.ns.length + 1 := l1
  rw [if_neg (by simpa using e1)]
  have g := midS_gd (lv := k + 1) h hn e1
  obtain ⟨a, b⟩ := trim_room k (midS room s n).1 (midS room s n).2.1 (by omega) g.lk g.is (by omega)
  exact ⟨a, by omega⟩
/-- Grown, where there is room. -/
structure GrR (ns : List Node) (room : Int) (k : Nat) (f : Int → Int → Bool) (p : List Node × Int × Int) : Prop where
 e : p.2.2 = 0
 right : R6.right p.1 room
 pre : ns <+: p.1
 len : p.1.length ≤ ns.length + k + 6
 ctr : Ctr p.1 (k + 1) p.2.1 f
theorem growT_ok {ns : List Node} {room n : Int} {k : Nat} {f : Int → Int → Bool} (hk : k + 3 ≤ 42) (h : R6.right ns room) (hs : Ctr ns k n f) (hr : (ns.length : Int) + k + 6 ≤ room) : GrR ns room k f (out ns (grow room ⟨ns, []⟩ n)) := by
 obtain ⟨a, b⟩ := grow_room (s := ⟨ns, []⟩) (lk_nil h) hk hs.1.1 hr
 obtain ⟨_, c⟩ := grow_ctr' (lk_nil h) (ms_nil ns) hk hs
 obtain ⟨c1, c2, c3, c4⟩ := c a
 rw [out_ok a]
 exact ⟨rfl, c1.right, c2, b, c4⟩
/-- Trimmed, where there is room. -/
structure TrR (ns : List Node) (room : Int) (k : Nat) (f : Int → Int → Bool) (p : List Node × Int × Int) : Prop where
 e : p.2.2 = 0
 right : R6.right p.1 room
 pre : ns <+: p.1
 len : p.1.length ≤ ns.length + k
 ctr : ∃ k', k' ≤ k ∧ Ctr p.1 k' p.2.1 f ∧ Trd p.1 k' p.2.1
theorem trimT_ok {ns : List Node} {room n : Int} {k : Nat} {f : Int → Int → Bool} (hk : k + 2 ≤ 42) (h : R6.right ns room) (hs : Ctr ns k n f) (hr : (ns.length : Int) + k ≤ room) : TrR ns room k f (trimT ns room n) := by
 have e : trimT ns room n = out ns (trim room k ⟨ns, []⟩ n) := by
  unfold trimT trimS
  rw [if_pos ⟨h, hs.1.1.1, by rw [hs.1.1.2]; omega⟩, lvS_is (s := ⟨ns, []⟩) hs.1.1]
 obtain ⟨a, b⟩ := trim_room (room := room) k ⟨ns, []⟩ n hk (lk_nil h) hs.1.1 hr
 obtain ⟨_, c⟩ := trim_ctr (room := room) k ⟨ns, []⟩ n f hk (lk_nil h) (ms_nil ns) hs
 obtain ⟨c1, c2, c3, c4⟩ := c a
 rw [e, out_ok a]
 exact ⟨rfl, c1.right, c2, b, c4⟩
/-- Trimmed once more: as it is. -/
theorem trimT_trd {ns : List Node} {room n : Int} {k : Nat} {f : Int → Int → Bool} (h : R6.right ns room) (hs : Ctr ns k n f) (ht : Trd ns k n) : trimT ns room n = (ns, n, 0) := by
 have e : trimT ns room n = out ns (trim room k ⟨ns, []⟩ n) := by
  unfold trimT trimS
  rw [if_pos ⟨h, hs.1.1.1, by rw [hs.1.1.2]; omega⟩, lvS_is (s := ⟨ns, []⟩) hs.1.1]
 rw [e]
 cases k with
 | zero => rfl
 | succ k =>
  rcases ht with ht | ht
  ·omega
  ·unfold trim
   show out ns (if edged ns n = true then _ else _) = _
   rw [if_pos ht]
   rfl
/-- The least level. -/
theorem trd_far {ns : List Node} (h : Wf ns) {k : Nat} {n : Int} {f : Int → Int → Bool} (hs : Ctr ns k n f) (ht : Trd ns k n) {a : Nat} (ha : a < k) : ¬ Supp f (2 ^ (a + 1)) := by
 obtain ⟨b, rfl⟩ : ∃ b, k = b + 1 := ⟨k - 1, by omega⟩
 rcases ht with ht | ht
 ·omega
 ·exact fun hc => edged_far h hs ht (hc.le (pow_le2 (by omega)))
end R9
namespace RL
/-- The raw field, with more room. -/
theorem field9 (c : Int) (nodes : List Five) (raw : List Cell) (level : Int) : ∃ (k : Nat) (ms : List Node) (m : Int), field c nodes raw level = (ms, m, 0) ∧ (fv level = (k : Int) + 2) ∧ k ≤ 3 ∧ R6.right ms (room c + 900) ∧ (ms.length : Int) ≤ room c + 160 ∧ R9.Ctr ms k m (R9.pl (fset (fv level) raw)) ∧ (fset (fv level) raw).length ≤ 30 ∧ R1.Srt (fset (fv level) raw) := by
 have hrm := room_bd c
 have hfv := fv_bd level
 obtain ⟨k, hk⟩ : ∃ k : Nat, fv level = (k : Int) + 2 := ⟨(fv level - 2).toNat, by omega⟩
 have hsd : R7.side (fv level) = 2 ^ (k + 1) := by
  rw [hk]
  unfold R7.side
  rw [show ((k : Int) + 2 - 1).toNat = k + 1 by omega]
 have hpos := R7.p2pos (k + 1)
 have hmem : ∀ d ∈ fset (fv level) raw, -(2 ^ (k + 1)) ≤ d.x ∧ d.x < 2 ^ (k + 1) ∧ -(2 ^ (k + 1)) ≤ d.y ∧ d.y < 2 ^ (k + 1) := fun d hd => by
  unfold fset at hd
  rw [R1.mem_puts] at hd
  obtain ⟨r, _, rfl⟩ := List.mem_map.1 hd
  unfold fcell
  rw [hsd]
  have a := pk_bd (c := r.x) (n := 2 * 2 ^ (k + 1)) (by omega)
  have b := pk_bd (c := r.y) (n := 2 * 2 ^ (k + 1)) (by omega)
  simp only
  omega
 have hlen : (fset (fv level) raw).length ≤ 30 := by
  unfold fset
  have h := puts_le ((raw.take 30).map (fcell (fv level)))
  rw [List.length_map, List.length_take] at h
  omega
 have hp16 : (2 : Int) ^ (k + 1) ≤ 16 := by
  have := R9.pow_le2 (a := k + 1) (b := 4) (by omega)
  have e : (2 : Int) ^ 4 = 16 := rfl
  omega
 have hright : R1.right (fset (fv level) raw) := R1.right_of (R1.puts_srt _) (fun d hd => by have := hmem d hd; unfold R1.inB; omega) (by omega)
 -- the store
 have hfold : ∀ (l : List Five) (ns : List Node), R6.right ns (room c) → R6.right (l.foldl (putN (room c)) ns) (room c) := by
  intro l
  induction l with
  | nil => intro ns h; exact h
  | cons r l ih =>
   intro ns h
   refine ih _ ?_
   unfold putN R6.intern
   rw [if_pos h]
   exact (R9.right_put h _ _ _ _).1
 have hst : R6.right (fstore (room c) nodes) (room c) := hfold _ _ (new9_right (by omega) (by omega))
 have hsl : ((fstore (room c) nodes).length : Int) ≤ room c := hst.1.2.2.2.1
 have hw := (R6.right_iff.1 hst).2
 have hE := R7.E_le (fstore (room c) nodes) 6
 have hmul : (fset (fv level) raw).length * (k + 1 + 1) ≤ 30 * 5 := Nat.mul_le_mul hlen (by omega)
 obtain ⟨ms, m, e, ok, sem⟩ := R7.make_ok (room := room c + 600) (L := 6) (lv := k + 1) (by omega) (by omega) (R6.right_iff.2 ⟨⟨by omega, by omega, by omega⟩, hw⟩) hright (fun d hd => by
  have := hmem d hd
  unfold R7.inL
  rw [R7.side_succ]
  exact this) (by omega)
 have hl2 := ok.len
 refine ⟨k, ms, m, ?_, hk, by omega, R6.right_iff.2 ⟨⟨by omega, by omega, by omega⟩, ok.wf⟩, by omega, ⟨R9.std_make ok.is sem, fun x y hf => ?_⟩, hlen, R1.puts_srt _⟩
 ·unfold field
  rw [hk]
  rw [hk] at e
  have e2 : ((k + 1 + 1 : Nat) : Int) = (k : Int) + 2 := by omega
  rw [e2] at e
  exact e
 ·exact hmem ⟨x, y⟩ (of_decide_eq_true hf)
end RL
end Go.GL


set_option linter.unusedVariables false
namespace Go.GL
open R6 R7
namespace RL
def neg (c : Cell) : Cell := ⟨-c.x, -c.y⟩
def mset (raw : List Cell) : List Cell := R1.puts ((set raw).map neg)
/-- The cells of a node in the middle, outside of which there is nothing. -/
theorem mem_ctr {ns : List Node} (h : Wf ns) {k : Nat} {n : Int} {f : Int → Int → Bool} (hs : R9.Ctr ns k n f) (c : Cell) : c ∈ R7.of ns n ↔ f c.x c.y = true := by
 rw [R9.mem_std h hs.1]
 constructor
 ·exact fun h => h.2
 ·intro hf
  refine ⟨?_, hf⟩
  have := hs.2 _ _ hf
  unfold inL
  rw [side_succ]
  exact this
theorem ctr_le {ns : List Node} {k : Nat} {n : Int} {f : Int → Int → Bool} (hk : k ≤ 10) (hs : R9.Ctr ns k n f) : (R7.of ns n).length ≤ 16777216 := by
 have h1 := R9.of_le hs.1.1
 have h2 : 4 ^ (k + 2) ≤ 4 ^ 12 := Nat.pow_le_pow_right (by omega) (by omega)
 have h3 : (4 : Nat) ^ 12 = 16777216 := by decide
 omega
end RL
end Go.GL


set_option linter.unusedVariables false
namespace Go.GL
open R6 R7
namespace RL
theorem inL_iff {L : Nat} {c : Cell} : R7.inL ((L : Int) + 2) c ↔ (-(2 ^ (L + 1)) ≤ c.x ∧ c.x < 2 ^ (L + 1) ∧ -(2 ^ (L + 1)) ≤ c.y ∧ c.y < 2 ^ (L + 1)) := by
 have h := R7.side_succ (L + 1)
 rw [show (((L + 1 + 1 : Nat)) : Int) = (L : Int) + 2 by omega] at h
 unfold R7.inL
 rw [h]
theorem inL_le {L M : Nat} (h : L ≤ M) {c : Cell} (hc : R7.inL ((L : Int) + 2) c) : R7.inL ((M : Int) + 2) c := by
 rw [inL_iff] at hc ⊢
 have := R9.pow_le2 (a := L + 1) (b := M + 1) (by omega)
 omega
/-- The set of a node's cells. -/
theorem of_ctr {ns : List Node} (h : Wf ns) {k : Nat} {n : Int} {l : List Cell} (hs : R9.Ctr ns k n (R9.pl l)) (hsrt : R1.Srt l) (hlen : l.length ≤ 2000) (hk : k ≤ 20) : R1.of (R7.of ns n) = (l, 0) := by
 have hp : R1.puts (R7.of ns n) = l := R1.srt_ext (R1.puts_srt _) hsrt fun {d} => by
  rw [R1.mem_puts, mem_ctr h hs]
  exact decide_eq_true_iff
 rw [R1.of_ok, hp]
 ·intro c hc
  have hf := (mem_ctr h hs c).1 hc
  have hb := hs.2 _ _ hf
  have := R9.pow_le2 (a := k + 1) (b := 21) (by omega)
  have e : (2 : Int) ^ 21 = 2097152 := by decide
  unfold R1.inB
  omega
 ·rw [hp]; exact hlen
theorem ctr_le11 {ns : List Node} {k : Nat} {n : Int} {f : Int → Int → Bool} (hk : k ≤ 11) (hs : R9.Ctr ns k n f) : (R7.of ns n).length ≤ 67108864 := by
 have h1 := R9.of_le hs.1.1
 have h2 : 4 ^ (k + 2) ≤ 4 ^ 13 := Nat.pow_le_pow_right (by omega) (by omega)
 have h3 : (4 : Nat) ^ 13 = 67108864 := by decide
 omega
/-- The least level. -/
theorem least_ok {ns : List Node} (h : Wf ns) {k L : Nat} {n : Int} {l : List Cell} (hs : R9.Ctr ns k n (R9.pl l)) (ht : R9.Trd ns k n) (hL : L ≤ k) (hc : ∀ c ∈ l, R7.inL ((L : Int) + 2) c) : L = k := by
 apply Classical.byContradiction
 intro hne
 exact R9.trd_far h hs ht (a := L) (by omega) fun x y hf => inL_iff.1 (hc ⟨x, y⟩ (of_decide_eq_true hf))
theorem least_lt {ns : List Node} {k L : Nat} {n : Int} {l : List Cell} (hs : R9.Ctr ns k n (R9.pl l)) (hL : L ≤ k) {c : Cell} (hc : c ∈ l) (hn : ¬ R7.inL ((L : Int) + 2) c) : L < k := by
 apply Classical.byContradiction
 intro hne
 rw [show L = k by omega] at hn
 exact hn (inL_iff.2 (hs.2 _ _ (decide_eq_true hc)))
end RL
end Go.GL


set_option linter.unusedVariables false
namespace Go.GL
open Go.Proofs
attribute [local irreducible] wpList Code.wp Exit.then Exit.inBlock Ends Tri TriH OpV OpG FnC epf wpAnyH
variable {A : List Asrt} {I : List Chunk}
instance : Enc (Int × Int × Int) := ⟨fun p => [.int .i64 p.1, .int .i64 p.2.1, .int .i64 p.2.2], 3, fun _ => rfl, fun _ => rfl⟩
/-- The document's leaper, as it lies in the heap. -/
abbrev LgA (bl : Nat) (a : Option Addr) (cap len : Nat) (room : Int) (ad : Option Addr) (cd : Nat) (mm : R9.Memo) (e : Int) (A : List Asrt) : List Asrt :=
 Box bl [.slice a len cap, .int .i64 room, .slice ad mm.length cd, .int .i64 e] 81 :: Row ad cd mm.length 104 3 (encs mm) :: A
/-- What its functions tell and leave behind. -/
def LgR (bl : Nat) (r : R9.L9) (room : Int) (A : List Asrt) (I : List Chunk) : Value → List Asrt → List Chunk → Prop :=
 fun v A' I' => ∃ a' cap' ad' cd' ns' mm' m, v = .int .i64 m ∧ A' = LgA bl a' cap' (List.length ns') room ad' cd' mm' r.2.2 A ∧ StA I' a' cap' (ns' : List Node) ∧ (r.2.2 = 0 → ns' = r.1.ns ∧ mm' = r.1.mm ∧ m = r.2.1) ∧ I ⊆ I'
theorem er_zero {e : Int} {R : R9.L9} (h : e ≠ 0 → R.2.2 = e) (h0 : R.2.2 = 0) : e = 0 := Decidable.byContradiction fun x => x (by rw [← h x]; exact h0)
end Go.GL

