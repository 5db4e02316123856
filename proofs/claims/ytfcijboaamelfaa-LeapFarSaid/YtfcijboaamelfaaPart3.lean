/- Part 3: contracts of the functions that the law reaches: each answers as its model does. No condition beyond those that each theorem states. -/
import Derived.Test.YtfcijboaamelfaaPart2
set_option linter.unusedVariables false
namespace Go.GL
open Go.Proofs
attribute [local irreducible] wpList Code.wp Exit.then Exit.inBlock Ends Tri TriH OpV OpG FnC epf wpAnyH
theorem clone_nodes {A : List Asrt} {I : List Chunk} {ns : List Node} {a : Option Addr} {cap : Nat} (hs : SlAt I a ns) (hn : ns.length ≤ 1000000000) (h0 : 0 < ns.length) :
  FnC Try.prog 99 [.slice a ns.length cap].toArray A I (fun v A' I' => ∃ a' cap', v = .slice a' ns.length cap' ∧ A' = Row a' cap' ns.length 35 6 (encs ns) :: A ∧ I = I') := by
 have hsome := hs.some h0
 have hnone : a.isNone = false := by cases a <;> simp_all
 skip
 refine fn_enter1 Try.func99 rfl Try.ntmps99 rfl fun w0 => ?_
 refine tS (tR (tA rfl rfl (tN (tT (tS (tS (tR ?_)))))))
 refine tM rfl rfl ?_
 refine tri_v (opv_eqlNil rfl rfl) rfl ?_
 refine tN (tT ?_)
 refine tri_cond_false (congrArg some (congrArg Value.bool hnone)) ?_
 refine tri_skip (tT (tS (tR ?_)))
 refine tri_g (opg_buildSlice rfl rfl rfl rfl) rfl ?_
 rintro _ _ _ ⟨b5, rfl, rfl, rfl⟩
 refine tM rfl rfl ?_
 refine tri_boxRow (k := 0) (sz := 6) rfl ?_
 refine tri_g (opg_appendS rfl rfl hs rfl rfl (by omega) rfl) rfl ?_
 rintro _ _ _ ⟨a2, cap2, rfl, rfl, rfl⟩
 refine tA rfl rfl (tN (tT (tri_ret ?_)))
 refine tri_rowEq (len' := ns.length) (cells' := encs ns) (by omega) rfl ?_
 refine tri_end _ (⟨[], rfl⟩) rfl (.cons (rv_tmp rfl) .nil) ⟨a2, cap2, ?_, rfl, rfl⟩
 rw [Nat.zero_add]; rfl
set_option maxHeartbeats 1000000 in
set_option maxRecDepth 100000 in
theorem node_parent {A : List Asrt} {I : List Chunk} {ns : List Node} {a : Option Addr} {cap bx : Nat} {room q0 q1 q2 q3 : Int} {mv : Value} (hn : ns.length ≤ 1000000000) (hm : R6.Mod ns) :
  FnC Try.prog 96 [pt bx 0, int4V q0 q1 q2 q3].toArray (Box bx [.slice a ns.length cap, .int .i64 room, mv] 99 :: Row a cap ns.length 35 6 (encs ns) :: A) I (fun v A' I' => (∃ z ok, v = .tuple [nodeV z, .bool ok].toArray ∧ (ok = true ↔ R6.fit4 ns q0 q1 q2 q3) ∧ (ok = true → z = R6.mk4 ns q0 q1 q2 q3)) ∧ A' = (Box bx [.slice a ns.length cap, .int .i64 room, mv] 99 :: Row a cap ns.length 35 6 (encs ns) :: A) ∧ I = I') := by
 have bad : ∀ z, ¬ R6.fit4 ns q0 q1 q2 q3 → ∃ z' ok, Value.tuple [nodeV z, .bool false].toArray = .tuple [nodeV z', .bool ok].toArray ∧ (ok = true ↔ R6.fit4 ns q0 q1 q2 q3) ∧ (ok = true → z' = R6.mk4 ns q0 q1 q2 q3) :=
  fun z h => ⟨z, false, rfl, ⟨fun h2 => absurd h2 (by decide), fun h2 => absurd h2 h⟩, fun h2 => absurd h2 (by decide)⟩
 skip
 refine fn_enter2 Try.func96 rfl Try.ntmps96 rfl fun w0 => ?_
 refine tS (tR ?_)
 refine tri_g (opg_box_agg rfl) rfl ?_
 rintro _ _ _ ⟨b3, rfl, rfl, rfl⟩
 refine tri_g opg_alloc rfl ?_
 rintro _ _ _ ⟨b4, rfl, rfl, rfl⟩
 refine tA rfl rfl (tN (tT (tS (tS (tR ?_)))))
 refine yB rfl rfl ?_
 refine tM rfl rfl (tN (tT (tri_block ?_)))
 refine tri_rounds 5 ?_
 refine tri_round (tS (tR (yC rfl rfl (tN (tT (tS ?_))))))
 refine tri_cond_is rfl (by decide) ?_
 refine tri_skip (tT (tS (tri_block (tS (tR (tM rfl rfl ?_))))))
 refine tri_v (opv_index rfl rfl (by decide) (by decide) rfl rfl) rfl ?_
 refine tA rfl rfl (tA rfl rfl (tN (tT (tS (tS (tR (tM rfl rfl ?_)))))))
 refine yC rfl rfl (tM rfl rfl ?_)
 refine tri_split rfl rfl (fun h0a => ?_) (fun h0a => ?_)
 ·refine tri_guard_skip rfl rfl rfl rfl (tri_guard_skip rfl rfl rfl rfl (tri_guard_skip rfl rfl rfl rfl (tri_guard_skip rfl rfl rfl rfl (tri_guard_skip rfl rfl rfl rfl (tri_guard_skip rfl rfl rfl rfl (tri_guard_skip rfl rfl rfl rfl (tri_guard_skip rfl rfl rfl rfl ?_)))))))
  refine tri_v (opv_pick_t rfl rfl) rfl ?_
  refine tN (tT ?_)
  refine tri_cond_true rfl ?_
  refine tS (tR ?_)
  refine yB rfl rfl ?_
  refine yG rfl rfl rfl rfl rfl rfl ?_
  rintro _ _ _ ⟨rfl, rfl⟩
  refine tA rfl rfl (tN (tT (tri_ret (tri_then_ret (tri_inBlock_ret (tri_then_ret (tri_then_ret ?_)))))))
  refine tri_inBlock_ret (tri_then_ret ?_)
  refine tri_end _ (⟨[_, _], rfl⟩) rfl (.cons (rv_cellA rfl rfl rfl) (.cons (rv_tmp rfl) .nil)) ⟨bad ⟨_, _, _, _, _, _⟩ ?_, rfl, rfl⟩
  unfold R6.fit4 R6.inS; omega
 refine yR rfl rfl (tM rfl rfl (yR rfl rfl (tM rfl rfl (yR rfl rfl ?_))))
 refine tri_v (opv_nilCheck rfl) rfl ?_
 refine yR rfl rfl (yF rfl (yR rfl rfl (yF rfl (yR rfl rfl ?_))))
 refine yL rfl rfl ?_
 refine yR rfl rfl ?_
 refine tri_v (opv_len rfl) rfl ?_
 refine yR rfl rfl ?_
 refine tri_v (opv_geq rfl rfl) rfl ?_
 refine tri_v (opv_pick_f rfl rfl) rfl ?_
 refine tN (tT ?_)
 refine tri_cond_dec rfl (fun h0b => ?_) (fun h0b => ?_)
 ·refine tS (tR ?_)
  refine yB rfl rfl ?_
  refine yG rfl rfl rfl rfl rfl rfl ?_
  rintro _ _ _ ⟨rfl, rfl⟩
  refine tA rfl rfl (tN (tT (tri_ret (tri_then_ret (tri_inBlock_ret (tri_then_ret (tri_then_ret ?_)))))))
  refine tri_inBlock_ret (tri_then_ret ?_)
  refine tri_end _ (⟨[_, _], rfl⟩) rfl (.cons (rv_cellA rfl rfl rfl) (.cons (rv_tmp rfl) .nil)) ⟨bad ⟨_, _, _, _, _, _⟩ ?_, rfl, rfl⟩
  unfold R6.fit4 R6.inS; omega
 have b0 := hm.at h0a h0b
 refine tri_skip (tT (tS (tR (tM rfl rfl ?_))))
 refine tri_v (opv_nilCheck rfl) rfl ?_
 refine yF rfl (yF rfl ?_)
 refine yL rfl rfl ?_
 refine tM rfl rfl ?_
 refine tri_v (opv_indexAddrR rfl rfl (by omega) (by omega)) rfl ?_
 refine tri_v (opv_loadRXA rfl rfl (by omega) rfl rfl rfl) rfl ?_
 refine tri_g opg_alloc rfl ?_
 rintro _ _ _ ⟨b8, rfl, rfl, rfl⟩
 refine yG rfl rfl rfl rfl rfl rfl ?_
 rintro _ _ _ ⟨rfl, rfl⟩
 refine tN (tT (tS (tS (tR (tM rfl rfl ?_)))))
 refine tri_v (opv_gtr rfl rfl) rfl ?_
 refine tM rfl rfl ?_
 refine tri_false rfl rfl (by decide) ?_
 refine tri_guard_skip rfl rfl rfl rfl (tri_guard_skip rfl rfl rfl rfl (tri_guard_skip rfl rfl rfl rfl (tri_guard_skip rfl rfl rfl rfl (tri_guard_skip rfl rfl rfl rfl (tri_guard_skip rfl rfl rfl rfl ?_)))))
 refine tri_v (opv_pick_f rfl rfl) rfl ?_
 refine tN (tT ?_)
 refine tri_cond_false rfl ?_
 refine tri_skip (tT (tS (tR (yF rfl ?_))))
 refine yL rfl rfl ?_
 refine yU rfl rfl ?_
 refine yF rfl ?_
 refine yG rfl rfl rfl rfl rfl rfl ?_
 rintro _ _ _ ⟨rfl, rfl⟩
 refine tN (tT (tR (yF rfl ?_)))
 refine yL rfl rfl ?_
 refine yF rfl ?_
 refine yL rfl rfl ?_
 refine yU rfl rfl ?_
 refine tri_v (opv_min2 rfl rfl) rfl ?_
 refine yF rfl ?_
 refine yG rfl rfl rfl rfl rfl rfl ?_
 rintro _ _ _ ⟨rfl, rfl⟩
 refine tN (tri_inBlock (tT (tR ?_)))
 refine yU rfl rfl ?_
 refine tM rfl rfl (tN (tT (tri_round (tS (tR (yC rfl rfl (tN ?_)))))))
 refine tT (tS ?_)
 have e0 := R6.mn_bd (x := 0 + (ns.getD q0.toNat default).pop) (by omega)
 refine tri_drop ?_
 skip
 refine tri_cond_is rfl (by decide) ?_
 refine tri_skip (tT (tS (tri_block (tS (tR (tM rfl rfl ?_))))))
 refine tri_v (opv_index rfl rfl (by decide) (by decide) rfl rfl) rfl ?_
 refine tA rfl rfl (tA rfl rfl (tN (tT (tS (tS (tR (tM rfl rfl ?_)))))))
 refine yC rfl rfl (tM rfl rfl ?_)
 refine tri_split rfl rfl (fun h1a => ?_) (fun h1a => ?_)
 ·refine tri_guard_skip rfl rfl rfl rfl (tri_guard_skip rfl rfl rfl rfl (tri_guard_skip rfl rfl rfl rfl (tri_guard_skip rfl rfl rfl rfl (tri_guard_skip rfl rfl rfl rfl (tri_guard_skip rfl rfl rfl rfl (tri_guard_skip rfl rfl rfl rfl (tri_guard_skip rfl rfl rfl rfl ?_)))))))
  refine tri_v (opv_pick_t rfl rfl) rfl ?_
  refine tN (tT ?_)
  refine tri_cond_true rfl ?_
  refine tS (tR ?_)
  refine yB rfl rfl ?_
  refine yG rfl rfl rfl rfl rfl rfl ?_
  rintro _ _ _ ⟨rfl, rfl⟩
  refine tA rfl rfl (tN (tT (tri_ret (tri_then_ret (tri_inBlock_ret (tri_then_ret (tri_then_ret ?_)))))))
  refine tri_inBlock_ret (tri_then_ret ?_)
  refine tri_end _ (⟨[_, _], rfl⟩) rfl (.cons (rv_cellA rfl rfl rfl) (.cons (rv_tmp rfl) .nil)) ⟨bad ⟨_, _, _, _, _, _⟩ ?_, rfl, rfl⟩
  unfold R6.fit4 R6.inS; omega
 refine yR rfl rfl (tM rfl rfl (yR rfl rfl (tM rfl rfl (yR rfl rfl ?_))))
 refine tri_v (opv_nilCheck rfl) rfl ?_
 refine yR rfl rfl (yF rfl (yR rfl rfl (yF rfl (yR rfl rfl ?_))))
 refine yL rfl rfl ?_
 refine yR rfl rfl ?_
 refine tri_v (opv_len rfl) rfl ?_
 refine yR rfl rfl ?_
 refine tri_v (opv_geq rfl rfl) rfl ?_
 refine tri_v (opv_pick_f rfl rfl) rfl ?_
 refine tN (tT ?_)
 refine tri_cond_dec rfl (fun h1b => ?_) (fun h1b => ?_)
 ·refine tS (tR ?_)
  refine yB rfl rfl ?_
  refine yG rfl rfl rfl rfl rfl rfl ?_
  rintro _ _ _ ⟨rfl, rfl⟩
  refine tA rfl rfl (tN (tT (tri_ret (tri_then_ret (tri_inBlock_ret (tri_then_ret (tri_then_ret ?_)))))))
  refine tri_inBlock_ret (tri_then_ret ?_)
  refine tri_end _ (⟨[_, _], rfl⟩) rfl (.cons (rv_cellA rfl rfl rfl) (.cons (rv_tmp rfl) .nil)) ⟨bad ⟨_, _, _, _, _, _⟩ ?_, rfl, rfl⟩
  unfold R6.fit4 R6.inS; omega
 have b1 := hm.at h1a h1b
 refine tri_skip (tT (tS (tR (tM rfl rfl ?_))))
 refine tri_v (opv_nilCheck rfl) rfl ?_
 refine yF rfl (yF rfl ?_)
 refine yL rfl rfl ?_
 refine tM rfl rfl ?_
 refine tri_v (opv_indexAddrR rfl rfl (by omega) (by omega)) rfl ?_
 refine tri_v (opv_loadRXA rfl rfl (by omega) rfl rfl rfl) rfl ?_
 refine tri_g opg_alloc rfl ?_
 rintro _ _ _ ⟨b8, rfl, rfl, rfl⟩
 refine yG rfl rfl rfl rfl rfl rfl ?_
 rintro _ _ _ ⟨rfl, rfl⟩
 refine tN (tT (tS (tS (tR (tM rfl rfl ?_)))))
 refine tri_v (opv_gtr rfl rfl) rfl ?_
 refine tM rfl rfl ?_
 refine tri_true rfl rfl (by decide) ?_
 refine yR rfl rfl (yF rfl (yR rfl rfl ?_))
 refine yL rfl rfl ?_
 refine yR rfl rfl (yF rfl (yR rfl rfl ?_))
 refine yL rfl rfl ?_
 refine yR rfl rfl ?_
 refine tri_v (opv_sub rfl rfl (w64 (by omega) (by omega))) rfl ?_
 refine yR rfl rfl ?_
 refine tri_v (opv_neq rfl rfl) rfl ?_
 refine tri_v (opv_pick_t rfl rfl) rfl ?_
 refine tN (tT ?_)
 refine tri_cond_dec rfl (fun h1c => ?_) (fun h1c => ?_)
 ·refine tS (tR ?_)
  refine yB rfl rfl ?_
  refine yG rfl rfl rfl rfl rfl rfl ?_
  rintro _ _ _ ⟨rfl, rfl⟩
  refine tA rfl rfl (tN (tT (tri_ret (tri_then_ret (tri_inBlock_ret (tri_then_ret (tri_then_ret ?_)))))))
  refine tri_inBlock_ret (tri_then_ret ?_)
  refine tri_end _ (⟨[_, _, _], rfl⟩) rfl (.cons (rv_cellA rfl rfl rfl) (.cons (rv_tmp rfl) .nil)) ⟨bad ⟨_, _, _, _, _, _⟩ ?_, rfl, rfl⟩
  unfold R6.fit4 R6.nd R6.inS; omega
 refine tri_skip (tT (tS (tR (yF rfl ?_))))
 refine yL rfl rfl ?_
 refine yU rfl rfl ?_
 refine yF rfl ?_
 refine yG rfl rfl rfl rfl rfl rfl ?_
 rintro _ _ _ ⟨rfl, rfl⟩
 refine tN (tT (tR (yF rfl ?_)))
 refine yL rfl rfl ?_
 refine yF rfl ?_
 refine yL rfl rfl ?_
 refine yU rfl rfl ?_
 refine tri_v (opv_min2 rfl rfl) rfl ?_
 refine yF rfl ?_
 refine yG rfl rfl rfl rfl rfl rfl ?_
 rintro _ _ _ ⟨rfl, rfl⟩
 refine tN (tri_inBlock (tT (tR ?_)))
 refine yU rfl rfl ?_
 refine tM rfl rfl (tN (tT (tri_round (tS (tR (yC rfl rfl (tN ?_)))))))
 refine tT (tS ?_)
 have e1 := R6.mn_bd (x := (if 4611686018427387903 < 0 + (ns.getD q0.toNat default).pop then 4611686018427387903 else 0 + (ns.getD q0.toNat default).pop) + (ns.getD q1.toNat default).pop) (by omega)
 refine tri_drop ?_
 skip
 refine tri_cond_is rfl (by decide) ?_
 refine tri_skip (tT (tS (tri_block (tS (tR (tM rfl rfl ?_))))))
 refine tri_v (opv_index rfl rfl (by decide) (by decide) rfl rfl) rfl ?_
 refine tA rfl rfl (tA rfl rfl (tN (tT (tS (tS (tR (tM rfl rfl ?_)))))))
 refine yC rfl rfl (tM rfl rfl ?_)
 refine tri_split rfl rfl (fun h2a => ?_) (fun h2a => ?_)
 ·refine tri_guard_skip rfl rfl rfl rfl (tri_guard_skip rfl rfl rfl rfl (tri_guard_skip rfl rfl rfl rfl (tri_guard_skip rfl rfl rfl rfl (tri_guard_skip rfl rfl rfl rfl (tri_guard_skip rfl rfl rfl rfl (tri_guard_skip rfl rfl rfl rfl (tri_guard_skip rfl rfl rfl rfl ?_)))))))
  refine tri_v (opv_pick_t rfl rfl) rfl ?_
  refine tN (tT ?_)
  refine tri_cond_true rfl ?_
  refine tS (tR ?_)
  refine yB rfl rfl ?_
  refine yG rfl rfl rfl rfl rfl rfl ?_
  rintro _ _ _ ⟨rfl, rfl⟩
  refine tA rfl rfl (tN (tT (tri_ret (tri_then_ret (tri_inBlock_ret (tri_then_ret (tri_then_ret ?_)))))))
  refine tri_inBlock_ret (tri_then_ret ?_)
  refine tri_end _ (⟨[_, _], rfl⟩) rfl (.cons (rv_cellA rfl rfl rfl) (.cons (rv_tmp rfl) .nil)) ⟨bad ⟨_, _, _, _, _, _⟩ ?_, rfl, rfl⟩
  unfold R6.fit4 R6.inS; omega
 refine yR rfl rfl (tM rfl rfl (yR rfl rfl (tM rfl rfl (yR rfl rfl ?_))))
 refine tri_v (opv_nilCheck rfl) rfl ?_
 refine yR rfl rfl (yF rfl (yR rfl rfl (yF rfl (yR rfl rfl ?_))))
 refine yL rfl rfl ?_
 refine yR rfl rfl ?_
 refine tri_v (opv_len rfl) rfl ?_
 refine yR rfl rfl ?_
 refine tri_v (opv_geq rfl rfl) rfl ?_
 refine tri_v (opv_pick_f rfl rfl) rfl ?_
 refine tN (tT ?_)
 refine tri_cond_dec rfl (fun h2b => ?_) (fun h2b => ?_)
 ·refine tS (tR ?_)
  refine yB rfl rfl ?_
  refine yG rfl rfl rfl rfl rfl rfl ?_
  rintro _ _ _ ⟨rfl, rfl⟩
  refine tA rfl rfl (tN (tT (tri_ret (tri_then_ret (tri_inBlock_ret (tri_then_ret (tri_then_ret ?_)))))))
  refine tri_inBlock_ret (tri_then_ret ?_)
  refine tri_end _ (⟨[_, _], rfl⟩) rfl (.cons (rv_cellA rfl rfl rfl) (.cons (rv_tmp rfl) .nil)) ⟨bad ⟨_, _, _, _, _, _⟩ ?_, rfl, rfl⟩
  unfold R6.fit4 R6.inS; omega
 have b2 := hm.at h2a h2b
 refine tri_skip (tT (tS (tR (tM rfl rfl ?_))))
 refine tri_v (opv_nilCheck rfl) rfl ?_
 refine yF rfl (yF rfl ?_)
 refine yL rfl rfl ?_
 refine tM rfl rfl ?_
 refine tri_v (opv_indexAddrR rfl rfl (by omega) (by omega)) rfl ?_
 refine tri_v (opv_loadRXA rfl rfl (by omega) rfl rfl rfl) rfl ?_
 refine tri_g opg_alloc rfl ?_
 rintro _ _ _ ⟨b8, rfl, rfl, rfl⟩
 refine yG rfl rfl rfl rfl rfl rfl ?_
 rintro _ _ _ ⟨rfl, rfl⟩
 refine tN (tT (tS (tS (tR (tM rfl rfl ?_)))))
 refine tri_v (opv_gtr rfl rfl) rfl ?_
 refine tM rfl rfl ?_
 refine tri_true rfl rfl (by decide) ?_
 refine yR rfl rfl (yF rfl (yR rfl rfl ?_))
 refine yL rfl rfl ?_
 refine yR rfl rfl (yF rfl (yR rfl rfl ?_))
 refine yL rfl rfl ?_
 refine yR rfl rfl ?_
 refine tri_v (opv_sub rfl rfl (w64 (by omega) (by omega))) rfl ?_
 refine yR rfl rfl ?_
 refine tri_v (opv_neq rfl rfl) rfl ?_
 refine tri_v (opv_pick_t rfl rfl) rfl ?_
 refine tN (tT ?_)
 refine tri_cond_dec rfl (fun h2c => ?_) (fun h2c => ?_)
 ·refine tS (tR ?_)
  refine yB rfl rfl ?_
  refine yG rfl rfl rfl rfl rfl rfl ?_
  rintro _ _ _ ⟨rfl, rfl⟩
  refine tA rfl rfl (tN (tT (tri_ret (tri_then_ret (tri_inBlock_ret (tri_then_ret (tri_then_ret ?_)))))))
  refine tri_inBlock_ret (tri_then_ret ?_)
  refine tri_end _ (⟨[_, _, _], rfl⟩) rfl (.cons (rv_cellA rfl rfl rfl) (.cons (rv_tmp rfl) .nil)) ⟨bad ⟨_, _, _, _, _, _⟩ ?_, rfl, rfl⟩
  unfold R6.fit4 R6.nd R6.inS; omega
 refine tri_skip (tT (tS (tR (yF rfl ?_))))
 refine yL rfl rfl ?_
 refine yU rfl rfl ?_
 refine yF rfl ?_
 refine yG rfl rfl rfl rfl rfl rfl ?_
 rintro _ _ _ ⟨rfl, rfl⟩
 refine tN (tT (tR (yF rfl ?_)))
 refine yL rfl rfl ?_
 refine yF rfl ?_
 refine yL rfl rfl ?_
 refine yU rfl rfl ?_
 refine tri_v (opv_min2 rfl rfl) rfl ?_
 refine yF rfl ?_
 refine yG rfl rfl rfl rfl rfl rfl ?_
 rintro _ _ _ ⟨rfl, rfl⟩
 refine tN (tri_inBlock (tT (tR ?_)))
 refine yU rfl rfl ?_
 refine tM rfl rfl (tN (tT (tri_round (tS (tR (yC rfl rfl (tN ?_)))))))
 refine tT (tS ?_)
 have e2 := R6.mn_bd (x := (if 4611686018427387903 < (if 4611686018427387903 < 0 + (ns.getD q0.toNat default).pop then 4611686018427387903 else 0 + (ns.getD q0.toNat default).pop) + (ns.getD q1.toNat default).pop then 4611686018427387903 else (if 4611686018427387903 < 0 + (ns.getD q0.toNat default).pop then 4611686018427387903 else 0 + (ns.getD q0.toNat default).pop) + (ns.getD q1.toNat default).pop) + (ns.getD q2.toNat default).pop) (by omega)
 refine tri_drop ?_
 skip
 refine tri_cond_is rfl (by decide) ?_
 refine tri_skip (tT (tS (tri_block (tS (tR (tM rfl rfl ?_))))))
 refine tri_v (opv_index rfl rfl (by decide) (by decide) rfl rfl) rfl ?_
 refine tA rfl rfl (tA rfl rfl (tN (tT (tS (tS (tR (tM rfl rfl ?_)))))))
 refine yC rfl rfl (tM rfl rfl ?_)
 refine tri_split rfl rfl (fun h3a => ?_) (fun h3a => ?_)
 ·refine tri_guard_skip rfl rfl rfl rfl (tri_guard_skip rfl rfl rfl rfl (tri_guard_skip rfl rfl rfl rfl (tri_guard_skip rfl rfl rfl rfl (tri_guard_skip rfl rfl rfl rfl (tri_guard_skip rfl rfl rfl rfl (tri_guard_skip rfl rfl rfl rfl (tri_guard_skip rfl rfl rfl rfl ?_)))))))
  refine tri_v (opv_pick_t rfl rfl) rfl ?_
  refine tN (tT ?_)
  refine tri_cond_true rfl ?_
  refine tS (tR ?_)
  refine yB rfl rfl ?_
  refine yG rfl rfl rfl rfl rfl rfl ?_
  rintro _ _ _ ⟨rfl, rfl⟩
  refine tA rfl rfl (tN (tT (tri_ret (tri_then_ret (tri_inBlock_ret (tri_then_ret (tri_then_ret ?_)))))))
  refine tri_inBlock_ret (tri_then_ret ?_)
  refine tri_end _ (⟨[_, _], rfl⟩) rfl (.cons (rv_cellA rfl rfl rfl) (.cons (rv_tmp rfl) .nil)) ⟨bad ⟨_, _, _, _, _, _⟩ ?_, rfl, rfl⟩
  unfold R6.fit4 R6.inS; omega
 refine yR rfl rfl (tM rfl rfl (yR rfl rfl (tM rfl rfl (yR rfl rfl ?_))))
 refine tri_v (opv_nilCheck rfl) rfl ?_
 refine yR rfl rfl (yF rfl (yR rfl rfl (yF rfl (yR rfl rfl ?_))))
 refine yL rfl rfl ?_
 refine yR rfl rfl ?_
 refine tri_v (opv_len rfl) rfl ?_
 refine yR rfl rfl ?_
 refine tri_v (opv_geq rfl rfl) rfl ?_
 refine tri_v (opv_pick_f rfl rfl) rfl ?_
 refine tN (tT ?_)
 refine tri_cond_dec rfl (fun h3b => ?_) (fun h3b => ?_)
 ·refine tS (tR ?_)
  refine yB rfl rfl ?_
  refine yG rfl rfl rfl rfl rfl rfl ?_
  rintro _ _ _ ⟨rfl, rfl⟩
  refine tA rfl rfl (tN (tT (tri_ret (tri_then_ret (tri_inBlock_ret (tri_then_ret (tri_then_ret ?_)))))))
  refine tri_inBlock_ret (tri_then_ret ?_)
  refine tri_end _ (⟨[_, _], rfl⟩) rfl (.cons (rv_cellA rfl rfl rfl) (.cons (rv_tmp rfl) .nil)) ⟨bad ⟨_, _, _, _, _, _⟩ ?_, rfl, rfl⟩
  unfold R6.fit4 R6.inS; omega
 have b3 := hm.at h3a h3b
 refine tri_skip (tT (tS (tR (tM rfl rfl ?_))))
 refine tri_v (opv_nilCheck rfl) rfl ?_
 refine yF rfl (yF rfl ?_)
 refine yL rfl rfl ?_
 refine tM rfl rfl ?_
 refine tri_v (opv_indexAddrR rfl rfl (by omega) (by omega)) rfl ?_
 refine tri_v (opv_loadRXA rfl rfl (by omega) rfl rfl rfl) rfl ?_
 refine tri_g opg_alloc rfl ?_
 rintro _ _ _ ⟨b8, rfl, rfl, rfl⟩
 refine yG rfl rfl rfl rfl rfl rfl ?_
 rintro _ _ _ ⟨rfl, rfl⟩
 refine tN (tT (tS (tS (tR (tM rfl rfl ?_)))))
 refine tri_v (opv_gtr rfl rfl) rfl ?_
 refine tM rfl rfl ?_
 refine tri_true rfl rfl (by decide) ?_
 refine yR rfl rfl (yF rfl (yR rfl rfl ?_))
 refine yL rfl rfl ?_
 refine yR rfl rfl (yF rfl (yR rfl rfl ?_))
 refine yL rfl rfl ?_
 refine yR rfl rfl ?_
 refine tri_v (opv_sub rfl rfl (w64 (by omega) (by omega))) rfl ?_
 refine yR rfl rfl ?_
 refine tri_v (opv_neq rfl rfl) rfl ?_
 refine tri_v (opv_pick_t rfl rfl) rfl ?_
 refine tN (tT ?_)
 refine tri_cond_dec rfl (fun h3c => ?_) (fun h3c => ?_)
 ·refine tS (tR ?_)
  refine yB rfl rfl ?_
  refine yG rfl rfl rfl rfl rfl rfl ?_
  rintro _ _ _ ⟨rfl, rfl⟩
  refine tA rfl rfl (tN (tT (tri_ret (tri_then_ret (tri_inBlock_ret (tri_then_ret (tri_then_ret ?_)))))))
  refine tri_inBlock_ret (tri_then_ret ?_)
  refine tri_end _ (⟨[_, _, _], rfl⟩) rfl (.cons (rv_cellA rfl rfl rfl) (.cons (rv_tmp rfl) .nil)) ⟨bad ⟨_, _, _, _, _, _⟩ ?_, rfl, rfl⟩
  unfold R6.fit4 R6.nd R6.inS; omega
 refine tri_skip (tT (tS (tR (yF rfl ?_))))
 refine yL rfl rfl ?_
 refine yU rfl rfl ?_
 refine yF rfl ?_
 refine yG rfl rfl rfl rfl rfl rfl ?_
 rintro _ _ _ ⟨rfl, rfl⟩
 refine tN (tT (tR (yF rfl ?_)))
 refine yL rfl rfl ?_
 refine yF rfl ?_
 refine yL rfl rfl ?_
 refine yU rfl rfl ?_
 refine tri_v (opv_min2 rfl rfl) rfl ?_
 refine yF rfl ?_
 refine yG rfl rfl rfl rfl rfl rfl ?_
 rintro _ _ _ ⟨rfl, rfl⟩
 refine tN (tri_inBlock (tT (tR ?_)))
 refine yU rfl rfl ?_
 refine tM rfl rfl (tN (tT (tri_round (tS (tR (yC rfl rfl (tN ?_)))))))
 refine tT (tS ?_)
 refine tri_drop ?_
 skip
 refine tri_cond_not rfl (by decide) ?_
 refine tri_exit ?_
 refine tri_then_exit (tri_then_exit ?_)
 refine tri_inBlock_hit rfl ?_
 refine tT (tS (tR ?_))
 refine yB rfl rfl ?_
 refine yF rfl ?_
 refine yG rfl rfl rfl rfl rfl rfl ?_
 rintro _ _ _ ⟨rfl, rfl⟩
 refine tN (tT (tS (tR ?_)))
 refine yB rfl rfl ?_
 refine yF rfl ?_
 refine yL rfl rfl ?_
 refine tri_v (opv_leq rfl rfl) rfl ?_
 refine yG rfl rfl rfl rfl rfl rfl ?_
 rintro _ _ _ ⟨rfl, rfl⟩
 refine tA rfl rfl (tN (tT (tri_ret ?_)))
 refine tri_end _ (⟨[_, _], rfl⟩) rfl (.cons (rv_cellA rfl rfl rfl) (.cons (rv_tmp rfl) .nil)) ⟨⟨⟨_, _, _, _, _, _⟩, _, rfl, ?_, fun h => ?_⟩, rfl, rfl⟩
 ·rw [decide_eq_true_iff]
  unfold R6.fit4 R6.nd R6.inS
  omega
 ·unfold R6.mk4 R6.nd
  rw [Node.mk.injEq]
  exact ⟨by omega, rfl, rfl, rfl, rfl, rfl⟩
end Go.GL


namespace Go.GL
open Go.Proofs
attribute [local irreducible] wpList Code.wp Exit.then Exit.inBlock Ends Tri TriH OpV OpG FnC epf wpAnyH
theorem key4 (q0 q1 q2 q3 : Int) : int4V q0 q1 q2 q3 = mkv Try.prog 33 [q0, q1, q2, q3] := by kernel_rfl
theorem zeroInt (w : World) : (zeroValue 3).run Try.prog w = .ok (.int .i64 0) w := by kernel_rfl
theorem keyAt : intAt Try.prog 9 33 = some 4 := by kernel_rfl
/-- The index, as it lies in the heap. -/
abbrev IxA (bx mb : Nat) (a : Option Addr) (cap : Nat) (ns : List Node) (room : Int) (es : KVs) (A : List Asrt) : List Asrt :=
 Box bx [.slice a ns.length cap, .int .i64 room, .map (some mb)] 99 :: Row a cap ns.length 35 6 (encs ns) :: MapA Try.prog 33 mb es :: A
set_option maxHeartbeats 1000000 in
set_option maxRecDepth 100000 in
theorem node_put {A : List Asrt} {I : List Chunk} {ns : List Node} {a : Option Addr} {cap bx mb : Nat} {room q0 q1 q2 q3 : Int} {es : KVs} (hg : R6.Good ns room) (h2 : 2 ≤ ns.length) (hi : Idx ns es) :
  FnC Try.prog 87 [pt bx 0, int4V q0 q1 q2 q3].toArray (IxA bx mb a cap ns room es A) I (fun v A' I' => ∃ a' cap' es', v = .tuple [.int .i64 (R6.put ns room q0 q1 q2 q3).2.1, .int .i64 (R6.put ns room q0 q1 q2 q3).2.2].toArray ∧ A' = IxA bx mb a' cap' (R6.put ns room q0 q1 q2 q3).1 room es' A ∧ Idx (R6.put ns room q0 q1 q2 q3).1 es' ∧ I = I') := by
 have hn := hg.len
 have hmf := hi [q0, q1, q2, q3]
 skip
 refine fn_enter2 Try.func87 rfl Try.ntmps87 rfl fun w0 => ?_
 refine tS (tR ?_)
 refine tri_g (opg_box_agg rfl) rfl ?_
 rintro _ _ _ ⟨b3, rfl, rfl, rfl⟩
 refine tA rfl rfl (tA rfl rfl (tN (tT (tS ?_))))
 refine tri_perm (A := ?a1_0 :: ?a1_1 :: ?a1_2 :: ?T1) (B := ?a1_1 :: ?a1_2 :: ?a1_0 :: ?T1) (by exact permL [1, 2, 0] [?a1_0, ?a1_1, ?a1_2] ?T1 (by decide) rfl) ?_
 refine tR (tM rfl rfl ?_)
 refine yB rfl rfl ?_
 refine tri_g (opg_call (xs := [_, _]) rfl (node_parent hn hg.mod)) rfl ?_
 rintro _ _ _ ⟨⟨z, ok, rfl, hok, hz⟩, rfl, rfl⟩
 refine tM rfl rfl ?_
 refine tri_v (opv_extract rfl rfl) rfl ?_
 refine tri_v (opv_extract rfl rfl) rfl ?_
 refine tri_g opg_alloc rfl ?_
 rintro _ _ _ ⟨b6, rfl, rfl, rfl⟩
 refine yG rfl rfl rfl rfl rfl rfl ?_
 rintro _ _ _ ⟨rfl, rfl⟩
 refine tA rfl rfl (tN (tT (tS (tS (tR (tM rfl rfl ?_))))))
 refine tri_v (opv_not rfl) rfl ?_
 refine tN (tT ?_)
 refine tri_cond rfl (fun h => ?_) (fun h => ?_)
 ·have hf : ¬ R6.fit4 ns q0 q1 q2 q3 := fun hf => by
   rw [hok.2 hf] at h; cases h
  rw [show R6.put ns room q0 q1 q2 q3 = (ns, 0, 1) from if_neg hf]
  refine tS (tR (tA rfl rfl (tA rfl rfl (tN (tT (tri_ret (tri_then_ret ?_)))))))
  refine tri_perm (A := ?a2_0 :: ?a2_1 :: ?a2_2 :: ?a2_3 :: ?a2_4 :: ?T2) (B := ?a2_0 :: ?a2_3 :: ?a2_1 :: ?a2_2 :: ?a2_4 :: ?T2) (by exact permL [0, 3, 1, 2, 4] [?a2_0, ?a2_1, ?a2_2, ?a2_3, ?a2_4] ?T2 (by decide) rfl) ?_
  refine tri_end _ (⟨[_, _], rfl⟩) rfl (.cons (rv_tmp rfl) (.cons (rv_tmp rfl) .nil)) ⟨a, cap, es, rfl, rfl, hi, rfl⟩
 have hok1 : ok = true := by cases ok <;> simp_all
 have hf := hok.1 hok1
 have hz' := hz hok1
 subst hz'
 have hput : R6.put ns room q0 q1 q2 q3 = if 0 ≤ R6.at_ ns [q0, q1, q2, q3] then (ns, R6.at_ ns [q0, q1, q2, q3], 0) else if room ≤ ns.length then (ns, 0, 40) else (ns ++ [R6.mk4 ns q0 q1 q2 q3], ns.length, 0) := if_pos hf
 refine tri_skip (tT (tS (tS ?_)))
 refine tri_draw [0, 1, 2, 3, 4, 5, 6, 7, 8, 9, 10] rfl [] rfl mixed ?_
 refine yM rfl rfl (yn rfl rfl (yf rfl rfl ?_))
 refine yl rfl rfl rfl ?_
 refine th_take rfl rfl (by kernel_rfl)  (opv_loadA rfl rfl rfl) ?_
 refine th_take rfl rfl (by kernel_rfl)  (opv_lookup2 (P := Try.prog) (ks := [q0, q1, q2, q3]) zeroInt rfl rfl (key4 q0 q1 q2 q3) keyAt rfl) ?_
 refine yM rfl rfl (yE rfl rfl rfl (yE rfl rfl rfl (yA rfl rfl (yA rfl rfl (yD (tT (tS ?_)))))))
 refine tR (tM rfl rfl (tN (tT ?_)))
 by_cases hat : 0 ≤ R6.at_ ns [q0, q1, q2, q3]
 ·rw [if_pos hat] at hmf hput
  rw [hput]
  refine tri_cond_true (congrArg (fun o => some (Value.bool (Option.isSome o))) hmf) ?_
  refine tS (tR (tM rfl rfl (tA rfl rfl (tA rfl rfl (tN (tT (tri_ret ?_)))))))
  refine tri_then_ret ?_
  refine tri_perm (A := ?a3_0 :: ?a3_1 :: ?a3_2 :: ?a3_3 :: ?a3_4 :: ?T3) (B := ?a3_0 :: ?a3_3 :: ?a3_1 :: ?a3_2 :: ?a3_4 :: ?T3) (by exact permL [0, 3, 1, 2, 4] [?a3_0, ?a3_1, ?a3_2, ?a3_3, ?a3_4] ?T3 (by decide) rfl) ?_
  refine tri_end _ (⟨[_, _], rfl⟩) rfl (.cons (rv_tmp rfl) (.cons (rv_tmp rfl) .nil)) ⟨a, cap, es, ?_, rfl, hi, rfl⟩
  rw [hmf]; rfl
 rw [if_neg hat] at hmf hput
 skip
 refine tri_cond_false (congrArg (fun o => some (Value.bool (Option.isSome o))) hmf) ?_
 refine tri_skip (tT (tS (tS ?_)))
 refine tri_draw [0, 1, 2, 3, 4, 5, 6, 7, 8, 9, 10, 11] rfl [] rfl mixed ?_
 refine yM rfl rfl (yn rfl rfl (yf rfl rfl (yf rfl rfl ?_)))
 refine yl rfl rfl rfl ?_
 refine th_take rfl rfl (by kernel_rfl)  (opv_len rfl) ?_
 refine yM rfl rfl (yn rfl rfl (yf rfl rfl (yf rfl rfl ?_)))
 refine yl rfl rfl rfl ?_
 refine th_take rfl rfl (by kernel_rfl)  (opv_geq rfl rfl) ?_
 refine yD (tT ?_)
 refine tri_cond_dec rfl (fun h7 => ?_) (fun h7 => ?_)
 ·rw [if_pos h7] at hput
  rw [hput]
  refine tS (tR (tA rfl rfl (tA rfl rfl (tN (tT (tri_ret (tri_then_ret ?_)))))))
  refine tri_perm (A := ?a4_0 :: ?a4_1 :: ?a4_2 :: ?a4_3 :: ?a4_4 :: ?T4) (B := ?a4_0 :: ?a4_3 :: ?a4_1 :: ?a4_2 :: ?a4_4 :: ?T4) (by exact permL [0, 3, 1, 2, 4] [?a4_0, ?a4_1, ?a4_2, ?a4_3, ?a4_4] ?T4 (by decide) rfl) ?_
  refine tri_end _ (⟨[_, _], rfl⟩) rfl (.cons (rv_tmp rfl) (.cons (rv_tmp rfl) .nil)) ⟨a, cap, es, rfl, rfl, hi, rfl⟩
 rw [if_neg h7] at hput
 rw [hput]
 skip
 refine tri_skip (tT (tS (tR (tM rfl rfl ?_))))
 refine tri_v (opv_nilCheck rfl) rfl ?_
 refine yF rfl (yF rfl ?_)
 refine yL rfl rfl ?_
 refine tri_v (opv_len rfl) rfl ?_
 refine tA rfl rfl (tN (tT (tS ?_)))
 refine tri_perm (A := ?a5_0 :: ?a5_1 :: ?a5_2 :: ?a5_3 :: ?a5_4 :: ?T5) (B := ?a5_4 :: ?a5_0 :: ?a5_1 :: ?a5_2 :: ?a5_3 :: ?T5) (by exact permL [4, 0, 1, 2, 3] [?a5_0, ?a5_1, ?a5_2, ?a5_3, ?a5_4] ?T5 (by decide) rfl) ?_
 skip
 skip
 refine tri_draw [0, 1, 2, 3, 4, 5, 6] rfl [_] rfl mixed ?_
 refine yM rfl rfl (yn rfl rfl (yf rfl rfl ?_))
 refine yl rfl rfl rfl ?_
 refine th_take rfl rfl (by kernel_rfl)  (opv_loadA rfl rfl rfl) ?_
 refine yM rfl rfl ?_
 refine th_one (by kernel_rfl) (step_m rfl rfl (opg_mapUpdate (P := Try.prog) (ks := [q0, q1, q2, q3]) rfl rfl rfl (key4 q0 q1 q2 q3) keyAt rfl) ?_)
 rintro _ _ _ ⟨rfl, rfl⟩
 refine ⟨Suf.h, (fun _ h => h), ?_⟩
 refine yD (tT (tS ?_))
 refine tri_perm (A := ?a6_0 :: ?a6_1 :: ?a6_2 :: ?a6_3 :: ?a6_4 :: ?T6) (B := ?a6_2 :: ?a6_3 :: ?a6_0 :: ?a6_1 :: ?a6_4 :: ?T6) (by exact permL [2, 3, 0, 1, 4] [?a6_0, ?a6_1, ?a6_2, ?a6_3, ?a6_4] ?T6 (by decide) rfl) ?_
 skip
 refine tri_draw [0, 1, 2, 3, 4, 6, 5, 7, 8, 9, 10, 11, 12] rfl [_, _] rfl mixed ?_
 refine yM rfl rfl (yM rfl rfl (yn rfl rfl (yf rfl rfl (yf rfl rfl ?_))))
 refine th_take rfl rfl (by kernel_rfl)  (opv_loadA rfl rfl rfl) ?_
 refine th_two (j := 7) [5, 8, 9, 10, 11, 12] (by kernel_rfl) rfl ?_ ?_
 ·refine (step_m rfl rfl (OpV.toG (opv_load1 rfl rfl rfl)) ?_)
  rintro _ _ _ ⟨rfl, rfl, rfl⟩
  refine ⟨Suf.h, (fun _ h => h), ?_⟩
  refine th_one (by kernel_rfl) (step_m rfl rfl (opg_buildSlice rfl rfl rfl rfl) ?_)
  rintro _ _ _ ⟨b61, rfl, rfl, rfl⟩
  refine ⟨Suf.h, (fun _ h => h), ?_⟩
  refine th_one (by kernel_rfl) (step_m rfl rfl (opg_appendB rfl rfl rfl rfl (by omega) rfl) ?_)
  rintro _ _ _ ⟨a3, cap3, rfl, rfl, rfl⟩
  refine ⟨Suf.h, (fun _ h => h), ?_⟩
  refine yn rfl rfl (yf rfl rfl (yf rfl rfl ?_))
  refine th_one (by kernel_rfl) (step_m rfl rfl (opg_store rfl rfl rfl rfl rfl rfl) ?_)
  rintro _ _ _ ⟨rfl, rfl⟩
  refine ⟨Suf.h, (fun _ h => h), ?_⟩
  refine yD (tT (tS (tR (tM rfl rfl (tA rfl rfl (tA rfl rfl (tN ?_)))))))
  refine tT (tri_ret ?_)
  refine tri_perm (A := ?a7_0 :: ?a7_1 :: ?a7_2 :: ?a7_3 :: ?a7_4 :: ?a7_5 :: ?T7) (B := ?a7_2 :: ?a7_0 :: ?a7_1 :: ?a7_3 :: ?a7_4 :: ?a7_5 :: ?T7) (by exact permL [2, 0, 1, 3, 4, 5] [?a7_0, ?a7_1, ?a7_2, ?a7_3, ?a7_4, ?a7_5] ?T7 (by decide) rfl) ?_
  have hix := hi.snoc h2 (R6.mk4 ns q0 q1 q2 q3) hat
  have hl : (ns ++ [R6.mk4 ns q0 q1 q2 q3]).length = ns.length + 1 := by simp
  refine tri_rowEq (len' := (ns ++ [R6.mk4 ns q0 q1 q2 q3]).length) (cells' := encs (ns ++ [R6.mk4 ns q0 q1 q2 q3])) hl.symm (by rw [encs_append]; rfl) ?_
  rw [← hl]
  refine tri_perm (A := ?a8_0 :: ?a8_1 :: ?a8_2 :: ?a8_3 :: ?a8_4 :: ?a8_5 :: ?T8) (B := ?a8_1 :: ?a8_4 :: ?a8_5 :: ?a8_2 :: ?a8_0 :: ?a8_3 :: ?T8) (by exact permL [1, 4, 5, 2, 0, 3] [?a8_0, ?a8_1, ?a8_2, ?a8_3, ?a8_4, ?a8_5] ?T8 (by decide) rfl) ?_
  refine tri_end (IxA bx mb a3 cap3 (ns ++ [R6.mk4 ns q0 q1 q2 q3]) room (mset es [q0, q1, q2, q3] (.int .i64 ns.length)) A) Suf.h rfl (.cons (rv_tmp rfl) (.cons (rv_tmp rfl) .nil)) ⟨a3, cap3, _, rfl, rfl, hix, rfl⟩
 ·refine (step_m rfl rfl (opg_buildSlice rfl rfl rfl rfl) ?_)
  rintro _ _ _ ⟨b61, rfl, rfl, rfl⟩
  refine ⟨Suf.h, (fun _ h => h), ?_⟩
  refine th_one (by kernel_rfl) (step_m rfl rfl (OpV.toG (opv_load1 rfl rfl rfl)) ?_)
  rintro _ _ _ ⟨rfl, rfl, rfl⟩
  refine ⟨Suf.h, (fun _ h => h), ?_⟩
  refine th_one (by kernel_rfl) (step_m rfl rfl (opg_appendB rfl rfl rfl rfl (by omega) rfl) ?_)
  rintro _ _ _ ⟨a3, cap3, rfl, rfl, rfl⟩
  refine ⟨Suf.h, (fun _ h => h), ?_⟩
  refine yn rfl rfl (yf rfl rfl (yf rfl rfl ?_))
  refine th_one (by kernel_rfl) (step_m rfl rfl (opg_store rfl rfl rfl rfl rfl rfl) ?_)
  rintro _ _ _ ⟨rfl, rfl⟩
  refine ⟨Suf.h, (fun _ h => h), ?_⟩
  refine yD (tT (tS (tR (tM rfl rfl (tA rfl rfl (tA rfl rfl (tN ?_)))))))
  refine tT (tri_ret ?_)
  refine tri_perm (A := ?a9_0 :: ?a9_1 :: ?a9_2 :: ?a9_3 :: ?a9_4 :: ?a9_5 :: ?T9) (B := ?a9_2 :: ?a9_0 :: ?a9_1 :: ?a9_3 :: ?a9_4 :: ?a9_5 :: ?T9) (by exact permL [2, 0, 1, 3, 4, 5] [?a9_0, ?a9_1, ?a9_2, ?a9_3, ?a9_4, ?a9_5] ?T9 (by decide) rfl) ?_
  have hix := hi.snoc h2 (R6.mk4 ns q0 q1 q2 q3) hat
  have hl : (ns ++ [R6.mk4 ns q0 q1 q2 q3]).length = ns.length + 1 := by simp
  refine tri_rowEq (len' := (ns ++ [R6.mk4 ns q0 q1 q2 q3]).length) (cells' := encs (ns ++ [R6.mk4 ns q0 q1 q2 q3])) hl.symm (by rw [encs_append]; rfl) ?_
  rw [← hl]
  refine tri_perm (A := ?a10_0 :: ?a10_1 :: ?a10_2 :: ?a10_3 :: ?a10_4 :: ?a10_5 :: ?T10) (B := ?a10_1 :: ?a10_4 :: ?a10_5 :: ?a10_2 :: ?a10_0 :: ?a10_3 :: ?T10) (by exact permL [1, 4, 5, 2, 0, 3] [?a10_0, ?a10_1, ?a10_2, ?a10_3, ?a10_4, ?a10_5] ?T10 (by decide) rfl) ?_
  refine tri_end (IxA bx mb a3 cap3 (ns ++ [R6.mk4 ns q0 q1 q2 q3]) room (mset es [q0, q1, q2, q3] (.int .i64 ns.length)) A) Suf.h rfl (.cons (rv_tmp rfl) (.cons (rv_tmp rfl) .nil)) ⟨a3, cap3, _, rfl, rfl, hix, rfl⟩
end Go.GL


namespace Go.GL
open Go.Proofs
attribute [local irreducible] wpList Code.wp Exit.then Exit.inBlock Ends Tri TriH OpV OpG FnC epf wpAnyH
/-- What node.Of tells. -/
def OfR (ns : List Node) (room : Int) (A : List Asrt) (I : List Chunk) : Value → List Asrt → List Chunk → Prop := fun v A' I' =>
 (R6.right ns room ∧ ∃ bx mb a' cap' es, v = .tuple [pt bx 0, .bool true].toArray ∧ A' = IxA bx mb a' cap' ns room es A ∧ Idx ns es ∧ I = I') ∨ (¬ R6.right ns room ∧ v = .tuple [.pointer none, .bool false].toArray ∧ A = A' ∧ I = I')
set_option maxHeartbeats 1000000 in
set_option maxRecDepth 100000 in
theorem node_of {A : List Asrt} {I : List Chunk} {ns : List Node} {a : Option Addr} {cap : Nat} {room : Int} (hs : StA I a cap ns) (hn : ns.length ≤ 1000000000) :
  FnC Try.prog 95 [storeV a ns.length cap room].toArray A I (OfR ns room A I) := by
 have hsl := hs.sl
 skip
 refine fn_enter1 Try.func95 rfl Try.ntmps95 rfl fun w0 => ?_
 refine tS (tR ?_)
 refine tri_g (opg_box_agg rfl) rfl ?_
 rintro _ _ _ ⟨b1, rfl, rfl, rfl⟩
 refine tA rfl rfl (tA rfl rfl (tN (tT (tS (tR (yF rfl ?_))))))
 refine yL rfl rfl ?_
 refine tri_v (opv_len rfl) rfl ?_
 refine tA rfl rfl (tN (tT (tS (tS (tR (yF rfl ?_))))))
 refine yL rfl rfl ?_
 refine yC rfl rfl (tM rfl rfl ?_)
 refine tri_split rfl rfl (fun h1 => ?_) (fun h1 => ?_)
 ·refine tri_guard_skip rfl rfl rfl rfl (tri_guard_skip rfl rfl rfl rfl (tri_guard_skip rfl rfl rfl rfl ?_))
  refine tri_v (opv_pick_t rfl rfl) rfl ?_
  refine tM rfl rfl (tri_guard_skip rfl rfl rfl rfl (tri_guard_skip rfl rfl rfl rfl ?_))
  refine tri_v (opv_pick_t rfl rfl) rfl ?_
  refine tM rfl rfl (tri_guard_skip rfl rfl rfl rfl (tri_guard_skip rfl rfl rfl rfl (tri_guard_skip rfl rfl rfl rfl (tri_guard_skip rfl rfl rfl rfl ?_))))
  refine tri_v (opv_pick_t rfl rfl) rfl ?_
  refine tM rfl rfl (tri_guard_skip rfl rfl rfl rfl (tri_guard_skip rfl rfl rfl rfl (tri_guard_skip rfl rfl rfl rfl (tri_guard_skip rfl rfl rfl rfl (tri_guard_skip rfl rfl rfl rfl (tri_guard_skip rfl rfl rfl rfl ?_))))))
  refine tri_v (opv_pick_t rfl rfl) rfl ?_
  refine tM rfl rfl (tri_guard_skip rfl rfl rfl rfl (tri_guard_skip rfl rfl rfl rfl (tri_guard_skip rfl rfl rfl rfl (tri_guard_skip rfl rfl rfl rfl (tri_guard_skip rfl rfl rfl rfl (tri_guard_skip rfl rfl rfl rfl ?_))))))
  refine tri_v (opv_pick_t rfl rfl) rfl ?_
  refine tN (tT ?_)
  refine tri_cond_true rfl ?_
  refine tS (tR (tA rfl rfl (tA rfl rfl (tN (tT (tri_ret (tri_then_ret ?_)))))))
  refine tri_end A Suf.h rfl (.cons (rv_tmp rfl) (.cons (rv_tmp rfl) .nil)) (.inr ⟨fun hf => ?_, rfl, rfl, rfl⟩)
  have := hf.1.1; omega
 refine yR rfl rfl (yF rfl (yR rfl rfl ?_))
 refine yL rfl rfl ?_
 refine yR rfl rfl ?_
 refine tri_v (opv_gtr rfl rfl) rfl ?_
 refine tri_v (opv_pick_f rfl rfl) rfl ?_
 refine tM rfl rfl ?_
 refine tri_split rfl rfl (fun h2 => ?_) (fun h2 => ?_)
 ·refine tri_guard_skip rfl rfl rfl rfl (tri_guard_skip rfl rfl rfl rfl ?_)
  refine tri_v (opv_pick_t rfl rfl) rfl ?_
  refine tM rfl rfl (tri_guard_skip rfl rfl rfl rfl (tri_guard_skip rfl rfl rfl rfl (tri_guard_skip rfl rfl rfl rfl (tri_guard_skip rfl rfl rfl rfl ?_))))
  refine tri_v (opv_pick_t rfl rfl) rfl ?_
  refine tM rfl rfl (tri_guard_skip rfl rfl rfl rfl (tri_guard_skip rfl rfl rfl rfl (tri_guard_skip rfl rfl rfl rfl (tri_guard_skip rfl rfl rfl rfl (tri_guard_skip rfl rfl rfl rfl (tri_guard_skip rfl rfl rfl rfl ?_))))))
  refine tri_v (opv_pick_t rfl rfl) rfl ?_
  refine tM rfl rfl (tri_guard_skip rfl rfl rfl rfl (tri_guard_skip rfl rfl rfl rfl (tri_guard_skip rfl rfl rfl rfl (tri_guard_skip rfl rfl rfl rfl (tri_guard_skip rfl rfl rfl rfl (tri_guard_skip rfl rfl rfl rfl ?_))))))
  refine tri_v (opv_pick_t rfl rfl) rfl ?_
  refine tN (tT ?_)
  refine tri_cond_true rfl ?_
  refine tS (tR (tA rfl rfl (tA rfl rfl (tN (tT (tri_ret (tri_then_ret ?_)))))))
  refine tri_end A Suf.h rfl (.cons (rv_tmp rfl) (.cons (rv_tmp rfl) .nil)) (.inr ⟨fun hf => ?_, rfl, rfl, rfl⟩)
  have := hf.1.2.1; omega
 refine yR rfl rfl (tM rfl rfl (yR rfl rfl (yC rfl rfl ?_)))
 refine tri_v (opv_pick_f rfl rfl) rfl ?_
 refine tM rfl rfl ?_
 refine tri_split rfl rfl (fun h3 => ?_) (fun h3 => ?_)
 ·refine tri_guard_skip rfl rfl rfl rfl (tri_guard_skip rfl rfl rfl rfl (tri_guard_skip rfl rfl rfl rfl (tri_guard_skip rfl rfl rfl rfl ?_)))
  refine tri_v (opv_pick_t rfl rfl) rfl ?_
  refine tM rfl rfl (tri_guard_skip rfl rfl rfl rfl (tri_guard_skip rfl rfl rfl rfl (tri_guard_skip rfl rfl rfl rfl (tri_guard_skip rfl rfl rfl rfl (tri_guard_skip rfl rfl rfl rfl (tri_guard_skip rfl rfl rfl rfl ?_))))))
  refine tri_v (opv_pick_t rfl rfl) rfl ?_
  refine tM rfl rfl (tri_guard_skip rfl rfl rfl rfl (tri_guard_skip rfl rfl rfl rfl (tri_guard_skip rfl rfl rfl rfl (tri_guard_skip rfl rfl rfl rfl (tri_guard_skip rfl rfl rfl rfl (tri_guard_skip rfl rfl rfl rfl ?_))))))
  refine tri_v (opv_pick_t rfl rfl) rfl ?_
  refine tN (tT ?_)
  refine tri_cond_true rfl ?_
  refine tS (tR (tA rfl rfl (tA rfl rfl (tN (tT (tri_ret (tri_then_ret ?_)))))))
  refine tri_end A Suf.h rfl (.cons (rv_tmp rfl) (.cons (rv_tmp rfl) .nil)) (.inr ⟨fun hf => ?_, rfl, rfl, rfl⟩)
  have := hf.1.2.2.1; omega
 refine yR rfl rfl (tM rfl rfl (yR rfl rfl (yF rfl (yR rfl rfl ?_))))
 refine yL rfl rfl ?_
 refine yR rfl rfl ?_
 refine tri_v (opv_gtr rfl rfl) rfl ?_
 refine tri_v (opv_pick_f rfl rfl) rfl ?_
 refine tM rfl rfl ?_
 refine tri_split rfl rfl (fun h4 => ?_) (fun h4 => ?_)
 ·refine tri_guard_skip rfl rfl rfl rfl (tri_guard_skip rfl rfl rfl rfl (tri_guard_skip rfl rfl rfl rfl (tri_guard_skip rfl rfl rfl rfl (tri_guard_skip rfl rfl rfl rfl (tri_guard_skip rfl rfl rfl rfl ?_)))))
  refine tri_v (opv_pick_t rfl rfl) rfl ?_
  refine tM rfl rfl (tri_guard_skip rfl rfl rfl rfl (tri_guard_skip rfl rfl rfl rfl (tri_guard_skip rfl rfl rfl rfl (tri_guard_skip rfl rfl rfl rfl (tri_guard_skip rfl rfl rfl rfl (tri_guard_skip rfl rfl rfl rfl ?_))))))
  refine tri_v (opv_pick_t rfl rfl) rfl ?_
  refine tN (tT ?_)
  refine tri_cond_true rfl ?_
  refine tS (tR (tA rfl rfl (tA rfl rfl (tN (tT (tri_ret (tri_then_ret ?_)))))))
  refine tri_end A Suf.h rfl (.cons (rv_tmp rfl) (.cons (rv_tmp rfl) .nil)) (.inr ⟨fun hf => ?_, rfl, rfl, rfl⟩)
  have := hf.1.2.2.2.1; omega
 refine yR rfl rfl (yF rfl (yR rfl rfl ?_))
 refine yL rfl rfl ?_
 refine yR rfl rfl ?_
 refine tri_v (opv_indexAddrS rfl rfl (by omega) (by omega) (by assumption) rfl) rfl ?_
 refine yR rfl rfl ?_
 refine tri_v (opv_loadEA rfl (by assumption) rfl (by omega) rfl rfl) rfl ?_
 refine yR rfl rfl ?_
 refine tri_v (opv_buildS rfl rfl) rfl ?_
 refine yR rfl rfl ?_
 refine tri_v (opv_neqI rfl rfl rfl rfl rfl rfl) rfl ?_
 refine tri_v (opv_pick_f rfl rfl) rfl ?_
 refine tM rfl rfl ?_
 refine tri_split rfl rfl (fun h5 => ?_) (fun h5 => ?_)
 ·refine tri_guard_skip rfl rfl rfl rfl (tri_guard_skip rfl rfl rfl rfl (tri_guard_skip rfl rfl rfl rfl (tri_guard_skip rfl rfl rfl rfl (tri_guard_skip rfl rfl rfl rfl (tri_guard_skip rfl rfl rfl rfl ?_)))))
  refine tri_v (opv_pick_t rfl rfl) rfl ?_
  refine tN (tT ?_)
  refine tri_cond_true rfl ?_
  refine tS (tR (tA rfl rfl (tA rfl rfl (tN (tT (tri_ret (tri_then_ret ?_)))))))
  refine tri_end A Suf.h rfl (.cons (rv_tmp rfl) (.cons (rv_tmp rfl) .nil)) (.inr ⟨fun hf => ?_, rfl, rfl, rfl⟩)
  exact Node.ne_iff'.2 h5 hf.1.2.2.2.2.1
 refine yR rfl rfl (yF rfl (yR rfl rfl ?_))
 refine yL rfl rfl ?_
 refine yR rfl rfl ?_
 refine tri_v (opv_indexAddrS rfl rfl (by omega) (by omega) (by assumption) rfl) rfl ?_
 refine yR rfl rfl ?_
 refine tri_v (opv_loadEA rfl (by assumption) rfl (by omega) rfl rfl) rfl ?_
 refine yR rfl rfl ?_
 refine tri_v (opv_buildS rfl rfl) rfl ?_
 refine yR rfl rfl ?_
 refine tri_v (opv_neqI rfl rfl rfl rfl rfl rfl) rfl ?_
 refine tri_v (opv_pick_f rfl rfl) rfl ?_
 refine tN (tT ?_)
 refine tri_cond_dec rfl (fun h6 => ?_) (fun h6 => ?_)
 ·refine tS (tR (tA rfl rfl (tA rfl rfl (tN (tT (tri_ret (tri_then_ret ?_)))))))
  refine tri_end A Suf.h rfl (.cons (rv_tmp rfl) (.cons (rv_tmp rfl) .nil)) (.inr ⟨fun hf => ?_, rfl, rfl, rfl⟩)
  exact Node.ne_iff'.2 h6 hf.1.2.2.2.2.2
 skip
 have e0 : ns.getD 0 default = R6.n0 := Decidable.not_not.1 fun h => h5 (Node.ne_iff'.1 h)
 have e1 : ns.getD 1 default = R6.n1 := Decidable.not_not.1 fun h => h6 (Node.ne_iff'.1 h)
 have et : ns.take 2 = [R6.n0, R6.n1] := by
  rw [← e0, ← e1]
  apply List.ext_getElem
  ·rw [List.length_take]; simp; omega
  ·intro i h1 h2
   rw [List.length_take] at h1
   rcases (by omega : i = 0 ∨ i = 1) with rfl | rfl <;> simp <;> rw [List.getElem?_eq_getElem (by omega)] <;> simp
 have htl : (ns.take 2).length = 2 := by rw [et]; rfl
 refine tri_skip (tT (tS ?_))
 refine tri_cut (fun F' A' J => ∃ bx mb a1 c1, F' = [(1, pt b1 0), (5, pt bx 0)] ∧ A' = IxA bx mb a1 c1 (ns.take 2) room [] (Box b1 [.slice a ns.length cap, .int .i64 room] 26 :: A) ∧ I = J) ?_ ?_
 ·refine tri_draw [0, 1, 2, 4, 5, 3, 6, 7, 8, 9, 10] rfl [] rfl mixed ?_
  refine yf rfl rfl ?_
  refine yl rfl rfl rfl ?_
  refine th_take rfl rfl (by kernel_rfl)  (opv_sliceHi rfl rfl (by omega) (by omega) hs rfl) ?_
  refine yf rfl rfl ?_
  refine yl rfl rfl rfl ?_
  refine th_two (j := 7) [3, 6, 8, 9, 10] (by kernel_rfl) rfl ?_ ?_
  ·refine (step_m rfl rfl (opg_call (xs := [_]) rfl (clone_nodes (hsl.take 2) (by omega) (by omega))) ?_)
   rintro _ _ _ ⟨a1, c1, rfl, rfl, rfl⟩
   refine ⟨Suf.h, (fun _ h => h), ?_⟩
   refine th_take rfl rfl (by kernel_rfl)  (opv_buildS rfl rfl) ?_
   refine th_one (by kernel_rfl) (step_m rfl rfl opg_makeMap ?_)
   rintro _ _ _ ⟨b56, rfl, rfl, rfl⟩
   refine ⟨Suf.h, (fun _ h => h), ?_⟩
   refine th_take rfl rfl (by kernel_rfl)  (opv_buildS rfl rfl) ?_
   refine th_one (by kernel_rfl) (step_m rfl rfl (opg_box_agg rfl) ?_)
   rintro _ _ _ ⟨b58, rfl, rfl, rfl⟩
   refine ⟨Suf.h, (fun _ h => h), ?_⟩
   refine yA rfl rfl (yD ?_)
   refine tri_perm (A := ?a1_0 :: ?a1_1 :: ?a1_2 :: ?T1) (B := ?a1_0 :: ?a1_2 :: ?a1_1 :: ?T1) (by exact permL [0, 2, 1] [?a1_0, ?a1_1, ?a1_2] ?T1 (by decide) rfl) ?_
   exact tri_cutEnd _ ⟨b58, b56, a1, c1, rfl, rfl, rfl⟩ ⟨rfl, rfl, trivial⟩
  ·refine (step_m rfl rfl opg_makeMap ?_)
   rintro _ _ _ ⟨b56, rfl, rfl, rfl⟩
   refine ⟨Suf.h, (fun _ h => h), ?_⟩
   refine th_one (by kernel_rfl) (step_m rfl rfl (opg_call (xs := [_]) rfl (clone_nodes (hsl.take 2) (by omega) (by omega))) ?_)
   rintro _ _ _ ⟨a1, c1, rfl, rfl, rfl⟩
   refine ⟨Suf.h, (fun _ h => h), ?_⟩
   refine th_take rfl rfl (by kernel_rfl)  (opv_buildS rfl rfl) ?_
   refine th_take rfl rfl (by kernel_rfl)  (opv_buildS rfl rfl) ?_
   refine th_one (by kernel_rfl) (step_m rfl rfl (opg_box_agg rfl) ?_)
   rintro _ _ _ ⟨b58, rfl, rfl, rfl⟩
   refine ⟨Suf.h, (fun _ h => h), ?_⟩
   refine yA rfl rfl (yD ?_)
   exact tri_cutEnd _ ⟨b58, b56, a1, c1, rfl, rfl, rfl⟩ ⟨rfl, rfl, trivial⟩
 rintro _ _ _ ⟨bx, mb, a1, c1, rfl, rfl, rfl⟩
 skip
 refine tT (tS (tS (tR (yF rfl ?_))))
 refine yL rfl rfl ?_
 refine tri_g (opg_sliceLo rfl rfl (by omega) (by omega) hs rfl rfl) rfl ?_
 rintro _ _ _ ⟨a5, rfl, hs5, rfl, rfl⟩
 have hs5' := hs5.sl
 have hdl : (ns.drop (2:Int).toNat).length = ns.length - 2 := by rw [List.length_drop]; rfl
 refine tri_v (opv_len rfl) rfl ?_
 refine tM rfl rfl (tN (tT (tri_block ?_)))
 have hix0 : Idx (ns.take (0 + 2)) [] := by rw [et]; exact Idx.start
 have hm0 : R6.ModTo ns (0 + 2) := fun j hj => by
  rcases (by omega : j = 0 ∨ j = 1) with rfl | rfl
  ·rw [e0]; decide
  ·rw [e1]; decide
 refine tri_sub (F' := [(1, pt b1 0), (5, pt bx 0), (61, .slice a5 (ns.drop (2:Int).toNat).length (cap - (2:Int).toNat)), (62, .int .i64 ((ns.drop (2:Int).toNat).length : Nat)), (63, .int .i64 (0 : Nat))]) ⟨rfl, rfl, rfl, rfl, rfl, trivial⟩ ?_
 refine loop_ind (G := Nat × Option Addr × Nat × KVs) (fun g => ns.length - g.1) (fun g => g.1 + 2 ≤ ns.length ∧ (∀ j, j < g.1 + 2 → 2 ≤ j → R6.fits ns j) ∧ R6.ModTo ns (g.1 + 2) ∧ Idx (ns.take (g.1 + 2)) g.2.2.2) (fun g => [(1, pt b1 0), (5, pt bx 0), (61, .slice a5 (ns.drop (2:Int).toNat).length (cap - (2:Int).toNat)), (62, .int .i64 ((ns.drop (2:Int).toNat).length : Nat)), (63, .int .i64 (g.1 : Nat))])
  (fun g => IxA bx mb g.2.1 g.2.2.1 (ns.take (g.1 + 2)) room g.2.2.2 (Box b1 [.slice a ns.length cap, .int .i64 room] 26 :: A)) (fun _ => I) ?_ (0, a1, c1, []) ⟨by simp only; omega, fun j h h' => absurd h (by simp only; omega), hm0, hix0⟩
 rintro ⟨i, ai, ci, es⟩ ⟨hi, hok, hmi, hix⟩ K hK
 simp only at hi hok hmi hix hK ⊢
 have htk : (ns.take (i + 2)).length = i + 2 := by rw [List.length_take]; omega
 skip
 refine tS (tR (yC rfl rfl (tN (tT (tS ?_)))))
 refine tri_cond_dec rfl (fun h => ?_) (fun h => ?_)
 ·have hlt : i + 2 < ns.length := by omega
  have hy : (ns.drop (2:Int).toNat).getD i default = ns.getD (i + 2) default := by
   rw [List.getD_eq_getElem?_getD, List.getD_eq_getElem?_getD, List.getElem?_drop, show (2:Int).toNat + i = i + 2 by simp; omega]
  have hfi := R6.fits_iff (by omega) hlt hmi
  have htk1 : ns.take (i + 2 + 1) = ns.take (i + 2) ++ [ns.getD (i + 2) default] := by
   rw [List.take_succ_eq_append_getElem hlt]; simp [hlt]
  obtain ⟨y, hyd⟩ : ∃ y, y = (ns.drop (2:Int).toNat).getD i default := ⟨_, rfl⟩
  have hy2 : y = ns.getD (i + 2) default := hyd.trans hy
  rw [← hy2] at hfi htk1
  have hmf := hix y.kids
  refine tri_skip (tT (tS (tri_block (tS (tR (tM rfl rfl ?_))))))
  refine tri_v (opv_indexAddrSN rfl rfl (by omega) (by assumption) rfl) rfl ?_
  refine tri_v (opv_loadEA rfl (by assumption) rfl (by omega) rfl rfl) rfl ?_
  refine tri_g opg_alloc rfl ?_
  rintro _ _ _ ⟨b7, rfl, rfl, rfl⟩
  refine tA rfl rfl ?_
  refine yG rfl rfl rfl rfl rfl rfl ?_
  rintro _ _ _ ⟨rfl, rfl⟩
  refine tN (tT (tS ?_))
  refine tri_sub (F' := [(1, pt b1 0), (5, pt bx 0), (6, .int .i64 (i : Nat)), (7, pt b7 0), (61, .slice a5 (ns.drop (2:Int).toNat).length (cap - (2:Int).toNat)), (62, .int .i64 ((ns.drop (2:Int).toNat).length : Nat)), (63, .int .i64 (i : Nat))]) ⟨rfl, rfl, rfl, rfl, rfl, rfl, rfl, trivial⟩ ?_
  rw [← hyd]
  refine tri_perm (A := ?a2_0 :: ?a2_1 :: ?a2_2 :: ?T2) (B := ?a2_1 :: ?a2_2 :: ?a2_0 :: ?T2) (by exact permL [1, 2, 0] [?a2_0, ?a2_1, ?a2_2] ?T2 (by decide) rfl) ?_
  refine tR (tM rfl rfl (yF rfl ?_))
  refine yB rfl rfl ?_
  refine tri_g (opg_call (xs := [_, _]) rfl (node_parent (by omega) hmi.take)) rfl ?_
  rintro _ _ _ ⟨⟨z, ok, rfl, hok2, hz⟩, rfl, rfl⟩
  refine tM rfl rfl ?_
  refine tri_v (opv_extract rfl rfl) rfl ?_
  refine tri_v (opv_extract rfl rfl) rfl ?_
  refine tri_g opg_alloc rfl ?_
  rintro _ _ _ ⟨b8, rfl, rfl, rfl⟩
  refine yG rfl rfl rfl rfl rfl rfl ?_
  rintro _ _ _ ⟨rfl, rfl⟩
  refine tA rfl rfl (tN (tT (tS (tS ?_))))
  refine tri_draw [0, 1, 2, 3, 4, 5, 6, 7, 8, 9, 10, 11] rfl [] rfl mixed ?_
  refine yM rfl rfl (yn rfl rfl (yf rfl rfl ?_))
  refine yl rfl rfl rfl ?_
  refine yf rfl rfl ?_
  refine th_take rfl rfl (by kernel_rfl)  (opv_loadA rfl rfl rfl) ?_
  refine th_take rfl rfl (by kernel_rfl)  (opv_lookup2 (P := Try.prog) (ks := [y.k0, y.k1, y.k2, y.k3]) zeroInt rfl rfl (key4 y.k0 y.k1 y.k2 y.k3) keyAt rfl) ?_
  refine yM rfl rfl (yE rfl rfl rfl (yE rfl rfl rfl (yA rfl rfl (yA rfl rfl (yD (tT (tS ?_)))))))
  refine tR (tM rfl rfl (tM rfl rfl ?_))
  refine tri_bool 86 rfl (fun g1 => ?_) (fun g1 => ?_)
  ·refine tri_guard_skip rfl rfl rfl rfl (tri_guard_skip rfl rfl rfl rfl ?_)
   refine tri_v (opv_pick_t rfl rfl) rfl ?_
   refine tM rfl rfl (tri_guard_skip rfl rfl rfl rfl (tri_guard_skip rfl rfl rfl rfl (tri_guard_skip rfl rfl rfl rfl ?_)))
   refine tri_v (opv_pick_t rfl rfl) rfl ?_
   refine tN (tT ?_)
   refine tri_cond_true rfl ?_
   refine tS (tR (tA rfl rfl (tA rfl rfl (tN (tT (tri_ret (tri_then_ret ?_)))))))
   refine tri_inBlock_ret (tri_then_ret (tri_then_ret (tri_inBlock_ret (tri_then_ret ?_))))
   refine tri_end A Suf.h rfl (.cons (rv_tmp rfl) (.cons (rv_tmp rfl) .nil)) (.inr ⟨fun hf => ?_, rfl, rfl, rfl⟩)
   have h3 := (hfi.1 (hf.2 (i + 2) hlt (by omega))).1
   rw [if_neg h3] at hmf
   have g1' : (mfind es y.kids).isSome = true := g1
   rw [hmf] at g1'
   cases g1'
  refine yR rfl rfl (tM rfl rfl (yR rfl rfl ?_))
  refine tri_v (opv_not rfl) rfl ?_
  refine tri_v (opv_pick_f rfl rfl) rfl ?_
  refine tM rfl rfl ?_
  have hat : ¬ 0 ≤ R6.at_ (ns.take (i + 2)) y.kids := fun h3 => by
   rw [if_pos h3] at hmf
   have g1' : (mfind es y.kids).isSome = false := g1
   rw [hmf] at g1'
   cases g1'
  refine tri_bool 90 rfl (fun g2 => ?_) (fun g2 => ?_)
  ·refine tri_guard_skip rfl rfl rfl rfl (tri_guard_skip rfl rfl rfl rfl (tri_guard_skip rfl rfl rfl rfl ?_))
   refine tri_v (opv_pick_t rfl rfl) rfl ?_
   refine tN (tT ?_)
   refine tri_cond_true rfl ?_
   refine tS (tR (tA rfl rfl (tA rfl rfl (tN (tT (tri_ret (tri_then_ret ?_)))))))
   refine tri_inBlock_ret (tri_then_ret (tri_then_ret (tri_inBlock_ret (tri_then_ret ?_))))
   refine tri_end A Suf.h rfl (.cons (rv_tmp rfl) (.cons (rv_tmp rfl) .nil)) (.inr ⟨fun hf => ?_, rfl, rfl, rfl⟩)
   have h3 := (hfi.1 (hf.2 (i + 2) hlt (by omega))).2.1
   rw [hok2.2 h3] at g2
   cases g2
  refine yR rfl rfl ?_
  refine yB rfl rfl ?_
  refine yR rfl rfl ?_
  refine yB rfl rfl ?_
  refine yR rfl rfl ?_
  refine tri_v (opv_neqI rfl rfl rfl rfl rfl rfl) rfl ?_
  refine tri_v (opv_pick_f rfl rfl) rfl ?_
  refine tN (tT ?_)
  have hok1 : ok = true := by cases ok <;> simp_all
  have hf4 := hok2.1 hok1
  have hz' := hz hok1
  refine tri_cond_dec rfl (fun g3 => ?_) (fun g3 => ?_)
  ·refine tS (tR (tA rfl rfl (tA rfl rfl (tN (tT (tri_ret (tri_then_ret ?_)))))))
   refine tri_inBlock_ret (tri_then_ret (tri_then_ret (tri_inBlock_ret (tri_then_ret ?_))))
   refine tri_end A Suf.h rfl (.cons (rv_tmp rfl) (.cons (rv_tmp rfl) .nil)) (.inr ⟨fun hf => ?_, rfl, rfl, rfl⟩)
   have h3 := (hfi.1 (hf.2 (i + 2) hlt (by omega))).2.2
   exact Node.ne_iff'.2 g3 (hz'.trans h3)
  have hzy : z = y := Decidable.not_not.1 fun h => g3 (Node.ne_iff'.1 h)
  have hfit : R6.fits ns (i + 2) := hfi.2 ⟨hat, hf4, hz'.symm.trans hzy⟩
  have htk2 : ns.take (i + 1 + 2) = ns.take (i + 2) ++ [y] := htk1
  have hl3 : (ns.take (i + 1 + 2)).length = (ns.take (i + 2)).length + 1 := by rw [htk2]; simp
  have hok2' : ∀ j, j < i + 1 + 2 → 2 ≤ j → R6.fits ns j := fun j hj hj2 => by
   by_cases e : j = i + 2
   ·subst e; exact hfit
   ·exact hok j (by omega) hj2
  have hix2 : Idx (ns.take (i + 1 + 2)) (mset es [y.k0, y.k1, y.k2, y.k3] (.int .i64 ((i : Int) + 2))) := by
   have := hix.snoc (by omega) y hat
   rw [htk, ← htk2] at this
   exact this
  skip
  refine tri_skip (tT (tS ?_))
  refine tri_perm (A := ?a3_0 :: ?a3_1 :: ?a3_2 :: ?a3_3 :: ?a3_4 :: ?T3) (B := ?a3_4 :: ?a3_0 :: ?a3_1 :: ?a3_2 :: ?a3_3 :: ?T3) (by exact permL [4, 0, 1, 2, 3] [?a3_0, ?a3_1, ?a3_2, ?a3_3, ?a3_4] ?T3 (by decide) rfl) ?_
  skip
  refine tri_draw [0, 1, 2, 3, 4, 5, 6, 7, 8] rfl [_] rfl mixed ?_
  refine yM rfl rfl (yn rfl rfl (yf rfl rfl ?_))
  refine yl rfl rfl rfl ?_
  refine yf rfl rfl ?_
  refine th_take rfl rfl (by kernel_rfl)  (opv_loadA rfl rfl rfl) ?_
  refine yM rfl rfl ?_
  refine th_take rfl rfl (by kernel_rfl)  (opv_add rfl rfl (w64 (by omega) (by omega))) ?_
  refine th_one (by kernel_rfl) (step_m rfl rfl (opg_mapUpdate (P := Try.prog) (ks := [y.k0, y.k1, y.k2, y.k3]) rfl rfl rfl (key4 y.k0 y.k1 y.k2 y.k3) keyAt rfl) ?_)
  rintro _ _ _ ⟨rfl, rfl⟩
  refine ⟨Suf.h, (fun _ h => h), ?_⟩
  refine yD (tT ?_)
  refine tri_perm (A := ?a4_0 :: ?a4_1 :: ?a4_2 :: ?a4_3 :: ?a4_4 :: ?T4) (B := ?a4_2 :: ?a4_3 :: ?a4_0 :: ?a4_1 :: ?a4_4 :: ?T4) (by exact permL [2, 3, 0, 1, 4] [?a4_0, ?a4_1, ?a4_2, ?a4_3, ?a4_4] ?T4 (by decide) rfl) ?_
  skip
  refine tri_draw [0, 1, 2, 3, 4, 6, 5, 7, 8, 9, 10, 11, 12] rfl [_, _] rfl mixed ?_
  refine yM rfl rfl (yM rfl rfl (yn rfl rfl (yf rfl rfl (yf rfl rfl ?_))))
  refine th_take rfl rfl (by kernel_rfl)  (opv_loadA rfl rfl rfl) ?_
  refine th_two (j := 7) [5, 8, 9, 10, 11, 12] (by kernel_rfl) rfl ?_ ?_
  ·refine (step_m rfl rfl (OpV.toG (opv_load1 rfl rfl rfl)) ?_)
   rintro _ _ _ ⟨rfl, rfl, rfl⟩
   refine ⟨Suf.h, (fun _ h => h), ?_⟩
   refine th_one (by kernel_rfl) (step_m rfl rfl (opg_buildSlice rfl rfl rfl rfl) ?_)
   rintro _ _ _ ⟨b110, rfl, rfl, rfl⟩
   refine ⟨Suf.h, (fun _ h => h), ?_⟩
   refine th_one (by kernel_rfl) (step_m rfl rfl (opg_appendB rfl rfl rfl rfl (by omega) rfl) ?_)
   rintro _ _ _ ⟨a3, c3, rfl, rfl, rfl⟩
   refine ⟨Suf.h, (fun _ h => h), ?_⟩
   refine yn rfl rfl (yf rfl rfl (yf rfl rfl ?_))
   refine th_one (by kernel_rfl) (step_m rfl rfl (opg_store rfl rfl rfl rfl rfl rfl) ?_)
   rintro _ _ _ ⟨rfl, rfl⟩
   refine ⟨Suf.h, (fun _ h => h), ?_⟩
   refine yD (tri_inBlock (tT (tR ?_)))
   refine yU rfl rfl ?_
   refine tM rfl rfl (tN (tT ?_))
   refine tri_perm (A := ?a5_0 :: ?a5_1 :: ?a5_2 :: ?a5_3 :: ?a5_4 :: ?a5_5 :: ?T5) (B := ?a5_0 :: ?a5_4 :: ?a5_5 :: ?a5_2 :: ?a5_1 :: ?a5_3 :: ?T5) (by exact permL [0, 4, 5, 2, 1, 3] [?a5_0, ?a5_1, ?a5_2, ?a5_3, ?a5_4, ?a5_5] ?T5 (by decide) rfl) ?_
   refine tri_drop ?_
   refine tri_drop ?_
   refine tri_drop ?_
   refine tri_rowEq (len' := (ns.take (i + 1 + 2)).length) (cells' := encs (ns.take (i + 1 + 2))) hl3.symm (by rw [htk2, encs_append]; rfl) ?_
   rw [← hl3]
   refine tri_perm (A := ?a6_0 :: ?a6_1 :: ?a6_2 :: ?T6) (B := ?a6_1 :: ?a6_0 :: ?a6_2 :: ?T6) (by exact permL [1, 0, 2] [?a6_0, ?a6_1, ?a6_2] ?T6 (by decide) rfl) ?_
   refine tri_sub ?_ (hK (i + 1, a3, c3, mset es [y.k0, y.k1, y.k2, y.k3] (.int .i64 ((i : Int) + 2))) ⟨by simp only; omega, hok2', hmi.step hfit, hix2⟩ (by simp only; omega))
   exact ⟨rfl, rfl, rfl, rfl, rfl, trivial⟩
  ·refine (step_m rfl rfl (opg_buildSlice rfl rfl rfl rfl) ?_)
   rintro _ _ _ ⟨b110, rfl, rfl, rfl⟩
   refine ⟨Suf.h, (fun _ h => h), ?_⟩
   refine th_one (by kernel_rfl) (step_m rfl rfl (OpV.toG (opv_load1 rfl rfl rfl)) ?_)
   rintro _ _ _ ⟨rfl, rfl, rfl⟩
   refine ⟨Suf.h, (fun _ h => h), ?_⟩
   refine th_one (by kernel_rfl) (step_m rfl rfl (opg_appendB rfl rfl rfl rfl (by omega) rfl) ?_)
   rintro _ _ _ ⟨a3, c3, rfl, rfl, rfl⟩
   refine ⟨Suf.h, (fun _ h => h), ?_⟩
   refine yn rfl rfl (yf rfl rfl (yf rfl rfl ?_))
   refine th_one (by kernel_rfl) (step_m rfl rfl (opg_store rfl rfl rfl rfl rfl rfl) ?_)
   rintro _ _ _ ⟨rfl, rfl⟩
   refine ⟨Suf.h, (fun _ h => h), ?_⟩
   refine yD (tri_inBlock (tT (tR ?_)))
   refine yU rfl rfl ?_
   refine tM rfl rfl (tN (tT ?_))
   refine tri_perm (A := ?a7_0 :: ?a7_1 :: ?a7_2 :: ?a7_3 :: ?a7_4 :: ?a7_5 :: ?T7) (B := ?a7_0 :: ?a7_4 :: ?a7_5 :: ?a7_2 :: ?a7_1 :: ?a7_3 :: ?T7) (by exact permL [0, 4, 5, 2, 1, 3] [?a7_0, ?a7_1, ?a7_2, ?a7_3, ?a7_4, ?a7_5] ?T7 (by decide) rfl) ?_
   refine tri_drop ?_
   refine tri_drop ?_
   refine tri_drop ?_
   refine tri_rowEq (len' := (ns.take (i + 1 + 2)).length) (cells' := encs (ns.take (i + 1 + 2))) hl3.symm (by rw [htk2, encs_append]; rfl) ?_
   rw [← hl3]
   refine tri_perm (A := ?a8_0 :: ?a8_1 :: ?a8_2 :: ?T8) (B := ?a8_1 :: ?a8_0 :: ?a8_2 :: ?T8) (by exact permL [1, 0, 2] [?a8_0, ?a8_1, ?a8_2] ?T8 (by decide) rfl) ?_
   refine tri_sub ?_ (hK (i + 1, a3, c3, mset es [y.k0, y.k1, y.k2, y.k3] (.int .i64 ((i : Int) + 2))) ⟨by simp only; omega, hok2', hmi.step hfit, hix2⟩ (by simp only; omega))
   exact ⟨rfl, rfl, rfl, rfl, rfl, trivial⟩
 ·have hi2 : i + 2 = ns.length := by omega
  have hr : R6.right ns room := ⟨⟨by omega, by omega, by omega, by omega, e0, e1⟩, fun j hj hj2 => hok j (by omega) hj2⟩
  have e : ns.take (i + 2) = ns := List.take_of_length_le (by omega)
  rw [e] at hix
  rw [e]
  refine tri_exit ?_
  refine tri_then_exit (tri_then_exit ?_)
  refine tri_inBlock_hit rfl ?_
  refine tT (tS (tR (tM rfl rfl (tA rfl rfl (tA rfl rfl (tN (tT ?_)))))))
  refine tri_ret ?_
  refine tri_perm (A := ?a9_0 :: ?a9_1 :: ?a9_2 :: ?a9_3 :: ?T9) (B := ?a9_3 :: ?a9_0 :: ?a9_1 :: ?a9_2 :: ?T9) (by exact permL [3, 0, 1, 2] [?a9_0, ?a9_1, ?a9_2, ?a9_3] ?T9 (by decide) rfl) ?_
  refine tri_end (IxA bx mb ai ci ns room es A) Suf.h rfl (.cons (rv_tmp rfl) (.cons (rv_tmp rfl) .nil)) (.inl ⟨hr, bx, mb, ai, ci, es, rfl, rfl, hix, rfl⟩)
end Go.GL


namespace Go.GL
open Go.Proofs
attribute [local irreducible] wpList Code.wp Exit.then Exit.inBlock Ends Tri TriH OpV OpG FnC epf wpAnyH
variable {A : List Asrt} {I : List Chunk}
end Go.GL


namespace Go.GL
open Go.Proofs
attribute [local irreducible] wpList Code.wp Exit.then Exit.inBlock Ends Tri TriH OpV OpG FnC epf wpAnyH
variable {A : List Asrt} {I : List Chunk}
def R2.acc (l : List Cell) (i : Nat) : List Cell := (l.take i).flatMap (R2.about l)
def R2.part (l : List Cell) (i k : Nat) : List Cell := R2.acc l i ++ ((List.range k).map (R2.nb (l.getD i default))).filter (R2.livesAt l)
theorem R2.acc_len (l : List Cell) (i : Nat) : (R2.acc l i).length ≤ 9 * l.length := by
 have h1 := R2.cands_len l (l.take i)
 have h2 : (l.take i).length ≤ l.length := by rw [List.length_take]; omega
 unfold R2.acc
 omega
theorem R2.part_len (l : List Cell) (i k : Nat) : (R2.part l i k).length ≤ 9 * l.length + k := by
 have h1 := R2.acc_len l i
 have h2 := List.length_filter_le (R2.livesAt l) ((List.range k).map (R2.nb (l.getD i default)))
 unfold R2.part
 simp only [List.length_append, List.length_map, List.length_range] at h2 ⊢
 omega
end Go.GL


namespace Go.GL
open Go.Proofs
attribute [local irreducible] wpList Code.wp Exit.then Exit.inBlock Ends Tri TriH OpV OpG FnC epf wpAnyH
variable {A : List Asrt} {I : List Chunk}
/-- Whose kids can be asked for. -/
def R8.Kid (ns : List Node) (n : Int) : Prop := R6.inS ns n ∧ R6.inS ns (R6.nd ns n).k0 ∧ R6.inS ns (R6.nd ns n).k1 ∧ R6.inS ns (R6.nd ns n).k2 ∧ R6.inS ns (R6.nd ns n).k3
theorem R6.right.kids {ns : List Node} {room n : Int} (h : R6.right ns room) (hn : R6.inS ns n) (hl : 1 ≤ (R6.nd ns n).lv) : R8.Kid ns n := by
 obtain ⟨m, hm⟩ : ∃ m : Nat, (R6.nd ns n).lv = ((m + 1 : Nat) : Int) := ⟨((R6.nd ns n).lv - 1).toNat, by omega⟩
 have k := fun q hq => (h.kidN hn hm (q := q) hq).1
 exact ⟨hn, k _ (by simp [Node.kids]), k _ (by simp [Node.kids]), k _ (by simp [Node.kids]), k _ (by simp [Node.kids])⟩
end Go.GL


namespace Go.GL
open Go.Proofs
attribute [local irreducible] wpList Code.wp Exit.then Exit.inBlock Ends Tri TriH OpV OpG FnC epf wpAnyH
variable {A : List Asrt} {I : List Chunk}
set_option maxRecDepth 100000 in
theorem life_lives {alive : Bool} {k : Int} : FnC Try.prog 85 [.bool alive, .int .i64 k].toArray A I (fun v A' I' => v = .bool (R2.lives alive k) ∧ A = A' ∧ I = I') := by
 refine fn_enter2 Try.func85 rfl Try.ntmps85 rfl fun w0 => ?_
 refine tS (tR (tA rfl rfl (tN (tT (tS (tS (tR ?_)))))))
 refine tM rfl rfl (tN (tT (tri_block (tS (tR ?_)))))
 refine tri_v (opv_eql rfl rfl) rfl ?_
 refine tA rfl rfl (tN (tT ?_))
 refine tri_cond_dec rfl (fun h1 => ?_) (fun h1 => ?_)
 ·refine tS (tR (tM rfl rfl (tA rfl rfl (tN (tT (tri_ret (tri_inBlock_ret ?_)))))))
  refine tri_then_ret ?_
  refine tri_end A Suf.h rfl (.cons (rv_tmp rfl) .nil) ⟨congrArg Value.bool ?_, rfl, rfl⟩
  have h3 : ¬ k = 3 := by omega
  simp [R2.lives, h1]
 ·refine tS (tR ?_)
  refine tri_v (opv_eql rfl rfl) rfl ?_
  refine tA rfl rfl (tN (tT ?_))
  refine tri_cond_dec rfl (fun h2 => ?_) (fun h2 => ?_)
  ·refine tS (tR (tA rfl rfl (tN (tT (tri_ret (tri_inBlock_ret (tri_then_ret ?_)))))))
   refine tri_end A Suf.h rfl (.cons (rv_tmp rfl) .nil) ⟨congrArg Value.bool ?_, rfl, rfl⟩
   simp [R2.lives, h2]
  ·refine tri_skip (tri_inBlock (tT (tS (tR (tA rfl rfl (tN (tT ?_)))))))
   refine tri_ret ?_
   refine tri_end A Suf.h rfl (.cons (rv_tmp rfl) .nil) ⟨congrArg Value.bool ?_, rfl, rfl⟩
   simp [R2.lives, h1, h2]
theorem R8.g_off (l : List Int) (i : Int) : l.getD (0 + i.toNat * 1) default = R8.g l i := by
 rw [Nat.zero_add, Nat.mul_one]; rfl
set_option maxRecDepth 100000 in
theorem base_square {l : List Int} {y x : Int} (hl : l.length = 16) (y0 : 0 ≤ y) (y1 : y ≤ 2) (x0 : 0 ≤ x) (x1 : x ≤ 2) :
  FnC Try.prog 92 [.agg (ints l).toArray, .int .i64 y, .int .i64 x].toArray A I (fun v A' I' => v = int4V (R8.g l (4 * y + x)) (R8.g l (4 * y + x + 1)) (R8.g l (4 * y + x + 4)) (R8.g l (4 * y + x + 5)) ∧ A = A' ∧ I = I') := by
 skip
 refine fn_enter3 Try.func92 rfl Try.ntmps92 rfl fun w0 => ?_
 refine tS (tR ?_)
 refine tri_g (opg_box_agg rfl) rfl ?_
 rintro _ _ _ ⟨b3, rfl, rfl, rfl⟩
 refine tri_g opg_alloc rfl ?_
 rintro _ _ _ ⟨b6, rfl, rfl, rfl⟩
 refine tN (tT (tS (tR (tM rfl rfl ?_))))
 refine tri_v (opv_mul rfl rfl (w64 (by omega) (by omega))) rfl ?_
 refine tM rfl rfl ?_
 refine yU rfl rfl ?_
 refine tA rfl rfl (tN (tT (tS ?_)))
 skip
 refine tri_draw [0, 1, 2, 3, 4, 5, 6, 7, 8, 9, 10, 11, 12, 13, 14, 15, 16, 17] rfl [_] rfl mixed ?_
 refine yM rfl rfl ?_
 refine th_take rfl rfl (by kernel_rfl)  (opv_indexAddrA rfl rfl (by omega) (by omega)) ?_
 refine th_take rfl rfl (by kernel_rfl)  (opv_loadIX rfl rfl (by omega)) ?_
 refine yM rfl rfl ?_
 refine th_take rfl rfl (by kernel_rfl)  (opv_add rfl rfl (w64 (by omega) (by omega))) ?_
 refine th_take rfl rfl (by kernel_rfl)  (opv_indexAddrA rfl rfl (by omega) (by omega)) ?_
 refine th_take rfl rfl (by kernel_rfl)  (opv_loadIX rfl rfl (by omega)) ?_
 refine yM rfl rfl ?_
 refine th_take rfl rfl (by kernel_rfl)  (opv_add rfl rfl (w64 (by omega) (by omega))) ?_
 refine th_take rfl rfl (by kernel_rfl)  (opv_indexAddrA rfl rfl (by omega) (by omega)) ?_
 refine th_take rfl rfl (by kernel_rfl)  (opv_loadIX rfl rfl (by omega)) ?_
 refine yM rfl rfl ?_
 refine th_take rfl rfl (by kernel_rfl)  (opv_add rfl rfl (w64 (by omega) (by omega))) ?_
 refine th_take rfl rfl (by kernel_rfl)  (opv_add rfl rfl (w64 (by omega) (by omega))) ?_
 refine th_take rfl rfl (by kernel_rfl)  (opv_indexAddrA rfl rfl (by omega) (by omega)) ?_
 refine th_take rfl rfl (by kernel_rfl)  (opv_loadIX rfl rfl (by omega)) ?_
 refine th_take rfl rfl (by kernel_rfl)  (opv_buildA rfl rfl) ?_
 refine th_one (by kernel_rfl) (step_m rfl rfl (opg_store rfl rfl rfl rfl rfl rfl) ?_)
 rintro _ _ _ ⟨rfl, rfl⟩
 refine ⟨Suf.h, (fun _ h => h), ?_⟩
 refine yD (tT (tri_ret ?_))
 refine tri_end A Suf.h rfl (.cons (rv_cellA rfl rfl rfl) .nil) ⟨?_, rfl, rfl⟩
 simp only [R8.g_off, retV]
 rw [show y * 4 = 4 * y by omega, show 4 * y + x + 4 + 1 = 4 * y + x + 5 by omega]
def R8.ar (l : List Int) (i : Int) : Int := 0 + (R8.g l (i + -4 - 1) + R8.g l (i + -4) + R8.g l (i + -4 + 1)) + (R8.g l (i + 0 - 1) + R8.g l (i + 0) + R8.g l (i + 0 + 1)) + (R8.g l (i + 4 - 1) + R8.g l (i + 4) + R8.g l (i + 4 + 1)) - R8.g l i
set_option maxHeartbeats 1000000 in
set_option maxRecDepth 100000 in
theorem base_around {l : List Int} {i : Int} (hl : l.length = 16) (hb : ∀ i, 0 ≤ R8.g l i ∧ R8.g l i ≤ 1) (i0 : 5 ≤ i) (i1 : i ≤ 10) :
  FnC Try.prog 86 [.agg (ints l).toArray, .int .i64 i].toArray A I (fun v A' I' => v = .int .i64 (R8.ar l i) ∧ A = A' ∧ I = I') := by
 have hb' : ∀ j : Int, 0 ≤ l.getD (0 + j.toNat * 1) default ∧ l.getD (0 + j.toNat * 1) default ≤ 1 := fun j => by rw [R8.g_off]; exact hb j
 skip
 refine fn_enter2 Try.func86 rfl Try.ntmps86 rfl fun w0 => ?_
 refine tS (tR ?_)
 refine tri_g (opg_box_agg rfl) rfl ?_
 rintro _ _ _ ⟨b2, rfl, rfl, rfl⟩
 refine tA rfl rfl (tN (tT (tS (tS (tR (tA rfl rfl (tN ?_)))))))
 refine tT (tri_block ?_)
 refine tri_rounds 4 ?_
 refine tri_round (tS (tS (tR (tM rfl rfl ?_))))
 refine tri_v (opv_leq rfl rfl) rfl ?_
 refine tN (tT ?_)
 refine tri_cond_is rfl (by decide) ?_
 have a0 := hb' (i + (-4) - 1)
 have b0 := hb' (i + (-4))
 have c0 := hb' (i + (-4) + 1)
 refine tri_skip (tT (tS (tri_block ?_)))
 refine tri_draw [0, 1, 2, 3, 4, 5, 6, 7, 8, 9, 10, 11, 12, 13, 14, 15, 16, 17, 18, 19, 20, 21] rfl [] rfl mixed ?_
 refine yM rfl rfl (yM rfl rfl (yM rfl rfl ?_))
 refine th_take rfl rfl (by kernel_rfl)  (opv_add rfl rfl (w64 (by omega) (by omega))) ?_
 refine th_take rfl rfl (by kernel_rfl)  (opv_sub rfl rfl (w64 (by omega) (by omega))) ?_
 refine th_take rfl rfl (by kernel_rfl)  (opv_indexAddrA rfl rfl (by omega) (by omega)) ?_
 refine th_take rfl rfl (by kernel_rfl)  (opv_loadIX rfl rfl (by omega)) ?_
 refine yM rfl rfl (yM rfl rfl ?_)
 refine th_take rfl rfl (by kernel_rfl)  (opv_add rfl rfl (w64 (by omega) (by omega))) ?_
 refine th_take rfl rfl (by kernel_rfl)  (opv_indexAddrA rfl rfl (by omega) (by omega)) ?_
 refine th_take rfl rfl (by kernel_rfl)  (opv_loadIX rfl rfl (by omega)) ?_
 refine th_take rfl rfl (by kernel_rfl)  (opv_add rfl rfl (w64 (by omega) (by omega))) ?_
 refine yM rfl rfl (yM rfl rfl ?_)
 refine th_take rfl rfl (by kernel_rfl)  (opv_add rfl rfl (w64 (by omega) (by omega))) ?_
 refine th_take rfl rfl (by kernel_rfl)  (opv_add rfl rfl (w64 (by omega) (by omega))) ?_
 refine th_take rfl rfl (by kernel_rfl)  (opv_indexAddrA rfl rfl (by omega) (by omega)) ?_
 refine th_take rfl rfl (by kernel_rfl)  (opv_loadIX rfl rfl (by omega)) ?_
 refine th_take rfl rfl (by kernel_rfl)  (opv_add rfl rfl (w64 (by omega) (by omega))) ?_
 refine th_take rfl rfl (by kernel_rfl)  (opv_add rfl rfl (w64 (by omega) (by omega))) ?_
 refine yA rfl rfl (yD (tri_inBlock (tT (tR (tM rfl rfl ?_)))))
 refine yU rfl rfl ?_
 refine tA rfl rfl (tN (tT (tri_round (tS (tS (tR (tM rfl rfl ?_)))))))
 refine tri_v (opv_leq rfl rfl) rfl ?_
 refine tN (tT ?_)
 skip
 refine tri_cond_is rfl (by decide) ?_
 have a4 := hb' (i + (-4 + 4) - 1)
 have b4 := hb' (i + (-4 + 4))
 have c4 := hb' (i + (-4 + 4) + 1)
 refine tri_skip (tT (tS (tri_block ?_)))
 refine tri_draw [0, 1, 2, 3, 4, 5, 6, 7, 8, 9, 10, 11, 12, 13, 14, 15, 16, 17, 18, 19, 20, 21] rfl [] rfl mixed ?_
 refine yM rfl rfl (yM rfl rfl (yM rfl rfl ?_))
 refine th_take rfl rfl (by kernel_rfl)  (opv_add rfl rfl (w64 (by omega) (by omega))) ?_
 refine th_take rfl rfl (by kernel_rfl)  (opv_sub rfl rfl (w64 (by omega) (by omega))) ?_
 refine th_take rfl rfl (by kernel_rfl)  (opv_indexAddrA rfl rfl (by omega) (by omega)) ?_
 refine th_take rfl rfl (by kernel_rfl)  (opv_loadIX rfl rfl (by omega)) ?_
 refine yM rfl rfl (yM rfl rfl ?_)
 refine th_take rfl rfl (by kernel_rfl)  (opv_add rfl rfl (w64 (by omega) (by omega))) ?_
 refine th_take rfl rfl (by kernel_rfl)  (opv_indexAddrA rfl rfl (by omega) (by omega)) ?_
 refine th_take rfl rfl (by kernel_rfl)  (opv_loadIX rfl rfl (by omega)) ?_
 refine th_take rfl rfl (by kernel_rfl)  (opv_add rfl rfl (w64 (by omega) (by omega))) ?_
 refine yM rfl rfl (yM rfl rfl ?_)
 refine th_take rfl rfl (by kernel_rfl)  (opv_add rfl rfl (w64 (by omega) (by omega))) ?_
 refine th_take rfl rfl (by kernel_rfl)  (opv_add rfl rfl (w64 (by omega) (by omega))) ?_
 refine th_take rfl rfl (by kernel_rfl)  (opv_indexAddrA rfl rfl (by omega) (by omega)) ?_
 refine th_take rfl rfl (by kernel_rfl)  (opv_loadIX rfl rfl (by omega)) ?_
 refine th_take rfl rfl (by kernel_rfl)  (opv_add rfl rfl (w64 (by omega) (by omega))) ?_
 refine th_take rfl rfl (by kernel_rfl)  (opv_add rfl rfl (w64 (by omega) (by omega))) ?_
 refine yA rfl rfl (yD (tri_inBlock (tT (tR (tM rfl rfl ?_)))))
 refine yU rfl rfl ?_
 refine tA rfl rfl (tN (tT (tri_round (tS (tS (tR (tM rfl rfl ?_)))))))
 refine tri_v (opv_leq rfl rfl) rfl ?_
 refine tN (tT ?_)
 skip
 refine tri_cond_is rfl (by decide) ?_
 have a8 := hb' (i + (-4 + 4 + 4) - 1)
 have b8 := hb' (i + (-4 + 4 + 4))
 have c8 := hb' (i + (-4 + 4 + 4) + 1)
 refine tri_skip (tT (tS (tri_block ?_)))
 refine tri_draw [0, 1, 2, 3, 4, 5, 6, 7, 8, 9, 10, 11, 12, 13, 14, 15, 16, 17, 18, 19, 20, 21] rfl [] rfl mixed ?_
 refine yM rfl rfl (yM rfl rfl (yM rfl rfl ?_))
 refine th_take rfl rfl (by kernel_rfl)  (opv_add rfl rfl (w64 (by omega) (by omega))) ?_
 refine th_take rfl rfl (by kernel_rfl)  (opv_sub rfl rfl (w64 (by omega) (by omega))) ?_
 refine th_take rfl rfl (by kernel_rfl)  (opv_indexAddrA rfl rfl (by omega) (by omega)) ?_
 refine th_take rfl rfl (by kernel_rfl)  (opv_loadIX rfl rfl (by omega)) ?_
 refine yM rfl rfl (yM rfl rfl ?_)
 refine th_take rfl rfl (by kernel_rfl)  (opv_add rfl rfl (w64 (by omega) (by omega))) ?_
 refine th_take rfl rfl (by kernel_rfl)  (opv_indexAddrA rfl rfl (by omega) (by omega)) ?_
 refine th_take rfl rfl (by kernel_rfl)  (opv_loadIX rfl rfl (by omega)) ?_
 refine th_take rfl rfl (by kernel_rfl)  (opv_add rfl rfl (w64 (by omega) (by omega))) ?_
 refine yM rfl rfl (yM rfl rfl ?_)
 refine th_take rfl rfl (by kernel_rfl)  (opv_add rfl rfl (w64 (by omega) (by omega))) ?_
 refine th_take rfl rfl (by kernel_rfl)  (opv_add rfl rfl (w64 (by omega) (by omega))) ?_
 refine th_take rfl rfl (by kernel_rfl)  (opv_indexAddrA rfl rfl (by omega) (by omega)) ?_
 refine th_take rfl rfl (by kernel_rfl)  (opv_loadIX rfl rfl (by omega)) ?_
 refine th_take rfl rfl (by kernel_rfl)  (opv_add rfl rfl (w64 (by omega) (by omega))) ?_
 refine th_take rfl rfl (by kernel_rfl)  (opv_add rfl rfl (w64 (by omega) (by omega))) ?_
 refine yA rfl rfl (yD (tri_inBlock (tT (tR (tM rfl rfl ?_)))))
 refine yU rfl rfl ?_
 refine tA rfl rfl (tN (tT (tri_round (tS (tS (tR (tM rfl rfl ?_)))))))
 refine tri_v (opv_leq rfl rfl) rfl ?_
 refine tN (tT ?_)
 refine tri_cond_not rfl (by decide) ?_
 have d0 := hb' i
 refine tri_exit ?_
 refine tri_then_exit (tri_then_exit ?_)
 refine tri_inBlock_hit rfl ?_
 refine tT (tS (tR (tM rfl rfl (tM rfl rfl ?_))))
 refine tri_v (opv_indexAddrA rfl rfl (by omega) (by omega)) rfl ?_
 refine tri_v (opv_loadIX rfl rfl (by omega)) rfl ?_
 refine tri_v (opv_sub rfl rfl (w64 (by omega) (by omega))) rfl ?_
 refine tA rfl rfl (tN (tT (tri_ret ?_)))
 refine tri_end A Suf.h rfl (.cons (rv_tmp rfl) .nil) ⟨?_, rfl, rfl⟩
 simp only [R8.g_off, retV]
 rfl
end Go.GL


namespace Go.GL
open Go.Proofs
attribute [local irreducible] wpList Code.wp Exit.then Exit.inBlock Ends Tri TriH OpV OpG FnC epf wpAnyH
variable {A : List Asrt} {I : List Chunk}
theorem R8.s16_len (ns : List Node) (n : Int) : (R8.s16 ns n).length = 16 := rfl
end Go.GL


namespace Go.GL
open Go.Proofs
attribute [local irreducible] wpList Code.wp Exit.then Exit.inBlock Ends Tri TriH OpV OpG FnC epf wpAnyH
variable {A : List Asrt} {I : List Chunk}
theorem R6.right.low {ns : List Node} {room : Int} (h : R6.right ns room) {q : Int} (hq : R6.inS ns q) (hl : (R6.nd ns q).lv = 0) : 0 ≤ q ∧ q ≤ 1 := by
 obtain ⟨q0, q1⟩ := hq
 rcases Nat.lt_or_ge q.toNat 2 with h2 | h2
 ·omega
 ·have := (h.2 q.toNat (by omega) h2).2.2.2.2.1
  have hl' : (ns.getD q.toNat default).lv = 0 := hl
  omega
theorem R6.right.bits {ns : List Node} {room n : Int} (h : R6.right ns room) (hn : R6.inS ns n) (hl : (R6.nd ns n).lv = 2) (i : Int) : 0 ≤ R8.g (R8.s16 ns n) i ∧ R8.g (R8.s16 ns n) i ≤ 1 := by
 have key : ∀ q ∈ R8.s16 ns n, 0 ≤ q ∧ q ≤ 1 := by
  intro q hq
  have k1 := fun q hq => h.kidN hn (m := 1) hl (q := q) hq
  have k2 : ∀ p, p ∈ (R6.nd ns n).kids → ∀ q, q ∈ (R6.nd ns p).kids → 0 ≤ q ∧ q ≤ 1 := fun p hp q hq => by
   obtain ⟨g1, _, g3⟩ := k1 p hp
   obtain ⟨f1, _, f3⟩ := h.kidN g1 (m := 0) g3 hq
   exact h.low f1 f3
  simp only [R8.s16, List.mem_cons, List.not_mem_nil, or_false] at hq
  have a := k2 _ (by simp [Node.kids] : (R6.nd ns n).k0 ∈ (R6.nd ns n).kids)
  have b := k2 _ (by simp [Node.kids] : (R6.nd ns n).k1 ∈ (R6.nd ns n).kids)
  have c := k2 _ (by simp [Node.kids] : (R6.nd ns n).k2 ∈ (R6.nd ns n).kids)
  have d := k2 _ (by simp [Node.kids] : (R6.nd ns n).k3 ∈ (R6.nd ns n).kids)
  simp only [Node.kids, List.mem_cons, List.not_mem_nil, or_false] at a b c d
  rcases hq with e | e | e | e | e | e | e | e | e | e | e | e | e | e | e | e <;> subst e <;> first | exact a _ (by simp) | exact b _ (by simp) | exact c _ (by simp) | exact d _ (by simp)
 unfold R8.g
 rcases Nat.lt_or_ge i.toNat (R8.s16 ns n).length with h2 | h2
 ·have := key (R8.s16 ns n)[i.toNat] (List.getElem_mem h2)
  simpa [h2] using this
 ·rw [List.getD_eq_getElem?_getD, List.getElem?_eq_none h2]
  decide
theorem R8.all_eq {ns : List Node} {room n : Int} {p0 p1 p2 p3 p4 p5 p6 p7 p8 : List Node × Int × Int} (e0 : R8.putSq ns room (R8.s16 ns n) 0 0 = p0) (e1 : R8.putSq p0.1 room (R8.s16 ns n) 0 1 = p1) (e2 : R8.putSq p1.1 room (R8.s16 ns n) 0 2 = p2) (e3 : R8.putSq p2.1 room (R8.s16 ns n) 1 0 = p3) (e4 : R8.putSq p3.1 room (R8.s16 ns n) 1 1 = p4) (e5 : R8.putSq p4.1 room (R8.s16 ns n) 1 2 = p5) (e6 : R8.putSq p5.1 room (R8.s16 ns n) 2 0 = p6) (e7 : R8.putSq p6.1 room (R8.s16 ns n) 2 1 = p7) (e8 : R8.putSq p7.1 room (R8.s16 ns n) 2 2 = p8) :
  R8.all ns room n = if p0.2.2 ≠ 0 then (ns, R8.z9, p0.2.2) else if p1.2.2 ≠ 0 then (ns, R8.z9, p1.2.2) else if p2.2.2 ≠ 0 then (ns, R8.z9, p2.2.2) else if p3.2.2 ≠ 0 then (ns, R8.z9, p3.2.2) else if p4.2.2 ≠ 0 then (ns, R8.z9, p4.2.2) else if p5.2.2 ≠ 0 then (ns, R8.z9, p5.2.2) else if p6.2.2 ≠ 0 then (ns, R8.z9, p6.2.2) else if p7.2.2 ≠ 0 then (ns, R8.z9, p7.2.2) else if p8.2.2 ≠ 0 then (ns, R8.z9, p8.2.2) else (p8.1, [p0.2.1, p1.2.1, p2.2.1, p3.2.1, p4.2.1, p5.2.1, p6.2.1, p7.2.1, p8.2.1], 0) := by
 subst e8; subst e7; subst e6; subst e5; subst e4; subst e3; subst e2; subst e1; subst e0
 rfl
end Go.GL


namespace Go.GL
open Go.Proofs
attribute [local irreducible] wpList Code.wp Exit.then Exit.inBlock Ends Tri TriH OpV OpG FnC epf wpAnyH
variable {A : List Asrt} {I : List Chunk}
set_option maxHeartbeats 2000000 in
set_option maxRecDepth 100000 in
theorem base_sixteen {ns : List Node} {a : Option Addr} {cap bx : Nat} {room n : Int} {mv : Value} (hk : R8.Kid ns n) :
  FnC Try.prog 84 [.agg [pt bx 0].toArray, .int .i64 n].toArray (Box bx [.slice a ns.length cap, .int .i64 room, mv] 99 :: Row a cap ns.length 35 6 (encs ns) :: A) I (fun v A' I' => v = .agg (ints (R8.s16 ns n)).toArray ∧ A' = (Box bx [.slice a ns.length cap, .int .i64 room, mv] 99 :: Row a cap ns.length 35 6 (encs ns) :: A) ∧ I = I') := by
 obtain ⟨⟨hn0, hn1⟩, ⟨ha0, ha1⟩, ⟨hb0, hb1⟩, ⟨hc0, hc1⟩, ⟨hd0, hd1⟩⟩ := hk
 unfold R6.nd at ha0 ha1 hb0 hb1 hc0 hc1 hd0 hd1
 skip
 refine fn_enter2 Try.func84 rfl Try.ntmps84 rfl fun w0 => ?_
 refine tS (tR ?_)
 refine tri_g (opg_box_agg rfl) rfl ?_
 rintro _ _ _ ⟨b2, rfl, rfl, rfl⟩
 refine tri_g opg_alloc rfl ?_
 rintro _ _ _ ⟨b4, rfl, rfl, rfl⟩
 refine tN (tT (tS (tS (tR (yF rfl ?_)))))
 refine yL rfl rfl ?_
 refine tri_v (opv_nilCheck rfl) rfl ?_
 refine yF rfl (yF rfl ?_)
 refine yL rfl rfl ?_
 refine tM rfl rfl ?_
 refine tri_v (opv_indexAddrR rfl rfl (by omega) (by omega)) rfl ?_
 refine tri_v (opv_fieldAddrR rfl (by omega) rfl) rfl ?_
 refine tri_v (opv_loadRXA rfl rfl (by omega) rfl rfl rfl) rfl ?_
 refine tM rfl rfl (tN (tT (tri_block ?_)))
 refine tri_rounds 5 ?_
 refine tri_round (tS (tR (yC rfl rfl (tN (tT (tS ?_))))))
 refine tri_cond_is rfl (by decide) ?_
 refine tri_skip (tT (tS (tri_block (tS (tR (tM rfl rfl ?_))))))
 refine tri_v (opv_index rfl rfl (by decide) (by decide) rfl rfl) rfl ?_
 refine tA rfl rfl (tA rfl rfl (tN (tT (tS (tR (yF rfl ?_))))))
 refine yL rfl rfl ?_
 refine tri_v (opv_nilCheck rfl) rfl ?_
 refine yF rfl (yF rfl ?_)
 refine yL rfl rfl ?_
 refine tM rfl rfl ?_
 refine tri_v (opv_indexAddrR rfl rfl (by omega) (by omega)) rfl ?_
 refine tri_v (opv_fieldAddrR rfl (by omega) rfl) rfl ?_
 refine tri_v (opv_loadRXA rfl rfl (by omega) rfl rfl rfl) rfl ?_
 refine tM rfl rfl (tN (tT (tri_block ?_)))
 refine tri_rounds 5 ?_
 refine tri_round (tS (tR (yC rfl rfl (tN (tT (tS ?_))))))
 refine tri_cond_is rfl (by decide) ?_
 refine tri_skip (tT (tS (tri_block (tS (tR (tM rfl rfl ?_))))))
 refine tri_v (opv_index rfl rfl (by decide) (by decide) rfl rfl) rfl ?_
 refine tA rfl rfl (tA rfl rfl (tN (tT (tR (tM rfl rfl ?_)))))
 refine tri_v (opv_quoE rfl rfl (by omega) (by omega) (by omega)) rfl ?_
 refine tri_v (opv_mul rfl rfl (w64 (by omega) (by omega))) rfl ?_
 refine tM rfl rfl ?_
 refine tri_v (opv_quoE rfl rfl (by omega) (by omega) (by omega)) rfl ?_
 refine yU rfl rfl ?_
 refine tri_v (opv_mul rfl rfl (w64 (by omega) (by omega))) rfl ?_
 refine tM rfl rfl ?_
 refine tri_v (opv_remE rfl rfl (by omega) (by omega)) rfl ?_
 refine tri_v (opv_mul rfl rfl (w64 (by omega) (by omega))) rfl ?_
 refine yU rfl rfl ?_
 refine tM rfl rfl ?_
 refine tri_v (opv_remE rfl rfl (by omega) (by omega)) rfl ?_
 refine yU rfl rfl ?_
 refine tM rfl rfl ?_
 refine tri_v (opv_indexAddrA rfl rfl (by decide) (by decide)) rfl ?_
 refine yG rfl rfl rfl rfl rfl rfl ?_
 rintro _ _ _ ⟨rfl, rfl⟩
 refine tN (tri_inBlock (tT (tR ?_)))
 refine yU rfl rfl ?_
 refine tM rfl rfl (tN (tT (tri_round (tS (tR (yC rfl rfl (tN ?_)))))))
 refine tT (tS ?_)
 skip
 refine tri_cond_is rfl (by decide) ?_
 refine tri_skip (tT (tS (tri_block (tS (tR (tM rfl rfl ?_))))))
 refine tri_v (opv_index rfl rfl (by decide) (by decide) rfl rfl) rfl ?_
 refine tA rfl rfl (tA rfl rfl (tN (tT (tR (tM rfl rfl ?_)))))
 refine tri_v (opv_quoE rfl rfl (by omega) (by omega) (by omega)) rfl ?_
 refine tri_v (opv_mul rfl rfl (w64 (by omega) (by omega))) rfl ?_
 refine tM rfl rfl ?_
 refine tri_v (opv_quoE rfl rfl (by omega) (by omega) (by omega)) rfl ?_
 refine yU rfl rfl ?_
 refine tri_v (opv_mul rfl rfl (w64 (by omega) (by omega))) rfl ?_
 refine tM rfl rfl ?_
 refine tri_v (opv_remE rfl rfl (by omega) (by omega)) rfl ?_
 refine tri_v (opv_mul rfl rfl (w64 (by omega) (by omega))) rfl ?_
 refine yU rfl rfl ?_
 refine tM rfl rfl ?_
 refine tri_v (opv_remE rfl rfl (by omega) (by omega)) rfl ?_
 refine yU rfl rfl ?_
 refine tM rfl rfl ?_
 refine tri_v (opv_indexAddrA rfl rfl (by decide) (by decide)) rfl ?_
 refine yG rfl rfl rfl rfl rfl rfl ?_
 rintro _ _ _ ⟨rfl, rfl⟩
 refine tN (tri_inBlock (tT (tR ?_)))
 refine yU rfl rfl ?_
 refine tM rfl rfl (tN (tT (tri_round (tS (tR (yC rfl rfl (tN ?_)))))))
 refine tT (tS ?_)
 skip
 refine tri_cond_is rfl (by decide) ?_
 refine tri_skip (tT (tS (tri_block (tS (tR (tM rfl rfl ?_))))))
 refine tri_v (opv_index rfl rfl (by decide) (by decide) rfl rfl) rfl ?_
 refine tA rfl rfl (tA rfl rfl (tN (tT (tR (tM rfl rfl ?_)))))
 refine tri_v (opv_quoE rfl rfl (by omega) (by omega) (by omega)) rfl ?_
 refine tri_v (opv_mul rfl rfl (w64 (by omega) (by omega))) rfl ?_
 refine tM rfl rfl ?_
 refine tri_v (opv_quoE rfl rfl (by omega) (by omega) (by omega)) rfl ?_
 refine yU rfl rfl ?_
 refine tri_v (opv_mul rfl rfl (w64 (by omega) (by omega))) rfl ?_
 refine tM rfl rfl ?_
 refine tri_v (opv_remE rfl rfl (by omega) (by omega)) rfl ?_
 refine tri_v (opv_mul rfl rfl (w64 (by omega) (by omega))) rfl ?_
 refine yU rfl rfl ?_
 refine tM rfl rfl ?_
 refine tri_v (opv_remE rfl rfl (by omega) (by omega)) rfl ?_
 refine yU rfl rfl ?_
 refine tM rfl rfl ?_
 refine tri_v (opv_indexAddrA rfl rfl (by decide) (by decide)) rfl ?_
 refine yG rfl rfl rfl rfl rfl rfl ?_
 rintro _ _ _ ⟨rfl, rfl⟩
 refine tN (tri_inBlock (tT (tR ?_)))
 refine yU rfl rfl ?_
 refine tM rfl rfl (tN (tT (tri_round (tS (tR (yC rfl rfl (tN ?_)))))))
 refine tT (tS ?_)
 skip
 refine tri_cond_is rfl (by decide) ?_
 refine tri_skip (tT (tS (tri_block (tS (tR (tM rfl rfl ?_))))))
 refine tri_v (opv_index rfl rfl (by decide) (by decide) rfl rfl) rfl ?_
 refine tA rfl rfl (tA rfl rfl (tN (tT (tR (tM rfl rfl ?_)))))
 refine tri_v (opv_quoE rfl rfl (by omega) (by omega) (by omega)) rfl ?_
 refine tri_v (opv_mul rfl rfl (w64 (by omega) (by omega))) rfl ?_
 refine tM rfl rfl ?_
 refine tri_v (opv_quoE rfl rfl (by omega) (by omega) (by omega)) rfl ?_
 refine yU rfl rfl ?_
 refine tri_v (opv_mul rfl rfl (w64 (by omega) (by omega))) rfl ?_
 refine tM rfl rfl ?_
 refine tri_v (opv_remE rfl rfl (by omega) (by omega)) rfl ?_
 refine tri_v (opv_mul rfl rfl (w64 (by omega) (by omega))) rfl ?_
 refine yU rfl rfl ?_
 refine tM rfl rfl ?_
 refine tri_v (opv_remE rfl rfl (by omega) (by omega)) rfl ?_
 refine yU rfl rfl ?_
 refine tM rfl rfl ?_
 refine tri_v (opv_indexAddrA rfl rfl (by decide) (by decide)) rfl ?_
 refine yG rfl rfl rfl rfl rfl rfl ?_
 rintro _ _ _ ⟨rfl, rfl⟩
 refine tN (tri_inBlock (tT (tR ?_)))
 refine yU rfl rfl ?_
 refine tM rfl rfl (tN (tT (tri_round (tS (tR (yC rfl rfl (tN ?_)))))))
 refine tT (tS ?_)
 refine tri_cond_not rfl (by decide) ?_
 refine tri_exit ?_
 refine tri_then_exit (tri_then_exit ?_)
 refine tri_inBlock_hit rfl ?_
 refine tri_inBlock (tT (tR ?_))
 refine yU rfl rfl ?_
 refine tM rfl rfl (tN (tT (tri_round (tS (tR (yC rfl rfl (tN ?_)))))))
 refine tT (tS ?_)
 refine tri_cond_is rfl (by decide) ?_
 refine tri_skip (tT (tS (tri_block (tS (tR (tM rfl rfl ?_))))))
 refine tri_v (opv_index rfl rfl (by decide) (by decide) rfl rfl) rfl ?_
 refine tA rfl rfl (tA rfl rfl (tN (tT (tS (tR (yF rfl ?_))))))
 refine yL rfl rfl ?_
 refine tri_v (opv_nilCheck rfl) rfl ?_
 refine yF rfl (yF rfl ?_)
 refine yL rfl rfl ?_
 refine tM rfl rfl ?_
 refine tri_v (opv_indexAddrR rfl rfl (by omega) (by omega)) rfl ?_
 refine tri_v (opv_fieldAddrR rfl (by omega) rfl) rfl ?_
 refine tri_v (opv_loadRXA rfl rfl (by omega) rfl rfl rfl) rfl ?_
 refine tM rfl rfl (tN (tT (tri_block ?_)))
 refine tri_rounds 5 ?_
 refine tri_round (tS (tR (yC rfl rfl (tN (tT (tS ?_))))))
 refine tri_cond_is rfl (by decide) ?_
 refine tri_skip (tT (tS (tri_block (tS (tR (tM rfl rfl ?_))))))
 refine tri_v (opv_index rfl rfl (by decide) (by decide) rfl rfl) rfl ?_
 refine tA rfl rfl (tA rfl rfl (tN (tT (tR (tM rfl rfl ?_)))))
 refine tri_v (opv_quoE rfl rfl (by omega) (by omega) (by omega)) rfl ?_
 refine tri_v (opv_mul rfl rfl (w64 (by omega) (by omega))) rfl ?_
 refine tM rfl rfl ?_
 refine tri_v (opv_quoE rfl rfl (by omega) (by omega) (by omega)) rfl ?_
 refine yU rfl rfl ?_
 refine tri_v (opv_mul rfl rfl (w64 (by omega) (by omega))) rfl ?_
 refine tM rfl rfl ?_
 refine tri_v (opv_remE rfl rfl (by omega) (by omega)) rfl ?_
 refine tri_v (opv_mul rfl rfl (w64 (by omega) (by omega))) rfl ?_
 refine yU rfl rfl ?_
 refine tM rfl rfl ?_
 refine tri_v (opv_remE rfl rfl (by omega) (by omega)) rfl ?_
 refine yU rfl rfl ?_
 refine tM rfl rfl ?_
 refine tri_v (opv_indexAddrA rfl rfl (by decide) (by decide)) rfl ?_
 refine yG rfl rfl rfl rfl rfl rfl ?_
 rintro _ _ _ ⟨rfl, rfl⟩
 refine tN (tri_inBlock (tT (tR ?_)))
 refine yU rfl rfl ?_
 refine tM rfl rfl (tN (tT (tri_round (tS (tR (yC rfl rfl (tN ?_)))))))
 refine tT (tS ?_)
 skip
 refine tri_cond_is rfl (by decide) ?_
 refine tri_skip (tT (tS (tri_block (tS (tR (tM rfl rfl ?_))))))
 refine tri_v (opv_index rfl rfl (by decide) (by decide) rfl rfl) rfl ?_
 refine tA rfl rfl (tA rfl rfl (tN (tT (tR (tM rfl rfl ?_)))))
 refine tri_v (opv_quoE rfl rfl (by omega) (by omega) (by omega)) rfl ?_
 refine tri_v (opv_mul rfl rfl (w64 (by omega) (by omega))) rfl ?_
 refine tM rfl rfl ?_
 refine tri_v (opv_quoE rfl rfl (by omega) (by omega) (by omega)) rfl ?_
 refine yU rfl rfl ?_
 refine tri_v (opv_mul rfl rfl (w64 (by omega) (by omega))) rfl ?_
 refine tM rfl rfl ?_
 refine tri_v (opv_remE rfl rfl (by omega) (by omega)) rfl ?_
 refine tri_v (opv_mul rfl rfl (w64 (by omega) (by omega))) rfl ?_
 refine yU rfl rfl ?_
 refine tM rfl rfl ?_
 refine tri_v (opv_remE rfl rfl (by omega) (by omega)) rfl ?_
 refine yU rfl rfl ?_
 refine tM rfl rfl ?_
 refine tri_v (opv_indexAddrA rfl rfl (by decide) (by decide)) rfl ?_
 refine yG rfl rfl rfl rfl rfl rfl ?_
 rintro _ _ _ ⟨rfl, rfl⟩
 refine tN (tri_inBlock (tT (tR ?_)))
 refine yU rfl rfl ?_
 refine tM rfl rfl (tN (tT (tri_round (tS (tR (yC rfl rfl (tN ?_)))))))
 refine tT (tS ?_)
 skip
 refine tri_cond_is rfl (by decide) ?_
 refine tri_skip (tT (tS (tri_block (tS (tR (tM rfl rfl ?_))))))
 refine tri_v (opv_index rfl rfl (by decide) (by decide) rfl rfl) rfl ?_
 refine tA rfl rfl (tA rfl rfl (tN (tT (tR (tM rfl rfl ?_)))))
 refine tri_v (opv_quoE rfl rfl (by omega) (by omega) (by omega)) rfl ?_
 refine tri_v (opv_mul rfl rfl (w64 (by omega) (by omega))) rfl ?_
 refine tM rfl rfl ?_
 refine tri_v (opv_quoE rfl rfl (by omega) (by omega) (by omega)) rfl ?_
 refine yU rfl rfl ?_
 refine tri_v (opv_mul rfl rfl (w64 (by omega) (by omega))) rfl ?_
 refine tM rfl rfl ?_
 refine tri_v (opv_remE rfl rfl (by omega) (by omega)) rfl ?_
 refine tri_v (opv_mul rfl rfl (w64 (by omega) (by omega))) rfl ?_
 refine yU rfl rfl ?_
 refine tM rfl rfl ?_
 refine tri_v (opv_remE rfl rfl (by omega) (by omega)) rfl ?_
 refine yU rfl rfl ?_
 refine tM rfl rfl ?_
 refine tri_v (opv_indexAddrA rfl rfl (by decide) (by decide)) rfl ?_
 refine yG rfl rfl rfl rfl rfl rfl ?_
 rintro _ _ _ ⟨rfl, rfl⟩
 refine tN (tri_inBlock (tT (tR ?_)))
 refine yU rfl rfl ?_
 refine tM rfl rfl (tN (tT (tri_round (tS (tR (yC rfl rfl (tN ?_)))))))
 refine tT (tS ?_)
 skip
 refine tri_cond_is rfl (by decide) ?_
 refine tri_skip (tT (tS (tri_block (tS (tR (tM rfl rfl ?_))))))
 refine tri_v (opv_index rfl rfl (by decide) (by decide) rfl rfl) rfl ?_
 refine tA rfl rfl (tA rfl rfl (tN (tT (tR (tM rfl rfl ?_)))))
 refine tri_v (opv_quoE rfl rfl (by omega) (by omega) (by omega)) rfl ?_
 refine tri_v (opv_mul rfl rfl (w64 (by omega) (by omega))) rfl ?_
 refine tM rfl rfl ?_
 refine tri_v (opv_quoE rfl rfl (by omega) (by omega) (by omega)) rfl ?_
 refine yU rfl rfl ?_
 refine tri_v (opv_mul rfl rfl (w64 (by omega) (by omega))) rfl ?_
 refine tM rfl rfl ?_
 refine tri_v (opv_remE rfl rfl (by omega) (by omega)) rfl ?_
 refine tri_v (opv_mul rfl rfl (w64 (by omega) (by omega))) rfl ?_
 refine yU rfl rfl ?_
 refine tM rfl rfl ?_
 refine tri_v (opv_remE rfl rfl (by omega) (by omega)) rfl ?_
 refine yU rfl rfl ?_
 refine tM rfl rfl ?_
 refine tri_v (opv_indexAddrA rfl rfl (by decide) (by decide)) rfl ?_
 refine yG rfl rfl rfl rfl rfl rfl ?_
 rintro _ _ _ ⟨rfl, rfl⟩
 refine tN (tri_inBlock (tT (tR ?_)))
 refine yU rfl rfl ?_
 refine tM rfl rfl (tN (tT (tri_round (tS (tR (yC rfl rfl (tN ?_)))))))
 refine tT (tS ?_)
 refine tri_cond_not rfl (by decide) ?_
 refine tri_exit ?_
 refine tri_then_exit (tri_then_exit ?_)
 refine tri_inBlock_hit rfl ?_
 refine tri_inBlock (tT (tR ?_))
 refine yU rfl rfl ?_
 refine tM rfl rfl (tN (tT (tri_round (tS (tR (yC rfl rfl (tN ?_)))))))
 refine tT (tS ?_)
 refine tri_cond_is rfl (by decide) ?_
 refine tri_skip (tT (tS (tri_block (tS (tR (tM rfl rfl ?_))))))
 refine tri_v (opv_index rfl rfl (by decide) (by decide) rfl rfl) rfl ?_
 refine tA rfl rfl (tA rfl rfl (tN (tT (tS (tR (yF rfl ?_))))))
 refine yL rfl rfl ?_
 refine tri_v (opv_nilCheck rfl) rfl ?_
 refine yF rfl (yF rfl ?_)
 refine yL rfl rfl ?_
 refine tM rfl rfl ?_
 refine tri_v (opv_indexAddrR rfl rfl (by omega) (by omega)) rfl ?_
 refine tri_v (opv_fieldAddrR rfl (by omega) rfl) rfl ?_
 refine tri_v (opv_loadRXA rfl rfl (by omega) rfl rfl rfl) rfl ?_
 refine tM rfl rfl (tN (tT (tri_block ?_)))
 refine tri_rounds 5 ?_
 refine tri_round (tS (tR (yC rfl rfl (tN (tT (tS ?_))))))
 refine tri_cond_is rfl (by decide) ?_
 refine tri_skip (tT (tS (tri_block (tS (tR (tM rfl rfl ?_))))))
 refine tri_v (opv_index rfl rfl (by decide) (by decide) rfl rfl) rfl ?_
 refine tA rfl rfl (tA rfl rfl (tN (tT (tR (tM rfl rfl ?_)))))
 refine tri_v (opv_quoE rfl rfl (by omega) (by omega) (by omega)) rfl ?_
 refine tri_v (opv_mul rfl rfl (w64 (by omega) (by omega))) rfl ?_
 refine tM rfl rfl ?_
 refine tri_v (opv_quoE rfl rfl (by omega) (by omega) (by omega)) rfl ?_
 refine yU rfl rfl ?_
 refine tri_v (opv_mul rfl rfl (w64 (by omega) (by omega))) rfl ?_
 refine tM rfl rfl ?_
 refine tri_v (opv_remE rfl rfl (by omega) (by omega)) rfl ?_
 refine tri_v (opv_mul rfl rfl (w64 (by omega) (by omega))) rfl ?_
 refine yU rfl rfl ?_
 refine tM rfl rfl ?_
 refine tri_v (opv_remE rfl rfl (by omega) (by omega)) rfl ?_
 refine yU rfl rfl ?_
 refine tM rfl rfl ?_
 refine tri_v (opv_indexAddrA rfl rfl (by decide) (by decide)) rfl ?_
 refine yG rfl rfl rfl rfl rfl rfl ?_
 rintro _ _ _ ⟨rfl, rfl⟩
 refine tN (tri_inBlock (tT (tR ?_)))
 refine yU rfl rfl ?_
 refine tM rfl rfl (tN (tT (tri_round (tS (tR (yC rfl rfl (tN ?_)))))))
 refine tT (tS ?_)
 skip
 refine tri_cond_is rfl (by decide) ?_
 refine tri_skip (tT (tS (tri_block (tS (tR (tM rfl rfl ?_))))))
 refine tri_v (opv_index rfl rfl (by decide) (by decide) rfl rfl) rfl ?_
 refine tA rfl rfl (tA rfl rfl (tN (tT (tR (tM rfl rfl ?_)))))
 refine tri_v (opv_quoE rfl rfl (by omega) (by omega) (by omega)) rfl ?_
 refine tri_v (opv_mul rfl rfl (w64 (by omega) (by omega))) rfl ?_
 refine tM rfl rfl ?_
 refine tri_v (opv_quoE rfl rfl (by omega) (by omega) (by omega)) rfl ?_
 refine yU rfl rfl ?_
 refine tri_v (opv_mul rfl rfl (w64 (by omega) (by omega))) rfl ?_
 refine tM rfl rfl ?_
 refine tri_v (opv_remE rfl rfl (by omega) (by omega)) rfl ?_
 refine tri_v (opv_mul rfl rfl (w64 (by omega) (by omega))) rfl ?_
 refine yU rfl rfl ?_
 refine tM rfl rfl ?_
 refine tri_v (opv_remE rfl rfl (by omega) (by omega)) rfl ?_
 refine yU rfl rfl ?_
 refine tM rfl rfl ?_
 refine tri_v (opv_indexAddrA rfl rfl (by decide) (by decide)) rfl ?_
 refine yG rfl rfl rfl rfl rfl rfl ?_
 rintro _ _ _ ⟨rfl, rfl⟩
 refine tN (tri_inBlock (tT (tR ?_)))
 refine yU rfl rfl ?_
 refine tM rfl rfl (tN (tT (tri_round (tS (tR (yC rfl rfl (tN ?_)))))))
 refine tT (tS ?_)
 skip
 refine tri_cond_is rfl (by decide) ?_
 refine tri_skip (tT (tS (tri_block (tS (tR (tM rfl rfl ?_))))))
 refine tri_v (opv_index rfl rfl (by decide) (by decide) rfl rfl) rfl ?_
 refine tA rfl rfl (tA rfl rfl (tN (tT (tR (tM rfl rfl ?_)))))
 refine tri_v (opv_quoE rfl rfl (by omega) (by omega) (by omega)) rfl ?_
 refine tri_v (opv_mul rfl rfl (w64 (by omega) (by omega))) rfl ?_
 refine tM rfl rfl ?_
 refine tri_v (opv_quoE rfl rfl (by omega) (by omega) (by omega)) rfl ?_
 refine yU rfl rfl ?_
 refine tri_v (opv_mul rfl rfl (w64 (by omega) (by omega))) rfl ?_
 refine tM rfl rfl ?_
 refine tri_v (opv_remE rfl rfl (by omega) (by omega)) rfl ?_
 refine tri_v (opv_mul rfl rfl (w64 (by omega) (by omega))) rfl ?_
 refine yU rfl rfl ?_
 refine tM rfl rfl ?_
 refine tri_v (opv_remE rfl rfl (by omega) (by omega)) rfl ?_
 refine yU rfl rfl ?_
 refine tM rfl rfl ?_
 refine tri_v (opv_indexAddrA rfl rfl (by decide) (by decide)) rfl ?_
 refine yG rfl rfl rfl rfl rfl rfl ?_
 rintro _ _ _ ⟨rfl, rfl⟩
 refine tN (tri_inBlock (tT (tR ?_)))
 refine yU rfl rfl ?_
 refine tM rfl rfl (tN (tT (tri_round (tS (tR (yC rfl rfl (tN ?_)))))))
 refine tT (tS ?_)
 skip
 refine tri_cond_is rfl (by decide) ?_
 refine tri_skip (tT (tS (tri_block (tS (tR (tM rfl rfl ?_))))))
 refine tri_v (opv_index rfl rfl (by decide) (by decide) rfl rfl) rfl ?_
 refine tA rfl rfl (tA rfl rfl (tN (tT (tR (tM rfl rfl ?_)))))
 refine tri_v (opv_quoE rfl rfl (by omega) (by omega) (by omega)) rfl ?_
 refine tri_v (opv_mul rfl rfl (w64 (by omega) (by omega))) rfl ?_
 refine tM rfl rfl ?_
 refine tri_v (opv_quoE rfl rfl (by omega) (by omega) (by omega)) rfl ?_
 refine yU rfl rfl ?_
 refine tri_v (opv_mul rfl rfl (w64 (by omega) (by omega))) rfl ?_
 refine tM rfl rfl ?_
 refine tri_v (opv_remE rfl rfl (by omega) (by omega)) rfl ?_
 refine tri_v (opv_mul rfl rfl (w64 (by omega) (by omega))) rfl ?_
 refine yU rfl rfl ?_
 refine tM rfl rfl ?_
 refine tri_v (opv_remE rfl rfl (by omega) (by omega)) rfl ?_
 refine yU rfl rfl ?_
 refine tM rfl rfl ?_
 refine tri_v (opv_indexAddrA rfl rfl (by decide) (by decide)) rfl ?_
 refine yG rfl rfl rfl rfl rfl rfl ?_
 rintro _ _ _ ⟨rfl, rfl⟩
 refine tN (tri_inBlock (tT (tR ?_)))
 refine yU rfl rfl ?_
 refine tM rfl rfl (tN (tT (tri_round (tS (tR (yC rfl rfl (tN ?_)))))))
 refine tT (tS ?_)
 refine tri_cond_not rfl (by decide) ?_
 refine tri_exit ?_
 refine tri_then_exit (tri_then_exit ?_)
 refine tri_inBlock_hit rfl ?_
 refine tri_inBlock (tT (tR ?_))
 refine yU rfl rfl ?_
 refine tM rfl rfl (tN (tT (tri_round (tS (tR (yC rfl rfl (tN ?_)))))))
 refine tT (tS ?_)
 refine tri_cond_is rfl (by decide) ?_
 refine tri_skip (tT (tS (tri_block (tS (tR (tM rfl rfl ?_))))))
 refine tri_v (opv_index rfl rfl (by decide) (by decide) rfl rfl) rfl ?_
 refine tA rfl rfl (tA rfl rfl (tN (tT (tS (tR (yF rfl ?_))))))
 refine yL rfl rfl ?_
 refine tri_v (opv_nilCheck rfl) rfl ?_
 refine yF rfl (yF rfl ?_)
 refine yL rfl rfl ?_
 refine tM rfl rfl ?_
 refine tri_v (opv_indexAddrR rfl rfl (by omega) (by omega)) rfl ?_
 refine tri_v (opv_fieldAddrR rfl (by omega) rfl) rfl ?_
 refine tri_v (opv_loadRXA rfl rfl (by omega) rfl rfl rfl) rfl ?_
 refine tM rfl rfl (tN (tT (tri_block ?_)))
 refine tri_rounds 5 ?_
 refine tri_round (tS (tR (yC rfl rfl (tN (tT (tS ?_))))))
 refine tri_cond_is rfl (by decide) ?_
 refine tri_skip (tT (tS (tri_block (tS (tR (tM rfl rfl ?_))))))
 refine tri_v (opv_index rfl rfl (by decide) (by decide) rfl rfl) rfl ?_
 refine tA rfl rfl (tA rfl rfl (tN (tT (tR (tM rfl rfl ?_)))))
 refine tri_v (opv_quoE rfl rfl (by omega) (by omega) (by omega)) rfl ?_
 refine tri_v (opv_mul rfl rfl (w64 (by omega) (by omega))) rfl ?_
 refine tM rfl rfl ?_
 refine tri_v (opv_quoE rfl rfl (by omega) (by omega) (by omega)) rfl ?_
 refine yU rfl rfl ?_
 refine tri_v (opv_mul rfl rfl (w64 (by omega) (by omega))) rfl ?_
 refine tM rfl rfl ?_
 refine tri_v (opv_remE rfl rfl (by omega) (by omega)) rfl ?_
 refine tri_v (opv_mul rfl rfl (w64 (by omega) (by omega))) rfl ?_
 refine yU rfl rfl ?_
 refine tM rfl rfl ?_
 refine tri_v (opv_remE rfl rfl (by omega) (by omega)) rfl ?_
 refine yU rfl rfl ?_
 refine tM rfl rfl ?_
 refine tri_v (opv_indexAddrA rfl rfl (by decide) (by decide)) rfl ?_
 refine yG rfl rfl rfl rfl rfl rfl ?_
 rintro _ _ _ ⟨rfl, rfl⟩
 refine tN (tri_inBlock (tT (tR ?_)))
 refine yU rfl rfl ?_
 refine tM rfl rfl (tN (tT (tri_round (tS (tR (yC rfl rfl (tN ?_)))))))
 refine tT (tS ?_)
 skip
 refine tri_cond_is rfl (by decide) ?_
 refine tri_skip (tT (tS (tri_block (tS (tR (tM rfl rfl ?_))))))
 refine tri_v (opv_index rfl rfl (by decide) (by decide) rfl rfl) rfl ?_
 refine tA rfl rfl (tA rfl rfl (tN (tT (tR (tM rfl rfl ?_)))))
 refine tri_v (opv_quoE rfl rfl (by omega) (by omega) (by omega)) rfl ?_
 refine tri_v (opv_mul rfl rfl (w64 (by omega) (by omega))) rfl ?_
 refine tM rfl rfl ?_
 refine tri_v (opv_quoE rfl rfl (by omega) (by omega) (by omega)) rfl ?_
 refine yU rfl rfl ?_
 refine tri_v (opv_mul rfl rfl (w64 (by omega) (by omega))) rfl ?_
 refine tM rfl rfl ?_
 refine tri_v (opv_remE rfl rfl (by omega) (by omega)) rfl ?_
 refine tri_v (opv_mul rfl rfl (w64 (by omega) (by omega))) rfl ?_
 refine yU rfl rfl ?_
 refine tM rfl rfl ?_
 refine tri_v (opv_remE rfl rfl (by omega) (by omega)) rfl ?_
 refine yU rfl rfl ?_
 refine tM rfl rfl ?_
 refine tri_v (opv_indexAddrA rfl rfl (by decide) (by decide)) rfl ?_
 refine yG rfl rfl rfl rfl rfl rfl ?_
 rintro _ _ _ ⟨rfl, rfl⟩
 refine tN (tri_inBlock (tT (tR ?_)))
 refine yU rfl rfl ?_
 refine tM rfl rfl (tN (tT (tri_round (tS (tR (yC rfl rfl (tN ?_)))))))
 refine tT (tS ?_)
 skip
 refine tri_cond_is rfl (by decide) ?_
 refine tri_skip (tT (tS (tri_block (tS (tR (tM rfl rfl ?_))))))
 refine tri_v (opv_index rfl rfl (by decide) (by decide) rfl rfl) rfl ?_
 refine tA rfl rfl (tA rfl rfl (tN (tT (tR (tM rfl rfl ?_)))))
 refine tri_v (opv_quoE rfl rfl (by omega) (by omega) (by omega)) rfl ?_
 refine tri_v (opv_mul rfl rfl (w64 (by omega) (by omega))) rfl ?_
 refine tM rfl rfl ?_
 refine tri_v (opv_quoE rfl rfl (by omega) (by omega) (by omega)) rfl ?_
 refine yU rfl rfl ?_
 refine tri_v (opv_mul rfl rfl (w64 (by omega) (by omega))) rfl ?_
 refine tM rfl rfl ?_
 refine tri_v (opv_remE rfl rfl (by omega) (by omega)) rfl ?_
 refine tri_v (opv_mul rfl rfl (w64 (by omega) (by omega))) rfl ?_
 refine yU rfl rfl ?_
 refine tM rfl rfl ?_
 refine tri_v (opv_remE rfl rfl (by omega) (by omega)) rfl ?_
 refine yU rfl rfl ?_
 refine tM rfl rfl ?_
 refine tri_v (opv_indexAddrA rfl rfl (by decide) (by decide)) rfl ?_
 refine yG rfl rfl rfl rfl rfl rfl ?_
 rintro _ _ _ ⟨rfl, rfl⟩
 refine tN (tri_inBlock (tT (tR ?_)))
 refine yU rfl rfl ?_
 refine tM rfl rfl (tN (tT (tri_round (tS (tR (yC rfl rfl (tN ?_)))))))
 refine tT (tS ?_)
 skip
 refine tri_cond_is rfl (by decide) ?_
 refine tri_skip (tT (tS (tri_block (tS (tR (tM rfl rfl ?_))))))
 refine tri_v (opv_index rfl rfl (by decide) (by decide) rfl rfl) rfl ?_
 refine tA rfl rfl (tA rfl rfl (tN (tT (tR (tM rfl rfl ?_)))))
 refine tri_v (opv_quoE rfl rfl (by omega) (by omega) (by omega)) rfl ?_
 refine tri_v (opv_mul rfl rfl (w64 (by omega) (by omega))) rfl ?_
 refine tM rfl rfl ?_
 refine tri_v (opv_quoE rfl rfl (by omega) (by omega) (by omega)) rfl ?_
 refine yU rfl rfl ?_
 refine tri_v (opv_mul rfl rfl (w64 (by omega) (by omega))) rfl ?_
 refine tM rfl rfl ?_
 refine tri_v (opv_remE rfl rfl (by omega) (by omega)) rfl ?_
 refine tri_v (opv_mul rfl rfl (w64 (by omega) (by omega))) rfl ?_
 refine yU rfl rfl ?_
 refine tM rfl rfl ?_
 refine tri_v (opv_remE rfl rfl (by omega) (by omega)) rfl ?_
 refine yU rfl rfl ?_
 refine tM rfl rfl ?_
 refine tri_v (opv_indexAddrA rfl rfl (by decide) (by decide)) rfl ?_
 refine yG rfl rfl rfl rfl rfl rfl ?_
 rintro _ _ _ ⟨rfl, rfl⟩
 refine tN (tri_inBlock (tT (tR ?_)))
 refine yU rfl rfl ?_
 refine tM rfl rfl (tN (tT (tri_round (tS (tR (yC rfl rfl (tN ?_)))))))
 refine tT (tS ?_)
 refine tri_cond_not rfl (by decide) ?_
 refine tri_exit ?_
 refine tri_then_exit (tri_then_exit ?_)
 refine tri_inBlock_hit rfl ?_
 refine tri_inBlock (tT (tR ?_))
 refine yU rfl rfl ?_
 refine tM rfl rfl (tN (tT (tri_round (tS (tR (yC rfl rfl (tN ?_)))))))
 refine tT (tS ?_)
 refine tri_cond_not rfl (by decide) ?_
 refine tri_exit ?_
 refine tri_then_exit (tri_then_exit ?_)
 refine tri_inBlock_hit rfl ?_
 refine tT (tS (tR ?_))
 refine yB rfl rfl ?_
 refine yG rfl rfl rfl rfl rfl rfl ?_
 rintro _ _ _ ⟨rfl, rfl⟩
 refine tN (tT (tri_ret ?_))
 refine tri_end _ (⟨[_, _], rfl⟩) rfl (.cons (rv_cellA rfl rfl rfl) .nil) ⟨rfl, rfl, rfl⟩
end Go.GL


namespace Go.GL
open Go.Proofs
attribute [local irreducible] wpList Code.wp Exit.then Exit.inBlock Ends Tri TriH OpV OpG FnC epf wpAnyH
variable {A : List Asrt} {I : List Chunk}
/-- What a function on an index tells and leaves behind. -/
def IxR (bx mb : Nat) (r : List Node × Int × Int) (room : Int) (A : List Asrt) (I : List Chunk) : Value → List Asrt → List Chunk → Prop :=
 fun v A' I' => ∃ a' cap' es', v = .tuple [.int .i64 r.2.1, .int .i64 r.2.2].toArray ∧ A' = IxA bx mb a' cap' r.1 room es' A ∧ Idx r.1 es' ∧ I = I'
theorem node_putR {A : List Asrt} {I : List Chunk} {ns : List Node} {a : Option Addr} {cap bx mb : Nat} {room q0 q1 q2 q3 : Int} {es : KVs} {r : List Node × Int × Int} (hg : R6.Good ns room) (h2 : 2 ≤ ns.length) (hi : Idx ns es) (hr : R6.put ns room q0 q1 q2 q3 = r) :
  FnC Try.prog 87 [pt bx 0, int4V q0 q1 q2 q3].toArray (IxA bx mb a cap ns room es A) I (IxR bx mb r room A I) := by
 subst hr
 exact node_put hg h2 hi
theorem R6.put_len {ns : List Node} {room q0 q1 q2 q3 : Int} (h : 2 ≤ ns.length) : 2 ≤ (R6.put ns room q0 q1 q2 q3).1.length := by
 unfold R6.put
 split
 ·split
  ·exact h
  ·split
   ·exact h
   ·simp only [List.length_append]; omega
 ·exact h
end Go.GL


namespace Go.GL
open Go.Proofs
attribute [local irreducible] wpList Code.wp Exit.then Exit.inBlock Ends Tri TriH OpV OpG FnC epf wpAnyH
variable {A : List Asrt} {I : List Chunk}
set_option maxRecDepth 100000 in
theorem maker_centre {ns : List Node} {a : Option Addr} {cap bx mb : Nat} {room n : Int} {es : KVs} (hg : R6.Good ns room) (h2 : 2 ≤ ns.length) (hi : Idx ns es) (hk : R8.Kid ns n) :
  FnC Try.prog 73 [.agg [pt bx 0].toArray, .int .i64 n].toArray (IxA bx mb a cap ns room es A) I (IxR bx mb (R8.putSq ns room (R8.s16 ns n) 1 1) room A I) := by
 skip
 refine fn_enter2 Try.func73 rfl Try.ntmps73 rfl fun w0 => ?_
 refine tS (tR ?_)
 refine tri_g (opg_box_agg rfl) rfl ?_
 rintro _ _ _ ⟨b2, rfl, rfl, rfl⟩
 refine tA rfl rfl (tA rfl rfl (tN (tT (tS ?_))))
 refine tri_perm (A := ?a1_0 :: ?a1_1 :: ?a1_2 :: ?a1_3 :: ?T1) (B := ?a1_1 :: ?a1_2 :: ?a1_3 :: ?a1_0 :: ?T1) (by exact permL [1, 2, 3, 0] [?a1_0, ?a1_1, ?a1_2, ?a1_3] ?T1 (by decide) rfl) ?_
 skip
 refine tri_draw [0, 1, 2, 3, 4, 5, 6, 7, 8, 9, 10] rfl [_, _, _] rfl mixed ?_
 refine yf rfl rfl ?_
 refine yl rfl rfl rfl ?_
 refine th_take rfl rfl (by kernel_rfl)  (opv_loadA rfl rfl rfl) ?_
 refine yM rfl rfl ?_
 refine th_one (by kernel_rfl) (step_m rfl rfl (opg_call (xs := [_, _]) rfl (base_sixteen hk)) ?_)
 rintro _ _ _ ⟨rfl, rfl, rfl⟩
 refine ⟨Suf.h, (fun _ h => h), ?_⟩
 skip
 refine th_one (by kernel_rfl) (step_m rfl rfl (opg_call (xs := [_, _, _]) rfl (base_square (R8.s16_len ns n) (by omega) (by omega) (by omega) (by omega))) ?_)
 rintro _ _ _ ⟨rfl, rfl, rfl⟩
 refine ⟨Suf.h, (fun _ h => h), ?_⟩
 skip
 refine th_one (by kernel_rfl) (step_m rfl rfl (opg_call (xs := [_, _]) rfl (node_putR (r := R8.putSq ns room (R8.s16 ns n) 1 1) hg h2 hi rfl)) ?_)
 rintro _ _ _ ⟨a1, c1, es1, rfl, rfl, hi1, rfl⟩
 refine ⟨Suf.h, (fun _ h => h), ?_⟩
 refine yE rfl rfl rfl (yE rfl rfl rfl (yA rfl rfl (yA rfl rfl (yD (tT (tri_ret ?_))))))
 refine tri_perm (A := ?a2_0 :: ?a2_1 :: ?a2_2 :: ?a2_3 :: ?T2) (B := ?a2_3 :: ?a2_0 :: ?a2_1 :: ?a2_2 :: ?T2) (by exact permL [3, 0, 1, 2] [?a2_0, ?a2_1, ?a2_2, ?a2_3] ?T2 (by decide) rfl) ?_
 refine tri_end (IxA bx mb a1 c1 (R8.putSq ns room (R8.s16 ns n) 1 1).1 room es1 A) Suf.h rfl (.cons (rv_tmp rfl) (.cons (rv_tmp rfl) .nil)) ⟨a1, c1, es1, rfl, rfl, hi1, rfl⟩
theorem R8.ar_eq (l : List Int) : R8.ar l 5 = R8.about l 1 1 9 ∧ R8.ar l 6 = R8.about l 1 2 9 ∧ R8.ar l 9 = R8.about l 2 1 9 ∧ R8.ar l 10 = R8.about l 2 2 9 := by
 refine ⟨?_, ?_, ?_, ?_⟩ <;> simp [R8.about, R8.ar] <;> omega
theorem R8.bit_ar (l : List Int) : R8.bit l 1 1 = (if R2.lives (decide (R8.g l 5 = 1)) (R8.ar l 5) = true then 1 else 0) ∧ R8.bit l 1 2 = (if R2.lives (decide (R8.g l 6 = 1)) (R8.ar l 6) = true then 1 else 0) ∧ R8.bit l 2 1 = (if R2.lives (decide (R8.g l 9 = 1)) (R8.ar l 9) = true then 1 else 0) ∧ R8.bit l 2 2 = (if R2.lives (decide (R8.g l 10 = 1)) (R8.ar l 10) = true then 1 else 0) := by
 obtain ⟨h1, h2, h3, h4⟩ := R8.ar_eq l
 rw [h1, h2, h3, h4]
 exact ⟨rfl, rfl, rfl, rfl⟩
set_option maxHeartbeats 2000000 in
set_option maxRecDepth 100000 in
theorem maker_step {ns : List Node} {a : Option Addr} {cap bx mb : Nat} {room n : Int} {es : KVs} (hg : R6.Good ns room) (h2 : 2 ≤ ns.length) (hi : Idx ns es) (hk : R8.Kid ns n) (hb : ∀ i, 0 ≤ R8.g (R8.s16 ns n) i ∧ R8.g (R8.s16 ns n) i ≤ 1) :
  FnC Try.prog 68 [.agg [pt bx 0].toArray, .int .i64 n].toArray (IxA bx mb a cap ns room es A) I (IxR bx mb (R8.one ns room n) room A I) := by
 have hlen := R8.s16_len ns n
 obtain ⟨hb0, hb1, hb2, hb3⟩ := R8.bit_ar (R8.s16 ns n)
 skip
 refine fn_enter2 Try.func68 rfl Try.ntmps68 rfl fun w0 => ?_
 refine tS (tR ?_)
 refine tri_g (opg_box_agg rfl) rfl ?_
 rintro _ _ _ ⟨b2, rfl, rfl, rfl⟩
 refine tA rfl rfl (tA rfl rfl (tN (tT (tS ?_))))
 refine tri_perm (A := ?a3_0 :: ?a3_1 :: ?a3_2 :: ?T3) (B := ?a3_1 :: ?a3_2 :: ?a3_0 :: ?T3) (by exact permL [1, 2, 0] [?a3_0, ?a3_1, ?a3_2] ?T3 (by decide) rfl) ?_
 refine tR ?_
 refine yB rfl rfl ?_
 refine tM rfl rfl ?_
 refine tri_g (opg_call (xs := [_, _]) rfl (base_sixteen hk)) rfl ?_
 rintro _ _ _ ⟨rfl, rfl, rfl⟩
 refine tri_g opg_alloc rfl ?_
 rintro _ _ _ ⟨b6, rfl, rfl, rfl⟩
 refine yG rfl rfl rfl rfl rfl rfl ?_
 rintro _ _ _ ⟨rfl, rfl⟩
 refine tN (tT (tS (tR ?_)))
 refine tri_g opg_alloc rfl ?_
 rintro _ _ _ ⟨b7, rfl, rfl, rfl⟩
 refine tN (tT (tS (tS (tR (tM rfl rfl (tN (tT ?_)))))))
 refine tri_block ?_
 refine tri_rounds 5 ?_
 refine tri_round (tS (tR (yC rfl rfl (tN (tT (tS ?_))))))
 refine tri_cond_is rfl (by decide) ?_
 refine tri_skip (tT (tS (tri_block (tS (tR (tM rfl rfl (tA rfl rfl ?_)))))))
 refine tN (tT (tS (tR (tM rfl rfl ?_))))
 refine tri_v (opv_quoE rfl rfl (by omega) (by omega) (by omega)) rfl ?_
 refine yU rfl rfl ?_
 refine tri_v (opv_mul rfl rfl (w64 (by omega) (by omega))) rfl ?_
 refine yU rfl rfl ?_
 refine tM rfl rfl ?_
 refine tri_v (opv_remE rfl rfl (by omega) (by omega)) rfl ?_
 refine yU rfl rfl ?_
 refine tA rfl rfl (tN (tT (tS ?_)))
 refine tri_draw [0, 1, 2, 3, 4, 5, 6, 7] rfl [] rfl mixed ?_
 refine yM rfl rfl ?_
 refine th_take rfl rfl (by kernel_rfl)  (opv_indexAddrA rfl rfl (by decide) (by decide)) ?_
 refine yl rfl rfl rfl ?_
 refine th_take rfl rfl (by kernel_rfl)  (opv_eql rfl rfl) ?_
 refine th_take rfl rfl (by kernel_rfl)  (opv_loadA rfl rfl rfl) ?_
 refine yM rfl rfl ?_
 refine th_one (by kernel_rfl) (step_m rfl rfl (opg_call (xs := [_, _]) rfl (base_around (i := 5) hlen hb (by omega) (by omega))) ?_)
 rintro _ _ _ ⟨rfl, rfl, rfl⟩
 refine ⟨Suf.h, (fun _ h => h), ?_⟩
 skip
 refine th_one (by kernel_rfl) (step_m rfl rfl (opg_call (xs := [_, _]) rfl (life_lives)) ?_)
 rintro _ _ _ ⟨rfl, rfl, rfl⟩
 refine ⟨Suf.h, (fun _ h => h), ?_⟩
 refine yD (tT ?_)
 refine tri_cut (fun F' A' J => F' = [(1, .int .i64 n), (2, pt b2 0), (6, pt b6 0), (7, pt b7 0), (8, .int .i64 0), (13, .int .i64 0)] ∧ A' = Box b7 [.int .i64 (R8.bit (R8.s16 ns n) 1 1), .int .i64 (0), .int .i64 (0), .int .i64 (0)] 33 :: Box b6 (ints (R8.s16 ns n)) 114 :: Box bx [.slice a ns.length cap, .int .i64 room, .map (some mb)] 99 :: Row a cap ns.length 35 6 (encs ns) :: Box b2 [pt bx 0] 93 :: MapA Try.prog 33 mb es :: A ∧ I = J) ?_ ?_
 ·refine tri_cond rfl (fun hv => ?_) (fun hv => ?_)
  ·refine tR (tM rfl rfl ?_)
   refine tri_v (opv_indexAddrA rfl rfl (by decide) (by decide)) rfl ?_
   refine yG rfl rfl rfl rfl rfl rfl ?_
   rintro _ _ _ ⟨rfl, rfl⟩
   refine tN ?_
   have hv' : R2.lives (decide (R8.g (R8.s16 ns n) 5 = 1)) (R8.ar (R8.s16 ns n) 5) = true := hv
   exact tri_cutEnd _ ⟨rfl, by rw [hb0, if_pos hv'] <;> rfl, rfl⟩ ⟨rfl, rfl, rfl, rfl, rfl, rfl, trivial⟩
  ·refine tri_skip ?_
   have hv' : ¬ R2.lives (decide (R8.g (R8.s16 ns n) 5 = 1)) (R8.ar (R8.s16 ns n) 5) = true := fun h => Bool.false_ne_true (hv.symm.trans h)
   exact tri_cutEnd _ ⟨rfl, by rw [hb0, if_neg hv'] <;> rfl, rfl⟩ ⟨rfl, rfl, rfl, rfl, rfl, rfl, trivial⟩
 rintro _ _ _ ⟨rfl, rfl, rfl⟩
 skip
 refine tri_inBlock (tT (tR ?_))
 refine yU rfl rfl ?_
 refine tM rfl rfl (tN (tT (tri_round (tS (tR (yC rfl rfl (tN ?_)))))))
 refine tT (tS ?_)
 skip
 refine tri_cond_is rfl (by decide) ?_
 refine tri_skip (tT (tS (tri_block (tS (tR (tM rfl rfl (tA rfl rfl ?_)))))))
 refine tN (tT (tS (tR (tM rfl rfl ?_))))
 refine tri_v (opv_quoE rfl rfl (by omega) (by omega) (by omega)) rfl ?_
 refine yU rfl rfl ?_
 refine tri_v (opv_mul rfl rfl (w64 (by omega) (by omega))) rfl ?_
 refine yU rfl rfl ?_
 refine tM rfl rfl ?_
 refine tri_v (opv_remE rfl rfl (by omega) (by omega)) rfl ?_
 refine yU rfl rfl ?_
 refine tA rfl rfl (tN (tT (tS ?_)))
 refine tri_draw [0, 1, 2, 3, 4, 5, 6, 7] rfl [] rfl mixed ?_
 refine yM rfl rfl ?_
 refine th_take rfl rfl (by kernel_rfl)  (opv_indexAddrA rfl rfl (by decide) (by decide)) ?_
 refine yl rfl rfl rfl ?_
 refine th_take rfl rfl (by kernel_rfl)  (opv_eql rfl rfl) ?_
 refine th_take rfl rfl (by kernel_rfl)  (opv_loadA rfl rfl rfl) ?_
 refine yM rfl rfl ?_
 refine th_one (by kernel_rfl) (step_m rfl rfl (opg_call (xs := [_, _]) rfl (base_around (i := 6) hlen hb (by omega) (by omega))) ?_)
 rintro _ _ _ ⟨rfl, rfl, rfl⟩
 refine ⟨Suf.h, (fun _ h => h), ?_⟩
 skip
 refine th_one (by kernel_rfl) (step_m rfl rfl (opg_call (xs := [_, _]) rfl (life_lives)) ?_)
 rintro _ _ _ ⟨rfl, rfl, rfl⟩
 refine ⟨Suf.h, (fun _ h => h), ?_⟩
 refine yD (tT ?_)
 refine tri_cut (fun F' A' J => F' = [(1, .int .i64 n), (2, pt b2 0), (6, pt b6 0), (7, pt b7 0), (8, .int .i64 1), (13, .int .i64 1)] ∧ A' = Box b7 [.int .i64 (R8.bit (R8.s16 ns n) 1 1), .int .i64 (R8.bit (R8.s16 ns n) 1 2), .int .i64 (0), .int .i64 (0)] 33 :: Box b6 (ints (R8.s16 ns n)) 114 :: Box bx [.slice a ns.length cap, .int .i64 room, .map (some mb)] 99 :: Row a cap ns.length 35 6 (encs ns) :: Box b2 [pt bx 0] 93 :: MapA Try.prog 33 mb es :: A ∧ I = J) ?_ ?_
 ·refine tri_cond rfl (fun hv => ?_) (fun hv => ?_)
  ·refine tR (tM rfl rfl ?_)
   refine tri_v (opv_indexAddrA rfl rfl (by decide) (by decide)) rfl ?_
   refine yG rfl rfl rfl rfl rfl rfl ?_
   rintro _ _ _ ⟨rfl, rfl⟩
   refine tN ?_
   have hv' : R2.lives (decide (R8.g (R8.s16 ns n) 6 = 1)) (R8.ar (R8.s16 ns n) 6) = true := hv
   exact tri_cutEnd _ ⟨rfl, by rw [hb1, if_pos hv'] <;> rfl, rfl⟩ ⟨rfl, rfl, rfl, rfl, rfl, rfl, trivial⟩
  ·refine tri_skip ?_
   have hv' : ¬ R2.lives (decide (R8.g (R8.s16 ns n) 6 = 1)) (R8.ar (R8.s16 ns n) 6) = true := fun h => Bool.false_ne_true (hv.symm.trans h)
   exact tri_cutEnd _ ⟨rfl, by rw [hb1, if_neg hv'] <;> rfl, rfl⟩ ⟨rfl, rfl, rfl, rfl, rfl, rfl, trivial⟩
 rintro _ _ _ ⟨rfl, rfl, rfl⟩
 skip
 refine tri_inBlock (tT (tR ?_))
 refine yU rfl rfl ?_
 refine tM rfl rfl (tN (tT (tri_round (tS (tR (yC rfl rfl (tN ?_)))))))
 refine tT (tS ?_)
 skip
 refine tri_cond_is rfl (by decide) ?_
 refine tri_skip (tT (tS (tri_block (tS (tR (tM rfl rfl (tA rfl rfl ?_)))))))
 refine tN (tT (tS (tR (tM rfl rfl ?_))))
 refine tri_v (opv_quoE rfl rfl (by omega) (by omega) (by omega)) rfl ?_
 refine yU rfl rfl ?_
 refine tri_v (opv_mul rfl rfl (w64 (by omega) (by omega))) rfl ?_
 refine yU rfl rfl ?_
 refine tM rfl rfl ?_
 refine tri_v (opv_remE rfl rfl (by omega) (by omega)) rfl ?_
 refine yU rfl rfl ?_
 refine tA rfl rfl (tN (tT (tS ?_)))
 refine tri_draw [0, 1, 2, 3, 4, 5, 6, 7] rfl [] rfl mixed ?_
 refine yM rfl rfl ?_
 refine th_take rfl rfl (by kernel_rfl)  (opv_indexAddrA rfl rfl (by decide) (by decide)) ?_
 refine yl rfl rfl rfl ?_
 refine th_take rfl rfl (by kernel_rfl)  (opv_eql rfl rfl) ?_
 refine th_take rfl rfl (by kernel_rfl)  (opv_loadA rfl rfl rfl) ?_
 refine yM rfl rfl ?_
 refine th_one (by kernel_rfl) (step_m rfl rfl (opg_call (xs := [_, _]) rfl (base_around (i := 9) hlen hb (by omega) (by omega))) ?_)
 rintro _ _ _ ⟨rfl, rfl, rfl⟩
 refine ⟨Suf.h, (fun _ h => h), ?_⟩
 skip
 refine th_one (by kernel_rfl) (step_m rfl rfl (opg_call (xs := [_, _]) rfl (life_lives)) ?_)
 rintro _ _ _ ⟨rfl, rfl, rfl⟩
 refine ⟨Suf.h, (fun _ h => h), ?_⟩
 refine yD (tT ?_)
 refine tri_cut (fun F' A' J => F' = [(1, .int .i64 n), (2, pt b2 0), (6, pt b6 0), (7, pt b7 0), (8, .int .i64 2), (13, .int .i64 2)] ∧ A' = Box b7 [.int .i64 (R8.bit (R8.s16 ns n) 1 1), .int .i64 (R8.bit (R8.s16 ns n) 1 2), .int .i64 (R8.bit (R8.s16 ns n) 2 1), .int .i64 (0)] 33 :: Box b6 (ints (R8.s16 ns n)) 114 :: Box bx [.slice a ns.length cap, .int .i64 room, .map (some mb)] 99 :: Row a cap ns.length 35 6 (encs ns) :: Box b2 [pt bx 0] 93 :: MapA Try.prog 33 mb es :: A ∧ I = J) ?_ ?_
 ·refine tri_cond rfl (fun hv => ?_) (fun hv => ?_)
  ·refine tR (tM rfl rfl ?_)
   refine tri_v (opv_indexAddrA rfl rfl (by decide) (by decide)) rfl ?_
   refine yG rfl rfl rfl rfl rfl rfl ?_
   rintro _ _ _ ⟨rfl, rfl⟩
   refine tN ?_
   have hv' : R2.lives (decide (R8.g (R8.s16 ns n) 9 = 1)) (R8.ar (R8.s16 ns n) 9) = true := hv
   exact tri_cutEnd _ ⟨rfl, by rw [hb2, if_pos hv'] <;> rfl, rfl⟩ ⟨rfl, rfl, rfl, rfl, rfl, rfl, trivial⟩
  ·refine tri_skip ?_
   have hv' : ¬ R2.lives (decide (R8.g (R8.s16 ns n) 9 = 1)) (R8.ar (R8.s16 ns n) 9) = true := fun h => Bool.false_ne_true (hv.symm.trans h)
   exact tri_cutEnd _ ⟨rfl, by rw [hb2, if_neg hv'] <;> rfl, rfl⟩ ⟨rfl, rfl, rfl, rfl, rfl, rfl, trivial⟩
 rintro _ _ _ ⟨rfl, rfl, rfl⟩
 skip
 refine tri_inBlock (tT (tR ?_))
 refine yU rfl rfl ?_
 refine tM rfl rfl (tN (tT (tri_round (tS (tR (yC rfl rfl (tN ?_)))))))
 refine tT (tS ?_)
 skip
 refine tri_cond_is rfl (by decide) ?_
 refine tri_skip (tT (tS (tri_block (tS (tR (tM rfl rfl (tA rfl rfl ?_)))))))
 refine tN (tT (tS (tR (tM rfl rfl ?_))))
 refine tri_v (opv_quoE rfl rfl (by omega) (by omega) (by omega)) rfl ?_
 refine yU rfl rfl ?_
 refine tri_v (opv_mul rfl rfl (w64 (by omega) (by omega))) rfl ?_
 refine yU rfl rfl ?_
 refine tM rfl rfl ?_
 refine tri_v (opv_remE rfl rfl (by omega) (by omega)) rfl ?_
 refine yU rfl rfl ?_
 refine tA rfl rfl (tN (tT (tS ?_)))
 refine tri_draw [0, 1, 2, 3, 4, 5, 6, 7] rfl [] rfl mixed ?_
 refine yM rfl rfl ?_
 refine th_take rfl rfl (by kernel_rfl)  (opv_indexAddrA rfl rfl (by decide) (by decide)) ?_
 refine yl rfl rfl rfl ?_
 refine th_take rfl rfl (by kernel_rfl)  (opv_eql rfl rfl) ?_
 refine th_take rfl rfl (by kernel_rfl)  (opv_loadA rfl rfl rfl) ?_
 refine yM rfl rfl ?_
 refine th_one (by kernel_rfl) (step_m rfl rfl (opg_call (xs := [_, _]) rfl (base_around (i := 10) hlen hb (by omega) (by omega))) ?_)
 rintro _ _ _ ⟨rfl, rfl, rfl⟩
 refine ⟨Suf.h, (fun _ h => h), ?_⟩
 skip
 refine th_one (by kernel_rfl) (step_m rfl rfl (opg_call (xs := [_, _]) rfl (life_lives)) ?_)
 rintro _ _ _ ⟨rfl, rfl, rfl⟩
 refine ⟨Suf.h, (fun _ h => h), ?_⟩
 refine yD (tT ?_)
 refine tri_cut (fun F' A' J => F' = [(1, .int .i64 n), (2, pt b2 0), (6, pt b6 0), (7, pt b7 0), (8, .int .i64 3), (13, .int .i64 3)] ∧ A' = Box b7 [.int .i64 (R8.bit (R8.s16 ns n) 1 1), .int .i64 (R8.bit (R8.s16 ns n) 1 2), .int .i64 (R8.bit (R8.s16 ns n) 2 1), .int .i64 (R8.bit (R8.s16 ns n) 2 2)] 33 :: Box b6 (ints (R8.s16 ns n)) 114 :: Box bx [.slice a ns.length cap, .int .i64 room, .map (some mb)] 99 :: Row a cap ns.length 35 6 (encs ns) :: Box b2 [pt bx 0] 93 :: MapA Try.prog 33 mb es :: A ∧ I = J) ?_ ?_
 ·refine tri_cond rfl (fun hv => ?_) (fun hv => ?_)
  ·refine tR (tM rfl rfl ?_)
   refine tri_v (opv_indexAddrA rfl rfl (by decide) (by decide)) rfl ?_
   refine yG rfl rfl rfl rfl rfl rfl ?_
   rintro _ _ _ ⟨rfl, rfl⟩
   refine tN ?_
   have hv' : R2.lives (decide (R8.g (R8.s16 ns n) 10 = 1)) (R8.ar (R8.s16 ns n) 10) = true := hv
   exact tri_cutEnd _ ⟨rfl, by rw [hb3, if_pos hv'] <;> rfl, rfl⟩ ⟨rfl, rfl, rfl, rfl, rfl, rfl, trivial⟩
  ·refine tri_skip ?_
   have hv' : ¬ R2.lives (decide (R8.g (R8.s16 ns n) 10 = 1)) (R8.ar (R8.s16 ns n) 10) = true := fun h => Bool.false_ne_true (hv.symm.trans h)
   exact tri_cutEnd _ ⟨rfl, by rw [hb3, if_neg hv'] <;> rfl, rfl⟩ ⟨rfl, rfl, rfl, rfl, rfl, rfl, trivial⟩
 rintro _ _ _ ⟨rfl, rfl, rfl⟩
 skip
 refine tri_inBlock (tT (tR ?_))
 refine yU rfl rfl ?_
 refine tM rfl rfl (tN (tT (tri_round (tS (tR (yC rfl rfl (tN ?_)))))))
 refine tT (tS ?_)
 refine tri_cond_not rfl (by decide) ?_
 refine tri_exit ?_
 refine tri_then_exit (tri_then_exit ?_)
 refine tri_inBlock_hit rfl ?_
 refine tT (tS ?_)
 refine tri_perm (A := ?a4_0 :: ?a4_1 :: ?a4_2 :: ?a4_3 :: ?a4_4 :: ?a4_5 :: ?T4) (B := ?a4_2 :: ?a4_3 :: ?a4_5 :: ?a4_0 :: ?a4_1 :: ?a4_4 :: ?T4) (by exact permL [2, 3, 5, 0, 1, 4] [?a4_0, ?a4_1, ?a4_2, ?a4_3, ?a4_4, ?a4_5] ?T4 (by decide) rfl) ?_
 refine tR (yF rfl ?_)
 refine yL rfl rfl ?_
 refine yB rfl rfl ?_
 refine tri_g (opg_call (xs := [_, _]) rfl (node_putR (r := R8.one ns room n) hg h2 hi rfl)) rfl ?_
 rintro _ _ _ ⟨a1, c1, es1, rfl, rfl, hi1, rfl⟩
 refine tri_v (opv_extract rfl rfl) rfl ?_
 refine tri_v (opv_extract rfl rfl) rfl ?_
 refine tA rfl rfl (tA rfl rfl (tN (tT (tri_ret ?_))))
 refine tri_perm (A := ?a5_0 :: ?a5_1 :: ?a5_2 :: ?a5_3 :: ?a5_4 :: ?a5_5 :: ?T5) (B := ?a5_3 :: ?a5_4 :: ?a5_5 :: ?a5_0 :: ?a5_1 :: ?a5_2 :: ?T5) (by exact permL [3, 4, 5, 0, 1, 2] [?a5_0, ?a5_1, ?a5_2, ?a5_3, ?a5_4, ?a5_5] ?T5 (by decide) rfl) ?_
 refine tri_end (IxA bx mb a1 c1 (R8.one ns room n).1 room es1 A) Suf.h rfl (.cons (rv_tmp rfl) (.cons (rv_tmp rfl) .nil)) ⟨a1, c1, es1, rfl, rfl, hi1, rfl⟩
end Go.GL


namespace Go.GL
open Go.Proofs
attribute [local irreducible] wpList Code.wp Exit.then Exit.inBlock Ends Tri TriH OpV OpG FnC epf wpAnyH
def BaseOfR (ns : List Node) (room n lv : Int) (A : List Asrt) (I : List Chunk) : Value → List Asrt → List Chunk → Prop := fun v A' I' =>
 (R8.may ns room n lv ∧ ∃ bx mb a' cap' es, v = .tuple [.agg [pt bx 0].toArray, .bool true].toArray ∧ A' = IxA bx mb a' cap' ns room es A ∧ Idx ns es ∧ I = I') ∨ (¬ R8.may ns room n lv ∧ ∃ p, v = .tuple [.agg [.pointer p].toArray, .bool false].toArray ∧ A = A' ∧ I = I')
set_option maxHeartbeats 1000000 in
set_option maxRecDepth 100000 in
theorem base_of {A : List Asrt} {I : List Chunk} {ns : List Node} {a : Option Addr} {cap : Nat} {room n lv : Int} (hs : StA I a cap ns) (hn : ns.length ≤ 1000000000) :
  FnC Try.prog 83 [storeV a ns.length cap room, .int .i64 n, .int .i64 lv].toArray A I (BaseOfR ns room n lv A I) := by
 have hsl := hs.sl
 skip
 refine fn_enter3 Try.func83 rfl Try.ntmps83 rfl fun w0 => ?_
 refine tS (tR ?_)
 refine tri_g (opg_box_agg rfl) rfl ?_
 rintro _ _ _ ⟨b3, rfl, rfl, rfl⟩
 refine tri_g opg_alloc rfl ?_
 rintro _ _ _ ⟨b6, rfl, rfl, rfl⟩
 refine tA rfl rfl (tN (tT (tS (tR ?_))))
 refine yB rfl rfl ?_
 refine tri_g (opg_call (xs := [_]) rfl (node_of hs hn)) rfl ?_
 rintro v A1 I1 hR
 rcases hR with ⟨hr, bx, mb, a1, c1, es, rfl, rfl, hix, rfl⟩ | ⟨hr, rfl, rfl, rfl⟩
 ·refine tM rfl rfl ?_
  refine tri_v (opv_extract rfl rfl) rfl ?_
  refine tri_v (opv_extract rfl rfl) rfl ?_
  refine tA rfl rfl (tA rfl rfl (tN (tT (tS ?_))))
  refine tri_perm (A := ?a1_0 :: ?a1_1 :: ?a1_2 :: ?a1_3 :: ?T1) (B := ?a1_3 :: ?a1_0 :: ?a1_1 :: ?a1_2 :: ?T1) (by exact permL [3, 0, 1, 2] [?a1_0, ?a1_1, ?a1_2, ?a1_3] ?T1 (by decide) rfl) ?_
  skip
  refine tri_draw [0, 1, 2, 3, 4, 5, 6, 7, 8, 9, 10, 11, 12, 13, 14, 15, 16, 17, 18, 19, 20, 21, 22, 23, 24, 25] rfl [_] rfl mixed ?_
  refine yM rfl rfl ?_
  refine th_take rfl rfl (by kernel_rfl)  (opv_buildS rfl rfl) ?_
  refine yM rfl rfl (yM rfl rfl ?_)
  skip
  refine th_take_g rfl rfl rfl rfl rfl (by kernel_rfl)  (opv_move rfl) ?_
  refine th_take_g rfl rfl rfl rfl rfl (by kernel_rfl)  (opv_geq rfl rfl) ?_
  refine th_take rfl rfl (by kernel_rfl)  (opv_pick_t rfl rfl) ?_
  refine yM rfl rfl ?_
  refine th_split rfl rfl rfl (fun h1 => ?_) (fun h1 => ?_)
  ·refine th_take_g rfl rfl rfl rfl rfl (by kernel_rfl)  (opv_move rfl) ?_
   refine th_take_g rfl rfl rfl rfl rfl (by kernel_rfl)  (opv_fieldAddr rfl rfl) ?_
   refine th_take_g rfl rfl rfl rfl rfl (by kernel_rfl)  (opv_load1 rfl rfl rfl) ?_
   refine th_take_g rfl rfl rfl rfl rfl (by kernel_rfl)  (opv_len rfl) ?_
   refine th_take_g rfl rfl rfl rfl rfl (by kernel_rfl)  (opv_lss rfl rfl) ?_
   refine th_take rfl rfl (by kernel_rfl)  (opv_pick_t rfl rfl) ?_
   refine yM rfl rfl ?_
   refine th_split rfl rfl rfl (fun h2 => ?_) (fun h2 => ?_)
   ·refine th_take_g rfl rfl rfl rfl rfl (by kernel_rfl)  (opv_fieldAddr rfl rfl) ?_
    refine th_take_g rfl rfl rfl rfl rfl (by kernel_rfl)  (opv_load1 rfl rfl rfl) ?_
    refine th_take_g rfl rfl rfl rfl rfl (by kernel_rfl)  (opv_move rfl) ?_
    refine th_take_g rfl rfl rfl rfl rfl (by kernel_rfl)  (opv_indexAddrS rfl rfl (by omega) (by omega) (by assumption) rfl) ?_
    refine th_take_g rfl rfl rfl rfl rfl (by kernel_rfl)  (opv_fieldAddrE rfl (by assumption) (by omega) rfl) ?_
    refine th_take_g rfl rfl rfl rfl rfl (by kernel_rfl)  (opv_loadE1 rfl (by assumption) rfl (by omega) rfl rfl) ?_
    refine th_take_g rfl rfl rfl rfl rfl (by kernel_rfl)  (opv_move rfl) ?_
    refine th_take_g rfl rfl rfl rfl rfl (by kernel_rfl)  (opv_geq rfl rfl) ?_
    refine th_take rfl rfl (by kernel_rfl)  (opv_pick_t rfl rfl) ?_
    refine th_one (by kernel_rfl) (step_m rfl rfl (opg_store rfl rfl rfl rfl rfl rfl) ?_)
    rintro _ _ _ ⟨rfl, rfl⟩
    refine ⟨Suf.h, (fun _ h => h), ?_⟩
    refine yA rfl rfl (yD (tT (tri_ret ?_)))
    refine tri_perm (A := ?a2_0 :: ?a2_1 :: ?a2_2 :: ?a2_3 :: ?a2_4 :: ?T2) (B := ?a2_0 :: ?a2_4 :: ?a2_1 :: ?a2_2 :: ?a2_3 :: ?T2) (by exact permL [0, 4, 1, 2, 3] [?a2_0, ?a2_1, ?a2_2, ?a2_3, ?a2_4] ?T2 (by decide) rfl) ?_
    by_cases h3 : lv ≤ (ns.getD n.toNat default).lv
    ·rw [decide_eq_true h3]
     refine tri_end _ (⟨[_, _], rfl⟩) rfl (.cons (rv_cellA rfl rfl rfl) (.cons (rv_tmp rfl) .nil)) (.inl ⟨⟨hr, ⟨h1, h2⟩, h3⟩, bx, mb, a1, c1, es, rfl, rfl, hix, rfl⟩)
    ·rw [decide_eq_false h3]
     refine tri_end A Suf.h rfl (.cons (rv_cellA rfl rfl rfl) (.cons (rv_tmp rfl) .nil)) (.inr ⟨fun h => h3 h.2.2, _, rfl, rfl, rfl⟩)
   ·refine yS rfl rfl rfl (yS rfl rfl rfl (yS rfl rfl rfl (yS rfl rfl rfl (yS rfl rfl rfl (yS rfl rfl rfl (yS rfl rfl rfl (yS rfl rfl rfl ?_)))))))
    refine th_take rfl rfl (by kernel_rfl)  (opv_pick_f rfl rfl) ?_
    refine th_one (by kernel_rfl) (step_m rfl rfl (opg_store rfl rfl rfl rfl rfl rfl) ?_)
    rintro _ _ _ ⟨rfl, rfl⟩
    refine ⟨Suf.h, (fun _ h => h), ?_⟩
    refine yA rfl rfl (yD (tT (tri_ret ?_)))
    refine tri_end A Suf.h rfl (.cons (rv_cellA rfl rfl rfl) (.cons (rv_tmp rfl) .nil)) (.inr ⟨fun h => h2 h.2.1.2, _, rfl, rfl, rfl⟩)
  ·refine yS rfl rfl rfl (yS rfl rfl rfl (yS rfl rfl rfl (yS rfl rfl rfl (yS rfl rfl rfl ?_))))
   refine th_take rfl rfl (by kernel_rfl)  (opv_pick_f rfl rfl) ?_
   refine yM rfl rfl (yS rfl rfl rfl (yS rfl rfl rfl (yS rfl rfl rfl (yS rfl rfl rfl (yS rfl rfl rfl (yS rfl rfl rfl (yS rfl rfl rfl ?_)))))))
   refine yS rfl rfl rfl ?_
   refine th_take rfl rfl (by kernel_rfl)  (opv_pick_f rfl rfl) ?_
   refine th_one (by kernel_rfl) (step_m rfl rfl (opg_store rfl rfl rfl rfl rfl rfl) ?_)
   rintro _ _ _ ⟨rfl, rfl⟩
   refine ⟨Suf.h, (fun _ h => h), ?_⟩
   refine yA rfl rfl (yD (tT (tri_ret ?_)))
   refine tri_end A Suf.h rfl (.cons (rv_cellA rfl rfl rfl) (.cons (rv_tmp rfl) .nil)) (.inr ⟨fun h => h1 h.2.1.1, _, rfl, rfl, rfl⟩)
 ·refine tM rfl rfl ?_
  refine tri_v (opv_extract rfl rfl) rfl ?_
  refine tri_v (opv_extract rfl rfl) rfl ?_
  refine tA rfl rfl (tA rfl rfl (tN (tT (tS ?_))))
  skip
  refine tri_draw [0, 1, 2, 3, 4, 5, 6, 7, 8, 9, 10, 11, 12, 13, 14, 15, 16, 17, 18, 19, 20, 21, 22, 23, 24, 25] rfl [_] rfl mixed ?_
  refine yM rfl rfl ?_
  refine th_take rfl rfl (by kernel_rfl)  (opv_buildS rfl rfl) ?_
  refine yM rfl rfl (yM rfl rfl ?_)
  skip
  refine yS rfl rfl rfl (yS rfl rfl rfl ?_)
  refine th_take rfl rfl (by kernel_rfl)  (opv_pick_f rfl rfl) ?_
  refine yM rfl rfl (yS rfl rfl rfl (yS rfl rfl rfl (yS rfl rfl rfl (yS rfl rfl rfl (yS rfl rfl rfl ?_)))))
  refine th_take rfl rfl (by kernel_rfl)  (opv_pick_f rfl rfl) ?_
  refine yM rfl rfl (yS rfl rfl rfl (yS rfl rfl rfl (yS rfl rfl rfl (yS rfl rfl rfl (yS rfl rfl rfl (yS rfl rfl rfl (yS rfl rfl rfl ?_)))))))
  refine yS rfl rfl rfl ?_
  refine th_take rfl rfl (by kernel_rfl)  (opv_pick_f rfl rfl) ?_
  refine th_one (by kernel_rfl) (step_m rfl rfl (opg_store rfl rfl rfl rfl rfl rfl) ?_)
  rintro _ _ _ ⟨rfl, rfl⟩
  refine ⟨Suf.h, (fun _ h => h), ?_⟩
  refine yA rfl rfl (yD (tT (tri_ret ?_)))
  refine tri_end A Suf.h rfl (.cons (rv_cellA rfl rfl rfl) (.cons (rv_tmp rfl) .nil)) (.inr ⟨fun h => hr h.1, _, rfl, rfl, rfl⟩)
end Go.GL


namespace Go.GL
open Go.Proofs
attribute [local irreducible] wpList Code.wp Exit.then Exit.inBlock Ends Tri TriH OpV OpG FnC epf wpAnyH
variable {A : List Asrt} {I : List Chunk}
/-- What Maker.Nine tells and leaves behind. -/
def IxR9 (bx mb : Nat) (r : R8.R9) (room : Int) (A : List Asrt) (I : List Chunk) : Value → List Asrt → List Chunk → Prop :=
 fun v A' I' => ∃ a' cap' es' ns' q0 q1 q2 q3 q4 q5 q6 q7 q8, v = .tuple [.agg [.int .i64 q0, .int .i64 q1, .int .i64 q2, .int .i64 q3, .int .i64 q4, .int .i64 q5, .int .i64 q6, .int .i64 q7, .int .i64 q8].toArray, .int .i64 r.2.2].toArray ∧ A' = IxA bx mb a' cap' ns' room es' A ∧ (r.2.2 = 0 → ns' = r.1 ∧ r.2.1 = [q0, q1, q2, q3, q4, q5, q6, q7, q8] ∧ Idx r.1 es') ∧ I = I'
set_option maxHeartbeats 2000000 in
set_option maxRecDepth 100000 in
theorem maker_nine {ns : List Node} {a : Option Addr} {cap bx mb : Nat} {room n : Int} {es : KVs} (hg : R6.Good ns room) (h2 : 2 ≤ ns.length) (hi : Idx ns es) (hk : R8.Kid ns n) :
  FnC Try.prog 97 [.agg [pt bx 0].toArray, .int .i64 n].toArray (IxA bx mb a cap ns room es A) I (IxR9 bx mb (R8.all ns room n) room A I) := by
 obtain ⟨p0, e0⟩ : ∃ p, R8.putSq ns room (R8.s16 ns n) 0 0 = p := ⟨_, rfl⟩
 obtain ⟨p1, e1⟩ : ∃ p, R8.putSq p0.1 room (R8.s16 ns n) 0 1 = p := ⟨_, rfl⟩
 obtain ⟨p2, e2⟩ : ∃ p, R8.putSq p1.1 room (R8.s16 ns n) 0 2 = p := ⟨_, rfl⟩
 obtain ⟨p3, e3⟩ : ∃ p, R8.putSq p2.1 room (R8.s16 ns n) 1 0 = p := ⟨_, rfl⟩
 obtain ⟨p4, e4⟩ : ∃ p, R8.putSq p3.1 room (R8.s16 ns n) 1 1 = p := ⟨_, rfl⟩
 obtain ⟨p5, e5⟩ : ∃ p, R8.putSq p4.1 room (R8.s16 ns n) 1 2 = p := ⟨_, rfl⟩
 obtain ⟨p6, e6⟩ : ∃ p, R8.putSq p5.1 room (R8.s16 ns n) 2 0 = p := ⟨_, rfl⟩
 obtain ⟨p7, e7⟩ : ∃ p, R8.putSq p6.1 room (R8.s16 ns n) 2 1 = p := ⟨_, rfl⟩
 obtain ⟨p8, e8⟩ : ∃ p, R8.putSq p7.1 room (R8.s16 ns n) 2 2 = p := ⟨_, rfl⟩
 rw [R8.all_eq e0 e1 e2 e3 e4 e5 e6 e7 e8]
 have g0 : R6.Good p0.1 room := e0 ▸ hg.put ..
 have l0 : 2 ≤ p0.1.length := e0 ▸ R6.put_len h2
 have g1 : R6.Good p1.1 room := e1 ▸ g0.put ..
 have l1 : 2 ≤ p1.1.length := e1 ▸ R6.put_len l0
 have g2 : R6.Good p2.1 room := e2 ▸ g1.put ..
 have l2 : 2 ≤ p2.1.length := e2 ▸ R6.put_len l1
 have g3 : R6.Good p3.1 room := e3 ▸ g2.put ..
 have l3 : 2 ≤ p3.1.length := e3 ▸ R6.put_len l2
 have g4 : R6.Good p4.1 room := e4 ▸ g3.put ..
 have l4 : 2 ≤ p4.1.length := e4 ▸ R6.put_len l3
 have g5 : R6.Good p5.1 room := e5 ▸ g4.put ..
 have l5 : 2 ≤ p5.1.length := e5 ▸ R6.put_len l4
 have g6 : R6.Good p6.1 room := e6 ▸ g5.put ..
 have l6 : 2 ≤ p6.1.length := e6 ▸ R6.put_len l5
 have g7 : R6.Good p7.1 room := e7 ▸ g6.put ..
 have l7 : 2 ≤ p7.1.length := e7 ▸ R6.put_len l6
 have g8 : R6.Good p8.1 room := e8 ▸ g7.put ..
 have l8 : 2 ≤ p8.1.length := e8 ▸ R6.put_len l7
 skip
 refine fn_enter2 Try.func97 rfl Try.ntmps97 rfl fun w0 => ?_
 refine tS (tR ?_)
 refine tri_g (opg_box_agg rfl) rfl ?_
 rintro _ _ _ ⟨b2, rfl, rfl, rfl⟩
 refine tri_g opg_alloc rfl ?_
 rintro _ _ _ ⟨b4, rfl, rfl, rfl⟩
 refine tA rfl rfl (tN (tT (tS ?_)))
 refine tri_perm (A := ?a1_0 :: ?a1_1 :: ?a1_2 :: ?a1_3 :: ?a1_4 :: ?T1) (B := ?a1_2 :: ?a1_3 :: ?a1_4 :: ?a1_0 :: ?a1_1 :: ?T1) (by exact permL [2, 3, 4, 0, 1] [?a1_0, ?a1_1, ?a1_2, ?a1_3, ?a1_4] ?T1 (by decide) rfl) ?_
 refine tR ?_
 refine yB rfl rfl ?_
 refine tM rfl rfl ?_
 refine tri_g (opg_call (xs := [_, _]) rfl (base_sixteen hk)) rfl ?_
 rintro _ _ _ ⟨rfl, rfl, rfl⟩
 refine tri_g opg_alloc rfl ?_
 rintro _ _ _ ⟨b6, rfl, rfl, rfl⟩
 refine yG rfl rfl rfl rfl rfl rfl ?_
 rintro _ _ _ ⟨rfl, rfl⟩
 refine tN (tT (tS (tS (tR (tM rfl rfl (tN (tT ?_)))))))
 refine tri_block ?_
 refine tri_perm (A := ?a2_0 :: ?a2_1 :: ?a2_2 :: ?a2_3 :: ?a2_4 :: ?a2_5 :: ?T2) (B := ?a2_1 :: ?a2_2 :: ?a2_3 :: ?a2_4 :: ?a2_0 :: ?a2_5 :: ?T2) (by exact permL [1, 2, 3, 4, 0, 5] [?a2_0, ?a2_1, ?a2_2, ?a2_3, ?a2_4, ?a2_5] ?T2 (by decide) rfl) ?_
 refine tri_rounds 10 ?_
 refine tri_round (tS (tR (yC rfl rfl (tN (tT (tS ?_))))))
 refine tri_cond_is rfl (by decide) ?_
 skip
 refine tri_skip (tT (tS (tri_block (tS (tR (tM rfl rfl (tA rfl rfl ?_)))))))
 refine tN (tT (tS ?_))
 refine tri_draw [0, 1, 2, 3, 4, 5, 6, 7, 8, 9, 10, 11, 12, 13, 14, 15] rfl [_, _, _, _] rfl mixed ?_
 refine yM rfl rfl (yf rfl rfl ?_)
 refine yl rfl rfl rfl ?_
 refine th_take rfl rfl (by kernel_rfl)  (opv_loadA rfl rfl rfl) ?_
 refine yM rfl rfl ?_
 refine th_take rfl rfl (by kernel_rfl)  (opv_quoE rfl rfl (by omega) (by omega) (by omega)) ?_
 refine yM rfl rfl ?_
 refine th_take rfl rfl (by kernel_rfl)  (opv_remE rfl rfl (by omega) (by omega)) ?_
 refine th_one (by kernel_rfl) (step_m rfl rfl (opg_call (xs := [_, _, _]) rfl (base_square (R8.s16_len ns n) (by omega) (by omega) (by omega) (by omega))) ?_)
 rintro _ _ _ ⟨rfl, rfl, rfl⟩
 refine ⟨Suf.h, (fun _ h => h), ?_⟩
 skip
 refine th_one (by kernel_rfl) (step_m rfl rfl (opg_call (xs := [_, _]) rfl (node_putR (r := p0) hg h2 hi e0)) ?_)
 rintro _ _ _ ⟨a0, c0, es0, rfl, rfl, hi0, rfl⟩
 refine ⟨Suf.h, (fun _ h => h), ?_⟩
 refine yM rfl rfl (yE rfl rfl rfl (yE rfl rfl rfl ?_))
 refine th_take rfl rfl (by kernel_rfl)  (opv_indexAddrA rfl rfl (by decide) (by decide)) ?_
 refine th_one (by kernel_rfl) (step_m rfl rfl (opg_store rfl rfl rfl rfl rfl rfl) ?_)
 rintro _ _ _ ⟨rfl, rfl⟩
 refine ⟨Suf.h, (fun _ h => h), ?_⟩
 refine yA rfl rfl (yD (tT (tS (tR (tM rfl rfl ?_)))))
 refine tri_v (opv_neq rfl rfl) rfl ?_
 refine tN (tT ?_)
 refine tri_cond_dec rfl (fun x0 => ?_) (fun x0 => ?_)
 ·rw [if_pos x0]
  refine tS (tR ?_)
  refine tri_v (opv_buildA rfl rfl) rfl ?_
  refine tM rfl rfl ?_
  refine yG rfl rfl rfl rfl rfl rfl ?_
  rintro _ _ _ ⟨rfl, rfl⟩
  refine tA rfl rfl (tN (tT (tri_ret (tri_inBlock_ret (tri_then_ret (tri_then_ret (tri_inBlock_ret ?_)))))))
  refine tri_then_ret ?_
  refine tri_perm (A := ?a3_0 :: ?a3_1 :: ?a3_2 :: ?a3_3 :: ?a3_4 :: ?a3_5 :: ?T3) (B := ?a3_3 :: ?a3_4 :: ?a3_5 :: ?a3_0 :: ?a3_1 :: ?a3_2 :: ?T3) (by exact permL [3, 4, 5, 0, 1, 2] [?a3_0, ?a3_1, ?a3_2, ?a3_3, ?a3_4, ?a3_5] ?T3 (by decide) rfl) ?_
  refine tri_end (IxA bx mb a0 c0 p0.1 room es0 A) Suf.h rfl (.cons (rv_cellA rfl rfl rfl) (.cons (rv_tmp rfl) .nil)) ⟨a0, c0, es0, p0.1, _, _, _, _, _, _, _, _, _, rfl, rfl, fun h => absurd h x0, rfl⟩
 refine tri_skip (tri_inBlock (tT (tR ?_)))
 refine yU rfl rfl ?_
 refine tM rfl rfl (tN (tT (tri_round (tS (tR (yC rfl rfl (tN ?_)))))))
 refine tT (tS ?_)
 skip
 refine tri_cond_is rfl (by decide) ?_
 skip
 refine tri_skip (tT (tS (tri_block (tS (tR (tM rfl rfl (tA rfl rfl ?_)))))))
 refine tN (tT (tS ?_))
 refine tri_draw [0, 1, 2, 3, 4, 5, 6, 7, 8, 9, 10, 11, 12, 13, 14, 15] rfl [_, _, _, _] rfl mixed ?_
 refine yM rfl rfl (yf rfl rfl ?_)
 refine yl rfl rfl rfl ?_
 refine th_take rfl rfl (by kernel_rfl)  (opv_loadA rfl rfl rfl) ?_
 refine yM rfl rfl ?_
 refine th_take rfl rfl (by kernel_rfl)  (opv_quoE rfl rfl (by omega) (by omega) (by omega)) ?_
 refine yM rfl rfl ?_
 refine th_take rfl rfl (by kernel_rfl)  (opv_remE rfl rfl (by omega) (by omega)) ?_
 refine th_one (by kernel_rfl) (step_m rfl rfl (opg_call (xs := [_, _, _]) rfl (base_square (R8.s16_len ns n) (by omega) (by omega) (by omega) (by omega))) ?_)
 rintro _ _ _ ⟨rfl, rfl, rfl⟩
 refine ⟨Suf.h, (fun _ h => h), ?_⟩
 skip
 refine th_one (by kernel_rfl) (step_m rfl rfl (opg_call (xs := [_, _]) rfl (node_putR (r := p1) g0 l0 hi0 e1)) ?_)
 rintro _ _ _ ⟨a1, c1, es1, rfl, rfl, hi1, rfl⟩
 refine ⟨Suf.h, (fun _ h => h), ?_⟩
 refine yM rfl rfl (yE rfl rfl rfl (yE rfl rfl rfl ?_))
 refine th_take rfl rfl (by kernel_rfl)  (opv_indexAddrA rfl rfl (by decide) (by decide)) ?_
 refine th_one (by kernel_rfl) (step_m rfl rfl (opg_store rfl rfl rfl rfl rfl rfl) ?_)
 rintro _ _ _ ⟨rfl, rfl⟩
 refine ⟨Suf.h, (fun _ h => h), ?_⟩
 refine yA rfl rfl (yD (tT (tS (tR (tM rfl rfl ?_)))))
 refine tri_v (opv_neq rfl rfl) rfl ?_
 refine tN (tT ?_)
 refine tri_cond_dec rfl (fun x1 => ?_) (fun x1 => ?_)
 ·rw [if_neg x0, if_pos x1]
  refine tS (tR ?_)
  refine tri_v (opv_buildA rfl rfl) rfl ?_
  refine tM rfl rfl ?_
  refine yG rfl rfl rfl rfl rfl rfl ?_
  rintro _ _ _ ⟨rfl, rfl⟩
  refine tA rfl rfl (tN (tT (tri_ret (tri_inBlock_ret (tri_then_ret (tri_then_ret (tri_inBlock_ret ?_)))))))
  refine tri_then_ret ?_
  refine tri_perm (A := ?a4_0 :: ?a4_1 :: ?a4_2 :: ?a4_3 :: ?a4_4 :: ?a4_5 :: ?T4) (B := ?a4_3 :: ?a4_4 :: ?a4_5 :: ?a4_0 :: ?a4_1 :: ?a4_2 :: ?T4) (by exact permL [3, 4, 5, 0, 1, 2] [?a4_0, ?a4_1, ?a4_2, ?a4_3, ?a4_4, ?a4_5] ?T4 (by decide) rfl) ?_
  refine tri_end (IxA bx mb a1 c1 p1.1 room es1 A) Suf.h rfl (.cons (rv_cellA rfl rfl rfl) (.cons (rv_tmp rfl) .nil)) ⟨a1, c1, es1, p1.1, _, _, _, _, _, _, _, _, _, rfl, rfl, fun h => absurd h x1, rfl⟩
 refine tri_skip (tri_inBlock (tT (tR ?_)))
 refine yU rfl rfl ?_
 refine tM rfl rfl (tN (tT (tri_round (tS (tR (yC rfl rfl (tN ?_)))))))
 refine tT (tS ?_)
 skip
 refine tri_cond_is rfl (by decide) ?_
 skip
 refine tri_skip (tT (tS (tri_block (tS (tR (tM rfl rfl (tA rfl rfl ?_)))))))
 refine tN (tT (tS ?_))
 refine tri_draw [0, 1, 2, 3, 4, 5, 6, 7, 8, 9, 10, 11, 12, 13, 14, 15] rfl [_, _, _, _] rfl mixed ?_
 refine yM rfl rfl (yf rfl rfl ?_)
 refine yl rfl rfl rfl ?_
 refine th_take rfl rfl (by kernel_rfl)  (opv_loadA rfl rfl rfl) ?_
 refine yM rfl rfl ?_
 refine th_take rfl rfl (by kernel_rfl)  (opv_quoE rfl rfl (by omega) (by omega) (by omega)) ?_
 refine yM rfl rfl ?_
 refine th_take rfl rfl (by kernel_rfl)  (opv_remE rfl rfl (by omega) (by omega)) ?_
 refine th_one (by kernel_rfl) (step_m rfl rfl (opg_call (xs := [_, _, _]) rfl (base_square (R8.s16_len ns n) (by omega) (by omega) (by omega) (by omega))) ?_)
 rintro _ _ _ ⟨rfl, rfl, rfl⟩
 refine ⟨Suf.h, (fun _ h => h), ?_⟩
 skip
 refine th_one (by kernel_rfl) (step_m rfl rfl (opg_call (xs := [_, _]) rfl (node_putR (r := p2) g1 l1 hi1 e2)) ?_)
 rintro _ _ _ ⟨a2, c2, es2, rfl, rfl, hi2, rfl⟩
 refine ⟨Suf.h, (fun _ h => h), ?_⟩
 refine yM rfl rfl (yE rfl rfl rfl (yE rfl rfl rfl ?_))
 refine th_take rfl rfl (by kernel_rfl)  (opv_indexAddrA rfl rfl (by decide) (by decide)) ?_
 refine th_one (by kernel_rfl) (step_m rfl rfl (opg_store rfl rfl rfl rfl rfl rfl) ?_)
 rintro _ _ _ ⟨rfl, rfl⟩
 refine ⟨Suf.h, (fun _ h => h), ?_⟩
 refine yA rfl rfl (yD (tT (tS (tR (tM rfl rfl ?_)))))
 refine tri_v (opv_neq rfl rfl) rfl ?_
 refine tN (tT ?_)
 refine tri_cond_dec rfl (fun x2 => ?_) (fun x2 => ?_)
 ·rw [if_neg x0, if_neg x1, if_pos x2]
  refine tS (tR ?_)
  refine tri_v (opv_buildA rfl rfl) rfl ?_
  refine tM rfl rfl ?_
  refine yG rfl rfl rfl rfl rfl rfl ?_
  rintro _ _ _ ⟨rfl, rfl⟩
  refine tA rfl rfl (tN (tT (tri_ret (tri_inBlock_ret (tri_then_ret (tri_then_ret (tri_inBlock_ret ?_)))))))
  refine tri_then_ret ?_
  refine tri_perm (A := ?a5_0 :: ?a5_1 :: ?a5_2 :: ?a5_3 :: ?a5_4 :: ?a5_5 :: ?T5) (B := ?a5_3 :: ?a5_4 :: ?a5_5 :: ?a5_0 :: ?a5_1 :: ?a5_2 :: ?T5) (by exact permL [3, 4, 5, 0, 1, 2] [?a5_0, ?a5_1, ?a5_2, ?a5_3, ?a5_4, ?a5_5] ?T5 (by decide) rfl) ?_
  refine tri_end (IxA bx mb a2 c2 p2.1 room es2 A) Suf.h rfl (.cons (rv_cellA rfl rfl rfl) (.cons (rv_tmp rfl) .nil)) ⟨a2, c2, es2, p2.1, _, _, _, _, _, _, _, _, _, rfl, rfl, fun h => absurd h x2, rfl⟩
 refine tri_skip (tri_inBlock (tT (tR ?_)))
 refine yU rfl rfl ?_
 refine tM rfl rfl (tN (tT (tri_round (tS (tR (yC rfl rfl (tN ?_)))))))
 refine tT (tS ?_)
 skip
 refine tri_cond_is rfl (by decide) ?_
 skip
 refine tri_skip (tT (tS (tri_block (tS (tR (tM rfl rfl (tA rfl rfl ?_)))))))
 refine tN (tT (tS ?_))
 refine tri_draw [0, 1, 2, 3, 4, 5, 6, 7, 8, 9, 10, 11, 12, 13, 14, 15] rfl [_, _, _, _] rfl mixed ?_
 refine yM rfl rfl (yf rfl rfl ?_)
 refine yl rfl rfl rfl ?_
 refine th_take rfl rfl (by kernel_rfl)  (opv_loadA rfl rfl rfl) ?_
 refine yM rfl rfl ?_
 refine th_take rfl rfl (by kernel_rfl)  (opv_quoE rfl rfl (by omega) (by omega) (by omega)) ?_
 refine yM rfl rfl ?_
 refine th_take rfl rfl (by kernel_rfl)  (opv_remE rfl rfl (by omega) (by omega)) ?_
 refine th_one (by kernel_rfl) (step_m rfl rfl (opg_call (xs := [_, _, _]) rfl (base_square (R8.s16_len ns n) (by omega) (by omega) (by omega) (by omega))) ?_)
 rintro _ _ _ ⟨rfl, rfl, rfl⟩
 refine ⟨Suf.h, (fun _ h => h), ?_⟩
 skip
 refine th_one (by kernel_rfl) (step_m rfl rfl (opg_call (xs := [_, _]) rfl (node_putR (r := p3) g2 l2 hi2 e3)) ?_)
 rintro _ _ _ ⟨a3, c3, es3, rfl, rfl, hi3, rfl⟩
 refine ⟨Suf.h, (fun _ h => h), ?_⟩
 refine yM rfl rfl (yE rfl rfl rfl (yE rfl rfl rfl ?_))
 refine th_take rfl rfl (by kernel_rfl)  (opv_indexAddrA rfl rfl (by decide) (by decide)) ?_
 refine th_one (by kernel_rfl) (step_m rfl rfl (opg_store rfl rfl rfl rfl rfl rfl) ?_)
 rintro _ _ _ ⟨rfl, rfl⟩
 refine ⟨Suf.h, (fun _ h => h), ?_⟩
 refine yA rfl rfl (yD (tT (tS (tR (tM rfl rfl ?_)))))
 refine tri_v (opv_neq rfl rfl) rfl ?_
 refine tN (tT ?_)
 refine tri_cond_dec rfl (fun x3 => ?_) (fun x3 => ?_)
 ·rw [if_neg x0, if_neg x1, if_neg x2, if_pos x3]
  refine tS (tR ?_)
  refine tri_v (opv_buildA rfl rfl) rfl ?_
  refine tM rfl rfl ?_
  refine yG rfl rfl rfl rfl rfl rfl ?_
  rintro _ _ _ ⟨rfl, rfl⟩
  refine tA rfl rfl (tN (tT (tri_ret (tri_inBlock_ret (tri_then_ret (tri_then_ret (tri_inBlock_ret ?_)))))))
  refine tri_then_ret ?_
  refine tri_perm (A := ?a6_0 :: ?a6_1 :: ?a6_2 :: ?a6_3 :: ?a6_4 :: ?a6_5 :: ?T6) (B := ?a6_3 :: ?a6_4 :: ?a6_5 :: ?a6_0 :: ?a6_1 :: ?a6_2 :: ?T6) (by exact permL [3, 4, 5, 0, 1, 2] [?a6_0, ?a6_1, ?a6_2, ?a6_3, ?a6_4, ?a6_5] ?T6 (by decide) rfl) ?_
  refine tri_end (IxA bx mb a3 c3 p3.1 room es3 A) Suf.h rfl (.cons (rv_cellA rfl rfl rfl) (.cons (rv_tmp rfl) .nil)) ⟨a3, c3, es3, p3.1, _, _, _, _, _, _, _, _, _, rfl, rfl, fun h => absurd h x3, rfl⟩
 refine tri_skip (tri_inBlock (tT (tR ?_)))
 refine yU rfl rfl ?_
 refine tM rfl rfl (tN (tT (tri_round (tS (tR (yC rfl rfl (tN ?_)))))))
 refine tT (tS ?_)
 skip
 refine tri_cond_is rfl (by decide) ?_
 skip
 refine tri_skip (tT (tS (tri_block (tS (tR (tM rfl rfl (tA rfl rfl ?_)))))))
 refine tN (tT (tS ?_))
 refine tri_draw [0, 1, 2, 3, 4, 5, 6, 7, 8, 9, 10, 11, 12, 13, 14, 15] rfl [_, _, _, _] rfl mixed ?_
 refine yM rfl rfl (yf rfl rfl ?_)
 refine yl rfl rfl rfl ?_
 refine th_take rfl rfl (by kernel_rfl)  (opv_loadA rfl rfl rfl) ?_
 refine yM rfl rfl ?_
 refine th_take rfl rfl (by kernel_rfl)  (opv_quoE rfl rfl (by omega) (by omega) (by omega)) ?_
 refine yM rfl rfl ?_
 refine th_take rfl rfl (by kernel_rfl)  (opv_remE rfl rfl (by omega) (by omega)) ?_
 refine th_one (by kernel_rfl) (step_m rfl rfl (opg_call (xs := [_, _, _]) rfl (base_square (R8.s16_len ns n) (by omega) (by omega) (by omega) (by omega))) ?_)
 rintro _ _ _ ⟨rfl, rfl, rfl⟩
 refine ⟨Suf.h, (fun _ h => h), ?_⟩
 skip
 refine th_one (by kernel_rfl) (step_m rfl rfl (opg_call (xs := [_, _]) rfl (node_putR (r := p4) g3 l3 hi3 e4)) ?_)
 rintro _ _ _ ⟨a4, c4, es4, rfl, rfl, hi4, rfl⟩
 refine ⟨Suf.h, (fun _ h => h), ?_⟩
 refine yM rfl rfl (yE rfl rfl rfl (yE rfl rfl rfl ?_))
 refine th_take rfl rfl (by kernel_rfl)  (opv_indexAddrA rfl rfl (by decide) (by decide)) ?_
 refine th_one (by kernel_rfl) (step_m rfl rfl (opg_store rfl rfl rfl rfl rfl rfl) ?_)
 rintro _ _ _ ⟨rfl, rfl⟩
 refine ⟨Suf.h, (fun _ h => h), ?_⟩
 refine yA rfl rfl (yD (tT (tS (tR (tM rfl rfl ?_)))))
 refine tri_v (opv_neq rfl rfl) rfl ?_
 refine tN (tT ?_)
 refine tri_cond_dec rfl (fun x4 => ?_) (fun x4 => ?_)
 ·rw [if_neg x0, if_neg x1, if_neg x2, if_neg x3, if_pos x4]
  refine tS (tR ?_)
  refine tri_v (opv_buildA rfl rfl) rfl ?_
  refine tM rfl rfl ?_
  refine yG rfl rfl rfl rfl rfl rfl ?_
  rintro _ _ _ ⟨rfl, rfl⟩
  refine tA rfl rfl (tN (tT (tri_ret (tri_inBlock_ret (tri_then_ret (tri_then_ret (tri_inBlock_ret ?_)))))))
  refine tri_then_ret ?_
  refine tri_perm (A := ?a7_0 :: ?a7_1 :: ?a7_2 :: ?a7_3 :: ?a7_4 :: ?a7_5 :: ?T7) (B := ?a7_3 :: ?a7_4 :: ?a7_5 :: ?a7_0 :: ?a7_1 :: ?a7_2 :: ?T7) (by exact permL [3, 4, 5, 0, 1, 2] [?a7_0, ?a7_1, ?a7_2, ?a7_3, ?a7_4, ?a7_5] ?T7 (by decide) rfl) ?_
  refine tri_end (IxA bx mb a4 c4 p4.1 room es4 A) Suf.h rfl (.cons (rv_cellA rfl rfl rfl) (.cons (rv_tmp rfl) .nil)) ⟨a4, c4, es4, p4.1, _, _, _, _, _, _, _, _, _, rfl, rfl, fun h => absurd h x4, rfl⟩
 refine tri_skip (tri_inBlock (tT (tR ?_)))
 refine yU rfl rfl ?_
 refine tM rfl rfl (tN (tT (tri_round (tS (tR (yC rfl rfl (tN ?_)))))))
 refine tT (tS ?_)
 skip
 refine tri_cond_is rfl (by decide) ?_
 skip
 refine tri_skip (tT (tS (tri_block (tS (tR (tM rfl rfl (tA rfl rfl ?_)))))))
 refine tN (tT (tS ?_))
 refine tri_draw [0, 1, 2, 3, 4, 5, 6, 7, 8, 9, 10, 11, 12, 13, 14, 15] rfl [_, _, _, _] rfl mixed ?_
 refine yM rfl rfl (yf rfl rfl ?_)
 refine yl rfl rfl rfl ?_
 refine th_take rfl rfl (by kernel_rfl)  (opv_loadA rfl rfl rfl) ?_
 refine yM rfl rfl ?_
 refine th_take rfl rfl (by kernel_rfl)  (opv_quoE rfl rfl (by omega) (by omega) (by omega)) ?_
 refine yM rfl rfl ?_
 refine th_take rfl rfl (by kernel_rfl)  (opv_remE rfl rfl (by omega) (by omega)) ?_
 refine th_one (by kernel_rfl) (step_m rfl rfl (opg_call (xs := [_, _, _]) rfl (base_square (R8.s16_len ns n) (by omega) (by omega) (by omega) (by omega))) ?_)
 rintro _ _ _ ⟨rfl, rfl, rfl⟩
 refine ⟨Suf.h, (fun _ h => h), ?_⟩
 skip
 refine th_one (by kernel_rfl) (step_m rfl rfl (opg_call (xs := [_, _]) rfl (node_putR (r := p5) g4 l4 hi4 e5)) ?_)
 rintro _ _ _ ⟨a5, c5, es5, rfl, rfl, hi5, rfl⟩
 refine ⟨Suf.h, (fun _ h => h), ?_⟩
 refine yM rfl rfl (yE rfl rfl rfl (yE rfl rfl rfl ?_))
 refine th_take rfl rfl (by kernel_rfl)  (opv_indexAddrA rfl rfl (by decide) (by decide)) ?_
 refine th_one (by kernel_rfl) (step_m rfl rfl (opg_store rfl rfl rfl rfl rfl rfl) ?_)
 rintro _ _ _ ⟨rfl, rfl⟩
 refine ⟨Suf.h, (fun _ h => h), ?_⟩
 refine yA rfl rfl (yD (tT (tS (tR (tM rfl rfl ?_)))))
 refine tri_v (opv_neq rfl rfl) rfl ?_
 refine tN (tT ?_)
 refine tri_cond_dec rfl (fun x5 => ?_) (fun x5 => ?_)
 ·rw [if_neg x0, if_neg x1, if_neg x2, if_neg x3, if_neg x4, if_pos x5]
  refine tS (tR ?_)
  refine tri_v (opv_buildA rfl rfl) rfl ?_
  refine tM rfl rfl ?_
  refine yG rfl rfl rfl rfl rfl rfl ?_
  rintro _ _ _ ⟨rfl, rfl⟩
  refine tA rfl rfl (tN (tT (tri_ret (tri_inBlock_ret (tri_then_ret (tri_then_ret (tri_inBlock_ret ?_)))))))
  refine tri_then_ret ?_
  refine tri_perm (A := ?a8_0 :: ?a8_1 :: ?a8_2 :: ?a8_3 :: ?a8_4 :: ?a8_5 :: ?T8) (B := ?a8_3 :: ?a8_4 :: ?a8_5 :: ?a8_0 :: ?a8_1 :: ?a8_2 :: ?T8) (by exact permL [3, 4, 5, 0, 1, 2] [?a8_0, ?a8_1, ?a8_2, ?a8_3, ?a8_4, ?a8_5] ?T8 (by decide) rfl) ?_
  refine tri_end (IxA bx mb a5 c5 p5.1 room es5 A) Suf.h rfl (.cons (rv_cellA rfl rfl rfl) (.cons (rv_tmp rfl) .nil)) ⟨a5, c5, es5, p5.1, _, _, _, _, _, _, _, _, _, rfl, rfl, fun h => absurd h x5, rfl⟩
 refine tri_skip (tri_inBlock (tT (tR ?_)))
 refine yU rfl rfl ?_
 refine tM rfl rfl (tN (tT (tri_round (tS (tR (yC rfl rfl (tN ?_)))))))
 refine tT (tS ?_)
 skip
 refine tri_cond_is rfl (by decide) ?_
 skip
 refine tri_skip (tT (tS (tri_block (tS (tR (tM rfl rfl (tA rfl rfl ?_)))))))
 refine tN (tT (tS ?_))
 refine tri_draw [0, 1, 2, 3, 4, 5, 6, 7, 8, 9, 10, 11, 12, 13, 14, 15] rfl [_, _, _, _] rfl mixed ?_
 refine yM rfl rfl (yf rfl rfl ?_)
 refine yl rfl rfl rfl ?_
 refine th_take rfl rfl (by kernel_rfl)  (opv_loadA rfl rfl rfl) ?_
 refine yM rfl rfl ?_
 refine th_take rfl rfl (by kernel_rfl)  (opv_quoE rfl rfl (by omega) (by omega) (by omega)) ?_
 refine yM rfl rfl ?_
 refine th_take rfl rfl (by kernel_rfl)  (opv_remE rfl rfl (by omega) (by omega)) ?_
 refine th_one (by kernel_rfl) (step_m rfl rfl (opg_call (xs := [_, _, _]) rfl (base_square (R8.s16_len ns n) (by omega) (by omega) (by omega) (by omega))) ?_)
 rintro _ _ _ ⟨rfl, rfl, rfl⟩
 refine ⟨Suf.h, (fun _ h => h), ?_⟩
 skip
 refine th_one (by kernel_rfl) (step_m rfl rfl (opg_call (xs := [_, _]) rfl (node_putR (r := p6) g5 l5 hi5 e6)) ?_)
 rintro _ _ _ ⟨a6, c6, es6, rfl, rfl, hi6, rfl⟩
 refine ⟨Suf.h, (fun _ h => h), ?_⟩
 refine yM rfl rfl (yE rfl rfl rfl (yE rfl rfl rfl ?_))
 refine th_take rfl rfl (by kernel_rfl)  (opv_indexAddrA rfl rfl (by decide) (by decide)) ?_
 refine th_one (by kernel_rfl) (step_m rfl rfl (opg_store rfl rfl rfl rfl rfl rfl) ?_)
 rintro _ _ _ ⟨rfl, rfl⟩
 refine ⟨Suf.h, (fun _ h => h), ?_⟩
 refine yA rfl rfl (yD (tT (tS (tR (tM rfl rfl ?_)))))
 refine tri_v (opv_neq rfl rfl) rfl ?_
 refine tN (tT ?_)
 refine tri_cond_dec rfl (fun x6 => ?_) (fun x6 => ?_)
 ·rw [if_neg x0, if_neg x1, if_neg x2, if_neg x3, if_neg x4, if_neg x5, if_pos x6]
  refine tS (tR ?_)
  refine tri_v (opv_buildA rfl rfl) rfl ?_
  refine tM rfl rfl ?_
  refine yG rfl rfl rfl rfl rfl rfl ?_
  rintro _ _ _ ⟨rfl, rfl⟩
  refine tA rfl rfl (tN (tT (tri_ret (tri_inBlock_ret (tri_then_ret (tri_then_ret (tri_inBlock_ret ?_)))))))
  refine tri_then_ret ?_
  refine tri_perm (A := ?a9_0 :: ?a9_1 :: ?a9_2 :: ?a9_3 :: ?a9_4 :: ?a9_5 :: ?T9) (B := ?a9_3 :: ?a9_4 :: ?a9_5 :: ?a9_0 :: ?a9_1 :: ?a9_2 :: ?T9) (by exact permL [3, 4, 5, 0, 1, 2] [?a9_0, ?a9_1, ?a9_2, ?a9_3, ?a9_4, ?a9_5] ?T9 (by decide) rfl) ?_
  refine tri_end (IxA bx mb a6 c6 p6.1 room es6 A) Suf.h rfl (.cons (rv_cellA rfl rfl rfl) (.cons (rv_tmp rfl) .nil)) ⟨a6, c6, es6, p6.1, _, _, _, _, _, _, _, _, _, rfl, rfl, fun h => absurd h x6, rfl⟩
 refine tri_skip (tri_inBlock (tT (tR ?_)))
 refine yU rfl rfl ?_
 refine tM rfl rfl (tN (tT (tri_round (tS (tR (yC rfl rfl (tN ?_)))))))
 refine tT (tS ?_)
 skip
 refine tri_cond_is rfl (by decide) ?_
 skip
 refine tri_skip (tT (tS (tri_block (tS (tR (tM rfl rfl (tA rfl rfl ?_)))))))
 refine tN (tT (tS ?_))
 refine tri_draw [0, 1, 2, 3, 4, 5, 6, 7, 8, 9, 10, 11, 12, 13, 14, 15] rfl [_, _, _, _] rfl mixed ?_
 refine yM rfl rfl (yf rfl rfl ?_)
 refine yl rfl rfl rfl ?_
 refine th_take rfl rfl (by kernel_rfl)  (opv_loadA rfl rfl rfl) ?_
 refine yM rfl rfl ?_
 refine th_take rfl rfl (by kernel_rfl)  (opv_quoE rfl rfl (by omega) (by omega) (by omega)) ?_
 refine yM rfl rfl ?_
 refine th_take rfl rfl (by kernel_rfl)  (opv_remE rfl rfl (by omega) (by omega)) ?_
 refine th_one (by kernel_rfl) (step_m rfl rfl (opg_call (xs := [_, _, _]) rfl (base_square (R8.s16_len ns n) (by omega) (by omega) (by omega) (by omega))) ?_)
 rintro _ _ _ ⟨rfl, rfl, rfl⟩
 refine ⟨Suf.h, (fun _ h => h), ?_⟩
 skip
 refine th_one (by kernel_rfl) (step_m rfl rfl (opg_call (xs := [_, _]) rfl (node_putR (r := p7) g6 l6 hi6 e7)) ?_)
 rintro _ _ _ ⟨a7, c7, es7, rfl, rfl, hi7, rfl⟩
 refine ⟨Suf.h, (fun _ h => h), ?_⟩
 refine yM rfl rfl (yE rfl rfl rfl (yE rfl rfl rfl ?_))
 refine th_take rfl rfl (by kernel_rfl)  (opv_indexAddrA rfl rfl (by decide) (by decide)) ?_
 refine th_one (by kernel_rfl) (step_m rfl rfl (opg_store rfl rfl rfl rfl rfl rfl) ?_)
 rintro _ _ _ ⟨rfl, rfl⟩
 refine ⟨Suf.h, (fun _ h => h), ?_⟩
 refine yA rfl rfl (yD (tT (tS (tR (tM rfl rfl ?_)))))
 refine tri_v (opv_neq rfl rfl) rfl ?_
 refine tN (tT ?_)
 refine tri_cond_dec rfl (fun x7 => ?_) (fun x7 => ?_)
 ·rw [if_neg x0, if_neg x1, if_neg x2, if_neg x3, if_neg x4, if_neg x5, if_neg x6, if_pos x7]
  refine tS (tR ?_)
  refine tri_v (opv_buildA rfl rfl) rfl ?_
  refine tM rfl rfl ?_
  refine yG rfl rfl rfl rfl rfl rfl ?_
  rintro _ _ _ ⟨rfl, rfl⟩
  refine tA rfl rfl (tN (tT (tri_ret (tri_inBlock_ret (tri_then_ret (tri_then_ret (tri_inBlock_ret ?_)))))))
  refine tri_then_ret ?_
  refine tri_perm (A := ?a10_0 :: ?a10_1 :: ?a10_2 :: ?a10_3 :: ?a10_4 :: ?a10_5 :: ?T10) (B := ?a10_3 :: ?a10_4 :: ?a10_5 :: ?a10_0 :: ?a10_1 :: ?a10_2 :: ?T10) (by exact permL [3, 4, 5, 0, 1, 2] [?a10_0, ?a10_1, ?a10_2, ?a10_3, ?a10_4, ?a10_5] ?T10 (by decide) rfl) ?_
  refine tri_end (IxA bx mb a7 c7 p7.1 room es7 A) Suf.h rfl (.cons (rv_cellA rfl rfl rfl) (.cons (rv_tmp rfl) .nil)) ⟨a7, c7, es7, p7.1, _, _, _, _, _, _, _, _, _, rfl, rfl, fun h => absurd h x7, rfl⟩
 refine tri_skip (tri_inBlock (tT (tR ?_)))
 refine yU rfl rfl ?_
 refine tM rfl rfl (tN (tT (tri_round (tS (tR (yC rfl rfl (tN ?_)))))))
 refine tT (tS ?_)
 skip
 refine tri_cond_is rfl (by decide) ?_
 skip
 refine tri_skip (tT (tS (tri_block (tS (tR (tM rfl rfl (tA rfl rfl ?_)))))))
 refine tN (tT (tS ?_))
 refine tri_draw [0, 1, 2, 3, 4, 5, 6, 7, 8, 9, 10, 11, 12, 13, 14, 15] rfl [_, _, _, _] rfl mixed ?_
 refine yM rfl rfl (yf rfl rfl ?_)
 refine yl rfl rfl rfl ?_
 refine th_take rfl rfl (by kernel_rfl)  (opv_loadA rfl rfl rfl) ?_
 refine yM rfl rfl ?_
 refine th_take rfl rfl (by kernel_rfl)  (opv_quoE rfl rfl (by omega) (by omega) (by omega)) ?_
 refine yM rfl rfl ?_
 refine th_take rfl rfl (by kernel_rfl)  (opv_remE rfl rfl (by omega) (by omega)) ?_
 refine th_one (by kernel_rfl) (step_m rfl rfl (opg_call (xs := [_, _, _]) rfl (base_square (R8.s16_len ns n) (by omega) (by omega) (by omega) (by omega))) ?_)
 rintro _ _ _ ⟨rfl, rfl, rfl⟩
 refine ⟨Suf.h, (fun _ h => h), ?_⟩
 skip
 refine th_one (by kernel_rfl) (step_m rfl rfl (opg_call (xs := [_, _]) rfl (node_putR (r := p8) g7 l7 hi7 e8)) ?_)
 rintro _ _ _ ⟨a8, c8, es8, rfl, rfl, hi8, rfl⟩
 refine ⟨Suf.h, (fun _ h => h), ?_⟩
 refine yM rfl rfl (yE rfl rfl rfl (yE rfl rfl rfl ?_))
 refine th_take rfl rfl (by kernel_rfl)  (opv_indexAddrA rfl rfl (by decide) (by decide)) ?_
 refine th_one (by kernel_rfl) (step_m rfl rfl (opg_store rfl rfl rfl rfl rfl rfl) ?_)
 rintro _ _ _ ⟨rfl, rfl⟩
 refine ⟨Suf.h, (fun _ h => h), ?_⟩
 refine yA rfl rfl (yD (tT (tS (tR (tM rfl rfl ?_)))))
 refine tri_v (opv_neq rfl rfl) rfl ?_
 refine tN (tT ?_)
 refine tri_cond_dec rfl (fun x8 => ?_) (fun x8 => ?_)
 ·rw [if_neg x0, if_neg x1, if_neg x2, if_neg x3, if_neg x4, if_neg x5, if_neg x6, if_neg x7, if_pos x8]
  refine tS (tR ?_)
  refine tri_v (opv_buildA rfl rfl) rfl ?_
  refine tM rfl rfl ?_
  refine yG rfl rfl rfl rfl rfl rfl ?_
  rintro _ _ _ ⟨rfl, rfl⟩
  refine tA rfl rfl (tN (tT (tri_ret (tri_inBlock_ret (tri_then_ret (tri_then_ret (tri_inBlock_ret ?_)))))))
  refine tri_then_ret ?_
  refine tri_perm (A := ?a11_0 :: ?a11_1 :: ?a11_2 :: ?a11_3 :: ?a11_4 :: ?a11_5 :: ?T11) (B := ?a11_3 :: ?a11_4 :: ?a11_5 :: ?a11_0 :: ?a11_1 :: ?a11_2 :: ?T11) (by exact permL [3, 4, 5, 0, 1, 2] [?a11_0, ?a11_1, ?a11_2, ?a11_3, ?a11_4, ?a11_5] ?T11 (by decide) rfl) ?_
  refine tri_end (IxA bx mb a8 c8 p8.1 room es8 A) Suf.h rfl (.cons (rv_cellA rfl rfl rfl) (.cons (rv_tmp rfl) .nil)) ⟨a8, c8, es8, p8.1, _, _, _, _, _, _, _, _, _, rfl, rfl, fun h => absurd h x8, rfl⟩
 refine tri_skip (tri_inBlock (tT (tR ?_)))
 refine yU rfl rfl ?_
 refine tM rfl rfl (tN (tT (tri_round (tS (tR (yC rfl rfl (tN ?_)))))))
 refine tT (tS ?_)
 rw [if_neg x0, if_neg x1, if_neg x2, if_neg x3, if_neg x4, if_neg x5, if_neg x6, if_neg x7, if_neg x8]
 refine tri_cond_not rfl (by decide) ?_
 refine tri_exit ?_
 refine tri_then_exit (tri_then_exit ?_)
 refine tri_inBlock_hit rfl ?_
 refine tT (tS (tR ?_))
 refine yB rfl rfl ?_
 refine yG rfl rfl rfl rfl rfl rfl ?_
 rintro _ _ _ ⟨rfl, rfl⟩
 refine tA rfl rfl (tN (tT (tri_ret ?_)))
 refine tri_perm (A := ?a12_0 :: ?a12_1 :: ?a12_2 :: ?a12_3 :: ?a12_4 :: ?a12_5 :: ?T12) (B := ?a12_3 :: ?a12_4 :: ?a12_5 :: ?a12_0 :: ?a12_1 :: ?a12_2 :: ?T12) (by exact permL [3, 4, 5, 0, 1, 2] [?a12_0, ?a12_1, ?a12_2, ?a12_3, ?a12_4, ?a12_5] ?T12 (by decide) rfl) ?_
 refine tri_end (IxA bx mb a8 c8 p8.1 room es8 A) Suf.h rfl (.cons (rv_cellA rfl rfl rfl) (.cons (rv_tmp rfl) .nil)) ⟨a8, c8, es8, p8.1, _, _, _, _, _, _, _, _, _, rfl, rfl, fun h => ⟨rfl, rfl, hi8⟩, rfl⟩
end Go.GL


namespace Go.GL
open Go.Proofs
attribute [local irreducible] wpList Code.wp Exit.then Exit.inBlock Ends Tri TriH OpV OpG FnC epf wpAnyH
variable {A : List Asrt} {I : List Chunk}
theorem keyTask (n j : Int) : (.agg [.int .i64 n, .int .i64 j].toArray : Value) = mkv Try.prog 102 [n, j] := by kernel_rfl
theorem keyTaskAt : intAt Try.prog 9 102 = some 2 := by kernel_rfl
/-- The map tells what was leapt. -/
def MemIx (mm : R9.Memo) (ds : KVs) : Prop := ∀ n j, mfind ds [n, j] = (R9.look9 mm n j).map (.int .i64)
theorem MemIx.nil : MemIx [] [] := fun _ _ => rfl
theorem look9_snoc : ∀ (mm : R9.Memo) (n j to n' j' : Int), R9.look9 (mm ++ [(n, j, to)]) n' j' = match R9.look9 mm n' j' with | some t => some t | none => if n = n' ∧ j = j' then some to else none
 | [], n, j, to, n', j' => rfl
 | p :: mm, n, j, to, n', j' => by
  simp only [List.cons_append, R9.look9]
  split
  ·rfl
  ·exact look9_snoc mm n j to n' j'
theorem MemIx.snoc {mm : R9.Memo} {ds : KVs} (h : MemIx mm ds) {n j : Int} (hn : R9.look9 mm n j = none) (to : Int) : MemIx (mm ++ [(n, j, to)]) (mset ds [n, j] (.int .i64 to)) := by
 intro n' j'
 rw [mfind_mset, look9_snoc, h n' j']
 by_cases e : n = n' ∧ j = j'
 ·obtain ⟨rfl, rfl⟩ := e
  rw [if_pos rfl, hn]
  simp
 ·rw [if_neg (by simpa using e)]
  cases R9.look9 mm n' j' with
  | some t => rfl
  | none => simp [e]
/-- The leaper, as it lies in the heap. -/
abbrev LxA (bl bx mb db : Nat) (a : Option Addr) (cap : Nat) (ns : List Node) (room : Int) (es ds : KVs) (A : List Asrt) : List Asrt :=
 IxA bx mb a cap ns room es (Box bl [pt bx 0, .map (some db)] 96 :: MapA Try.prog 102 db ds :: A)
set_option maxRecDepth 100000 in
theorem leaper_level {a : Option Addr} {cap bl bx mb db : Nat} {ns : List Node} {room n : Int} {es ds : KVs} (hn : R6.inS ns n) :
  FnC Try.prog 41 [pt bl 0, .int .i64 n].toArray (LxA bl bx mb db a cap ns room es ds A) I (fun v A' I' => v = .int .i64 (R6.nd ns n).lv ∧ LxA bl bx mb db a cap ns room es ds A = A' ∧ I = I') := by
 obtain ⟨hn0, hn1⟩ := hn
 refine fn_enter2 Try.func41 rfl Try.ntmps41 rfl fun w0 => ?_
 refine tS (tR (tA rfl rfl (tN (tT (tS (tR (tM rfl rfl ?_)))))))
 refine tri_v (opv_nilCheck rfl) rfl ?_
 refine yF rfl (yF rfl ?_)
 refine yL rfl rfl ?_
 refine tri_v (opv_nilCheck rfl) rfl ?_
 refine yF rfl (yF rfl ?_)
 refine yL rfl rfl ?_
 refine tM rfl rfl ?_
 refine tri_v (opv_indexAddrR rfl rfl (by omega) (by omega)) rfl ?_
 refine tri_v (opv_fieldAddrR rfl (by omega) rfl) rfl ?_
 refine tri_v (opv_loadRX1 rfl rfl (by omega) rfl rfl) rfl ?_
 refine tA rfl rfl (tN (tT (tri_ret ?_)))
 refine tri_end _ (⟨[], rfl⟩) rfl (.cons (rv_tmp rfl) .nil) ⟨rfl, rfl, rfl⟩
end Go.GL


namespace Go.GL
section
variable {w0 : World} {n : Nat} {F : Frm} {A : List Asrt} {I : List Chunk} {P : Program} {dst : Option Tmp} {ty t : TypeId} {pos : String} {af : Array Edge} {gd : Option (Nat × Bool)} {x y : Operand} {d : TypeDesc} {s by_ : Nat} {z : List Value}
theorem spl_ints : ∀ (l : List Int) (off : Nat) (v : Int), off < l.length → spl (ints l) off [.int .i64 v] = some (ints (l.set off v))
 | a :: l, 0, v, _ => by cases l <;> rfl
 | a :: l, k + 1, v, h => by
  have := spl_ints l k v (by simpa using h)
  simp only [ints, List.map_cons, spl, List.set_cons_succ] at this ⊢
  rw [this]
 | [], k, v, h => by simp at h
/-- A whole number into a block of such. -/
theorem opg_storeIX {l : List Int} {b off : Nat} {v : Int} {T : TypeId} {u : List Value → List Asrt} [TyI P t d 1 by_ z] [Sel A b (ints l) T u] (hx : ev F x = some (pt b off)) (hy : ev F y = some (.int .i64 v)) (hl : off < l.length) :
  OpG P w0 n ⟨dst, .store t x y, ty, pos, af, gd⟩ F A I (fun _ A' I' => A' = u (ints (l.set off v)) ∧ I = I') :=
 opg_store (vs := [.int .i64 v]) hx hy rfl rfl rfl (spl_ints l off v hl)
/-- A place of an array of whole numbers that is a value. -/
theorem opv_indexIX {l : List Int} {l2 : Nat} {k : IntKind} {i : Int} {ix : Operand} {e : TypeId} {b' : Nat} {z' : List Value} [TyI P t (.array l2 e) s by_ z] [TyI P e (.int .i64) 1 b' z'] (hx : ev F x = some (.agg (ints l).toArray)) (hi : ev F ix = some (.int k i)) (h0 : 0 ≤ i) (h1 : i < l2) (hl : l2 = l.length) :
  OpV P w0 n ⟨dst, .index t x ix, ty, pos, af, gd⟩ F A I (.int .i64 (l.getD i.toNat default)) :=
 opv_index hx hi h0 h1 rfl (by
  rw [Nat.mul_one]
  have : i.toNat < l.length := by omega
  simp [ints, this])
theorem and_two_pow' (m k : Nat) : m &&& 2 ^ k = (m.testBit k).toNat * 2 ^ k := by
 apply Nat.eq_of_testBit_eq
 intro j
 rw [Nat.testBit_and, Nat.testBit_two_pow]
 by_cases e : k = j
 ·subst e
  cases h : m.testBit k
  ·simp
  ·simp
 ·cases h : m.testBit k
  ·simp [e]
  ·simp [e]
theorem and_pow {m k : Nat} (hm : m < 4611686018427387904) (hk : k ≤ 61) : IntKind.i64.wrap ((BitVec.ofInt IntKind.i64.bits (m : Int) &&& BitVec.ofInt IntKind.i64.bits (2 ^ k)).toNat : Int) = if (m : Int) / 2 ^ k % 2 = 1 then 2 ^ k else 0 := by
 have hk2 : (2:Nat) ^ k ≤ 2 ^ 61 := Nat.pow_le_pow_right (by omega) hk
 have e1 : (2:Int) ^ k = ((2 ^ k : Nat) : Int) := by simp
 have e2 : (BitVec.ofInt IntKind.i64.bits (m : Int) &&& BitVec.ofInt IntKind.i64.bits (2 ^ k)).toNat = m &&& 2 ^ k := by
  rw [e1, BitVec.toNat_and]
  show (BitVec.ofInt 64 (m : Int)).toNat &&& (BitVec.ofInt 64 ((2 ^ k : Nat) : Int)).toNat = _
  rw [BitVec.ofInt_natCast, BitVec.ofInt_natCast, BitVec.toNat_ofNat, BitVec.toNat_ofNat, Nat.mod_eq_of_lt (by omega), Nat.mod_eq_of_lt (by omega)]
 rw [e2, and_two_pow', Nat.testBit_eq_decide_div_mod_eq]
 have e3 : ((m : Int) / 2 ^ k % 2 = 1) ↔ m / 2 ^ k % 2 = 1 := by
  rw [e1]
  constructor
  ·intro h; exact_mod_cast h
  ·intro h; exact_mod_cast h
 by_cases h : m / 2 ^ k % 2 = 1
 ·rw [if_pos (e3.2 h), decide_eq_true h, e1]
  generalize (2:Nat) ^ k = p at hk2
  simp only [Bool.toNat_true, Nat.one_mul]
  exact w64 (by omega) (by omega)
 ·rw [if_neg (fun x => h (e3.1 x)), decide_eq_false h]
  simp only [Bool.toNat_false, Nat.zero_mul]
  exact w64 (by omega) (by omega)
/-- One bit of a count. -/
theorem opv_bit {xt yt : TypeId} {a b : Int} {k : Nat} (hx : ev F x = some (.int .i64 a)) (hy : ev F y = some (.int .i64 b)) (h0 : 0 ≤ a) (h1 : a < 4611686018427387904) (hb : b = 2 ^ k) (hk : k ≤ 61) : OpV P w0 n ⟨dst, .binOp .and xt x y yt, ty, pos, af, gd⟩ F A I (.int .i64 (if a / 2 ^ k % 2 = 1 then 2 ^ k else 0)) :=
 fun t w hf hs => by
  subst hb
  obtain ⟨m, rfl⟩ : ∃ m : Nat, a = m := ⟨a.toNat, by omega⟩
  simp only [execOp, hf.eval hx, hf.eval hy, eqGuard_and, binOp_and, Op.intBits, and_pow (show m < 4611686018427387904 by omega) hk, Sem.run_bind, Sem.run_pure, Result.andThen_ok]
end
end Go.GL


namespace Go.GL
theorem R9.Lk.good {room : Int} {s : R9.LS} (h : R9.Lk room s) : R6.Good s.ns room := h.right.good (by have := h.right.1.2.1; omega)
theorem R9.Lk.len2 {room : Int} {s : R9.LS} (h : R9.Lk room s) : 2 ≤ s.ns.length := h.wf.len
theorem R9.Lk.kid {room : Int} {s : R9.LS} (h : R9.Lk room s) {lv : Nat} {n : Int} (hn : R7.IsN s.ns (lv + 2) n) : R8.Kid s.ns n := h.right.kids hn.1 (by rw [hn.2]; omega)
theorem nine_len {l : List Int} (h : l.length = 9) : ∃ q0 q1 q2 q3 q4 q5 q6 q7 q8, l = [q0, q1, q2, q3, q4, q5, q6, q7, q8] := by
 match l, h with
 | [a, b, c, d, e, f, g, h, i], _ => exact ⟨a, b, c, d, e, f, g, h, i, rfl⟩
/-- The first so many made. -/
theorem mapS_step {f : R9.LS → Int → R9.L9} {s : R9.LS} {qs : List Int} {i : Nat} (hi : i < qs.length) : R9.mapS f s (qs.drop i) = if (f s (qs.getD i default)).2.2 ≠ 0 then ((f s (qs.getD i default)).1, [], (f s (qs.getD i default)).2.2) else ((R9.mapS f (f s (qs.getD i default)).1 (qs.drop (i + 1))).1, (f s (qs.getD i default)).2.1 :: (R9.mapS f (f s (qs.getD i default)).1 (qs.drop (i + 1))).2.1, (R9.mapS f (f s (qs.getD i default)).1 (qs.drop (i + 1))).2.2) := by
 rw [List.drop_eq_getElem_cons hi, show qs.getD i default = qs[i] by simp [hi]]
 rfl
/-- The list in the middle of a round: what is made, and what is to be made. -/
def midL (res qs : List Int) : List Int := res ++ qs.drop res.length
theorem midL_len {res qs : List Int} (h : res.length ≤ qs.length) : (midL res qs).length = qs.length := by unfold midL; rw [List.length_append, List.length_drop]; omega
theorem midL_at {res qs : List Int} (h : res.length < qs.length) : (midL res qs).getD res.length default = qs.getD res.length default := by
 unfold midL
 rw [List.getD_eq_getElem?_getD, List.getElem?_append_right (Nat.le_refl _), Nat.sub_self, List.getElem?_drop]
 simp
theorem midL_set {res qs : List Int} (h : res.length < qs.length) (v : Int) : (midL res qs).set res.length v = midL (res ++ [v]) qs := by
 unfold midL
 rw [List.set_append_right _ _ (Nat.le_refl _), Nat.sub_self, show qs.drop res.length = qs[res.length] :: qs.drop (res.length + 1) from List.drop_eq_getElem_cons h, List.set_cons_zero, List.append_assoc, List.length_append]
 rfl
theorem midL_done {res qs : List Int} (h : res.length = qs.length) : midL res qs = res := by unfold midL; rw [List.drop_of_length_le (by omega)]; simp
theorem mapS_next {f : R9.LS → Int → R9.L9} {t : R9.LS} {res qs : List Int} {i : Nat} {r : R9.LS × List Int × Int} (hl : res.length = i) (hi : i < qs.length) (hr : r = ((R9.mapS f t (qs.drop i)).1, res ++ (R9.mapS f t (qs.drop i)).2.1, (R9.mapS f t (qs.drop i)).2.2)) {R : R9.L9} (hR : f t (qs.getD i default) = R) :
  (R.2.2 = 0 → (res ++ [R.2.1]).length = i + 1 ∧ r = ((R9.mapS f R.1 (qs.drop (i + 1))).1, (res ++ [R.2.1]) ++ (R9.mapS f R.1 (qs.drop (i + 1))).2.1, (R9.mapS f R.1 (qs.drop (i + 1))).2.2)) ∧ (R.2.2 ≠ 0 → r.2.2 = R.2.2) := by
 rw [mapS_step hi, hR] at hr
 constructor
 ·intro h
  rw [if_neg (by simpa using h)] at hr
  exact ⟨by simp [hl], by rw [hr]; simp⟩
 ·intro h
  rw [if_pos h] at hr
  rw [hr]
theorem four_len {l : List Int} (h : l.length = 4) : ∃ q0 q1 q2 q3, l = [q0, q1, q2, q3] := by
 match l, h with
 | [a, b, c, d], _ => exact ⟨a, b, c, d, rfl⟩
end Go.GL


namespace Go.GL
open Go.Proofs
attribute [local irreducible] wpList Code.wp Exit.then Exit.inBlock Ends Tri TriH OpV OpG FnC epf wpAnyH
/-- What a function on a leaper tells and leaves behind. -/
def LxR (bl bx mb db : Nat) (r : R9.L9) (room : Int) (A : List Asrt) (I : List Chunk) : Value → List Asrt → List Chunk → Prop :=
 fun v A' I' => ∃ a' cap' es' ds' ns' m, v = .tuple [.int .i64 m, .int .i64 r.2.2].toArray ∧ A' = LxA bl bx mb db a' cap' ns' room es' ds' A ∧ (r.2.2 = 0 → ns' = r.1.ns ∧ m = r.2.1 ∧ Idx r.1.ns es' ∧ MemIx r.1.mm ds') ∧ I = I'
def LeapSpec (k : Nat) : Prop := ∀ (A : List Asrt) (I : List Chunk) (s : R9.LS) (a : Option Addr) (cap bl bx mb db : Nat) (room n j : Int) (es ds : KVs) (r : R9.L9), R9.Lk room s → R7.IsN s.ns (k + 2) n → Idx s.ns es → MemIx s.mm ds → 0 ≤ j ∧ j ≤ 1000000 → R9.leap room k s n j = r →
 FnC Try.prog 43 [pt bl 0, .int .i64 n, .int .i64 j].toArray (LxA bl bx mb db a cap s.ns room es ds A) I (LxR bl bx mb db r room A I)
set_option maxHeartbeats 2000000 in
set_option maxRecDepth 100000 in
theorem leaper_half {A : List Asrt} {I : List Chunk} {k : Nat} (ih : LeapSpec k) {s : R9.LS} {a : Option Addr} {cap bl bx mb db : Nat} {room n j : Int} {es ds : KVs} {full : Bool} {r : R9.LS × List Int × Int} (h : R9.Lk room s) (hn : R7.IsN s.ns (k + 3) n) (hix : Idx s.ns es) (hmx : MemIx s.mm ds) (hj : 0 ≤ j ∧ j ≤ 1000000) (hfull : full = true → 1 ≤ j)
  (hr : R9.half (R9.leap room k) room full s n j = r) :
  FnC Try.prog 88 [pt bl 0, .int .i64 n, .int .i64 j, .bool full].toArray (LxA bl bx mb db a cap s.ns room es ds A) I (fun v A' I' => ∃ a' cap' es' ds' ns' q0 q1 q2 q3 q4 q5 q6 q7 q8, v = .tuple [.agg [.int .i64 q0, .int .i64 q1, .int .i64 q2, .int .i64 q3, .int .i64 q4, .int .i64 q5, .int .i64 q6, .int .i64 q7, .int .i64 q8].toArray, .int .i64 r.2.2].toArray ∧ A' = LxA bl bx mb db a' cap' ns' room es' ds' A ∧ (r.2.2 = 0 → ns' = r.1.ns ∧ r.2.1 = [q0, q1, q2, q3, q4, q5, q6, q7, q8] ∧ Idx r.1.ns es' ∧ MemIx r.1.mm ds') ∧ I = I') := by
 have hk := h.kid hn
 skip
 skip
 refine fn_enter4 Try.func88 rfl Try.ntmps88 rfl fun w0 => ?_
 refine tS (tR ?_)
 refine tri_g opg_alloc rfl ?_
 rintro _ _ _ ⟨b8, rfl, rfl, rfl⟩
 refine tA rfl rfl (tN (tT (tS ?_)))
 refine tri_perm (A := ?a1_0 :: ?a1_1 :: ?a1_2 :: ?a1_3 :: ?a1_4 :: ?a1_5 :: ?T1) (B := ?a1_1 :: ?a1_2 :: ?a1_3 :: ?a1_4 :: ?a1_5 :: ?a1_0 :: ?T1) (by exact permL [1, 2, 3, 4, 5, 0] [?a1_0, ?a1_1, ?a1_2, ?a1_3, ?a1_4, ?a1_5] ?T1 (by decide) rfl) ?_
 refine tR (tM rfl rfl ?_)
 refine tri_v (opv_nilCheck rfl) rfl ?_
 refine yF rfl ?_
 refine yB rfl rfl ?_
 refine tM rfl rfl ?_
 refine tri_g (opg_call (xs := [_, _]) rfl (maker_nine h.good h.len2 hix hk)) rfl ?_
 rintro _ _ _ ⟨a1, c1, es1, ns1, q0, q1, q2, q3, q4, q5, q6, q7, q8, rfl, rfl, hq, rfl⟩
 refine tM rfl rfl ?_
 refine tri_v (opv_extract rfl rfl) rfl ?_
 refine tri_v (opv_extract rfl rfl) rfl ?_
 refine tri_g opg_alloc rfl ?_
 rintro _ _ _ ⟨b10, rfl, rfl, rfl⟩
 refine yG rfl rfl rfl rfl rfl rfl ?_
 rintro _ _ _ ⟨rfl, rfl⟩
 refine tA rfl rfl (tN (tT (tS (tS (tR (tA rfl rfl (tN ?_)))))))
 refine tT (tri_block ?_)
 unfold R9.half at hr
 refine tri_perm (A := ?a2_0 :: ?a2_1 :: ?a2_2 :: ?a2_3 :: ?a2_4 :: ?a2_5 :: ?a2_6 :: ?T2) (B := ?a2_1 :: ?a2_2 :: ?a2_3 :: ?a2_4 :: ?a2_5 :: ?a2_0 :: ?a2_6 :: ?T2) (by exact permL [1, 2, 3, 4, 5, 0, 6] [?a2_0, ?a2_1, ?a2_2, ?a2_3, ?a2_4, ?a2_5, ?a2_6] ?T2 (by decide) rfl) ?_
 by_cases e0 : (R8.all s.ns room n).2.2 = 0
 ·rw [if_neg (by simpa using e0)] at hr
  obtain ⟨rfl, hq9, hi1⟩ := hq e0
  obtain ⟨ra, pa, la, ia⟩ := R9.all_gd h.right hn e0
  rw [hq9] at hr ia
  rw [e0]
  have hs0 : R9.Lk room ⟨(R8.all s.ns room n).1, s.mm⟩ := ⟨ra, h.mem.pre pa⟩
  rw [show ([.int .i64 q0, .int .i64 q1, .int .i64 q2, .int .i64 q3, .int .i64 q4, .int .i64 q5, .int .i64 q6, .int .i64 q7, .int .i64 q8] : List Value) = ints [q0, q1, q2, q3, q4, q5, q6, q7, q8] from rfl]
  generalize (R8.all s.ns room n).1 = n1 at *
  generalize hqs : ([q0, q1, q2, q3, q4, q5, q6, q7, q8] : List Int) = qs at *
  have hl9 : qs.length = 9 := by rw [← hqs]; rfl
  refine tri_sub (F' := [(0, pt bl 0), (2, .int .i64 j), (3, .bool full), (8, pt b8 0), (10, pt b10 0), (11, .int .i64 (0 : Int)), (12, .int .i64 (0 : Nat))]) ⟨rfl, rfl, rfl, rfl, rfl, rfl, rfl, trivial⟩ ?_
  refine loop_ind (G := Nat × R9.LS × List Int × Option Addr × Nat × KVs × KVs × List Node × Int) (fun g => 9 - g.1) (fun g => g.1 ≤ 9 ∧ (g.2.2.2.2.2.2.2.2 = 0 → g.2.2.1.length = g.1 ∧ r = ((R9.mapS (R9.halfF (R9.leap room k) room full j) g.2.1 (qs.drop g.1)).1, g.2.2.1 ++ (R9.mapS (R9.halfF (R9.leap room k) room full j) g.2.1 (qs.drop g.1)).2.1, (R9.mapS (R9.halfF (R9.leap room k) room full j) g.2.1 (qs.drop g.1)).2.2) ∧ g.2.2.2.2.2.2.2.1 = g.2.1.ns ∧ R9.Lk room g.2.1 ∧ n1 <+: g.2.1.ns ∧ Idx g.2.1.ns g.2.2.2.2.2.1 ∧ MemIx g.2.1.mm g.2.2.2.2.2.2.1) ∧ (g.2.2.2.2.2.2.2.2 ≠ 0 → r.2.2 = g.2.2.2.2.2.2.2.2) ∧ g.2.2.1.length ≤ 9) (fun g => [(0, pt bl 0), (2, .int .i64 j), (3, .bool full), (8, pt b8 0), (10, pt b10 0), (11, .int .i64 g.2.2.2.2.2.2.2.2), (12, .int .i64 (g.1 : Nat))]) (fun g => LxA bl bx mb db g.2.2.2.1 g.2.2.2.2.1 g.2.2.2.2.2.2.2.1 room g.2.2.2.2.2.1 g.2.2.2.2.2.2.1 (Box b10 (ints (midL g.2.2.1 qs)) 117 :: Box b8 [.int .i64 0, .int .i64 0, .int .i64 0, .int .i64 0, .int .i64 0, .int .i64 0, .int .i64 0, .int .i64 0, .int .i64 0] 117 :: A)) (fun _ => I) ?_ (0, ⟨n1, s.mm⟩, [], a1, c1, es1, ds, n1, 0) ⟨by omega, fun _ => ⟨rfl, by rw [List.drop_zero]; exact hr.symm, rfl, hs0, List.prefix_refl _, hi1, hmx⟩, fun hf => absurd rfl hf, by simp⟩
  rintro ⟨i, t, res, a2, c2, es2, ds2, ns2, er⟩ ⟨hi, ho, hne, hrl⟩ K hK
  simp only at hi ho hne hrl hK ⊢
  have hml := midL_len (res := res) (qs := qs) (by omega)
  skip
  refine tS (tS (tR (tM rfl rfl (yC rfl rfl (tM rfl rfl ?_)))))
  refine tri_split rfl rfl (fun h9 => ?_) (fun h9 => ?_)
  ·refine yR rfl rfl (tM rfl rfl (yR rfl rfl ?_))
   refine tri_v (opv_eql rfl rfl) rfl ?_
   refine tri_v (opv_pick_t rfl rfl) rfl ?_
   refine tN (tT ?_)
   refine tri_cond_dec rfl (fun he => ?_) (fun he => ?_)
   ·have hi9 : i < 9 := by omega
    obtain ⟨hlen, hrr, rfl, hlk, hpre, hix2, hmx2⟩ := ho he
    have ei : 0 + ((i : Nat) : Int).toNat * 1 = i := by omega
    have eq : (midL res qs).getD (0 + ((i : Nat) : Int).toNat * 1) default = qs.getD i default := by rw [ei, ← hlen]; exact midL_at (res := res) (qs := qs) (by omega)
    have hqn : R7.IsN t.ns (k + 2) ((midL res qs).getD (0 + ((i : Nat) : Int).toNat * 1) default) := by
     rw [eq]
     exact (ia _ (by simp [show i < qs.length by omega])).pre hpre
    have eset : ∀ v, (midL res qs).set (0 + ((i : Nat) : Int).toNat * 1) v = midL (res ++ [v]) qs := fun v => by rw [ei, ← hlen]; exact midL_set (res := res) (qs := qs) (by omega) v
    refine tri_skip (tT (tS (tri_block (tS (tR (tM rfl rfl (tN ?_)))))))
    refine tT ?_
    refine tri_cond rfl (fun hf => ?_) (fun hf => ?_)
    ·have hf1 : full = true := by simpa using hf
     have hj1 := hfull hf1
     obtain ⟨R, hR⟩ : ∃ R, R9.leap room k t ((midL res qs).getD (0 + ((i : Nat) : Int).toNat * 1) default) (j - 1) = R := ⟨_, rfl⟩
     refine tR (tM rfl rfl (tM rfl rfl (tM rfl rfl ?_)))
     refine tri_v (opv_indexAddrA rfl rfl (by omega) (by omega)) rfl ?_
     refine tri_v (opv_loadIX rfl rfl (by omega)) rfl ?_
     refine tM rfl rfl ?_
     refine tri_v (opv_sub rfl rfl (w64 (by omega) (by omega))) rfl ?_
     refine tri_g (opg_call (xs := [_, _, _]) rfl (ih _ _ t _ _ _ _ _ _ _ _ (j - 1) _ _ R hlk hqn hix2 hmx2 (by omega) hR)) rfl ?_
     rintro _ _ _ ⟨a3, c3, es3, ds3, ns3, m3, rfl, rfl, h3, rfl⟩
     refine tM rfl rfl ?_
     refine tri_v (opv_extract rfl rfl) rfl ?_
     refine tri_v (opv_extract rfl rfl) rfl ?_
     refine tri_v (opv_indexAddrA rfl rfl (by omega) (by omega)) rfl ?_
     refine tri_g (opg_storeIX rfl rfl (by omega)) rfl ?_
     rintro _ _ _ ⟨rfl, rfl⟩
     rw [eset]
     refine tA rfl rfl (tN (tri_inBlock (tT (tR (tM rfl rfl ?_)))))
     refine yU rfl rfl ?_
     refine tA rfl rfl (tN (tT ?_))
     have hnx := mapS_next (R := R) hlen (by omega) hrr (by unfold R9.halfF; rw [if_pos hf1, ← eq]; exact hR)
     have hgd := fun e => R9.leap_gd k t _ (j - 1) hlk hqn (by rw [hR]; exact e)
     rw [hR] at hgd
     refine tri_sub ?_ (hK (i + 1, R.1, res ++ [m3], a3, c3, es3, ds3, ns3, R.2.2) ⟨by simp only; omega, fun e => ?_, fun e => hnx.2 e, by simp only [List.length_append, List.length_singleton]; omega⟩ (by simp only; omega))
     ·exact ⟨rfl, rfl, rfl, rfl, rfl, rfl, rfl, trivial⟩
     ·obtain ⟨rfl, rfl, hi3, hm3⟩ := h3 e
      exact ⟨(hnx.1 e).1, (hnx.1 e).2, rfl, (hgd e).lk, hpre.trans (hgd e).pre, hi3, hm3⟩
    ·have hf1 : ¬ full = true := by simpa using hf
     skip
     refine tri_perm (A := ?a3_0 :: ?a3_1 :: ?a3_2 :: ?a3_3 :: ?a3_4 :: ?a3_5 :: ?a3_6 :: ?T3) (B := ?a3_0 :: ?a3_1 :: ?a3_2 :: ?a3_5 :: ?a3_3 :: ?a3_4 :: ?a3_6 :: ?T3) (by exact permL [0, 1, 2, 5, 3, 4, 6] [?a3_0, ?a3_1, ?a3_2, ?a3_3, ?a3_4, ?a3_5, ?a3_6] ?T3 (by decide) rfl) ?_
     skip
     refine tri_draw [0, 1, 2, 3, 4, 5, 6, 7, 8, 9, 10, 11, 12, 13, 14] rfl [_, _, _, _] rfl mixed ?_
     refine yM rfl rfl (yM rfl rfl (yn rfl rfl (yf rfl rfl ?_)))
     refine th_take rfl rfl (by kernel_rfl)  (opv_loadA rfl rfl rfl) ?_
     refine yM rfl rfl ?_
     refine th_take rfl rfl (by kernel_rfl)  (opv_indexAddrA rfl rfl (by omega) (by omega)) ?_
     refine th_one (by kernel_rfl) (step_m rfl rfl (OpV.toG (opv_loadIX rfl rfl (by omega))) ?_)
     rintro _ _ _ ⟨rfl, rfl, rfl⟩
     refine ⟨Suf.h, (fun _ h => h), ?_⟩
     refine th_one (by kernel_rfl) (step_m rfl rfl (opg_call (xs := [_, _]) rfl (maker_centre hlk.good hlk.len2 hix2 (hlk.kid hqn))) ?_)
     rintro _ _ _ ⟨a3, c3, es3, rfl, rfl, hi3, rfl⟩
     refine ⟨Suf.h, (fun _ h => h), ?_⟩
     obtain ⟨R, hR⟩ : ∃ R, R9.midS room t ((midL res qs).getD (0 + ((i : Nat) : Int).toNat * 1) default) = R := ⟨_, rfl⟩
     have er1 : (R8.putSq t.ns room (R8.s16 t.ns ((midL res qs).getD (0 + ((i : Nat) : Int).toNat * 1) default)) 1 1).1 = R.1.ns := by rw [← hR]; rfl
     have er2 : (R8.putSq t.ns room (R8.s16 t.ns ((midL res qs).getD (0 + ((i : Nat) : Int).toNat * 1) default)) 1 1).2.1 = R.2.1 := by rw [← hR]; rfl
     have er3 : (R8.putSq t.ns room (R8.s16 t.ns ((midL res qs).getD (0 + ((i : Nat) : Int).toNat * 1) default)) 1 1).2.2 = R.2.2 := by rw [← hR]; rfl
     have er4 : R.1.mm = t.mm := by rw [← hR]; rfl
     rw [er1] at hi3
     rw [er1, er2, er3]
     refine yM rfl rfl (yE rfl rfl rfl (yE rfl rfl rfl ?_))
     refine th_take rfl rfl (by kernel_rfl)  (opv_indexAddrA rfl rfl (by omega) (by omega)) ?_
     refine th_one (by kernel_rfl) (step_m rfl rfl (opg_storeIX rfl rfl (by omega)) ?_)
     rintro _ _ _ ⟨rfl, rfl⟩
     refine ⟨Suf.h, (fun _ h => h), ?_⟩
     rw [eset]
     refine yA rfl rfl (yD (tri_inBlock (tT (tR (tM rfl rfl ?_)))))
     refine yU rfl rfl ?_
     refine tA rfl rfl (tN (tT ?_))
     refine tri_perm (A := ?a4_0 :: ?a4_1 :: ?a4_2 :: ?a4_3 :: ?a4_4 :: ?a4_5 :: ?a4_6 :: ?T4) (B := ?a4_0 :: ?a4_1 :: ?a4_2 :: ?a4_4 :: ?a4_5 :: ?a4_3 :: ?a4_6 :: ?T4) (by exact permL [0, 1, 2, 4, 5, 3, 6] [?a4_0, ?a4_1, ?a4_2, ?a4_3, ?a4_4, ?a4_5, ?a4_6] ?T4 (by decide) rfl) ?_
     have hnx := mapS_next (R := R) hlen (by omega) hrr (by unfold R9.halfF; rw [if_neg hf1, ← eq]; exact hR)
     have hgd := fun e => R9.midS_gd (lv := k) hlk hqn (by rw [hR]; exact e)
     rw [hR] at hgd
     refine tri_sub ?_ (hK (i + 1, R.1, res ++ [R.2.1], a3, c3, es3, ds2, R.1.ns, R.2.2) ⟨by simp only; omega, fun e => ?_, fun e => hnx.2 e, by simp only [List.length_append, List.length_singleton]; omega⟩ (by simp only; omega))
     ·exact ⟨rfl, rfl, rfl, rfl, rfl, rfl, rfl, trivial⟩
     ·exact ⟨(hnx.1 e).1, (hnx.1 e).2, rfl, (hgd e).lk, hpre.trans (hgd e).pre, hi3, by rw [er4]; exact hmx2⟩
   ·obtain ⟨p0, p1, p2, p3, p4, p5, p6, p7, p8, hp⟩ := nine_len (l := midL res qs) (by omega)
    have fin : r.2.2 = er ∧ (er = 0 → ns2 = r.1.ns ∧ r.2.1 = midL res qs ∧ Idx r.1.ns es2 ∧ MemIx r.1.mm ds2) := ⟨hne he, fun e => absurd e he⟩
    rw [hp] at fin ⊢
    refine tri_exit ?_
    refine tri_then_exit (tri_then_exit ?_)
    refine tri_inBlock_hit rfl ?_
    refine tT (tS (tR ?_))
    refine yB rfl rfl ?_
    refine tM rfl rfl ?_
    refine yG rfl rfl rfl rfl rfl rfl ?_
    rintro _ _ _ ⟨rfl, rfl⟩
    refine tA rfl rfl (tN (tT (tri_ret ?_)))
    refine tri_perm (A := ?a5_0 :: ?a5_1 :: ?a5_2 :: ?a5_3 :: ?a5_4 :: ?a5_5 :: ?a5_6 :: ?T5) (B := ?a5_5 :: ?a5_6 :: ?a5_0 :: ?a5_1 :: ?a5_2 :: ?a5_3 :: ?a5_4 :: ?T5) (by exact permL [5, 6, 0, 1, 2, 3, 4] [?a5_0, ?a5_1, ?a5_2, ?a5_3, ?a5_4, ?a5_5, ?a5_6] ?T5 (by decide) rfl) ?_
    refine tri_end (LxA bl bx mb db a2 c2 ns2 room es2 ds2 A) Suf.h rfl (.cons (rv_cellA rfl rfl rfl) (.cons (rv_tmp rfl) .nil)) ⟨a2, c2, es2, ds2, ns2, p0, p1, p2, p3, p4, p5, p6, p7, p8, by rw [fin.1]; rfl, rfl, fun e => fin.2 (fin.1.symm.trans e), rfl⟩
  ·obtain ⟨p0, p1, p2, p3, p4, p5, p6, p7, p8, hp⟩ := nine_len (l := midL res qs) (by omega)
   have fin : r.2.2 = er ∧ (er = 0 → ns2 = r.1.ns ∧ r.2.1 = midL res qs ∧ Idx r.1.ns es2 ∧ MemIx r.1.mm ds2) := by
    by_cases he : er = 0
    ·obtain ⟨hlen, hrr, rfl, hlk, hpre, hix2, hmx2⟩ := ho he
     rw [List.drop_of_length_le (by omega)] at hrr
     have hr3 : r = (t, res, 0) := by rw [hrr]; simp [R9.mapS]
     rw [hr3, he, midL_done (by omega)]
     exact ⟨rfl, fun _ => ⟨rfl, rfl, hix2, hmx2⟩⟩
    ·exact ⟨hne he, fun e => absurd e he⟩
   rw [hp] at fin ⊢
   refine tri_guard_skip rfl rfl rfl rfl (tri_guard_skip rfl rfl rfl rfl ?_)
   refine tri_v (opv_pick_f rfl rfl) rfl ?_
   refine tN (tT ?_)
   refine tri_cond_false rfl ?_
   refine tri_exit ?_
   refine tri_then_exit (tri_then_exit ?_)
   refine tri_inBlock_hit rfl ?_
   refine tT (tS (tR ?_))
   refine yB rfl rfl ?_
   refine tM rfl rfl ?_
   refine yG rfl rfl rfl rfl rfl rfl ?_
   rintro _ _ _ ⟨rfl, rfl⟩
   refine tA rfl rfl (tN (tT (tri_ret ?_)))
   refine tri_perm (A := ?a6_0 :: ?a6_1 :: ?a6_2 :: ?a6_3 :: ?a6_4 :: ?a6_5 :: ?a6_6 :: ?T6) (B := ?a6_5 :: ?a6_6 :: ?a6_0 :: ?a6_1 :: ?a6_2 :: ?a6_3 :: ?a6_4 :: ?T6) (by exact permL [5, 6, 0, 1, 2, 3, 4] [?a6_0, ?a6_1, ?a6_2, ?a6_3, ?a6_4, ?a6_5, ?a6_6] ?T6 (by decide) rfl) ?_
   refine tri_end (LxA bl bx mb db a2 c2 ns2 room es2 ds2 A) Suf.h rfl (.cons (rv_cellA rfl rfl rfl) (.cons (rv_tmp rfl) .nil)) ⟨a2, c2, es2, ds2, ns2, p0, p1, p2, p3, p4, p5, p6, p7, p8, by rw [fin.1]; rfl, rfl, fun e => fin.2 (fin.1.symm.trans e), rfl⟩
 ·rw [if_pos e0] at hr
  subst hr
  refine tri_rounds 1 ?_
  refine tri_round (tS (tS (tR (tM rfl rfl (yC rfl rfl (tM rfl rfl ?_))))))
  refine tri_true rfl rfl (by decide) ?_
  refine yR rfl rfl (tM rfl rfl (yR rfl rfl ?_))
  refine tri_v (opv_eql rfl rfl) rfl ?_
  refine tri_v (opv_pick_t rfl rfl) rfl ?_
  refine tN (tT ?_)
  refine tri_cond_not rfl (e0) ?_
  refine tri_exit ?_
  refine tri_then_exit (tri_then_exit ?_)
  refine tri_inBlock_hit rfl ?_
  refine tT (tS (tR ?_))
  refine yB rfl rfl ?_
  refine tM rfl rfl ?_
  refine yG rfl rfl rfl rfl rfl rfl ?_
  rintro _ _ _ ⟨rfl, rfl⟩
  refine tA rfl rfl (tN (tT (tri_ret ?_)))
  refine tri_perm (A := ?a7_0 :: ?a7_1 :: ?a7_2 :: ?a7_3 :: ?a7_4 :: ?a7_5 :: ?a7_6 :: ?T7) (B := ?a7_5 :: ?a7_6 :: ?a7_0 :: ?a7_1 :: ?a7_2 :: ?a7_3 :: ?a7_4 :: ?T7) (by exact permL [5, 6, 0, 1, 2, 3, 4] [?a7_0, ?a7_1, ?a7_2, ?a7_3, ?a7_4, ?a7_5, ?a7_6] ?T7 (by decide) rfl) ?_
  refine tri_end (LxA bl bx mb db a1 c1 ns1 room es1 ds A) Suf.h rfl (.cons (rv_cellA rfl rfl rfl) (.cons (rv_tmp rfl) .nil)) ⟨a1, c1, es1, ds, ns1, q0, q1, q2, q3, q4, q5, q6, q7, q8, rfl, rfl, fun e => absurd e e0, rfl⟩
end Go.GL


namespace Go.GL
open Go.Proofs
attribute [local irreducible] wpList Code.wp Exit.then Exit.inBlock Ends Tri TriH OpV OpG FnC epf wpAnyH
set_option maxHeartbeats 2000000 in
set_option maxRecDepth 100000 in
theorem leaper_make {A : List Asrt} {I : List Chunk} {k : Nat} (ih : LeapSpec k) {s : R9.LS} {a : Option Addr} {cap bl bx mb db : Nat} {room n j : Int} {es ds : KVs} {r : R9.L9} (h : R9.Lk room s) (hn : R7.IsN s.ns (k + 3) n) (hix : Idx s.ns es) (hmx : MemIx s.mm ds) (hj : 0 ≤ j ∧ j ≤ 1000000)
  (hr : R9.far (R9.leap room k) room (decide (j = k + 1)) s n j = r) :
  FnC Try.prog 69 [pt bl 0, .int .i64 n, .int .i64 j].toArray (LxA bl bx mb db a cap s.ns room es ds A) I (LxR bl bx mb db r room A I) := by
 have hlv : (R6.nd s.ns n).lv = k + 3 := by rw [hn.2]; omega
 have efull : decide (j = (R6.nd s.ns n).lv - 2) = decide (j = k + 1) := decide_eq_decide.2 (by omega)
 have hlb := h.wf.lvb hn.1
 obtain ⟨full, hfl⟩ : ∃ f, decide (j = k + 1) = f := ⟨_, rfl⟩
 have hfull : full = true → 1 ≤ j := fun e => by
  rw [← hfl] at e
  have := of_decide_eq_true e
  omega
 rw [hfl] at hr efull
 obtain ⟨r1, hr1⟩ : ∃ r1, R9.half (R9.leap room k) room full s n j = r1 := ⟨_, rfl⟩
 unfold R9.far at hr
 rw [hr1] at hr
 skip
 skip
 refine fn_enter3 Try.func69 rfl Try.ntmps69 rfl fun w0 => ?_
 refine tS (tR (tA rfl rfl (tA rfl rfl (tN (tT (tS (tR ?_)))))))
 refine tM rfl rfl (tM rfl rfl (tM rfl rfl ?_))
 refine tri_g (opg_call (xs := [_, _]) rfl (leaper_level hn.1)) rfl ?_
 rintro _ _ _ ⟨rfl, rfl, rfl⟩
 refine tri_v (opv_sub rfl rfl (w64 (by omega) (by omega))) rfl ?_
 refine tri_v (opv_eql rfl rfl) rfl ?_
 refine tA rfl rfl (tN (tT (tS (tR (tM rfl rfl (tM rfl rfl (tM rfl rfl ?_)))))))
 refine tM rfl rfl ?_
 rw [efull]
 refine tri_g (opg_call (xs := [_, _, _, _]) rfl (leaper_half ih h hn hix hmx hj hfull hr1)) rfl ?_
 rintro _ _ _ ⟨a1, c1, es1, ds1, ns1, q0, q1, q2, q3, q4, q5, q6, q7, q8, rfl, rfl, h1, rfl⟩
 refine tM rfl rfl ?_
 refine tri_v (opv_extract rfl rfl) rfl ?_
 refine tri_v (opv_extract rfl rfl) rfl ?_
 refine tri_g opg_alloc rfl ?_
 rintro _ _ _ ⟨b9, rfl, rfl, rfl⟩
 refine yG rfl rfl rfl rfl rfl rfl ?_
 rintro _ _ _ ⟨rfl, rfl⟩
 refine tA rfl rfl (tN (tT (tS (tS (tR (tM rfl rfl ?_))))))
 refine tri_v (opv_neq rfl rfl) rfl ?_
 refine tN (tT ?_)
 refine tri_cond_dec rfl (fun x1 => ?_) (fun x1 => ?_)
 ·rw [R9.bindM_err x1] at hr
  subst hr
  refine tS (tR (tM rfl rfl (tA rfl rfl (tA rfl rfl (tN (tT (tri_ret ?_)))))))
  refine tri_then_ret ?_
  refine tri_end _ (⟨[_], rfl⟩) rfl (.cons (rv_tmp rfl) (.cons (rv_tmp rfl) .nil)) ⟨a1, c1, es1, ds1, ns1, 0, rfl, rfl, fun e => absurd e x1, rfl⟩
 refine tri_skip (tT (tS (tR ?_)))
 refine tri_g opg_alloc rfl ?_
 rintro _ _ _ ⟨b11, rfl, rfl, rfl⟩
 refine tN (tT (tS (tS (tR (tM rfl rfl (tN (tT ?_)))))))
 refine tri_block ?_
 have x1 : r1.2.2 = 0 := Decidable.not_not.1 x1
 rw [R9.bindM_ok x1] at hr
 obtain ⟨rfl, hq9, hi1, hm1⟩ := h1 x1
 obtain ⟨lk1, pre1, len1, is1⟩ := R9.half_gd (fun s q j hs hq he => R9.leap_gd k s q j hs hq he) h hn hr1 x1
 obtain ⟨T, L, e1⟩ := r1
 simp only at hq9 hi1 hm1 lk1 pre1 len1 is1 hr x1
 refine tri_perm (A := ?a1_0 :: ?a1_1 :: ?a1_2 :: ?a1_3 :: ?a1_4 :: ?a1_5 :: ?a1_6 :: ?T1) (B := ?a1_2 :: ?a1_3 :: ?a1_4 :: ?a1_0 :: ?a1_5 :: ?a1_6 :: ?a1_1 :: ?T1) (by exact permL [2, 3, 4, 0, 5, 6, 1] [?a1_0, ?a1_1, ?a1_2, ?a1_3, ?a1_4, ?a1_5, ?a1_6] ?T1 (by decide) rfl) ?_
 rw [show ([.int .i64 q0, .int .i64 q1, .int .i64 q2, .int .i64 q3, .int .i64 q4, .int .i64 q5, .int .i64 q6, .int .i64 q7, .int .i64 q8] : List Value) = ints [q0, q1, q2, q3, q4, q5, q6, q7, q8] from rfl, ← hq9]
 obtain ⟨R2, hR2⟩ : ∃ R2, R9.mapS (R9.fourP room L) T R9.fourE = R2 := ⟨_, rfl⟩
 rw [hR2] at hr
 refine tri_sub (F' := [(0, pt bl 0), (2, .int .i64 j), (8, .bool full), (9, pt b9 0), (11, pt b11 0), (32, .int .i64 (0 : Nat))]) ⟨rfl, rfl, rfl, rfl, rfl, rfl, trivial⟩ ?_
 refine loop_ind (G := Nat × R9.LS × List Int × Option Addr × Nat × KVs) (fun g => 4 - g.1) (fun g => g.1 ≤ 4 ∧ g.2.2.1.length = g.1 ∧ R2 = ((R9.mapS (R9.fourP room L) g.2.1 (R9.fourE.drop g.1)).1, g.2.2.1 ++ (R9.mapS (R9.fourP room L) g.2.1 (R9.fourE.drop g.1)).2.1, (R9.mapS (R9.fourP room L) g.2.1 (R9.fourE.drop g.1)).2.2) ∧ R9.Lk room g.2.1 ∧ T.ns <+: g.2.1.ns ∧ Idx g.2.1.ns g.2.2.2.2.2 ∧ g.2.1.mm = T.mm) (fun g => [(0, pt bl 0), (2, .int .i64 j), (8, .bool full), (9, pt b9 0), (11, pt b11 0), (32, .int .i64 (g.1 : Nat))]) (fun g => IxA bx mb g.2.2.2.1 g.2.2.2.2.1 g.2.1.ns room g.2.2.2.2.2 (Box b11 (ints (midL g.2.2.1 [0, 0, 0, 0])) 33 :: Box bl [pt bx 0, .map (some db)] 96 :: MapA Try.prog 102 db ds1 :: Box b9 (ints L) 117 :: A)) (fun _ => I) ?_ (0, T, [], a1, c1, es1) ⟨by omega, rfl, hR2.symm, lk1, List.prefix_refl _, hi1, rfl⟩
 rintro ⟨i, t, res, a2, c2, es2⟩ ⟨hi, hlen, hrr, hlk, hpre, hix2, hmm⟩ K hK
 simp only at hi hlen hrr hlk hpre hix2 hmm hK ⊢
 have hml := midL_len (res := res) (qs := [0, 0, 0, 0]) (by simp only [List.length_cons, List.length_nil]; omega)
 simp only [List.length_cons, List.length_nil] at hml
 skip
 refine tS (tR (yC rfl rfl (tN (tT (tS ?_)))))
 refine tri_cond_dec rfl (fun h4 => ?_) (fun h4 => ?_)
 ·have hi4 : i < 4 := by omega
  have ekk : R9.fourE.getD i default = (i : Int) / 2 * 3 + (i : Int) % 2 := by
   rcases (by omega : i = 0 ∨ i = 1 ∨ i = 2 ∨ i = 3) with rfl | rfl | rfl | rfl <;> rfl
  have eset : ∀ v, (midL res [0, 0, 0, 0]).set (0 + ((i : Nat) : Int).toNat * 1) v = midL (res ++ [v]) [0, 0, 0, 0] := fun v => by
   rw [show 0 + ((i : Nat) : Int).toNat * 1 = i by omega, ← hlen]
   exact midL_set (res := res) (qs := [0, 0, 0, 0]) (by simp only [List.length_cons, List.length_nil]; omega) v
  have eg : ∀ x : Int, L.getD (0 + x.toNat * 1) default = R8.g L x := fun x => by rw [show 0 + x.toNat * 1 = x.toNat by omega]; rfl
  obtain ⟨R, hR⟩ : ∃ R, R9.fourP room L t (R9.fourE.getD i default) = R := ⟨_, rfl⟩
  have hnx := mapS_next (R := R) hlen (by show i < 4; omega) hrr hR
  have hgd := fun e : R.2.2 = 0 => R9.putS_gd (lv := k + 1) hlk ((is1 _ (R9.g_mem (i := R9.fourE.getD i default) (by rw [ekk]; omega) (by rw [ekk, len1]; omega))).pre hpre) (by unfold R9.fourP at hR; rw [hR]; exact e)
  unfold R9.fourP at hR
  rw [ekk] at hR hgd
  rw [hR] at hgd
  have er1 : (R6.put t.ns room (R8.g L ((i : Int) / 2 * 3 + (i : Int) % 2)) (R8.g L ((i : Int) / 2 * 3 + (i : Int) % 2 + 1)) (R8.g L ((i : Int) / 2 * 3 + (i : Int) % 2 + 3)) (R8.g L ((i : Int) / 2 * 3 + (i : Int) % 2 + 4))) = (R.1.ns, R.2.1, R.2.2) := by rw [← hR]; rfl
  have er4 : R.1.mm = t.mm := by rw [← hR]; rfl
  rw [← eg, ← eg, ← eg, ← eg] at er1
  refine tri_skip (tT (tS (tri_block (tS (tR (tM rfl rfl (tA rfl rfl ?_)))))))
  refine tN (tT (tS (tR (tM rfl rfl ?_))))
  refine tri_v (opv_quoE rfl rfl (by omega) (by omega) (by omega)) rfl ?_
  refine tri_v (opv_mul rfl rfl (w64 (by omega) (by omega))) rfl ?_
  refine tM rfl rfl ?_
  refine tri_v (opv_remE rfl rfl (by omega) (by omega)) rfl ?_
  refine yU rfl rfl ?_
  refine tA rfl rfl (tN (tT (tS ?_)))
  skip
  refine tri_draw [0, 1, 2, 3, 4, 5, 6, 7, 8, 9, 10, 11, 12, 13, 14, 15, 16, 17, 18, 19, 20, 21, 22, 23, 24, 25, 26, 27, 28] rfl [_, _, _, _] rfl mixed ?_
  refine yM rfl rfl (yM rfl rfl (yn rfl rfl (yf rfl rfl (yf rfl rfl ?_))))
  refine yl rfl rfl rfl ?_
  refine yM rfl rfl ?_
  refine th_take rfl rfl (by kernel_rfl)  (opv_indexAddrA rfl rfl (by omega) (by omega)) ?_
  refine th_take rfl rfl (by kernel_rfl)  (opv_loadIX rfl rfl (by omega)) ?_
  refine yM rfl rfl ?_
  refine th_take rfl rfl (by kernel_rfl)  (opv_add rfl rfl (w64 (by omega) (by omega))) ?_
  refine th_take rfl rfl (by kernel_rfl)  (opv_indexAddrA rfl rfl (by omega) (by omega)) ?_
  refine th_take rfl rfl (by kernel_rfl)  (opv_loadIX rfl rfl (by omega)) ?_
  refine yM rfl rfl ?_
  refine th_take rfl rfl (by kernel_rfl)  (opv_add rfl rfl (w64 (by omega) (by omega))) ?_
  refine th_take rfl rfl (by kernel_rfl)  (opv_indexAddrA rfl rfl (by omega) (by omega)) ?_
  refine th_take rfl rfl (by kernel_rfl)  (opv_loadIX rfl rfl (by omega)) ?_
  refine yM rfl rfl ?_
  refine th_take rfl rfl (by kernel_rfl)  (opv_add rfl rfl (w64 (by omega) (by omega))) ?_
  refine th_take rfl rfl (by kernel_rfl)  (opv_indexAddrA rfl rfl (by omega) (by omega)) ?_
  refine th_take rfl rfl (by kernel_rfl)  (opv_loadIX rfl rfl (by omega)) ?_
  refine th_take rfl rfl (by kernel_rfl)  (opv_buildA rfl rfl) ?_
  refine th_one (by kernel_rfl) (step_m rfl rfl (opg_call (xs := [_, _]) rfl (node_putR (r := (R.1.ns, R.2.1, R.2.2)) hlk.good hlk.len2 hix2 er1)) ?_)
  rintro _ _ _ ⟨a3, c3, es3, rfl, rfl, hi3, rfl⟩
  refine ⟨Suf.h, (fun _ h => h), ?_⟩
  refine yM rfl rfl (yE rfl rfl rfl (yE rfl rfl rfl ?_))
  refine th_take rfl rfl (by kernel_rfl)  (opv_indexAddrA rfl rfl (by omega) (by omega)) ?_
  refine th_one (by kernel_rfl) (step_m rfl rfl (opg_storeIX rfl rfl (by omega)) ?_)
  rintro _ _ _ ⟨rfl, rfl⟩
  refine ⟨Suf.h, (fun _ h => h), ?_⟩
  rw [eset]
  refine yA rfl rfl (yD (tT (tS (tR (tM rfl rfl ?_)))))
  refine tri_v (opv_neq rfl rfl) rfl ?_
  refine tN (tT ?_)
  refine tri_cond_dec rfl (fun x2 => ?_) (fun x2 => ?_)
  ·have e2 := hnx.2 x2
   rw [R9.bindM_err (by rw [e2]; exact x2), e2] at hr
   subst hr
   refine tS (tR (tM rfl rfl (tA rfl rfl (tA rfl rfl (tN (tT (tri_ret ?_)))))))
   refine tri_inBlock_ret (tri_then_ret (tri_then_ret (tri_inBlock_ret (tri_then_ret ?_))))
   refine tri_perm (A := ?a2_0 :: ?a2_1 :: ?a2_2 :: ?a2_3 :: ?a2_4 :: ?a2_5 :: ?a2_6 :: ?T2) (B := ?a2_0 :: ?a2_1 :: ?a2_2 :: ?a2_4 :: ?a2_5 :: ?a2_3 :: ?a2_6 :: ?T2) (by exact permL [0, 1, 2, 4, 5, 3, 6] [?a2_0, ?a2_1, ?a2_2, ?a2_3, ?a2_4, ?a2_5, ?a2_6] ?T2 (by decide) rfl) ?_
   refine tri_perm (A := ?a3_0 :: ?a3_1 :: ?a3_2 :: ?a3_3 :: ?a3_4 :: ?a3_5 :: ?a3_6 :: ?T3) (B := ?a3_5 :: ?a3_6 :: ?a3_0 :: ?a3_1 :: ?a3_2 :: ?a3_3 :: ?a3_4 :: ?T3) (by exact permL [5, 6, 0, 1, 2, 3, 4] [?a3_0, ?a3_1, ?a3_2, ?a3_3, ?a3_4, ?a3_5, ?a3_6] ?T3 (by decide) rfl) ?_
   refine tri_end _ (⟨[_, _], rfl⟩) rfl (.cons (rv_tmp rfl) (.cons (rv_tmp rfl) .nil)) ⟨a3, c3, es3, ds1, R.1.ns, 0, rfl, rfl, fun e => absurd e x2, rfl⟩
  ·have x2' : R.2.2 = 0 := Decidable.not_not.1 x2
   refine tri_skip (tri_inBlock (tT (tR ?_)))
   refine yU rfl rfl ?_
   refine tM rfl rfl (tN (tT ?_))
   refine tri_sub ?_ (hK (i + 1, R.1, res ++ [R.2.1], a3, c3, es3) ⟨by simp only; omega, (hnx.1 x2').1, (hnx.1 x2').2, (hgd x2').lk, hpre.trans (hgd x2').pre, hi3, by rw [er4, hmm]⟩ (by simp only; omega))
   exact ⟨rfl, rfl, rfl, rfl, rfl, rfl, trivial⟩
 ·have hi4 : i = 4 := by omega
  subst hi4
  have hR2' : R2 = (t, res, 0) := by rw [hrr]; simp [R9.fourE, R9.mapS]
  have g2 := R9.four_gd lk1 len1 is1 (by rw [hR2, hR2'])
  rw [hR2, hR2'] at g2
  obtain ⟨lk2, pre2, len2, is2⟩ := g2
  simp only at lk2 pre2 len2 is2
  rw [hR2', R9.bindM_ok rfl] at hr
  simp only at hr
  rw [midL_done (by rw [hlen]; rfl)]
  have hm2 : MemIx t.mm ds1 := by rw [hmm]; exact hm1
  refine tri_exit ?_
  refine tri_then_exit (tri_then_exit ?_)
  refine tri_inBlock_hit rfl ?_
  refine tT (tS (tS (tR (tM rfl rfl (tN (tT ?_))))))
  refine tri_cut (fun F' A' J => F' = [(0, pt bl 0), (2, .int .i64 (if full = true then j - 1 else j)), (11, pt b11 0)] ∧ A' = IxA bx mb a2 c2 t.ns room es2 (Box b11 (ints res) 33 :: Box bl [pt bx 0, .map (some db)] 96 :: MapA Try.prog 102 db ds1 :: Box b9 (ints L) 117 :: A) ∧ I = J) ?_ ?_
  ·refine tri_cond rfl (fun hf => ?_) (fun hf => ?_)
   ·have hf1 : full = true := by simpa using hf
    have hj1 := hfull hf1
    refine tR (tM rfl rfl ?_)
    refine tri_v (opv_sub rfl rfl (w64 (by omega) (by omega))) rfl ?_
    refine tA rfl rfl (tN ?_)
    exact tri_cutEnd _ ⟨rfl, rfl, rfl⟩ ⟨rfl, by rw [if_pos hf1]; rfl, rfl, trivial⟩
   ·have hf1 : ¬ full = true := by simpa using hf
    refine tri_skip ?_
    exact tri_cutEnd _ ⟨rfl, rfl, rfl⟩ ⟨rfl, by rw [if_neg hf1]; rfl, rfl, trivial⟩
  rintro _ _ _ ⟨rfl, rfl, rfl⟩
  skip
  have hj' : 0 ≤ (if full = true then j - 1 else j) ∧ (if full = true then j - 1 else j) ≤ 1000000 := by
   by_cases hf : full = true
   ·have := hfull hf; rw [if_pos hf]; omega
   ·rw [if_neg hf]; omega
  generalize (if full = true then j - 1 else j) = j' at *
  refine tT (tS (tS (tR (tM rfl rfl (tN (tT (tri_block ?_)))))))
  refine tri_perm (A := ?a4_0 :: ?a4_1 :: ?a4_2 :: ?a4_3 :: ?a4_4 :: ?a4_5 :: ?a4_6 :: ?T4) (B := ?a4_0 :: ?a4_1 :: ?a4_2 :: ?a4_4 :: ?a4_5 :: ?a4_3 :: ?a4_6 :: ?T4) (by exact permL [0, 1, 2, 4, 5, 3, 6] [?a4_0, ?a4_1, ?a4_2, ?a4_3, ?a4_4, ?a4_5, ?a4_6] ?T4 (by decide) rfl) ?_
  obtain ⟨R3, hR3⟩ : ∃ R3, R9.mapS (R9.lastF (R9.leap room k) j') t res = R3 := ⟨_, rfl⟩
  rw [hR3] at hr
  refine tri_sub (F' := [(0, pt bl 0), (2, .int .i64 j'), (11, pt b11 0), (75, .int .i64 (0 : Nat))]) ⟨rfl, rfl, rfl, rfl, trivial⟩ ?_
  refine loop_ind (G := Nat × R9.LS × List Int × Option Addr × Nat × KVs × KVs) (fun g => 4 - g.1) (fun g => g.1 ≤ 4 ∧ g.2.2.1.length = g.1 ∧ R3 = ((R9.mapS (R9.lastF (R9.leap room k) j') g.2.1 (res.drop g.1)).1, g.2.2.1 ++ (R9.mapS (R9.lastF (R9.leap room k) j') g.2.1 (res.drop g.1)).2.1, (R9.mapS (R9.lastF (R9.leap room k) j') g.2.1 (res.drop g.1)).2.2) ∧ R9.Lk room g.2.1 ∧ t.ns <+: g.2.1.ns ∧ Idx g.2.1.ns g.2.2.2.2.2.1 ∧ MemIx g.2.1.mm g.2.2.2.2.2.2) (fun g => [(0, pt bl 0), (2, .int .i64 j'), (11, pt b11 0), (75, .int .i64 (g.1 : Nat))]) (fun g => LxA bl bx mb db g.2.2.2.1 g.2.2.2.2.1 g.2.1.ns room g.2.2.2.2.2.1 g.2.2.2.2.2.2 (Box b11 (ints (midL g.2.2.1 res)) 33 :: Box b9 (ints L) 117 :: A)) (fun _ => I) ?_ (0, t, [], a2, c2, es2, ds1) ⟨by omega, rfl, hR3.symm, lk2, List.prefix_refl _, hix2, hm2⟩
  rintro ⟨i, u, out, a3, c3, es3, ds3⟩ ⟨hi5, hlen5, hrr5, hlk5, hpre5, hix5, hmx5⟩ K2 hK2
  simp only at hi5 hlen5 hrr5 hlk5 hpre5 hix5 hmx5 hK2 ⊢
  have hml5 := midL_len (res := out) (qs := res) (by omega)
  skip
  refine tS (tR (yC rfl rfl (tN (tT (tS ?_)))))
  refine tri_cond_dec rfl (fun h5 => ?_) (fun h5 => ?_)
  ·have hi6 : i < 4 := by omega
   have ei : 0 + ((i : Nat) : Int).toNat * 1 = i := by omega
   have eq : (midL out res).getD (0 + ((i : Nat) : Int).toNat * 1) default = res.getD i default := by rw [ei, ← hlen5]; exact midL_at (res := out) (qs := res) (by omega)
   have eset : ∀ v, (midL out res).set (0 + ((i : Nat) : Int).toNat * 1) v = midL (out ++ [v]) res := fun v => by rw [ei, ← hlen5]; exact midL_set (res := out) (qs := res) (by omega) v
   have hqn : R7.IsN u.ns (k + 2) ((midL out res).getD (0 + ((i : Nat) : Int).toNat * 1) default) := by
    rw [eq]
    exact (is2 _ (by simp [show i < res.length by omega])).pre hpre5
   obtain ⟨R, hR⟩ : ∃ R, R9.leap room k u ((midL out res).getD (0 + ((i : Nat) : Int).toNat * 1) default) j' = R := ⟨_, rfl⟩
   have hnx := mapS_next (R := R) hlen5 (by omega) hrr5 (by unfold R9.lastF; rw [← eq]; exact hR)
   have hgd := fun e : R.2.2 = 0 => R9.leap_gd k u _ j' hlk5 hqn (by rw [hR]; exact e)
   rw [hR] at hgd
   refine tri_skip (tT (tS (tri_block (tS (tR (tM rfl rfl (tA rfl rfl ?_)))))))
   refine tN (tT (tS (tR (tM rfl rfl (tM rfl rfl (tM rfl rfl ?_))))))
   refine tri_v (opv_indexAddrA rfl rfl (by omega) (by omega)) rfl ?_
   refine tri_v (opv_loadIX rfl rfl (by omega)) rfl ?_
   refine tM rfl rfl ?_
   refine tri_g (opg_call (xs := [_, _, _]) rfl (ih _ _ u _ _ _ _ _ _ _ _ j' _ _ R hlk5 hqn hix5 hmx5 hj' hR)) rfl ?_
   rintro _ _ _ ⟨a4, c4, es4, ds4, ns4, m4, rfl, rfl, h4', rfl⟩
   refine tM rfl rfl ?_
   refine tri_v (opv_extract rfl rfl) rfl ?_
   refine tri_v (opv_extract rfl rfl) rfl ?_
   refine tri_v (opv_indexAddrA rfl rfl (by omega) (by omega)) rfl ?_
   refine tri_g (opg_storeIX rfl rfl (by omega)) rfl ?_
   rintro _ _ _ ⟨rfl, rfl⟩
   rw [eset]
   refine tA rfl rfl (tN (tT (tS (tR (tM rfl rfl ?_)))))
   refine tri_v (opv_neq rfl rfl) rfl ?_
   refine tN (tT ?_)
   refine tri_cond_dec rfl (fun x3 => ?_) (fun x3 => ?_)
   ·have e2 := hnx.2 x3
    rw [R9.bindM_err (by rw [e2]; exact x3), e2] at hr
    subst hr
    refine tS (tR (tM rfl rfl (tA rfl rfl (tA rfl rfl (tN (tT (tri_ret ?_)))))))
    refine tri_inBlock_ret (tri_then_ret (tri_then_ret (tri_inBlock_ret (tri_then_ret ?_))))
    refine tri_perm (A := ?a5_0 :: ?a5_1 :: ?a5_2 :: ?a5_3 :: ?a5_4 :: ?a5_5 :: ?a5_6 :: ?T5) (B := ?a5_5 :: ?a5_6 :: ?a5_0 :: ?a5_1 :: ?a5_2 :: ?a5_3 :: ?a5_4 :: ?T5) (by exact permL [5, 6, 0, 1, 2, 3, 4] [?a5_0, ?a5_1, ?a5_2, ?a5_3, ?a5_4, ?a5_5, ?a5_6] ?T5 (by decide) rfl) ?_
    refine tri_end _ (⟨[_, _], rfl⟩) rfl (.cons (rv_tmp rfl) (.cons (rv_tmp rfl) .nil)) ⟨a4, c4, es4, ds4, ns4, 0, rfl, rfl, fun e => absurd e x3, rfl⟩
   ·have x3' : R.2.2 = 0 := Decidable.not_not.1 x3
    obtain ⟨rfl, rfl, hi6', hm6⟩ := h4' x3'
    refine tri_skip (tri_inBlock (tT (tR ?_)))
    refine yU rfl rfl ?_
    refine tM rfl rfl (tN (tT ?_))
    refine tri_sub ?_ (hK2 (i + 1, R.1, out ++ [R.2.1], a4, c4, es4, ds4) ⟨by simp only; omega, (hnx.1 x3').1, (hnx.1 x3').2, (hgd x3').lk, hpre5.trans (hgd x3').pre, hi6', hm6⟩ (by simp only; omega))
    exact ⟨rfl, rfl, rfl, rfl, trivial⟩
  ·have hi6 : i = 4 := by omega
   subst hi6
   have hR3' : R3 = (u, out, 0) := by rw [hrr5, List.drop_of_length_le (by omega)]; simp [R9.mapS]
   rw [hR3', R9.bindM_ok rfl] at hr
   simp only at hr
   obtain ⟨p0, p1, p2, p3, hp⟩ := four_len hlen5
   rw [midL_done (by omega), hp]
   rw [hp] at hr
   have er1 : R6.put u.ns room p0 p1 p2 p3 = (r.1.ns, r.2.1, r.2.2) := by rw [← hr]; rfl
   have er4 : r.1.mm = u.mm := by rw [← hr]; rfl
   refine tri_exit ?_
   refine tri_then_exit (tri_then_exit ?_)
   refine tri_inBlock_hit rfl ?_
   refine tT (tS ?_)
   skip
   refine tri_draw [0, 1, 2, 3, 4, 5, 6, 7, 8, 9, 10] rfl [_, _, _] rfl mixed ?_
   refine yM rfl rfl (yn rfl rfl (yf rfl rfl (yf rfl rfl ?_)))
   refine yl rfl rfl rfl ?_
   refine th_take rfl rfl (by kernel_rfl)  (opv_loadA rfl rfl rfl) ?_
   refine th_one (by kernel_rfl) (step_m rfl rfl (opg_call (xs := [_, _]) rfl (node_putR (r := (r.1.ns, r.2.1, r.2.2)) hlk5.good hlk5.len2 hix5 er1)) ?_)
   rintro _ _ _ ⟨a4, c4, es4, rfl, rfl, hi4', rfl⟩
   refine ⟨Suf.h, (fun _ h => h), ?_⟩
   refine yE rfl rfl rfl (yE rfl rfl rfl (yA rfl rfl (yA rfl rfl (yD (tT (tri_ret ?_))))))
   refine tri_perm (A := ?a6_0 :: ?a6_1 :: ?a6_2 :: ?a6_3 :: ?a6_4 :: ?a6_5 :: ?a6_6 :: ?T6) (B := ?a6_5 :: ?a6_6 :: ?a6_0 :: ?a6_1 :: ?a6_2 :: ?a6_3 :: ?a6_4 :: ?T6) (by exact permL [5, 6, 0, 1, 2, 3, 4] [?a6_0, ?a6_1, ?a6_2, ?a6_3, ?a6_4, ?a6_5, ?a6_6] ?T6 (by decide) rfl) ?_
   refine tri_end _ (⟨[_, _], rfl⟩) rfl (.cons (rv_tmp rfl) (.cons (rv_tmp rfl) .nil)) ⟨a4, c4, es4, ds3, r.1.ns, r.2.1, rfl, rfl, fun _ => ⟨rfl, rfl, hi4', by rw [er4]; exact hmx5⟩, rfl⟩
end Go.GL


namespace Go.GL
open Go.Proofs
attribute [local irreducible] wpList Code.wp Exit.then Exit.inBlock Ends Tri TriH OpV OpG FnC epf wpAnyH
set_option maxHeartbeats 2000000 in
set_option maxRecDepth 100000 in
theorem leap_zero : LeapSpec 0 := by
 intro A I s a cap bl bx mb db room n j es ds r h hn hix hmx hj hr
 have hlv : (R6.nd s.ns n).lv = 2 := by rw [hn.2]; omega
 have hmf := hmx n j
 unfold R9.leap at hr
 skip
 refine fn_enter3 Try.func43 rfl Try.ntmps43 rfl fun w0 => ?_
 refine tS (tR (tA rfl rfl (tA rfl rfl (tN (tT (tS (tS ?_)))))))
 refine tR (tM rfl rfl ?_)
 refine tri_v (opv_nilCheck rfl) rfl ?_
 refine yF rfl ?_
 refine yL rfl rfl ?_
 refine tM rfl rfl (tM rfl rfl ?_)
 refine tri_v (opv_buildS rfl rfl) rfl ?_
 refine tri_v (opv_lookup2 (P := Try.prog) (ks := [n, j]) zeroInt rfl rfl (keyTask n j) keyTaskAt rfl) rfl ?_
 refine tM rfl rfl ?_
 refine tri_v (opv_extract rfl rfl) rfl ?_
 refine tri_v (opv_extract rfl rfl) rfl ?_
 refine tA rfl rfl (tA rfl rfl (tN (tT (tS (tR (tM rfl rfl (tN ?_)))))))
 refine tT ?_
 obtain ⟨o, ho⟩ : ∃ o, R9.look9 s.mm n j = o := ⟨_, rfl⟩
 rw [ho] at hmf hr
 rcases o with _ | to
 ·simp only at hr
  refine tri_cond_false (congrArg (fun o => some (Value.bool (Option.isSome o))) hmf) ?_
  refine tri_skip (tT (tS (tS (tR (tM rfl rfl (tM rfl rfl ?_))))))
  refine tri_g (opg_call (xs := [_, _]) rfl (leaper_level hn.1)) rfl ?_
  rintro _ _ _ ⟨rfl, rfl, rfl⟩
  refine tri_v (opv_eql rfl rfl) rfl ?_
  refine tN (tT ?_)
  refine tri_cond_is rfl (hlv) ?_
  refine tR (tM rfl rfl ?_)
  refine tri_v (opv_nilCheck rfl) rfl ?_
  refine yF rfl ?_
  refine yB rfl rfl ?_
  refine tM rfl rfl ?_
  refine tri_g (opg_call (xs := [_, _]) rfl (maker_step h.good h.len2 hix (h.kid hn) (h.right.bits hn.1 hlv))) rfl ?_
  rintro _ _ _ ⟨a1, c1, es1, rfl, rfl, hi1, rfl⟩
  obtain ⟨R, hR⟩ : ∃ R, R9.oneS room s n = R := ⟨_, rfl⟩
  have er1 : (R8.one s.ns room n).1 = R.1.ns := by rw [← hR]; rfl
  have er2 : (R8.one s.ns room n).2.1 = R.2.1 := by rw [← hR]; rfl
  have er3 : (R8.one s.ns room n).2.2 = R.2.2 := by rw [← hR]; rfl
  have er4 : R.1.mm = s.mm := by rw [← hR]; rfl
  rw [er1] at hi1
  rw [er1, er2, er3]
  rw [hR] at hr
  have hm1 : R.2.2 = 0 → MemIx (R.1.mm ++ [(n, j, R.2.1)]) (mset ds [n, j] (.int .i64 R.2.1)) := fun _ => by
   rw [er4]; exact hmx.snoc ho R.2.1
  have hst : R.2.2 = 0 → R.1.ns = R.1.ns ∧ R.2.1 = R.2.1 ∧ Idx R.1.ns es1 := fun _ => ⟨rfl, rfl, hi1⟩
  refine tM rfl rfl ?_
  refine tri_v (opv_extract rfl rfl) rfl ?_
  refine tri_v (opv_extract rfl rfl) rfl ?_
  refine tA rfl rfl (tA rfl rfl (tN (tT (tS (tS (tR (tM rfl rfl ?_)))))))
  refine tri_v (opv_eql rfl rfl) rfl ?_
  refine tN (tT ?_)
  refine tri_cond_dec rfl (fun x => ?_) (fun x => ?_)
  ·have hr' : r = (⟨R.1.ns, R.1.mm ++ [(n, j, R.2.1)]⟩, R.2.1, 0) := by rw [← hr]; unfold R9.keep; rw [if_neg (by simpa using x)]
   obtain ⟨e1, e2, e3⟩ := hst x
   refine tR (tM rfl rfl ?_)
   refine tri_v (opv_nilCheck rfl) rfl ?_
   refine yF rfl ?_
   refine yL rfl rfl ?_
   refine tM rfl rfl (tM rfl rfl ?_)
   refine tri_v (opv_buildS rfl rfl) rfl ?_
   refine tM rfl rfl ?_
   refine tri_g (opg_mapUpdate (P := Try.prog) (ks := [n, j]) rfl rfl rfl (keyTask n j) keyTaskAt rfl) rfl ?_
   rintro _ _ _ ⟨rfl, rfl⟩
   refine tN (tT (tS (tR (tM rfl rfl (tM rfl rfl (tA rfl rfl (tA rfl rfl ?_)))))))
   refine tN (tT (tri_ret ?_))
   refine tri_end _ (⟨[], rfl⟩) rfl (.cons (rv_tmp rfl) (.cons (rv_tmp rfl) .nil)) ⟨a1, c1, es1, mset ds [n, j] (.int .i64 R.2.1), R.1.ns, R.2.1, by rw [hr', x]; rfl, rfl, fun _ => ?_, rfl⟩
   rw [hr']
   exact ⟨e1, e2, e3, hm1 x⟩
  ·have hr' : r = (R.1, 0, R.2.2) := by rw [← hr]; unfold R9.keep; rw [if_pos x]
   refine tri_skip (tT (tS (tR (tM rfl rfl (tM rfl rfl (tA rfl rfl (tA rfl rfl ?_)))))))
   refine tN (tT (tri_ret ?_))
   refine tri_end _ (⟨[], rfl⟩) rfl (.cons (rv_tmp rfl) (.cons (rv_tmp rfl) .nil)) ⟨a1, c1, es1, ds, R.1.ns, R.2.1, by rw [hr']; rfl, rfl, fun e => ?_, rfl⟩
   rw [hr'] at e
   exact absurd e x
 ·simp only at hr
  subst hr
  refine tri_cond_true (congrArg (fun o => some (Value.bool (Option.isSome o))) hmf) ?_
  refine tS (tR (tM rfl rfl (tA rfl rfl (tA rfl rfl (tN (tT (tri_ret ?_)))))))
  refine tri_then_ret ?_
  refine tri_end _ (⟨[], rfl⟩) rfl (.cons (rv_tmp rfl) (.cons (rv_tmp rfl) .nil)) ⟨a, cap, es, ds, s.ns, to, ?_, rfl, fun _ => ⟨rfl, rfl, hix, hmx⟩, rfl⟩
  rw [hmf]; rfl
set_option maxHeartbeats 2000000 in
set_option maxRecDepth 100000 in
theorem leap_succ {k : Nat} (ih : LeapSpec k) : LeapSpec (k + 1) := by
 intro A I s a cap bl bx mb db room n j es ds r h hn hix hmx hj hr
 have hlv : (R6.nd s.ns n).lv = k + 3 := by rw [hn.2]; omega
 have hmf := hmx n j
 unfold R9.leap at hr
 skip
 refine fn_enter3 Try.func43 rfl Try.ntmps43 rfl fun w0 => ?_
 refine tS (tR (tA rfl rfl (tA rfl rfl (tN (tT (tS (tS ?_)))))))
 refine tR (tM rfl rfl ?_)
 refine tri_v (opv_nilCheck rfl) rfl ?_
 refine yF rfl ?_
 refine yL rfl rfl ?_
 refine tM rfl rfl (tM rfl rfl ?_)
 refine tri_v (opv_buildS rfl rfl) rfl ?_
 refine tri_v (opv_lookup2 (P := Try.prog) (ks := [n, j]) zeroInt rfl rfl (keyTask n j) keyTaskAt rfl) rfl ?_
 refine tM rfl rfl ?_
 refine tri_v (opv_extract rfl rfl) rfl ?_
 refine tri_v (opv_extract rfl rfl) rfl ?_
 refine tA rfl rfl (tA rfl rfl (tN (tT (tS (tR (tM rfl rfl (tN ?_)))))))
 refine tT ?_
 obtain ⟨o, ho⟩ : ∃ o, R9.look9 s.mm n j = o := ⟨_, rfl⟩
 rw [ho] at hmf hr
 rcases o with _ | to
 ·simp only at hr
  refine tri_cond_false (congrArg (fun o => some (Value.bool (Option.isSome o))) hmf) ?_
  refine tri_skip (tT (tS (tS (tR (tM rfl rfl (tM rfl rfl ?_))))))
  refine tri_g (opg_call (xs := [_, _]) rfl (leaper_level hn.1)) rfl ?_
  rintro _ _ _ ⟨rfl, rfl, rfl⟩
  refine tri_v (opv_eql rfl rfl) rfl ?_
  refine tN (tT ?_)
  refine tri_cond_not rfl (by rw [hlv]; omega) ?_
  refine tR (tM rfl rfl (tM rfl rfl (tM rfl rfl ?_)))
  obtain ⟨R, hR⟩ : ∃ R, R9.far (R9.leap room k) room (decide (j = k + 1)) s n j = R := ⟨_, rfl⟩
  rw [hR] at hr
  refine tri_g (opg_call (xs := [_, _, _]) rfl (leaper_make ih h hn hix hmx hj hR)) rfl ?_
  rintro _ _ _ ⟨a1, c1, es1, ds1, ns1, m1, rfl, rfl, h1, rfl⟩
  have hst : R.2.2 = 0 → ns1 = R.1.ns ∧ m1 = R.2.1 ∧ Idx R.1.ns es1 := fun e => ⟨(h1 e).1, (h1 e).2.1, (h1 e).2.2.1⟩
  refine tM rfl rfl ?_
  refine tri_v (opv_extract rfl rfl) rfl ?_
  refine tri_v (opv_extract rfl rfl) rfl ?_
  refine tA rfl rfl (tA rfl rfl (tN (tT (tS (tS (tR (tM rfl rfl ?_)))))))
  refine tri_v (opv_eql rfl rfl) rfl ?_
  refine tN (tT ?_)
  refine tri_cond_dec rfl (fun x => ?_) (fun x => ?_)
  ·have hr' : r = (⟨R.1.ns, R.1.mm ++ [(n, j, R.2.1)]⟩, R.2.1, 0) := by rw [← hr]; unfold R9.keep; rw [if_neg (by simpa using x)]
   obtain ⟨e1, e2, e3⟩ := hst x
   refine tR (tM rfl rfl ?_)
   refine tri_v (opv_nilCheck rfl) rfl ?_
   refine yF rfl ?_
   refine yL rfl rfl ?_
   refine tM rfl rfl (tM rfl rfl ?_)
   refine tri_v (opv_buildS rfl rfl) rfl ?_
   refine tM rfl rfl ?_
   refine tri_g (opg_mapUpdate (P := Try.prog) (ks := [n, j]) rfl rfl rfl (keyTask n j) keyTaskAt rfl) rfl ?_
   rintro _ _ _ ⟨rfl, rfl⟩
   refine tN (tT (tS (tR (tM rfl rfl (tM rfl rfl (tA rfl rfl (tA rfl rfl ?_)))))))
   refine tN (tT (tri_ret ?_))
   refine tri_end _ (⟨[], rfl⟩) rfl (.cons (rv_tmp rfl) (.cons (rv_tmp rfl) .nil)) ⟨a1, c1, es1, mset ds1 [n, j] (.int .i64 m1), ns1, m1, by rw [hr', x]; rfl, rfl, fun _ => ?_, rfl⟩
   rw [hr']
   exact ⟨e1, e2, e3, by rw [← e2]; exact (h1 x).2.2.2.snoc ((R9.far_new (fun s q j hs hq he => R9.leap_gd k s q j hs hq he) (fun s q j hs hq he => R9.leap_new k s q j hs hq he) h hn (by rw [hR]; exact x)) |>.look (lv := k + 1) (hn.pre (R9.far_gd (fun s q j hs hq he => R9.leap_gd k s q j hs hq he) h hn (by rw [hR]; exact x)).pre) (by omega) ho |> fun q => by rw [hR] at q; exact q) _⟩
  ·have hr' : r = (R.1, 0, R.2.2) := by rw [← hr]; unfold R9.keep; rw [if_pos x]
   refine tri_skip (tT (tS (tR (tM rfl rfl (tM rfl rfl (tA rfl rfl (tA rfl rfl ?_)))))))
   refine tN (tT (tri_ret ?_))
   refine tri_end _ (⟨[], rfl⟩) rfl (.cons (rv_tmp rfl) (.cons (rv_tmp rfl) .nil)) ⟨a1, c1, es1, ds1, ns1, m1, by rw [hr']; rfl, rfl, fun e => ?_, rfl⟩
   rw [hr'] at e
   exact absurd e x
 ·simp only at hr
  subst hr
  refine tri_cond_true (congrArg (fun o => some (Value.bool (Option.isSome o))) hmf) ?_
  refine tS (tR (tM rfl rfl (tA rfl rfl (tA rfl rfl (tN (tT (tri_ret ?_)))))))
  refine tri_then_ret ?_
  refine tri_end _ (⟨[], rfl⟩) rfl (.cons (rv_tmp rfl) (.cons (rv_tmp rfl) .nil)) ⟨a, cap, es, ds, s.ns, to, ?_, rfl, fun _ => ⟨rfl, rfl, hix, hmx⟩, rfl⟩
  rw [hmf]; rfl
theorem leaper_leap : ∀ k, LeapSpec k
 | 0 => leap_zero
 | k + 1 => leap_succ (leaper_leap k)
end Go.GL


namespace Go.GL
open Go.Proofs
attribute [local irreducible] wpList Code.wp Exit.then Exit.inBlock Ends Tri TriH OpV OpG FnC epf wpAnyH
variable {A : List Asrt} {I : List Chunk}
namespace R9
def kd (ns : List Node) (n : Int) (i : Nat) : Int := (R6.nd ns n).kids.getD i default
def edgedP (ns : List Node) (n : Int) : Prop := ∃ k q : Nat, k < 4 ∧ q < 4 ∧ q + k ≠ 3 ∧ (R6.nd ns (kd ns (kd ns n k) q)).pop ≠ 0
theorem edged_iff (ns : List Node) (n : Int) : edged ns n = true ↔ edgedP ns n := by
 unfold edged edgedP
 rw [List.any_eq_true]
 constructor
 ·rintro ⟨i, hi, h⟩
  have h' := of_decide_eq_true h
  simp only [List.mem_cons, List.not_mem_nil, or_false] at hi
  rcases hi with rfl | rfl | rfl | rfl | rfl | rfl | rfl | rfl | rfl | rfl | rfl | rfl
  ·exact ⟨0, 0, by omega, by omega, by omega, h'⟩
  ·exact ⟨0, 1, by omega, by omega, by omega, h'⟩
  ·exact ⟨1, 0, by omega, by omega, by omega, h'⟩
  ·exact ⟨1, 1, by omega, by omega, by omega, h'⟩
  ·exact ⟨0, 2, by omega, by omega, by omega, h'⟩
  ·exact ⟨1, 3, by omega, by omega, by omega, h'⟩
  ·exact ⟨2, 0, by omega, by omega, by omega, h'⟩
  ·exact ⟨3, 1, by omega, by omega, by omega, h'⟩
  ·exact ⟨2, 2, by omega, by omega, by omega, h'⟩
  ·exact ⟨2, 3, by omega, by omega, by omega, h'⟩
  ·exact ⟨3, 2, by omega, by omega, by omega, h'⟩
  ·exact ⟨3, 3, by omega, by omega, by omega, h'⟩
 ·rintro ⟨k, q, hk, hq, hn, h⟩
  have key : ∀ i : Int, i ∈ [0, 1, 2, 3, 4, 7, 8, 11, 12, 13, 14, (15 : Int)] → (R6.nd ns (R8.g (R8.s16 ns n) i)).pop ≠ 0 → ∃ x, x ∈ [0, 1, 2, 3, 4, 7, 8, 11, 12, 13, 14, (15 : Int)] ∧ decide ((R6.nd ns (R8.g (R8.s16 ns n) x)).pop ≠ 0) = true := fun i hi h => ⟨i, hi, decide_eq_true h⟩
  match k, hk, q, hq, hn, h with
  | 0, _, 0, _, _, h => exact key 0 (by simp) h
  | 0, _, 1, _, _, h => exact key 1 (by simp) h
  | 0, _, 2, _, _, h => exact key 4 (by simp) h
  | 1, _, 0, _, _, h => exact key 2 (by simp) h
  | 1, _, 1, _, _, h => exact key 3 (by simp) h
  | 1, _, 3, _, _, h => exact key 7 (by simp) h
  | 2, _, 0, _, _, h => exact key 8 (by simp) h
  | 2, _, 2, _, _, h => exact key 12 (by simp) h
  | 2, _, 3, _, _, h => exact key 13 (by simp) h
  | 3, _, 1, _, _, h => exact key 11 (by simp) h
  | 3, _, 2, _, _, h => exact key 14 (by simp) h
  | 3, _, 3, _, _, h => exact key 15 (by simp) h
  | 0, _, 3, _, hn, _ => exact absurd rfl hn
  | 1, _, 2, _, hn, _ => exact absurd rfl hn
  | 2, _, 1, _, hn, _ => exact absurd rfl hn
  | 3, _, 0, _, hn, _ => exact absurd rfl hn
theorem kd_is {room : Int} {s : LS} (h : Lk room s) {lv : Nat} {n : Int} (hn : R7.IsN s.ns (lv + 1) n) {i : Nat} (hi : i < 4) : R7.IsN s.ns lv (kd s.ns n i) := by
 obtain ⟨a, b, c, d⟩ := R7.kids4 h.wf hn
 match i, hi with
 | 0, _ => exact a
 | 1, _ => exact b
 | 2, _ => exact c
 | 3, _ => exact d
end R9
set_option maxHeartbeats 2000000 in
set_option maxRecDepth 100000 in
theorem leaper_edged {lv : Nat} {s : R9.LS} {a : Option Addr} {cap bl bx mb db : Nat} {room n : Int} {es ds : KVs} (h : R9.Lk room s) (hn : R7.IsN s.ns (lv + 2) n) :
  FnC Try.prog 72 [pt bl 0, .int .i64 n].toArray (LxA bl bx mb db a cap s.ns room es ds A) I (fun v A' I' => v = .bool (R9.edged s.ns n) ∧ LxA bl bx mb db a cap s.ns room es ds A = A' ∧ I = I') := by
 obtain ⟨hn0, hn1⟩ := hn.1
 skip
 skip
 refine fn_enter2 Try.func72 rfl Try.ntmps72 rfl fun w0 => ?_
 refine tS (tR (tA rfl rfl (tN (tT (tS (tS (tR ?_)))))))
 refine tM rfl rfl ?_
 refine tri_v (opv_nilCheck rfl) rfl ?_
 refine yF rfl (yF rfl ?_)
 refine yL rfl rfl ?_
 refine tri_v (opv_nilCheck rfl) rfl ?_
 refine yF rfl (yF rfl ?_)
 refine yL rfl rfl ?_
 refine tM rfl rfl ?_
 refine tri_v (opv_indexAddrR rfl rfl (by omega) (by omega)) rfl ?_
 refine tri_v (opv_fieldAddrR rfl (by omega) rfl) rfl ?_
 refine tri_v (opv_loadRXA rfl rfl (by omega) rfl rfl rfl) rfl ?_
 refine tM rfl rfl (tN (tT (tri_block ?_)))
 refine tri_sub (F' := [(0, pt bl 0), (21, .agg (ints (R6.nd s.ns n).kids).toArray), (22, .int .i64 (0 : Nat))]) ⟨rfl, rfl, rfl, trivial⟩ ?_
 refine loop_ind (G := Nat) (fun i => 4 - i) (fun i => i ≤ 4 ∧ ∀ k q : Nat, k < i → q < 4 → q + k ≠ 3 → (R6.nd s.ns (R9.kd s.ns (R9.kd s.ns n k) q)).pop = 0) (fun i => [(0, pt bl 0), (21, .agg (ints (R6.nd s.ns n).kids).toArray), (22, .int .i64 (i : Nat))]) (fun _ => _) (fun _ => _) ?_ 0 ⟨by omega, fun k q hk => absurd hk (by omega)⟩
 rintro i ⟨hi, hz⟩ K hK
 skip
 refine tS (tR (yC rfl rfl (tN (tT (tS ?_)))))
 refine tri_cond_dec rfl (fun h4 => ?_) (fun h4 => ?_)
 ·have hi4 : i < 4 := by omega
  have hkid := R9.kd_is h hn hi4
  obtain ⟨hk0, hk1⟩ := hkid.1
  have ekd : (R6.nd s.ns n).kids.getD ((i : Nat) : Int).toNat default = R9.kd s.ns n i := by rw [Int.toNat_natCast]; rfl
  refine tri_skip (tT (tS (tri_block (tS (tR (tM rfl rfl ?_))))))
  refine tri_v (opv_indexIX (l := (R6.nd s.ns n).kids) (l2 := 4) rfl rfl (by omega) (by omega) rfl) rfl ?_
  rw [ekd]
  refine tA rfl rfl (tA rfl rfl (tN (tT (tS (tR (tM rfl rfl ?_))))))
  refine tri_v (opv_nilCheck rfl) rfl ?_
  refine yF rfl (yF rfl ?_)
  refine yL rfl rfl ?_
  refine tri_v (opv_nilCheck rfl) rfl ?_
  refine yF rfl (yF rfl ?_)
  refine yL rfl rfl ?_
  refine tM rfl rfl ?_
  refine tri_v (opv_indexAddrR rfl rfl (by omega) (by omega)) rfl ?_
  refine tri_v (opv_fieldAddrR rfl (by omega) rfl) rfl ?_
  refine tri_v (opv_loadRXA rfl rfl (by omega) rfl rfl rfl) rfl ?_
  refine tM rfl rfl (tN (tT (tri_block ?_)))
  refine tri_sub (F' := [(0, pt bl 0), (5, .int .i64 (i : Nat)), (21, .agg (ints (R6.nd s.ns n).kids).toArray), (22, .int .i64 (i : Nat)), (38, .agg (ints (R6.nd s.ns (R9.kd s.ns n i)).kids).toArray), (39, .int .i64 (0 : Nat))]) ⟨rfl, rfl, rfl, rfl, rfl, rfl, trivial⟩ ?_
  refine loop_ind (G := Nat) (fun q => 4 - q) (fun q => q ≤ 4 ∧ ∀ q' : Nat, q' < q → q' + i ≠ 3 → (R6.nd s.ns (R9.kd s.ns (R9.kd s.ns n i) q')).pop = 0) (fun q => [(0, pt bl 0), (5, .int .i64 (i : Nat)), (21, .agg (ints (R6.nd s.ns n).kids).toArray), (22, .int .i64 (i : Nat)), (38, .agg (ints (R6.nd s.ns (R9.kd s.ns n i)).kids).toArray), (39, .int .i64 (q : Nat))]) (fun _ => _) (fun _ => _) ?_ 0 ⟨by omega, fun q' hq => absurd hq (by omega)⟩
  rintro q ⟨hq, hzq⟩ K2 hK2
  skip
  refine tS (tR (yC rfl rfl (tN (tT (tS ?_)))))
  refine tri_cond_dec rfl (fun h5 => ?_) (fun h5 => ?_)
  ·have hq4 : q < 4 := by omega
   have hg := R9.kd_is h hkid hq4
   obtain ⟨hg0, hg1⟩ := hg.1
   have ekd2 : (R6.nd s.ns (R9.kd s.ns n i)).kids.getD ((q : Nat) : Int).toNat default = R9.kd s.ns (R9.kd s.ns n i) q := by rw [Int.toNat_natCast]; rfl
   refine tri_skip (tT (tS (tri_block (tS (tR (tM rfl rfl ?_))))))
   refine tri_v (opv_indexIX (l := (R6.nd s.ns (R9.kd s.ns n i)).kids) (l2 := 4) rfl rfl (by omega) (by omega) rfl) rfl ?_
   rw [ekd2]
   refine tA rfl rfl (tA rfl rfl (tN (tT (tS (tR (tM rfl rfl (tM rfl rfl ?_)))))))
   refine tri_v (opv_sub rfl rfl (w64 (by omega) (by omega))) rfl ?_
   refine tri_v (opv_neq rfl rfl) rfl ?_
   refine tM rfl rfl ?_
   refine tri_split rfl rfl (fun h6 => ?_) (fun h6 => ?_)
   ·refine yR rfl rfl (tM rfl rfl (yR rfl rfl ?_))
    refine tri_v (opv_nilCheck rfl) rfl ?_
    refine yR rfl rfl (yF rfl (yR rfl rfl (yF rfl (yR rfl rfl ?_))))
    refine yL rfl rfl ?_
    refine yR rfl rfl ?_
    refine tri_v (opv_nilCheck rfl) rfl ?_
    refine yR rfl rfl (yF rfl (yR rfl rfl (yF rfl (yR rfl rfl ?_))))
    refine yL rfl rfl ?_
    refine yR rfl rfl (tM rfl rfl (yR rfl rfl ?_))
    refine tri_v (opv_indexAddrR rfl rfl (by omega) (by omega)) rfl ?_
    refine yR rfl rfl ?_
    refine tri_v (opv_fieldAddrR rfl (by omega) rfl) rfl ?_
    refine yR rfl rfl ?_
    refine tri_v (opv_loadRX1 rfl rfl (by omega) rfl rfl) rfl ?_
    refine yR rfl rfl ?_
    refine tri_v (opv_neq rfl rfl) rfl ?_
    refine tri_v (opv_pick_t rfl rfl) rfl ?_
    refine tN (tT ?_)
    refine tri_cond_dec rfl (fun h7 => ?_) (fun h7 => ?_)
    ·refine tS (tR (tA rfl rfl (tN (tT (tri_ret (tri_inBlock_ret (tri_then_ret ?_)))))))
     refine tri_then_ret (tri_inBlock_ret (tri_inBlock_ret (tri_then_ret (tri_then_ret (tri_inBlock_ret (tri_then_ret ?_))))))
     refine tri_end _ (⟨[], rfl⟩) rfl (.cons (rv_tmp rfl) .nil) ⟨?_, rfl, rfl⟩
     rw [(R9.edged_iff s.ns n).2 ⟨i, q, hi4, hq4, by omega, h7⟩]; rfl
    ·refine tri_skip (tri_inBlock (tT (tR ?_)))
     refine yU rfl rfl ?_
     refine tM rfl rfl (tN (tT ?_))
     refine tri_sub ?_ (hK2 (q + 1) ⟨by omega, fun q' hq' hne => ?_⟩ (by omega))
     ·exact ⟨rfl, rfl, rfl, rfl, rfl, rfl, trivial⟩
     ·by_cases e : q' = q
      ·subst e; exact Decidable.not_not.1 h7
      ·exact hzq q' (by omega) hne
   ·refine tri_guard_skip rfl rfl rfl rfl (tri_guard_skip rfl rfl rfl rfl (tri_guard_skip rfl rfl rfl rfl (tri_guard_skip rfl rfl rfl rfl (tri_guard_skip rfl rfl rfl rfl (tri_guard_skip rfl rfl rfl rfl (tri_guard_skip rfl rfl rfl rfl (tri_guard_skip rfl rfl rfl rfl ?_)))))))
    refine tri_guard_skip rfl rfl rfl rfl (tri_guard_skip rfl rfl rfl rfl (tri_guard_skip rfl rfl rfl rfl (tri_guard_skip rfl rfl rfl rfl (tri_guard_skip rfl rfl rfl rfl (tri_guard_skip rfl rfl rfl rfl ?_)))))
    refine tri_v (opv_pick_f rfl rfl) rfl ?_
    refine tN (tT ?_)
    refine tri_cond_false rfl ?_
    refine tri_skip (tri_inBlock (tT (tR ?_)))
    refine yU rfl rfl ?_
    refine tM rfl rfl (tN (tT ?_))
    refine tri_sub ?_ (hK2 (q + 1) ⟨by omega, fun q' hq' hne => ?_⟩ (by omega))
    ·exact ⟨rfl, rfl, rfl, rfl, rfl, rfl, trivial⟩
    ·by_cases e : q' = q
     ·subst e; exfalso; omega
     ·exact hzq q' (by omega) hne
  ·refine tri_exit ?_
   refine tri_then_exit (tri_then_exit ?_)
   refine tri_inBlock_hit rfl ?_
   refine tri_inBlock (tT (tR ?_))
   refine yU rfl rfl ?_
   refine tM rfl rfl (tN (tT ?_))
   refine tri_sub ?_ (hK (i + 1) ⟨by omega, fun k q' hk hq' hne => ?_⟩ (by omega))
   ·exact ⟨rfl, rfl, rfl, trivial⟩
   ·by_cases e : k = i
    ·subst e; exact hzq q' (by omega) hne
    ·exact hz k q' (by omega) hq' hne
 ·refine tri_exit ?_
  refine tri_then_exit (tri_then_exit ?_)
  refine tri_inBlock_hit rfl ?_
  refine tT (tS (tR (tA rfl rfl (tN (tT (tri_ret ?_))))))
  refine tri_end _ (⟨[], rfl⟩) rfl (.cons (rv_tmp rfl) .nil) ⟨?_, rfl, rfl⟩
  have : R9.edged s.ns n = false := by
   cases he : R9.edged s.ns n
   ·rfl
   ·obtain ⟨k, q, hk, hq, hne, hp⟩ := (R9.edged_iff s.ns n).1 he
    exact absurd (hz k q (by omega) hq hne) hp
  rw [this]; rfl
end Go.GL


namespace Go.GL
open Go.Proofs
attribute [local irreducible] wpList Code.wp Exit.then Exit.inBlock Ends Tri TriH OpV OpG FnC epf wpAnyH
variable {A : List Asrt} {I : List Chunk}
set_option maxHeartbeats 2000000 in
set_option maxRecDepth 100000 in
theorem index_empty {ns : List Node} {a : Option Addr} {cap bx mb lv : Nat} {room : Int} {es : KVs} (hlv : lv ≤ 1000000) (hg : R6.Good ns room) (h2 : 2 ≤ ns.length) (hi : Idx ns es) :
  FnC Try.prog 98 [pt bx 0, .int .i64 (lv : Nat)].toArray (IxA bx mb a cap ns room es A) I (IxR bx mb (R7.empty ns room lv) room A I) := by
 skip
 refine fn_enter2 Try.func98 rfl Try.ntmps98 rfl fun w0 => ?_
 refine tS (tR (tA rfl rfl (tA rfl rfl (tN (tT (tS (tS ?_)))))))
 refine tR (tM rfl rfl (tM rfl rfl (tN (tT (tri_block ?_)))))
 refine tri_sub (F' := [(0, pt bx 0), (4, .int .i64 0), (6, .int .i64 (lv : Nat)), (7, .int .i64 (0 : Nat))]) ⟨rfl, rfl, rfl, rfl, trivial⟩ ?_
 refine loop_ind (G := Nat × List Node × Int × Option Addr × Nat × KVs) (fun g => lv - g.1) (fun g => g.1 ≤ lv ∧ R6.Good g.2.1 room ∧ 2 ≤ g.2.1.length ∧ Idx g.2.1 g.2.2.2.2.2 ∧ R7.empty ns room lv = R7.emptyF room (lv - g.1) g.2.1 g.2.2.1) (fun g => [(0, pt bx 0), (4, .int .i64 g.2.2.1), (6, .int .i64 (lv : Nat)), (7, .int .i64 (g.1 : Nat))]) (fun g => IxA bx mb g.2.2.2.1 g.2.2.2.2.1 g.2.1 room g.2.2.2.2.2 A) (fun _ => I) ?_ (0, ns, 0, a, cap, es) ⟨by simp, hg, h2, hi, rfl⟩
 rintro ⟨i, ns1, n1, a1, c1, es1⟩ ⟨hi1, hg1, hl1, hx1, he⟩ K hK
 simp only at hi1 hg1 hl1 hx1 he hK ⊢
 skip
 refine tS (tR (yC rfl rfl (tN (tT (tS ?_)))))
 refine tri_cond_dec rfl (fun h => ?_) (fun h => ?_)
 ·have hlt : i < lv := by omega
  rw [show lv - i = (lv - (i + 1)) + 1 by omega] at he
  unfold R7.emptyF at he
  obtain ⟨r, hr⟩ : ∃ r, R6.put ns1 room n1 n1 n1 n1 = r := ⟨_, rfl⟩
  rw [hr] at he
  refine tri_skip (tT (tS (tri_block (tS (tR (tM rfl rfl (tM rfl rfl ?_)))))))
  refine tM rfl rfl (tM rfl rfl (tM rfl rfl ?_))
  refine tri_v (by first | exact opv_buildS rfl rfl | exact opv_buildA rfl rfl) rfl ?_
  refine tri_g (opg_call (xs := [_, _]) rfl (node_putR hg1 hl1 hx1 hr)) rfl ?_
  rintro _ _ _ ⟨a2, c2, es2, rfl, rfl, hi2, rfl⟩
  refine tM rfl rfl ?_
  refine tri_v (opv_extract rfl rfl) rfl ?_
  refine tri_v (opv_extract rfl rfl) rfl ?_
  refine tA rfl rfl (tA rfl rfl (tN (tT (tS (tR (tM rfl rfl ?_))))))
  refine tri_v (by first | exact opv_neq rfl rfl | exact opv_neqI rfl rfl rfl rfl rfl rfl | exact opv_neqB rfl rfl) rfl ?_
  refine tN (tT ?_)
  refine tri_cond_dec rfl (fun x => ?_) (fun x => ?_)
  ·rw [if_pos x] at he
   have e1 : r.1 = ns1 := by
    rw [← hr] at x ⊢
    unfold R6.put at x ⊢
    split
    ·split
     ·rfl
     ·split
      ·rfl
      ·rename_i p q s
       rw [if_pos p, if_neg q, if_neg s] at x
       exact absurd rfl x
    ·rfl
   refine tS (tR (tM rfl rfl (tA rfl rfl (tA rfl rfl (tN (tT (tri_ret ?_)))))))
   refine tri_inBlock_ret (tri_then_ret (tri_then_ret (tri_inBlock_ret (tri_then_ret ?_))))
   rw [e1] at hi2
   rw [e1]
   refine tri_end _ (by first | exact ⟨[], rfl⟩ | exact ⟨[_], rfl⟩ | exact ⟨[_, _], rfl⟩ | exact ⟨[_, _, _], rfl⟩ | exact ⟨[_, _, _, _], rfl⟩ | exact ⟨[_, _, _, _, _], rfl⟩ | exact ⟨[_, _, _, _, _, _], rfl⟩ | exact ⟨[_, _, _, _, _, _, _], rfl⟩ | exact ⟨[_, _, _, _, _, _, _, _], rfl⟩) rfl (.cons (rv_tmp rfl) (.cons (rv_tmp rfl) .nil)) ⟨a2, c2, es2, by rw [he]; rfl, by rw [he], by rw [he]; exact hi2, rfl⟩
  ·rw [if_neg x] at he
   refine tri_skip (tri_inBlock (tT (tR ?_)))
   refine tri_v (by first | exact opv_add rfl rfl (w64 (by omega) (by omega))) rfl ?_
   refine tM rfl rfl (tN (tT ?_))
   refine tri_sub ?_ (hK (i + 1, r.1, r.2.1, a2, c2, es2) ⟨by simp only; omega, by rw [← hr]; exact hg1.put .., by rw [← hr]; exact R6.put_len hl1, hi2, he⟩ (by simp only; omega))
   exact ⟨rfl, rfl, rfl, rfl, trivial⟩
 ·have hle : i = lv := by omega
  subst hle
  rw [Nat.sub_self] at he
  unfold R7.emptyF at he
  refine tri_exit ?_
  refine tri_then_exit (tri_then_exit ?_)
  refine tri_inBlock_hit rfl ?_
  refine tT (tS (tR (tM rfl rfl (tA rfl rfl (tA rfl rfl (tN (tT ?_)))))))
  refine tri_ret ?_
  refine tri_end _ (by first | exact ⟨[], rfl⟩ | exact ⟨[_], rfl⟩ | exact ⟨[_, _], rfl⟩ | exact ⟨[_, _, _], rfl⟩ | exact ⟨[_, _, _, _], rfl⟩ | exact ⟨[_, _, _, _, _], rfl⟩ | exact ⟨[_, _, _, _, _, _], rfl⟩ | exact ⟨[_, _, _, _, _, _, _], rfl⟩ | exact ⟨[_, _, _, _, _, _, _, _], rfl⟩) rfl (.cons (rv_tmp rfl) (.cons (rv_tmp rfl) .nil)) ⟨a1, c1, es1, by rw [he]; rfl, by rw [he], by rw [he]; exact hx1, rfl⟩
end Go.GL


namespace Go.GL
open Go.Proofs
attribute [local irreducible] wpList Code.wp Exit.then Exit.inBlock Ends Tri TriH OpV OpG FnC epf wpAnyH
variable {A : List Asrt} {I : List Chunk}
set_option maxHeartbeats 2000000 in
set_option maxRecDepth 100000 in
theorem leaper_trim {k : Nat} {s : R9.LS} {a : Option Addr} {cap bl bx mb db : Nat} {room n : Int} {es ds : KVs} {r : R9.L9} (h : R9.Lk room s) (hn : R7.IsN s.ns (k + 2) n) (hix : Idx s.ns es) (hmx : MemIx s.mm ds) (hr : R9.trim room k s n = r) :
  FnC Try.prog 48 [pt bl 0, .int .i64 n].toArray (LxA bl bx mb db a cap s.ns room es ds A) I (LxR bl bx mb db r room A I) := by
 skip
 refine fn_enter2 Try.func48 rfl Try.ntmps48 rfl fun w0 => ?_
 refine tS (tR (tA rfl rfl (tA rfl rfl (tN (tT (tS (tR ?_)))))))
 refine tA rfl rfl (tN (tT (tS (tri_block ?_))))
 refine tri_sub (F' := [(0, pt bl 0), (1, .int .i64 n), (6, .int .i64 0)]) ⟨rfl, rfl, rfl, trivial⟩ ?_
 refine loop_ind (G := Nat × R9.LS × Int × Option Addr × Nat × KVs × Int) (fun g => 2 * g.1 + (if g.2.2.2.2.2.2 = 0 then 1 else 0)) (fun g => (g.2.2.2.2.2.2 = 0 → R9.Lk room g.2.1 ∧ R7.IsN g.2.1.ns (g.1 + 2) g.2.2.1 ∧ Idx g.2.1.ns g.2.2.2.2.2.1 ∧ MemIx g.2.1.mm ds ∧ R9.trim room g.1 g.2.1 g.2.2.1 = r) ∧ (g.2.2.2.2.2.2 ≠ 0 → r.2.2 = g.2.2.2.2.2.2)) (fun g => [(0, pt bl 0), (1, .int .i64 g.2.2.1), (6, .int .i64 g.2.2.2.2.2.2)]) (fun g => LxA bl bx mb db g.2.2.2.1 g.2.2.2.2.1 g.2.1.ns room g.2.2.2.2.2.1 ds A) (fun _ => I) ?_ (k, s, n, a, cap, es, 0) ⟨fun _ => ⟨h, hn, hix, hmx, hr⟩, fun e => absurd rfl e⟩
 rintro ⟨k1, s1, n1, a1, c1, es1, er⟩ ⟨ho, hne⟩ K hK
 simp only at ho hne hK ⊢
 skip
 refine tS (tS (tR (tM rfl rfl ?_)))
 refine tri_v (by first | exact opv_eql rfl rfl | exact opv_eqlI rfl rfl rfl rfl rfl rfl | exact opv_eqlB rfl rfl | exact opv_eqlNil rfl rfl) rfl ?_
 refine tM rfl rfl ?_
 refine tri_split rfl rfl (fun h1 => ?_) (fun h1 => ?_)
 ·obtain ⟨hlk, hn1, hx1, hm1, hr1⟩ := ho h1
  have hlv : (R6.nd s1.ns n1).lv = k1 + 2 := by rw [hn1.2]; omega
  refine yR rfl rfl (tM rfl rfl (yR rfl rfl (tM rfl rfl (yR rfl rfl ?_))))
  refine tri_g (opg_call (xs := [_, _]) rfl (leaper_level hn1.1)) rfl ?_
  rintro _ _ _ ⟨rfl, rfl, rfl⟩
  refine yR rfl rfl ?_
  refine tri_v (opv_gtr rfl rfl) rfl ?_
  refine tri_v (by first | exact opv_pick_t rfl rfl | exact opv_pick_f rfl rfl | exact opv_pick_bool rfl rfl rfl | exact opv_pick rfl rfl rfl) rfl ?_
  refine tM rfl rfl ?_
  refine tri_split rfl rfl (fun h2 => ?_) (fun h2 => ?_)
  ·obtain ⟨k2, rfl⟩ : ∃ k2, k1 = k2 + 1 := ⟨k1 - 1, by omega⟩
   unfold R9.trim at hr1
   refine yR rfl rfl (tM rfl rfl (yR rfl rfl (tM rfl rfl (yR rfl rfl ?_))))
   refine tri_g (opg_call (xs := [_, _]) rfl (leaper_edged (lv := k2 + 1) hlk hn1)) rfl ?_
   rintro _ _ _ ⟨rfl, rfl, rfl⟩
   refine yR rfl rfl ?_
   refine tri_v (by first | exact opv_notD rfl | exact opv_not rfl) rfl ?_
   refine tri_v (by first | exact opv_pick_t rfl rfl | exact opv_pick_f rfl rfl | exact opv_pick_bool rfl rfl rfl | exact opv_pick rfl rfl rfl) rfl ?_
   refine tN (tT ?_)
   refine tri_cond rfl (fun h3 => ?_) (fun h3 => ?_)
   ·have h3' : ¬ R9.edged s1.ns n1 = true := by simpa using h3
    rw [if_neg h3'] at hr1
    obtain ⟨R, hR⟩ : ∃ R, R9.midS room s1 n1 = R := ⟨_, rfl⟩
    rw [hR] at hr1
    have hgd := fun e => R9.midS_gd (lv := k2 + 1) hlk hn1 (by rw [hR]; exact e)
    rw [hR] at hgd
    have er1 : (R8.putSq s1.ns room (R8.s16 s1.ns n1) 1 1).1 = R.1.ns := by rw [← hR]; rfl
    have er2 : (R8.putSq s1.ns room (R8.s16 s1.ns n1) 1 1).2.1 = R.2.1 := by rw [← hR]; rfl
    have er3 : (R8.putSq s1.ns room (R8.s16 s1.ns n1) 1 1).2.2 = R.2.2 := by rw [← hR]; rfl
    have er4 : R.1.mm = s1.mm := by rw [← hR]; rfl
    refine tri_skip (tT (tri_block (tR (tM rfl rfl ?_))))
    refine tri_v (opv_nilCheck rfl) rfl ?_
    refine tri_v (by first | exact opv_fieldAddr rfl rfl | exact opv_fieldAddrE rfl (by assumption) (by omega) rfl | exact opv_fieldAddrR rfl (by omega) rfl | exact opv_fieldAddrP rfl rfl rfl) rfl ?_
    refine tri_v (by first | exact opv_load1 rfl rfl rfl | exact opv_loadA rfl rfl rfl | exact opv_loadE1 rfl (by assumption) rfl (by omega) rfl rfl | exact opv_loadEA rfl (by assumption) rfl (by omega) rfl rfl | exact opv_loadRX1 rfl rfl (by omega) rfl rfl | exact opv_loadRXA rfl rfl (by omega) rfl rfl rfl | exact opv_loadIX rfl rfl (by omega) | exact opv_loadR1 rfl rfl rfl | exact opv_loadRA rfl rfl rfl rfl) rfl ?_
    refine tM rfl rfl ?_
    refine tri_g (opg_call (xs := [_, _]) rfl (maker_centre hlk.good hlk.len2 hx1 (hlk.kid hn1))) rfl ?_
    rintro _ _ _ ⟨a3, c3, es3, rfl, rfl, hi3, rfl⟩
    rw [er1] at hi3
    rw [er1, er2, er3]
    refine tM rfl rfl ?_
    refine tri_v (opv_extract rfl rfl) rfl ?_
    refine tri_v (opv_extract rfl rfl) rfl ?_
    refine tA rfl rfl (tA rfl rfl (tN (tri_inBlock (tT ?_))))
    refine tri_sub ?_ (hK (k2, R.1, R.2.1, a3, c3, es3, R.2.2) ⟨fun e => ?_, fun e => ?_⟩ (by simp only; rw [if_pos h1]; split <;> omega))
    ·exact ⟨rfl, rfl, rfl, trivial⟩
    ·simp only at e
     rw [if_neg (by simpa using e)] at hr1
     exact ⟨(hgd e).lk, (hgd e).is, hi3, by rw [er4]; exact hm1, hr1⟩
    ·simp only at e
     rw [if_pos e] at hr1
     rw [← hr1]
   ·have h3' : R9.edged s1.ns n1 = true := by simpa using h3
    rw [if_pos h3'] at hr1
    subst hr1
    refine tri_exit ?_
    refine tri_then_exit (tri_then_exit ?_)
    refine tri_inBlock_hit rfl ?_
    refine tT (tS (tR (tM rfl rfl (tM rfl rfl (tA rfl rfl (tA rfl rfl (tN ?_)))))))
    refine tT (tri_ret ?_)
    refine tri_end _ (by first | exact ⟨[], rfl⟩ | exact ⟨[_], rfl⟩ | exact ⟨[_, _], rfl⟩ | exact ⟨[_, _, _], rfl⟩ | exact ⟨[_, _, _, _], rfl⟩ | exact ⟨[_, _, _, _, _], rfl⟩ | exact ⟨[_, _, _, _, _, _], rfl⟩ | exact ⟨[_, _, _, _, _, _, _], rfl⟩ | exact ⟨[_, _, _, _, _, _, _, _], rfl⟩) rfl (.cons (rv_tmp rfl) (.cons (rv_tmp rfl) .nil)) ⟨a1, c1, es1, ds, s1.ns, n1, by rw [h1]; rfl, rfl, fun _ => ⟨rfl, rfl, hx1, hm1⟩, rfl⟩
  ·have hk0 : k1 = 0 := by omega
   subst hk0
   unfold R9.trim at hr1
   subst hr1
   refine tri_guard_skip rfl rfl rfl rfl (tri_guard_skip rfl rfl rfl rfl (tri_guard_skip rfl rfl rfl rfl (tri_guard_skip rfl rfl rfl rfl ?_)))
   refine tri_v (by first | exact opv_pick_t rfl rfl | exact opv_pick_f rfl rfl | exact opv_pick_bool rfl rfl rfl | exact opv_pick rfl rfl rfl) rfl ?_
   refine tN (tT ?_)
   refine tri_cond_false rfl ?_
   refine tri_exit ?_
   refine tri_then_exit (tri_then_exit ?_)
   refine tri_inBlock_hit rfl ?_
   refine tT (tS (tR (tM rfl rfl (tM rfl rfl (tA rfl rfl (tA rfl rfl (tN ?_)))))))
   refine tT (tri_ret ?_)
   refine tri_end _ (by first | exact ⟨[], rfl⟩ | exact ⟨[_], rfl⟩ | exact ⟨[_, _], rfl⟩ | exact ⟨[_, _, _], rfl⟩ | exact ⟨[_, _, _, _], rfl⟩ | exact ⟨[_, _, _, _, _], rfl⟩ | exact ⟨[_, _, _, _, _, _], rfl⟩ | exact ⟨[_, _, _, _, _, _, _], rfl⟩ | exact ⟨[_, _, _, _, _, _, _, _], rfl⟩) rfl (.cons (rv_tmp rfl) (.cons (rv_tmp rfl) .nil)) ⟨a1, c1, es1, ds, s1.ns, n1, by rw [h1]; rfl, rfl, fun _ => ⟨rfl, rfl, hx1, hm1⟩, rfl⟩
 ·refine tri_guard_skip rfl rfl rfl rfl (tri_guard_skip rfl rfl rfl rfl (tri_guard_skip rfl rfl rfl rfl (tri_guard_skip rfl rfl rfl rfl ?_)))
  refine tri_v (by first | exact opv_pick_t rfl rfl | exact opv_pick_f rfl rfl | exact opv_pick_bool rfl rfl rfl | exact opv_pick rfl rfl rfl) rfl ?_
  refine tM rfl rfl (tri_guard_skip rfl rfl rfl rfl (tri_guard_skip rfl rfl rfl rfl (tri_guard_skip rfl rfl rfl rfl (tri_guard_skip rfl rfl rfl rfl ?_))))
  refine tri_v (by first | exact opv_pick_t rfl rfl | exact opv_pick_f rfl rfl | exact opv_pick_bool rfl rfl rfl | exact opv_pick rfl rfl rfl) rfl ?_
  refine tN (tT ?_)
  refine tri_cond_false rfl ?_
  refine tri_exit ?_
  refine tri_then_exit (tri_then_exit ?_)
  refine tri_inBlock_hit rfl ?_
  refine tT (tS (tR (tM rfl rfl (tM rfl rfl (tA rfl rfl (tA rfl rfl (tN ?_)))))))
  refine tT (tri_ret ?_)
  refine tri_end _ (by first | exact ⟨[], rfl⟩ | exact ⟨[_], rfl⟩ | exact ⟨[_, _], rfl⟩ | exact ⟨[_, _, _], rfl⟩ | exact ⟨[_, _, _, _], rfl⟩ | exact ⟨[_, _, _, _, _], rfl⟩ | exact ⟨[_, _, _, _, _, _], rfl⟩ | exact ⟨[_, _, _, _, _, _, _], rfl⟩ | exact ⟨[_, _, _, _, _, _, _, _], rfl⟩) rfl (.cons (rv_tmp rfl) (.cons (rv_tmp rfl) .nil)) ⟨a1, c1, es1, ds, s1.ns, n1, by rw [hne h1]; rfl, rfl, fun e => absurd ((hne h1).symm.trans e) h1, rfl⟩
end Go.GL


namespace Go.GL
open Go.Proofs
attribute [local irreducible] wpList Code.wp Exit.then Exit.inBlock Ends Tri TriH OpV OpG FnC epf wpAnyH
variable {A : List Asrt} {I : List Chunk}
theorem bigK_set (d v : Int) {i : Nat} (hi : i < 4) : ([d, d, d, d] : List Int).set (0 + (3 - ((i : Nat) : Int)).toNat * 1) v = [R9.bigK d i v 0, R9.bigK d i v 1, R9.bigK d i v 2, R9.bigK d i v 3] := by
 match i, hi with
 | 0, _ => rfl
 | 1, _ => rfl
 | 2, _ => rfl
 | 3, _ => rfl
set_option maxHeartbeats 2000000 in
set_option maxRecDepth 100000 in
theorem leaper_grow {k : Nat} {s : R9.LS} {a : Option Addr} {cap bl bx mb db : Nat} {room n : Int} {es ds : KVs} {r : R9.L9} (h : R9.Lk room s) (hn : R7.IsN s.ns (k + 2) n) (hix : Idx s.ns es) (hmx : MemIx s.mm ds) (hr : R9.grow room s n = r) :
  FnC Try.prog 94 [pt bl 0, .int .i64 n].toArray (LxA bl bx mb db a cap s.ns room es ds A) I (LxR bl bx mb db r room A I) := by
 have hlv : (R6.nd s.ns n).lv = (k + 2 : Nat) := by rw [hn.2]
 have hlvb := (h.wf.lvb hn.1).2
 rw [R9.grow_eq, show ((R6.nd s.ns n).lv - 1).toNat = k + 1 by omega] at hr
 skip
 skip
 skip
 refine fn_enter2 Try.func94 rfl Try.ntmps94 rfl fun w0 => ?_
 refine tS (tR (tA rfl rfl (tA rfl rfl (tN (tT (tS (tS ?_)))))))
 refine tR (tM rfl rfl (tM rfl rfl ?_))
 refine tri_g (opg_call (xs := [_, _]) rfl (leaper_level hn.1)) rfl ?_
 rintro _ _ _ ⟨rfl, rfl, rfl⟩
 refine tri_v (opv_geq rfl rfl) rfl ?_
 refine tN (tT ?_)
 refine tri_cond_dec rfl (fun h1 => ?_) (fun h1 => ?_)
 ·rw [if_pos h1] at hr
  subst hr
  refine tS (tR (tA rfl rfl (tA rfl rfl (tN (tT (tri_ret (tri_then_ret ?_)))))))
  refine tri_end _ (⟨[], rfl⟩) rfl (.cons (rv_tmp rfl) (.cons (rv_tmp rfl) .nil)) ⟨a, cap, es, ds, s.ns, 0, rfl, rfl, fun e => absurd e (show ¬ (2 : Int) = 0 by decide), rfl⟩
 skip
 rw [if_neg h1] at hr
 obtain ⟨D, hD⟩ : ∃ D, R7.empty s.ns room (k + 1) = D := ⟨_, rfl⟩
 rw [hD] at hr
 have hDg := fun e : D.2.2 = 0 => R9.empty_gd (lv := k + 1) h.right (by rw [hD]; exact e)
 rw [hD] at hDg
 skip
 refine tri_skip (tT (tS ?_))
 refine tri_draw [0, 1, 2, 3, 4, 5, 6, 7, 8, 9, 10, 11, 12, 13, 14] rfl [_, _, _] rfl mixed ?_
 refine yM rfl rfl (yn rfl rfl (yf rfl rfl (yf rfl rfl ?_)))
 refine yl rfl rfl rfl ?_
 refine yM rfl rfl (yM rfl rfl ?_)
 refine th_one (by kernel_rfl) (step_m rfl rfl (opg_call (xs := [_, _]) rfl (leaper_level hn.1)) ?_)
 rintro _ _ _ ⟨rfl, rfl, rfl⟩
 refine ⟨Suf.h, (fun _ h => h), ?_⟩
 rw [hlv]
 refine th_take rfl rfl (by kernel_rfl)  (opv_sub rfl rfl (w64 (by omega) (by omega))) ?_
 rw [show ((k + 2 : Nat) : Int) - 1 = ((k + 1 : Nat) : Int) by omega]
 refine th_one (by kernel_rfl) (step_m rfl rfl (opg_call (xs := [_, _]) rfl (index_empty (lv := k + 1) (by omega) h.good h.len2 hix)) ?_)
 rintro _ _ _ ⟨a1, c1, es1, rfl, rfl, hi1, rfl⟩
 refine ⟨Suf.h, (fun _ h => h), ?_⟩
 rw [hD] at hi1
 rw [hD]
 refine yM rfl rfl (yE rfl rfl rfl (yE rfl rfl rfl (yA rfl rfl (yA rfl rfl (yD (tT (tS ?_)))))))
 refine tS (tR (tM rfl rfl ?_))
 refine tri_v (opv_neq rfl rfl) rfl ?_
 refine tN (tT ?_)
 refine tri_cond_dec rfl (fun h2 => ?_) (fun h2 => ?_)
 ·rw [if_pos h2] at hr
  subst hr
  refine tS (tR (tM rfl rfl (tA rfl rfl (tA rfl rfl (tN (tT (tri_ret ?_)))))))
  refine tri_then_ret ?_
  refine tri_end _ (⟨[], rfl⟩) rfl (.cons (rv_tmp rfl) (.cons (rv_tmp rfl) .nil)) ⟨a1, c1, es1, ds, D.1, 0, rfl, rfl, fun e => absurd e h2, rfl⟩
 skip
 have h2' : D.2.2 = 0 := Decidable.not_not.1 h2
 rw [if_neg h2] at hr
 obtain ⟨dr, dp, di⟩ := hDg h2'
 have hnp : R6.nd D.1 n = R6.nd s.ns n := R6.nd_pre dp hn.1
 have lk1 : R9.Lk room (⟨D.1, s.mm⟩ : R9.LS) := ⟨dr, h.mem.pre dp⟩
 have hkid : ∀ q : Nat, q < 4 → R7.IsN D.1 (k + 1) ((R6.nd s.ns n).kids.getD q default) := fun q hq => (R9.kids_getD h.wf hn hq).pre dp
 obtain ⟨hn0, hn1⟩ := hn.1
 have hn2 : n < (D.1.length : Int) := by have := dp.length_le; omega
 obtain ⟨R2, hR2⟩ : ∃ R2, R9.mapS (R9.growF room D.2.1 (R6.nd s.ns n).kids) ⟨D.1, s.mm⟩ R9.k4 = R2 := ⟨_, rfl⟩
 rw [hR2] at hr
 rw [← hnp] at hkid hR2
 obtain ⟨ks, hks⟩ : ∃ ks, (R6.nd D.1 n).kids = ks := ⟨_, rfl⟩
 have hkl : (4 : Nat) = ks.length := by rw [← hks]; rfl
 rw [hks] at hkid hR2
 refine tri_skip (tT (tS (tR ?_)))
 refine tri_g opg_alloc rfl ?_
 rintro _ _ _ ⟨b8, rfl, rfl, rfl⟩
 refine tN (tT (tS (tS (tR (tM rfl rfl ?_)))))
 refine tri_v (opv_nilCheck rfl) rfl ?_
 refine yF rfl (yF rfl ?_)
 refine yL rfl rfl ?_
 refine tri_v (opv_nilCheck rfl) rfl ?_
 refine yF rfl (yF rfl ?_)
 refine yL rfl rfl ?_
 refine tM rfl rfl ?_
 refine tri_v (opv_indexAddrR rfl rfl (by omega) (by omega)) rfl ?_
 refine tri_v (opv_fieldAddrR rfl (by omega) rfl) rfl ?_
 refine tri_v (opv_loadRXA rfl rfl (by omega) rfl rfl rfl) rfl ?_
 refine tM rfl rfl (tN (tT (tri_block ?_)))
 refine tri_perm (A := ?a1_0 :: ?a1_1 :: ?a1_2 :: ?a1_3 :: ?a1_4 :: ?a1_5 :: ?T1) (B := ?a1_1 :: ?a1_2 :: ?a1_3 :: ?a1_0 :: ?a1_4 :: ?a1_5 :: ?T1) (by exact permL [1, 2, 3, 0, 4, 5] [?a1_0, ?a1_1, ?a1_2, ?a1_3, ?a1_4, ?a1_5] ?T1 (by decide) rfl) ?_
 refine tri_sub (F' := [(0, pt bl 0), (6, .int .i64 D.2.1), (8, pt b8 0), (44, .agg (ints (R6.nd D.1 n).kids).toArray), (45, .int .i64 (0 : Nat))]) ⟨rfl, rfl, rfl, rfl, rfl, trivial⟩ ?_
 rw [hks]
 refine loop_ind (G := Nat × R9.LS × List Int × Option Addr × Nat × KVs) (fun g => 4 - g.1) (fun g => g.1 ≤ 4 ∧ g.2.2.1.length = g.1 ∧ R2 = ((R9.mapS (R9.growF room D.2.1 ks) g.2.1 (R9.k4.drop g.1)).1, g.2.2.1 ++ (R9.mapS (R9.growF room D.2.1 ks) g.2.1 (R9.k4.drop g.1)).2.1, (R9.mapS (R9.growF room D.2.1 ks) g.2.1 (R9.k4.drop g.1)).2.2) ∧ R9.Lk room g.2.1 ∧ D.1 <+: g.2.1.ns ∧ Idx g.2.1.ns g.2.2.2.2.2 ∧ g.2.1.mm = s.mm) (fun g => [(0, pt bl 0), (6, .int .i64 D.2.1), (8, pt b8 0), (44, .agg (ints ks).toArray), (45, .int .i64 (g.1 : Nat))]) (fun g => IxA bx mb g.2.2.2.1 g.2.2.2.2.1 g.2.1.ns room g.2.2.2.2.2 (Box b8 (ints (midL g.2.2.1 [0, 0, 0, 0])) 33 :: Box bl [pt bx 0, .map (some db)] 96 :: MapA Try.prog 102 db ds :: A)) (fun _ => I) ?_ (0, ⟨D.1, s.mm⟩, [], a1, c1, es1) ⟨by omega, rfl, hR2.symm, lk1, List.prefix_refl _, hi1, rfl⟩
 rintro ⟨i, t, res, a2, c2, es2⟩ ⟨hi, hlen, hrr, hlk, hpre, hix2, hmm⟩ K hK
 simp only at hi hlen hrr hlk hpre hix2 hmm hK ⊢
 have hml := midL_len (res := res) (qs := [0, 0, 0, 0]) (by simp only [List.length_cons, List.length_nil]; omega)
 simp only [List.length_cons, List.length_nil] at hml
 skip
 refine tS (tR (yC rfl rfl (tN (tT (tS ?_)))))
 refine tri_cond_dec rfl (fun h4 => ?_) (fun h4 => ?_)
 ·have hi4 : i < 4 := by omega
  have ek : ks.getD ((i : Nat) : Int).toNat default = ks.getD i default := by rw [Int.toNat_natCast]
  have ekk : R9.k4.getD i default = (i : Int) := by
   rcases (by omega : i = 0 ∨ i = 1 ∨ i = 2 ∨ i = 3) with rfl | rfl | rfl | rfl <;> rfl
  have eset : ∀ v, (midL res [0, 0, 0, 0]).set (0 + ((i : Nat) : Int).toNat * 1) v = midL (res ++ [v]) [0, 0, 0, 0] := fun v => by
   rw [show 0 + ((i : Nat) : Int).toNat * 1 = i by omega, ← hlen]
   exact midL_set (res := res) (qs := [0, 0, 0, 0]) (by simp only [List.length_cons, List.length_nil]; omega) v
  obtain ⟨R, hR⟩ : ∃ R, R9.growF room D.2.1 ks t (R9.k4.getD i default) = R := ⟨_, rfl⟩
  have hnx := mapS_next (R := R) hlen (by show i < 4; omega) hrr hR
  rw [ekk] at hR
  have hgd := fun e : R.2.2 = 0 => R9.growF_gd (lv := k + 1) (k := (i : Int)) hlk ⟨di.pre hpre, by rw [ek]; exact (hkid i hi4).pre hpre⟩ (by rw [hR]; exact e)
  rw [hR] at hgd
  have er1 : R6.put t.ns room (R9.bigK D.2.1 i (ks.getD i default) 0) (R9.bigK D.2.1 i (ks.getD i default) 1) (R9.bigK D.2.1 i (ks.getD i default) 2) (R9.bigK D.2.1 i (ks.getD i default) 3) = (R.1.ns, R.2.1, R.2.2) := by rw [← hR]; rfl
  have er4 : R.1.mm = t.mm := by rw [← hR]; rfl
  have hdl := di.1
  refine tri_skip (tT (tS (tri_block (tS (tR (tM rfl rfl ?_))))))
  refine tri_v (opv_indexIX (l := ks) (l2 := 4) rfl rfl (by omega) (by omega) hkl) rfl ?_
  rw [ek]
  refine tA rfl rfl (tA rfl rfl (tN (tT (tS (tR (tM rfl rfl (tM rfl rfl ?_)))))))
  refine tM rfl rfl (tM rfl rfl ?_)
  refine tri_v (opv_buildA rfl rfl) rfl ?_
  refine tri_g opg_alloc rfl ?_
  rintro _ _ _ ⟨b11, rfl, rfl, rfl⟩
  refine yG rfl rfl rfl rfl rfl rfl ?_
  rintro _ _ _ ⟨rfl, rfl⟩
  refine tN (tT (tS ?_))
  rw [show ([.int .i64 D.2.1, .int .i64 D.2.1, .int .i64 D.2.1, .int .i64 D.2.1] : List Value) = ints [D.2.1, D.2.1, D.2.1, D.2.1] from rfl]
  refine tR (tM rfl rfl ?_)
  refine tri_v (opv_sub rfl rfl (w64 (by omega) (by omega))) rfl ?_
  refine tM rfl rfl ?_
  refine tri_v (opv_indexAddrA rfl rfl (by omega) (by omega)) rfl ?_
  refine tri_g (opg_storeIX rfl rfl (by simp only [List.length_cons, List.length_nil]; omega)) rfl ?_
  rintro _ _ _ ⟨rfl, rfl⟩
  rw [bigK_set _ _ hi4]
  refine tN (tT (tS ?_))
  refine tri_perm (A := ?a2_0 :: ?a2_1 :: ?a2_2 :: ?a2_3 :: ?a2_4 :: ?a2_5 :: ?a2_6 :: ?T2) (B := ?a2_1 :: ?a2_2 :: ?a2_3 :: ?a2_4 :: ?a2_0 :: ?a2_5 :: ?a2_6 :: ?T2) (by exact permL [1, 2, 3, 4, 0, 5, 6] [?a2_0, ?a2_1, ?a2_2, ?a2_3, ?a2_4, ?a2_5, ?a2_6] ?T2 (by decide) rfl) ?_
  skip
  refine tri_draw [0, 1, 2, 3, 4, 5, 6, 7, 8, 9, 10, 11, 12, 13] rfl [_, _, _, _] rfl mixed ?_
  refine yM rfl rfl (yM rfl rfl (yn rfl rfl (yf rfl rfl (yf rfl rfl ?_))))
  refine yl rfl rfl rfl ?_
  refine th_take rfl rfl (by kernel_rfl)  (opv_loadA rfl rfl rfl) ?_
  refine th_one (by kernel_rfl) (step_m rfl rfl (opg_call (xs := [_, _]) rfl (node_putR (r := (R.1.ns, R.2.1, R.2.2)) hlk.good hlk.len2 hix2 er1)) ?_)
  rintro _ _ _ ⟨a3, c3, es3, rfl, rfl, hi3, rfl⟩
  refine ⟨Suf.h, (fun _ h => h), ?_⟩
  refine yM rfl rfl (yE rfl rfl rfl (yE rfl rfl rfl ?_))
  refine th_take rfl rfl (by kernel_rfl)  (opv_indexAddrA rfl rfl (by omega) (by omega)) ?_
  refine th_one (by kernel_rfl) (step_m rfl rfl (opg_storeIX rfl rfl (by omega)) ?_)
  rintro _ _ _ ⟨rfl, rfl⟩
  refine ⟨Suf.h, (fun _ h => h), ?_⟩
  rw [eset]
  refine yA rfl rfl (yD (tT (tS (tR (tM rfl rfl ?_)))))
  refine tri_v (opv_neq rfl rfl) rfl ?_
  refine tN (tT ?_)
  refine tri_cond_dec rfl (fun x2 => ?_) (fun x2 => ?_)
  ·have e2 := hnx.2 x2
   rw [R9.bindM_err (by rw [e2]; exact x2), e2] at hr
   subst hr
   refine tS (tR (tM rfl rfl (tA rfl rfl (tA rfl rfl (tN (tT (tri_ret ?_)))))))
   refine tri_inBlock_ret (tri_then_ret (tri_then_ret (tri_inBlock_ret (tri_then_ret ?_))))
   refine tri_perm (A := ?a3_0 :: ?a3_1 :: ?a3_2 :: ?a3_3 :: ?a3_4 :: ?a3_5 :: ?a3_6 :: ?T3) (B := ?a3_3 :: ?a3_4 :: ?a3_0 :: ?a3_1 :: ?a3_2 :: ?a3_5 :: ?a3_6 :: ?T3) (by exact permL [3, 4, 0, 1, 2, 5, 6] [?a3_0, ?a3_1, ?a3_2, ?a3_3, ?a3_4, ?a3_5, ?a3_6] ?T3 (by decide) rfl) ?_
   refine tri_end _ (⟨[_, _], rfl⟩) rfl (.cons (rv_tmp rfl) (.cons (rv_tmp rfl) .nil)) ⟨a3, c3, es3, ds, R.1.ns, 0, rfl, rfl, fun e => absurd e x2, rfl⟩
  ·have x2' : R.2.2 = 0 := Decidable.not_not.1 x2
   refine tri_skip (tri_inBlock (tT (tR ?_)))
   refine yU rfl rfl ?_
   refine tM rfl rfl (tN (tT ?_))
   refine tri_perm (A := ?a4_0 :: ?a4_1 :: ?a4_2 :: ?a4_3 :: ?a4_4 :: ?a4_5 :: ?a4_6 :: ?T4) (B := ?a4_4 :: ?a4_0 :: ?a4_1 :: ?a4_2 :: ?a4_3 :: ?a4_5 :: ?a4_6 :: ?T4) (by exact permL [4, 0, 1, 2, 3, 5, 6] [?a4_0, ?a4_1, ?a4_2, ?a4_3, ?a4_4, ?a4_5, ?a4_6] ?T4 (by decide) rfl) ?_
   refine tri_drop ?_
   refine tri_sub ?_ (hK (i + 1, R.1, res ++ [R.2.1], a3, c3, es3) ⟨by simp only; omega, (hnx.1 x2').1, (hnx.1 x2').2, (hgd x2').lk, hpre.trans (hgd x2').pre, hi3, by rw [er4, hmm]⟩ (by simp only; omega))
   exact ⟨rfl, rfl, rfl, rfl, rfl, trivial⟩
 ·have hi4 : i = 4 := by omega
  subst hi4
  have hR2' : R2 = (t, res, 0) := by rw [hrr]; simp [R9.k4, R9.mapS]
  rw [hR2', R9.bindM_ok rfl] at hr
  simp only at hr
  obtain ⟨p0, p1, p2, p3, hp⟩ := four_len hlen
  rw [midL_done (by rw [hlen]; rfl), hp]
  rw [hp] at hr
  have er1 : R6.put t.ns room p0 p1 p2 p3 = (r.1.ns, r.2.1, r.2.2) := by rw [← hr]; rfl
  have er4 : r.1.mm = t.mm := by rw [← hr]; rfl
  refine tri_exit ?_
  refine tri_then_exit (tri_then_exit ?_)
  refine tri_inBlock_hit rfl ?_
  refine tT (tS ?_)
  skip
  refine tri_draw [0, 1, 2, 3, 4, 5, 6, 7, 8, 9, 10] rfl [_, _, _] rfl mixed ?_
  refine yM rfl rfl (yn rfl rfl (yf rfl rfl (yf rfl rfl ?_)))
  refine yl rfl rfl rfl ?_
  refine th_take rfl rfl (by kernel_rfl)  (opv_loadA rfl rfl rfl) ?_
  refine th_one (by kernel_rfl) (step_m rfl rfl (opg_call (xs := [_, _]) rfl (node_putR (r := (r.1.ns, r.2.1, r.2.2)) hlk.good hlk.len2 hix2 er1)) ?_)
  rintro _ _ _ ⟨a4, c4, es4, rfl, rfl, hi4', rfl⟩
  refine ⟨Suf.h, (fun _ h => h), ?_⟩
  refine yE rfl rfl rfl (yE rfl rfl rfl (yA rfl rfl (yA rfl rfl (yD (tT (tri_ret ?_))))))
  refine tri_perm (A := ?a5_0 :: ?a5_1 :: ?a5_2 :: ?a5_3 :: ?a5_4 :: ?a5_5 :: ?T5) (B := ?a5_3 :: ?a5_0 :: ?a5_1 :: ?a5_2 :: ?a5_4 :: ?a5_5 :: ?T5) (by exact permL [3, 0, 1, 2, 4, 5] [?a5_0, ?a5_1, ?a5_2, ?a5_3, ?a5_4, ?a5_5] ?T5 (by decide) rfl) ?_
  refine tri_end _ (⟨[_], rfl⟩) rfl (.cons (rv_tmp rfl) (.cons (rv_tmp rfl) .nil)) ⟨a4, c4, es4, ds, r.1.ns, r.2.1, rfl, rfl, fun _ => ⟨rfl, rfl, hi4', by rw [er4, hmm]; exact hmx⟩, rfl⟩
end Go.GL


namespace Go.GL
open Go.Proofs
attribute [local irreducible] wpList Code.wp Exit.then Exit.inBlock Ends Tri TriH OpV OpG FnC epf wpAnyH
variable {A : List Asrt} {I : List Chunk}
set_option maxHeartbeats 2000000 in
set_option maxRecDepth 100000 in
theorem leaper_power {k : Nat} {s : R9.LS} {a : Option Addr} {cap bl bx mb db : Nat} {room n j : Int} {es ds : KVs} {r : R9.L9} (h : R9.Lk room s) (hn : R7.IsN s.ns (k + 2) n) (hix : Idx s.ns es) (hmx : MemIx s.mm ds) (hj : 0 ≤ j ∧ j ≤ 1000) (hr : R9.power room s n j = r) :
  FnC Try.prog 77 [pt bl 0, .int .i64 n, .int .i64 j].toArray (LxA bl bx mb db a cap s.ns room es ds A) I (LxR bl bx mb db r room A I) := by
 obtain ⟨r1, hr1⟩ : ∃ r1, R9.trimS room s n = r1 := ⟨_, rfl⟩
 obtain ⟨r0, hr0⟩ : ∃ r0, R9.bindS r1 (R9.more room j 0) = r0 := ⟨_, rfl⟩
 rw [R9.power_eq, hr1, hr0] at hr
 have hge := fun e : r1.2.2 = 0 => R9.trimS_ge h hn (by rw [hr1]; exact e)
 rw [hr1] at hge
 unfold R9.trimS at hr1
 rw [R9.lvS_is hn] at hr1
 skip
 refine fn_enter3 Try.func77 rfl Try.ntmps77 rfl fun w0 => ?_
 refine tS (tR (tA rfl rfl (tA rfl rfl (tN (tT (tS (tR ?_)))))))
 refine tM rfl rfl (tM rfl rfl ?_)
 refine tri_g (opg_call (xs := [_, _]) rfl (leaper_trim h hn hix hmx hr1)) rfl ?_
 rintro _ _ _ ⟨a1, c1, es1, ds1, ns1, m1, rfl, rfl, h1, rfl⟩
 refine tM rfl rfl ?_
 refine tri_v (opv_extract rfl rfl) rfl ?_
 refine tri_v (opv_extract rfl rfl) rfl ?_
 refine tA rfl rfl (tA rfl rfl (tN (tT (tS (tS (tR (tA rfl rfl ?_)))))))
 refine tN (tT (tri_block ?_))
 refine tri_sub (F' := [(0, pt bl 0), (1, .int .i64 m1), (2, .int .i64 j), (8, .int .i64 r1.2.2), (9, .int .i64 (0 : Nat))]) ⟨rfl, rfl, rfl, rfl, rfl, trivial⟩ ?_
 refine loop_ind (G := Nat × R9.LS × Int × Option Addr × Nat × KVs × KVs × List Node × Int) (fun g => 100 - g.1) (fun g => (g.2.2.2.2.2.2.2.2 = 0 → g.2.2.2.2.2.2.2.1 = g.2.1.ns ∧ R9.Lk room g.2.1 ∧ (∃ k : Nat, g.1 ≤ k ∧ k ≤ 40 ∧ R7.IsN g.2.1.ns (k + 2) g.2.2.1) ∧ Idx g.2.1.ns g.2.2.2.2.2.1 ∧ MemIx g.2.1.mm g.2.2.2.2.2.2.1 ∧ r0 = R9.more room j g.1 g.2.1 g.2.2.1) ∧ (g.2.2.2.2.2.2.2.2 ≠ 0 → r0.2.2 = g.2.2.2.2.2.2.2.2) ∧ g.1 ≤ 41) (fun g => [(0, pt bl 0), (1, .int .i64 g.2.2.1), (2, .int .i64 j), (8, .int .i64 g.2.2.2.2.2.2.2.2), (9, .int .i64 (g.1 : Nat))]) (fun g => LxA bl bx mb db g.2.2.2.1 g.2.2.2.2.1 g.2.2.2.2.2.2.2.1 room g.2.2.2.2.2.1 g.2.2.2.2.2.2.1 A) (fun _ => I) ?_ (0, r1.1, m1, a1, c1, es1, ds1, ns1, r1.2.2) ⟨fun e => ?_, fun e => ?_, by simp only; omega⟩
 ·rintro ⟨i, s1, n1, a1, c1, es1, ds1, ns1, er⟩ ⟨ho, hne, hi41⟩ K hK
  simp only at ho hne hK hi41 ⊢
  skip
  refine tS (tS (tR (tM rfl rfl ?_)))
  refine tri_v (opv_eql rfl rfl) rfl ?_
  refine tM rfl rfl ?_
  refine tri_split rfl rfl (fun h1 => ?_) (fun h1 => ?_)
  ·obtain ⟨rfl, hlk, ⟨k1, hik, hk40, hn1⟩, hx1, hm1, hr1⟩ := ho h1
   have hlv : (R6.nd s1.ns n1).lv = k1 + 2 := by rw [hn1.2]; omega
   have go : ∀ R : R9.L9, R9.grow room s1 n1 = R → (i < 2 ∨ (R6.nd s1.ns n1).lv < j + 3) → (R.2.2 = 0 → R9.Lk room R.1 ∧ (∃ k : Nat, i + 1 ≤ k ∧ k ≤ 40 ∧ R7.IsN R.1.ns (k + 2) R.2.1) ∧ r0 = R9.more room j (i + 1) R.1 R.2.1) ∧ (R.2.2 ≠ 0 → r0.2.2 = R.2.2) := by
    intro R hR hc
    have e := hr1
    rw [R9.more_step (by omega) hc, hR] at e
    refine ⟨fun e2 => ?_, fun e2 => by rw [e, R9.bindS_err e2]⟩
    have g := R9.grow_gd hlk hn1 (by rw [hR]; exact e2)
    rw [hR] at g
    have hb := (g.lk.wf.lvb g.is.1).2
    rw [g.is.2] at hb
    exact ⟨g.lk, ⟨k1 + 1, by omega, by omega, g.is⟩, by rw [e, R9.bindS_ok e2]⟩
   refine yR rfl rfl (tM rfl rfl (yR rfl rfl (yC rfl rfl (yR rfl rfl (tM rfl rfl ?_)))))
   refine tri_split rfl rfl (fun h2 => ?_) (fun h2 => ?_)
   ·refine tri_guard_skip rfl rfl rfl rfl (tri_guard_skip rfl rfl rfl rfl (tri_guard_skip rfl rfl rfl rfl (tri_guard_skip rfl rfl rfl rfl (tri_guard_skip rfl rfl rfl rfl (tri_guard_skip rfl rfl rfl rfl (yR rfl rfl ?_))))))
    refine tri_v (opv_pick_t rfl rfl) rfl ?_
    refine tri_v (opv_pick_t rfl rfl) rfl ?_
    refine tN (tT ?_)
    refine tri_cond_true rfl ?_
    refine tri_skip (tT (tS (tri_block (tR (tM rfl rfl (tM rfl rfl ?_))))))
    obtain ⟨R, hR⟩ : ∃ R, R9.grow room s1 n1 = R := ⟨_, rfl⟩
    have hg := go R hR (.inl (by omega))
    refine tri_g (opg_call (xs := [_, _]) rfl (leaper_grow hlk hn1 hx1 hm1 hR)) rfl ?_
    rintro _ _ _ ⟨a3, c3, es3, ds3, ns3, m3, rfl, rfl, h3, rfl⟩
    refine tM rfl rfl ?_
    refine tri_v (opv_extract rfl rfl) rfl ?_
    refine tri_v (opv_extract rfl rfl) rfl ?_
    refine tA rfl rfl (tA rfl rfl (tN (tri_inBlock (tT (tR (tM rfl rfl ?_))))))
    refine yU rfl rfl ?_
    refine tA rfl rfl (tN (tT ?_))
    refine tri_sub ?_ (hK (i + 1, R.1, m3, a3, c3, es3, ds3, ns3, R.2.2) ⟨fun e => ?_, fun e => ?_, by simp only; omega⟩ (by simp only; omega))
    ·exact ⟨rfl, rfl, rfl, rfl, rfl, trivial⟩
    ·obtain ⟨b1, b2, b3⟩ := hg.1 e
     obtain ⟨d1, rfl, d3, d4⟩ := h3 e
     exact ⟨d1, b1, b2, d3, d4, b3⟩
    ·exact hg.2 e
   ·refine yR rfl rfl (tM rfl rfl (yR rfl rfl (tM rfl rfl (yR rfl rfl ?_))))
    refine tri_g (opg_call (xs := [_, _]) rfl (leaper_level hn1.1)) rfl ?_
    rintro _ _ _ ⟨rfl, rfl, rfl⟩
    refine yR rfl rfl (tM rfl rfl (yR rfl rfl ?_))
    refine yU rfl rfl ?_
    refine yR rfl rfl (yC rfl rfl (yR rfl rfl ?_))
    refine tri_v (opv_pick_f rfl rfl) rfl ?_
    refine tri_v (opv_pick_t rfl rfl) rfl ?_
    refine tN (tT ?_)
    refine tri_cond_dec rfl (fun h4 => ?_) (fun h4 => ?_)
    ·refine tri_skip (tT (tS (tri_block (tR (tM rfl rfl (tM rfl rfl ?_))))))
     obtain ⟨R, hR⟩ : ∃ R, R9.grow room s1 n1 = R := ⟨_, rfl⟩
     have hg := go R hR (.inr (by omega))
     refine tri_g (opg_call (xs := [_, _]) rfl (leaper_grow hlk hn1 hx1 hm1 hR)) rfl ?_
     rintro _ _ _ ⟨a3, c3, es3, ds3, ns3, m3, rfl, rfl, h3, rfl⟩
     refine tM rfl rfl ?_
     refine tri_v (opv_extract rfl rfl) rfl ?_
     refine tri_v (opv_extract rfl rfl) rfl ?_
     refine tA rfl rfl (tA rfl rfl (tN (tri_inBlock (tT (tR (tM rfl rfl ?_))))))
     refine yU rfl rfl ?_
     refine tA rfl rfl (tN (tT ?_))
     refine tri_sub ?_ (hK (i + 1, R.1, m3, a3, c3, es3, ds3, ns3, R.2.2) ⟨fun e => ?_, fun e => ?_, by simp only; omega⟩ (by simp only; omega))
     ·exact ⟨rfl, rfl, rfl, rfl, rfl, trivial⟩
     ·obtain ⟨b1, b2, b3⟩ := hg.1 e
      obtain ⟨d1, rfl, d3, d4⟩ := h3 e
      exact ⟨d1, b1, b2, d3, d4, b3⟩
     ·exact hg.2 e
    ·rw [R9.more_stop (by omega) (by omega)] at hr1
     rw [R9.bindS_ok (by rw [hr1]), hr1] at hr
     simp only at hr
     rw [R9.lvS_is hn1] at hr
     refine tri_exit ?_
     refine tri_then_exit (tri_then_exit ?_)
     refine tri_inBlock_hit rfl ?_
     refine tT (tS (tS (tR (tM rfl rfl ?_))))
     refine tri_v (opv_neq rfl rfl) rfl ?_
     refine tN (tT ?_)
     refine tri_cond_not rfl (by omega) ?_
     refine tri_skip (tT (tS (tR (tM rfl rfl (tM rfl rfl (tM rfl rfl ?_))))))
     refine tri_g (opg_call (xs := [_, _, _]) rfl (leaper_leap k1 _ _ s1 _ _ _ _ _ _ _ n1 j _ _ r hlk hn1 hx1 hm1 (by omega) hr)) rfl ?_
     rintro _ _ _ ⟨a4, c4, es4, ds4, ns4, m4, rfl, rfl, h4, rfl⟩
     refine tri_v (opv_extract rfl rfl) rfl ?_
     refine tri_v (opv_extract rfl rfl) rfl ?_
     refine tA rfl rfl (tA rfl rfl (tN (tT (tri_ret ?_))))
     refine tri_end _ (⟨[], rfl⟩) rfl (.cons (rv_tmp rfl) (.cons (rv_tmp rfl) .nil)) ⟨a4, c4, es4, ds4, ns4, m4, rfl, rfl, h4, rfl⟩
  ·have e0 : r0.2.2 ≠ 0 := by rw [hne h1]; exact h1
   rw [R9.bindS_err e0] at hr
   subst hr
   refine tri_guard_skip rfl rfl rfl rfl (tri_guard_skip rfl rfl rfl rfl (tri_guard_skip rfl rfl rfl rfl ?_))
   refine tri_guard_skip_u rfl rfl rfl ?_
   refine tri_guard_skip_u rfl rfl rfl ?_
   refine tri_guard_skip_u rfl rfl rfl ?_
   refine tri_guard_skip_u rfl rfl rfl ?_
   refine tri_guard_skip_u rfl rfl rfl ?_
   refine tri_guard_skip_u rfl rfl rfl ?_
   refine tri_guard_skip rfl rfl rfl rfl ?_
   refine tri_v (opv_pick_f rfl rfl) rfl ?_
   refine tN (tT ?_)
   refine tri_cond_false rfl ?_
   refine tri_exit ?_
   refine tri_then_exit (tri_then_exit ?_)
   refine tri_inBlock_hit rfl ?_
   refine tT (tS (tS (tR (tM rfl rfl ?_))))
   refine tri_v (opv_neq rfl rfl) rfl ?_
   refine tN (tT ?_)
   refine tri_cond_is rfl (h1) ?_
   refine tS (tR (tM rfl rfl (tA rfl rfl (tA rfl rfl (tN (tT (tri_ret ?_)))))))
   refine tri_then_ret ?_
   refine tri_end _ (⟨[], rfl⟩) rfl (.cons (rv_tmp rfl) (.cons (rv_tmp rfl) .nil)) ⟨a1, c1, es1, ds1, ns1, 0, by rw [← hne h1]; rfl, rfl, fun e => absurd e e0, rfl⟩
 ·simp only at e ⊢
  obtain ⟨d1, rfl, d3, d4⟩ := h1 e
  have g := hge e
  obtain ⟨k', hk'⟩ := g.is
  have hb := (g.lk.wf.lvb hk'.1).2
  rw [hk'.2] at hb
  rw [R9.bindS_ok e] at hr0
  exact ⟨d1, g.lk, ⟨k', by omega, by omega, hk'⟩, d3, d4, hr0.symm⟩
 ·simp only at e ⊢
  rw [R9.bindS_err e] at hr0
  rw [← hr0]
end Go.GL


namespace Go.GL
open Go.Proofs
attribute [local irreducible] wpList Code.wp Exit.then Exit.inBlock Ends Tri TriH OpV OpG FnC epf wpAnyH
variable {A : List Asrt} {I : List Chunk}
namespace R9
def bitsTo (c : Int) (k : Nat) : List Int := ((List.range k).filter fun i => decide (c / 2 ^ i % 2 = 1)).map fun i => ((i : Nat) : Int)
theorem bitsTo_succ (c : Int) (k : Nat) : bitsTo c (k + 1) = if c / 2 ^ k % 2 = 1 then bitsTo c k ++ [(k : Int)] else bitsTo c k := by
 unfold bitsTo
 rw [List.range_succ, List.filter_append, List.map_append]
 by_cases h : c / 2 ^ k % 2 = 1
 ·rw [if_pos h]; simp [h]
 ·rw [if_neg h]; simp [h]
theorem bitsTo_len (c : Int) (k : Nat) : (bitsTo c k).length ≤ k := by
 unfold bitsTo
 rw [List.length_map]
 exact Nat.le_trans (List.length_filter_le _ _) (by rw [List.length_range]; exact Nat.le_refl _)
theorem bits_bd {c j : Int} (h : j ∈ bits c) : 0 ≤ j ∧ j ≤ 61 := by
 unfold bits at h
 obtain ⟨i, hi, rfl⟩ := List.mem_map.1 h
 have := List.mem_range.1 (List.mem_filter.1 hi).1
 omega
end R9
/-- What tells the bits of a count. -/
def BitsR (c : Int) (A : List Asrt) (I : List Chunk) : Value → List Asrt → List Chunk → Prop := fun v A' I' => ∃ a' cap', v = .slice a' (R9.bits c).length cap' ∧ SlAt I' a' (R9.bits c) ∧ A = A' ∧ I ⊆ I'
set_option maxHeartbeats 2000000 in
set_option maxRecDepth 100000 in
theorem count_bits {c : Int} (hc : 0 ≤ c ∧ c ≤ 4611686018427387903) :
  FnC Try.prog 76 [.int .i64 c].toArray A I (BitsR c A I) := by
 skip
 skip
 refine fn_enter1 Try.func76 rfl Try.ntmps76 rfl fun w0 => ?_
 refine tS (tR (tA rfl rfl (tN (tT (tS (tS (tR ?_)))))))
 refine tM rfl rfl (yC rfl rfl (tM rfl rfl ?_))
 refine tri_false rfl rfl (by omega) ?_
 refine yR rfl rfl (tM rfl rfl (yR rfl rfl ?_))
 refine tri_v (opv_gtr rfl rfl) rfl ?_
 refine tri_v (opv_pick_f rfl rfl) rfl ?_
 refine tN (tT ?_)
 refine tri_cond_not rfl (by omega) ?_
 refine tri_skip (tT (tS (tS (tR (tM rfl rfl (tN (tT ?_)))))))
 refine tri_block ?_
 refine tri_nilRow (E := 3) (sz := 1) ?_
 refine tri_sub (F' := [(0, .int .i64 c), (2, .slice none 0 0), (10, .int .i64 (0 : Nat))]) ⟨rfl, rfl, rfl, trivial⟩ ?_
 refine loop_ind (G := Nat × Option Addr × Nat) (fun g => 62 - g.1) (fun g => g.1 ≤ 62) (fun g => [(0, .int .i64 c), (2, .slice g.2.1 (R9.bitsTo c g.1).length g.2.2), (10, .int .i64 (g.1 : Nat))]) (fun g => Row g.2.1 g.2.2 (R9.bitsTo c g.1).length 3 1 (encs (R9.bitsTo c g.1)) :: A) (fun _ => I) ?_ (0, none, 0) (by omega)
 rintro ⟨i, a1, cap1⟩ hi K hK
 simp only at hi hK ⊢
 have hbl := R9.bitsTo_len c i
 skip
 refine tS (tR (yC rfl rfl (tN (tT (tS ?_)))))
 refine tri_cond_dec rfl (fun h => ?_) (fun h => ?_)
 ·have hlt : i < 62 := by omega
  have hs := R9.bitsTo_succ c i
  refine tri_skip (tT (tS (tri_block (tS (tR (tM rfl rfl (tA rfl rfl ?_)))))))
  refine tN (tT (tS (tR (tM rfl rfl (tM rfl rfl ?_)))))
  refine tri_v (opv_shl1 rfl rfl (by omega) (by omega)) rfl ?_
  refine tri_v (opv_bit (k := i) rfl rfl hc.1 (by omega) (by rw [Int.toNat_natCast]) (by omega)) rfl ?_
  refine tri_v (opv_neq rfl rfl) rfl ?_
  refine tN (tT ?_)
  refine tri_cond_dec rfl (fun hb => ?_) (fun hb => ?_)
  ·have hb1 : c / 2 ^ i % 2 = 1 := Decidable.byContradiction fun e => hb (if_neg e)
   rw [if_pos hb1] at hs
   refine tR (tM rfl rfl (tM rfl rfl ?_))
   refine tri_g (opg_buildSlice rfl rfl rfl rfl) rfl ?_
   rintro _ _ _ ⟨b20, rfl, rfl, rfl⟩
   refine tri_g (opg_appendB rfl rfl rfl rfl (by omega) rfl) rfl ?_
   rintro _ _ _ ⟨a3, cap3, rfl, rfl, rfl⟩
   refine tA rfl rfl (tN (tri_inBlock (tT (tR ?_))))
   refine yU rfl rfl ?_
   refine tM rfl rfl (tN (tT ?_))
   refine tri_drop ?_
   refine tri_rowEq (len' := (R9.bitsTo c (i + 1)).length) (cells' := encs (R9.bitsTo c (i + 1))) (by rw [hs, List.length_append]; rfl) (by rw [hs, encs_append]; rfl) ?_
   refine tri_sub ?_ (hK (i + 1, a3, cap3) (by simp only; omega) (by simp only; omega))
   exact ⟨rfl, by rw [hs, List.length_append]; rfl, rfl, trivial⟩
  ·have hb1 : ¬ c / 2 ^ i % 2 = 1 := fun e => hb (by rw [if_pos e]; exact Int.ne_of_gt (Int.pow_pos (by omega)))
   rw [if_neg hb1] at hs
   refine tri_skip (tri_inBlock (tT (tR ?_)))
   refine yU rfl rfl ?_
   refine tM rfl rfl (tN (tT ?_))
   refine tri_rowEq (len' := (R9.bitsTo c (i + 1)).length) (cells' := encs (R9.bitsTo c (i + 1))) (by rw [hs]) (by rw [hs]) ?_
   refine tri_sub ?_ (hK (i + 1, a1, cap1) (by simp only; omega) (by simp only; omega))
   exact ⟨rfl, by rw [hs]; rfl, rfl, trivial⟩
 ·have hi' : i = 62 := by omega
  subst hi'
  refine tri_exit ?_
  refine tri_then_exit (tri_then_exit ?_)
  refine tri_inBlock_hit rfl ?_
  refine tT (tS (tR (tM rfl rfl (tA rfl rfl (tN (tT (tri_ret ?_)))))))
  refine tri_freezeRow rfl fun I' hI hs' => ?_
  refine tri_end A Suf.h rfl (.cons (rv_tmp rfl) .nil) ⟨a1, cap1, rfl, hs', rfl, hI⟩
end Go.GL


namespace Go.GL
open Go.Proofs
attribute [local irreducible] wpList Code.wp Exit.then Exit.inBlock Ends Tri TriH OpV OpG FnC epf wpAnyH
variable {A : List Asrt} {I : List Chunk}
/-- As LxR, where something may have been frozen. -/
def LxS (bl bx mb db : Nat) (r : R9.L9) (room : Int) (A : List Asrt) (I : List Chunk) : Value → List Asrt → List Chunk → Prop :=
 fun v A' I' => ∃ a' cap' es' ds' ns' m, v = .tuple [.int .i64 m, .int .i64 r.2.2].toArray ∧ A' = LxA bl bx mb db a' cap' ns' room es' ds' A ∧ (r.2.2 = 0 → ns' = r.1.ns ∧ m = r.2.1 ∧ Idx r.1.ns es' ∧ MemIx r.1.mm ds') ∧ I ⊆ I'
theorem runL_drop {room : Int} {js : List Int} {i : Nat} (hi : i < js.length) (t : R9.LS) (n : Int) : R9.runL room (js.drop i) t n = R9.bindS (R9.power room t n (js.getD i default)) (R9.runL room (js.drop (i + 1))) := by
 rw [List.drop_eq_getElem_cons hi, show js.getD i default = js[i] by simp [hi]]
 rfl
set_option maxHeartbeats 2000000 in
set_option maxRecDepth 100000 in
theorem leaper_run {k : Nat} {s : R9.LS} {a : Option Addr} {cap bl bx mb db : Nat} {room n c : Int} {es ds : KVs} {r : R9.L9} (h : R9.Lk room s) (hn : R7.IsN s.ns (k + 2) n) (hix : Idx s.ns es) (hmx : MemIx s.mm ds) (hc : 0 ≤ c ∧ c ≤ 4611686018427387903) (hr : R9.runL room (R9.bits c) s n = r) :
  FnC Try.prog 52 [pt bl 0, .int .i64 n, .int .i64 c].toArray (LxA bl bx mb db a cap s.ns room es ds A) I (LxS bl bx mb db r room A I) := by
 have hbd := fun j (hj : j ∈ R9.bits c) => R9.bits_bd hj
 have hbl : (R9.bits c).length ≤ 62 := R9.bitsTo_len c 62
 skip
 refine fn_enter3 Try.func52 rfl Try.ntmps52 rfl fun w0 => ?_
 refine tS (tR (tA rfl rfl (tA rfl rfl (tN (tT (tS (tS ?_)))))))
 refine tR (tM rfl rfl ?_)
 refine tri_g (opg_call (xs := [_]) rfl (count_bits hc)) rfl ?_
 rintro _ _ I1 ⟨a1, c1, rfl, hs, rfl, hI⟩
 generalize R9.bits c = js at *
 refine tri_v (opv_len rfl) rfl ?_
 refine tM rfl rfl (tN (tT (tri_block ?_)))
 refine tri_sub (F' := [(0, pt bl 0), (1, .int .i64 n), (12, .slice a1 js.length c1), (13, .int .i64 (js.length : Nat)), (14, .int .i64 (0 : Nat))]) ⟨rfl, rfl, rfl, rfl, rfl, trivial⟩ ?_
 refine loop_ind (G := Nat × R9.LS × Int × Option Addr × Nat × KVs × KVs) (fun g => js.length - g.1) (fun g => g.1 ≤ js.length ∧ R9.Lk room g.2.1 ∧ (∃ k : Nat, R7.IsN g.2.1.ns (k + 2) g.2.2.1) ∧ Idx g.2.1.ns g.2.2.2.2.2.1 ∧ MemIx g.2.1.mm g.2.2.2.2.2.2 ∧ R9.runL room (js.drop g.1) g.2.1 g.2.2.1 = r) (fun g => [(0, pt bl 0), (1, .int .i64 g.2.2.1), (12, .slice a1 js.length c1), (13, .int .i64 (js.length : Nat)), (14, .int .i64 (g.1 : Nat))]) (fun g => LxA bl bx mb db g.2.2.2.1 g.2.2.2.2.1 g.2.1.ns room g.2.2.2.2.2.1 g.2.2.2.2.2.2 A) (fun _ => I1) ?_ (0, s, n, a, cap, es, ds) ⟨by omega, h, ⟨k, hn⟩, hix, hmx, hr⟩
 rintro ⟨i, t, n1, a2, c2, es2, ds2⟩ ⟨hi, hlk, ⟨k1, hn1⟩, hx1, hm1, hr1⟩ K hK
 simp only at hi hlk hn1 hx1 hm1 hr1 hK ⊢
 skip
 refine tS (tR (yC rfl rfl (tN (tT (tS ?_)))))
 refine tri_cond_dec rfl (fun h1 => ?_) (fun h1 => ?_)
 ·have hlt : i < js.length := by omega
  rw [runL_drop hlt] at hr1
  have hj := hbd (js.getD i default) (by simp [hlt])
  obtain ⟨R, hR⟩ : ∃ R, R9.power room t n1 (js.getD i default) = R := ⟨_, rfl⟩
  rw [hR] at hr1
  have hge := fun e : R.2.2 = 0 => R9.power_ge hlk hn1 (by rw [hR]; exact e)
  rw [hR] at hge
  refine tri_skip (tT (tS (tri_block (tS (tR ?_)))))
  refine tri_v (opv_indexAddrSN rfl rfl (by omega) (by assumption) rfl) rfl ?_
  refine tri_v (opv_loadE1 rfl (by assumption) rfl (by omega) rfl rfl) rfl ?_
  refine tA rfl rfl (tN (tT (tS (tR (tA rfl rfl (tN (tT ?_)))))))
  refine tS (tR (tM rfl rfl (tM rfl rfl (tM rfl rfl ?_))))
  refine tri_g (opg_call (xs := [_, _, _]) rfl (leaper_power hlk hn1 hx1 hm1 (by omega) hR)) rfl ?_
  rintro _ _ _ ⟨a3, c3, es3, ds3, ns3, m3, rfl, rfl, h3, rfl⟩
  refine tM rfl rfl ?_
  refine tri_v (opv_extract rfl rfl) rfl ?_
  refine tri_v (opv_extract rfl rfl) rfl ?_
  refine tA rfl rfl (tA rfl rfl (tN (tT (tS (tR (tM rfl rfl ?_))))))
  refine tri_v (opv_neq rfl rfl) rfl ?_
  refine tN (tT ?_)
  refine tri_cond_dec rfl (fun x => ?_) (fun x => ?_)
  ·rw [R9.bindS_err x] at hr1
   subst hr1
   refine tS (tR (tM rfl rfl (tA rfl rfl (tA rfl rfl (tN (tT (tri_ret ?_)))))))
   refine tri_inBlock_ret (tri_then_ret (tri_then_ret (tri_inBlock_ret (tri_then_ret ?_))))
   refine tri_end _ (⟨[], rfl⟩) rfl (.cons (rv_tmp rfl) (.cons (rv_tmp rfl) .nil)) ⟨a3, c3, es3, ds3, ns3, 0, rfl, rfl, fun e => absurd e x, hI⟩
  ·have x' : R.2.2 = 0 := Decidable.not_not.1 x
   rw [R9.bindS_ok x'] at hr1
   obtain ⟨rfl, rfl, h5, h6⟩ := h3 x'
   have g := hge x'
   refine tri_skip (tri_inBlock (tT (tR ?_)))
   refine yU rfl rfl ?_
   refine tM rfl rfl (tN (tT ?_))
   refine tri_sub ?_ (hK (i + 1, R.1, R.2.1, a3, c3, es3, ds3) ⟨by simp only; omega, g.lk, g.is, h5, h6, hr1⟩ (by simp only; omega))
   exact ⟨rfl, rfl, rfl, rfl, rfl, trivial⟩
 ·have hi' : i = js.length := by omega
  subst hi'
  rw [List.drop_of_length_le (by omega)] at hr1
  unfold R9.runL R9.trimS at hr1
  rw [R9.lvS_is hn1] at hr1
  refine tri_exit ?_
  refine tri_then_exit (tri_then_exit ?_)
  refine tri_inBlock_hit rfl ?_
  refine tT (tS (tR (tM rfl rfl (tM rfl rfl ?_))))
  refine tri_g (opg_call (xs := [_, _]) rfl (leaper_trim hlk hn1 hx1 hm1 hr1)) rfl ?_
  rintro _ _ _ ⟨a3, c3, es3, ds3, ns3, m3, rfl, rfl, h3, rfl⟩
  refine tri_v (opv_extract rfl rfl) rfl ?_
  refine tri_v (opv_extract rfl rfl) rfl ?_
  refine tA rfl rfl (tA rfl rfl (tN (tT (tri_ret ?_))))
  refine tri_end _ (⟨[], rfl⟩) rfl (.cons (rv_tmp rfl) (.cons (rv_tmp rfl) .nil)) ⟨a3, c3, es3, ds3, ns3, m3, rfl, rfl, h3, hI⟩
end Go.GL


namespace Go.GL
open Go.Proofs
attribute [local irreducible] wpList Code.wp Exit.then Exit.inBlock Ends Tri TriH OpV OpG FnC epf wpAnyH
variable {A : List Asrt} {I : List Chunk}
def LeapOfR (ns : List Node) (room n : Int) (A : List Asrt) (I : List Chunk) : Value → List Asrt → List Chunk → Prop := fun v A' I' =>
 (R8.may ns room n 2 ∧ ∃ bl bx mb db a' cap' es, v = .tuple [pt bl 0, .bool true].toArray ∧ A' = LxA bl bx mb db a' cap' ns room es [] A ∧ Idx ns es ∧ I = I') ∨ (¬ R8.may ns room n 2 ∧ ∃ p, v = .tuple [p, .bool false].toArray ∧ A = A' ∧ I = I')
set_option maxHeartbeats 1000000 in
set_option maxRecDepth 100000 in
theorem leap_of {ns : List Node} {a : Option Addr} {cap : Nat} {room n : Int} (hs : StA I a cap ns) (hn : ns.length ≤ 1000000000) :
  FnC Try.prog 67 [storeV a ns.length cap room, .int .i64 n].toArray A I (LeapOfR ns room n A I) := by
 skip
 refine fn_enter2 Try.func67 rfl Try.ntmps67 rfl fun w0 => ?_
 refine tS (tR ?_)
 refine tri_g (opg_box_agg rfl) rfl ?_
 rintro _ _ _ ⟨b2, rfl, rfl, rfl⟩
 refine tA rfl rfl (tA rfl rfl (tN (tT (tS (tR ?_)))))
 refine yB rfl rfl ?_
 refine tM rfl rfl ?_
 refine tri_g (opg_call (xs := [_, _, _]) rfl (base_of (lv := 2) hs hn)) rfl ?_
 rintro v A1 I1 hR
 rcases hR with ⟨hr, bx, mb, a1, c1, es, rfl, rfl, hix, rfl⟩ | ⟨hr, p, rfl, rfl, rfl⟩
 ·refine tM rfl rfl ?_
  refine tri_v (opv_extract rfl rfl) rfl ?_
  refine tri_v (opv_extract rfl rfl) rfl ?_
  refine tri_g opg_alloc rfl ?_
  rintro _ _ _ ⟨b6, rfl, rfl, rfl⟩
  refine yG rfl rfl rfl rfl rfl rfl ?_
  rintro _ _ _ ⟨rfl, rfl⟩
  refine tA rfl rfl (tN (tT (tS (tR ?_))))
  refine yB rfl rfl ?_
  refine tri_g opg_makeMap rfl ?_
  rintro _ _ _ ⟨b15, rfl, rfl, rfl⟩
  refine tri_v (opv_buildS rfl rfl) rfl ?_
  refine tri_g (opg_box_agg rfl) rfl ?_
  rintro _ _ _ ⟨b17, rfl, rfl, rfl⟩
  refine tM rfl rfl (tA rfl rfl (tA rfl rfl (tN (tT (tri_ret ?_)))))
  refine tri_perm (A := ?a1_0 :: ?a1_1 :: ?a1_2 :: ?a1_3 :: ?a1_4 :: ?a1_5 :: ?a1_6 :: ?T1) (B := ?a1_2 :: ?a1_6 :: ?a1_3 :: ?a1_4 :: ?a1_5 :: ?a1_0 :: ?a1_1 :: ?T1) (by exact permL [2, 6, 3, 4, 5, 0, 1] [?a1_0, ?a1_1, ?a1_2, ?a1_3, ?a1_4, ?a1_5, ?a1_6] ?T1 (by decide) rfl) ?_
  refine tri_end _ (⟨[_, _], rfl⟩) rfl (.cons (rv_tmp rfl) (.cons (rv_tmp rfl) .nil)) (.inl ⟨hr, b17, bx, mb, b15, a1, c1, es, rfl, rfl, hix, rfl⟩)
 ·refine tM rfl rfl ?_
  refine tri_v (opv_extract rfl rfl) rfl ?_
  refine tri_v (opv_extract rfl rfl) rfl ?_
  refine tri_g opg_alloc rfl ?_
  rintro _ _ _ ⟨b6, rfl, rfl, rfl⟩
  refine yG rfl rfl rfl rfl rfl rfl ?_
  rintro _ _ _ ⟨rfl, rfl⟩
  refine tA rfl rfl (tN (tT (tS (tR ?_))))
  refine yB rfl rfl ?_
  refine tri_g opg_makeMap rfl ?_
  rintro _ _ _ ⟨b15, rfl, rfl, rfl⟩
  refine tri_v (opv_buildS rfl rfl) rfl ?_
  refine tri_g (opg_box_agg rfl) rfl ?_
  rintro _ _ _ ⟨b17, rfl, rfl, rfl⟩
  refine tM rfl rfl (tA rfl rfl (tA rfl rfl (tN (tT (tri_ret ?_)))))
  refine tri_end A Suf.h rfl (.cons (rv_tmp rfl) (.cons (rv_tmp rfl) .nil)) (.inr ⟨hr, _, rfl, rfl, rfl⟩)
/-- What told makes of what a leaper told. -/
def toldL (ns : List Node) (room n : Int) (p : Prop) [Decidable p] (r : R9.L9) : List Node × Int × Int := if R8.may ns room n 2 ∧ p then R9.out ns r else (ns, 0, 1)
set_option maxHeartbeats 1000000 in
set_option maxRecDepth 100000 in
theorem leap_told {ns : List Node} {a : Option Addr} {cap f1 f2 : Nat} {room n : Int} {ca1 ca2 : List Value} {p : Prop} [Decidable p] {r : R9.L9} [FnI Try.prog f1] [FnI Try.prog f2] (hs : StA I a cap ns) (hn : ns.length ≤ 1000000000)
  (hc1 : R8.may ns room n 2 → ∀ bl bx mb db a cap es (X Y : Asrt), Idx ns es → FnC Try.prog f1 (pt bl 0 :: ca1).toArray (LxA bl bx mb db a cap ns room es [] (X :: Y :: A)) I (fun v A' I' => v = .bool (decide p) ∧ LxA bl bx mb db a cap ns room es [] (X :: Y :: A) = A' ∧ I = I'))
  (hc2 : R8.may ns room n 2 → p → ∀ bl bx mb db a cap es (X Y : Asrt), Idx ns es → FnC Try.prog f2 (pt bl 0 :: ca2).toArray (LxA bl bx mb db a cap ns room es [] (X :: Y :: A)) I (LxS bl bx mb db r room (X :: Y :: A) I)) :
  FnC Try.prog 39 [storeV a ns.length cap room, .int .i64 n, .func (.func f1) [].toArray ca1.toArray, .func (.func f2) [].toArray ca2.toArray].toArray A I (StoreR (toldL ns room n p r) room A I) := by
 skip
 refine fn_enter4 Try.func39 rfl Try.ntmps39 rfl fun w0 => ?_
 refine tS (tR ?_)
 refine tri_g (opg_box_agg rfl) rfl ?_
 rintro _ _ _ ⟨b4, rfl, rfl, rfl⟩
 refine tri_g opg_alloc rfl ?_
 rintro _ _ _ ⟨b8, rfl, rfl, rfl⟩
 refine tA rfl rfl (tA rfl rfl (tN (tT (tS (tR ?_)))))
 refine yB rfl rfl ?_
 refine tM rfl rfl ?_
 refine tri_g (opg_call (xs := [_, _]) rfl (leap_of hs hn)) rfl ?_
 rintro v A1 I1 hR
 rcases hR with ⟨hr, bl, bx, mb, db, a1, c1, es, rfl, rfl, hix, rfl⟩ | ⟨hr, q, rfl, rfl, rfl⟩
 ·refine tM rfl rfl ?_
  refine tri_v (opv_extract rfl rfl) rfl ?_
  refine tri_v (opv_extract rfl rfl) rfl ?_
  refine tA rfl rfl (tA rfl rfl (tN (tT (tS (tS (tR (tM rfl rfl ?_)))))))
  refine tri_v (opv_not rfl) rfl ?_
  refine tM rfl rfl ?_
  skip
  refine yR rfl rfl (tM rfl rfl (yR rfl rfl (tM rfl rfl (yR rfl rfl ?_))))
  refine tri_g (opg_callv (vs := [pt bl 0]) (xs := [_]) rfl rfl (hc1 hr bl bx mb db a1 c1 es _ _ hix)) rfl ?_
  rintro _ _ _ ⟨rfl, rfl, rfl⟩
  refine yR rfl rfl ?_
  refine tri_v (opv_notD rfl) rfl ?_
  refine tri_v (opv_pick_f rfl rfl) rfl ?_
  refine tN (tT ?_)
  refine tri_cond rfl (fun hp => ?_) (fun hp => ?_)
  ·have hp' : ¬ p := by simpa using hp
   refine tS (tR ?_)
   refine yB rfl rfl ?_
   refine yG rfl rfl rfl rfl rfl rfl ?_
   rintro _ _ _ ⟨rfl, rfl⟩
   refine tA rfl rfl (tA rfl rfl (tN (tT (tri_ret (tri_then_ret ?_)))))
   refine tri_end A Suf.h rfl (.cons (rv_cellA rfl rfl rfl) (.cons (rv_tmp rfl) (.cons (rv_tmp rfl) .nil))) ?_
   rw [show toldL ns room n p r = (ns, 0, 1) from if_neg fun h => hp' h.2]
   exact ⟨a, cap, rfl, hs, rfl, fun _ h => h⟩
  ·have hp' : p := by simpa using hp
   refine tri_skip (tT (tS (tR (tM rfl rfl (tM rfl rfl ?_)))))
   refine tri_g (opg_callv (vs := [pt bl 0]) (xs := [_]) rfl rfl (hc2 hr hp' bl bx mb db a1 c1 es _ _ hix)) rfl ?_
   rintro _ _ I2 ⟨a2, c2, es2, ds2, ns2, m2, rfl, rfl, h2, hI⟩
   refine tM rfl rfl ?_
   refine tri_v (opv_extract rfl rfl) rfl ?_
   refine tri_v (opv_extract rfl rfl) rfl ?_
   refine tA rfl rfl (tA rfl rfl (tN (tT (tS (tS (tR (tM rfl rfl ?_)))))))
   refine tri_v (opv_neq rfl rfl) rfl ?_
   refine tN (tT ?_)
   refine tri_cond_dec rfl (fun h => ?_) (fun h => ?_)
   ·refine tS (tR ?_)
    refine yB rfl rfl ?_
    refine tM rfl rfl ?_
    refine yG rfl rfl rfl rfl rfl rfl ?_
    rintro _ _ _ ⟨rfl, rfl⟩
    refine tA rfl rfl (tA rfl rfl (tN (tT (tri_ret (tri_then_ret ?_)))))
    refine tri_end A Suf.h rfl (.cons (rv_cellA rfl rfl rfl) (.cons (rv_tmp rfl) (.cons (rv_tmp rfl) .nil))) ?_
    rw [show toldL ns room n p r = (ns, 0, r.2.2) from (if_pos ⟨hr, hp'⟩).trans (if_pos h)]
    exact ⟨a, cap, rfl, hs.mono hI, rfl, hI⟩
   ·have h0 : r.2.2 = 0 := Decidable.not_not.1 h
    obtain ⟨rfl, rfl, _, _⟩ := h2 h0
    refine tri_skip (tT (tS (tR (tM rfl rfl ?_))))
    refine tri_v (opv_nilCheck rfl) rfl ?_
    refine yF rfl (yF rfl ?_)
    refine yL rfl rfl ?_
    refine tri_v (opv_nilCheck rfl) rfl ?_
    refine yF rfl ?_
    refine yB rfl rfl ?_
    refine tM rfl rfl ?_
    refine yG rfl rfl rfl rfl rfl rfl ?_
    rintro _ _ _ ⟨rfl, rfl⟩
    refine tA rfl rfl (tA rfl rfl (tN (tT (tri_ret ?_))))
    refine tri_perm (A := ?a2_0 :: ?a2_1 :: ?T2) (B := ?a2_1 :: ?a2_0 :: ?T2) (by exact permL [1, 0] [?a2_0, ?a2_1] ?T2 (by decide) rfl) ?_
    refine tri_freezeRowC rfl fun I' hI' hs' => ?_
    refine tri_end A Suf.h rfl (.cons (rv_cellA rfl rfl rfl) (.cons (rv_tmp rfl) (.cons (rv_tmp rfl) .nil))) ?_
    rw [show toldL ns room n p r = (r.1.ns, r.2.1, 0) from (if_pos ⟨hr, hp'⟩).trans (if_neg h)]
    exact ⟨a2, c2, rfl, hs', rfl, fun _ h => hI' (hI h)⟩
 ·refine tM rfl rfl ?_
  refine tri_v (opv_extract rfl rfl) rfl ?_
  refine tri_v (opv_extract rfl rfl) rfl ?_
  refine tA rfl rfl (tA rfl rfl (tN (tT (tS (tS (tR (tM rfl rfl ?_)))))))
  refine tri_v (opv_not rfl) rfl ?_
  refine tM rfl rfl ?_
  skip
  refine tri_guard_skip rfl rfl rfl rfl (tri_guard_skip rfl rfl rfl rfl (tri_guard_skip rfl rfl rfl rfl (tri_guard_skip rfl rfl rfl rfl ?_)))
  refine tri_v (opv_pick_t rfl rfl) rfl ?_
  refine tN (tT ?_)
  refine tri_cond_true rfl ?_
  refine tS (tR ?_)
  refine yB rfl rfl ?_
  refine yG rfl rfl rfl rfl rfl rfl ?_
  rintro _ _ _ ⟨rfl, rfl⟩
  refine tA rfl rfl (tA rfl rfl (tN (tT (tri_ret (tri_then_ret ?_)))))
  refine tri_end A Suf.h rfl (.cons (rv_cellA rfl rfl rfl) (.cons (rv_tmp rfl) (.cons (rv_tmp rfl) .nil))) ?_
  rw [show toldL ns room n p r = (ns, 0, 1) from if_neg fun h => hr h.1]
  exact ⟨a, cap, rfl, hs, rfl, fun _ h => h⟩
end Go.GL


namespace Go.GL
open Go.Proofs
attribute [local irreducible] wpList Code.wp Exit.then Exit.inBlock Ends Tri TriH OpV OpG FnC epf wpAnyH
variable {A : List Asrt} {I : List Chunk}
theorem may_lk {ns : List Node} {room n : Int} (h : R8.may ns room n 2) : R9.Lk room (⟨ns, []⟩ : R9.LS) ∧ ∃ k : Nat, R7.IsN ns (k + 2) n ∧ R9.lvS (⟨ns, []⟩ : R9.LS) n = k := by
 have h2 := h.2.2
 refine ⟨⟨h.1, fun p hp => by cases hp⟩, ((R6.nd ns n).lv - 2).toNat, ⟨h.2.1, by omega⟩, rfl⟩
set_option maxHeartbeats 1000000 in
set_option maxRecDepth 100000 in
theorem leap_clo1 {ns : List Node} {bn bj : Nat} {room n j : Int} (hr : R8.may ns room n 2) (bl bx mb db : Nat) (a : Option Addr) (cap : Nat) (es : KVs) (X Y : Asrt) (hix : Idx ns es) :
  FnC Try.prog 40 [pt bl 0, pt bj 0, pt bn 0].toArray (LxA bl bx mb db a cap ns room es [] (X :: Y :: Box bj [.int .i64 j] 3 :: Box bn [.int .i64 n] 3 :: A)) I (fun v A' I' => v = .bool (decide (0 ≤ j ∧ j ≤ (R6.nd ns n).lv - 2)) ∧ LxA bl bx mb db a cap ns room es [] (X :: Y :: Box bj [.int .i64 j] 3 :: Box bn [.int .i64 n] 3 :: A) = A' ∧ I = I') := by
 obtain ⟨lk, k, hn, hk⟩ := may_lk hr
 have hlb := lk.wf.lvb hn.1
 simp only at hlb
 skip
 refine fn_enter3 Try.func40 rfl Try.ntmps40 rfl fun w0 => ?_
 refine tS (tR (tA rfl rfl (tN (tT (tS ?_)))))
 refine tri_draw [0, 1, 2, 3, 4, 5, 6, 7, 8, 9, 10] rfl [] rfl mixed ?_
 refine yl rfl rfl rfl ?_
 refine th_take rfl rfl (by kernel_rfl)  (opv_geq rfl rfl) ?_
 refine yM rfl rfl ?_
 refine th_split rfl rfl rfl (fun h1 => ?_) (fun h1 => ?_)
 ·refine th_take_g rfl rfl rfl rfl rfl (by kernel_rfl)  (opv_load1 rfl rfl rfl) ?_
  refine th_take_g rfl rfl rfl rfl rfl (by kernel_rfl)  (opv_move rfl) ?_
  refine th_take_g rfl rfl rfl rfl rfl (by kernel_rfl)  (opv_load1 rfl rfl rfl) ?_
  refine th_one (by kernel_rfl) (step_mg rfl rfl rfl rfl rfl (opg_call (xs := [_, _]) rfl (leaper_level hn.1)) ?_)
  rintro _ _ _ ⟨rfl, rfl, rfl⟩
  refine ⟨Suf.h, (fun _ h => h), ?_⟩
  refine th_take_g rfl rfl rfl rfl rfl (by kernel_rfl)  (opv_sub rfl rfl (w64 (by omega) (by omega))) ?_
  refine th_take_g rfl rfl rfl rfl rfl (by kernel_rfl)  (opv_leq rfl rfl) ?_
  refine th_take rfl rfl (by kernel_rfl)  (opv_pick_t rfl rfl) ?_
  refine yA rfl rfl (yD (tT (tri_ret ?_)))
  refine tri_end _ (⟨[], rfl⟩) rfl (.cons (rv_tmp rfl) .nil) ⟨?_, rfl, rfl⟩
  rw [show decide (0 ≤ j ∧ j ≤ (R6.nd ns n).lv - 2) = decide (j ≤ (R6.nd ns n).lv - 2) from decide_eq_decide.2 ⟨fun h => h.2, fun h => ⟨h1, h⟩⟩]
  rfl
 ·refine yS rfl rfl rfl (yS rfl rfl rfl (yS rfl rfl rfl ?_))
  refine th_one (by kernel_rfl) (step_skip rfl rfl rfl rfl rfl ?_)
  refine yS rfl rfl rfl (yS rfl rfl rfl ?_)
  refine th_take rfl rfl (by kernel_rfl)  (opv_pick_f rfl rfl) ?_
  refine yA rfl rfl (yD (tT (tri_ret ?_)))
  refine tri_end _ (⟨[], rfl⟩) rfl (.cons (rv_tmp rfl) .nil) ⟨?_, rfl, rfl⟩
  rw [decide_eq_false fun h => h1 h.1]
  rfl
set_option maxHeartbeats 1000000 in
set_option maxRecDepth 100000 in
theorem leap_clo2 {ns : List Node} {bn bj : Nat} {room n j : Int} (hr : R8.may ns room n 2) (hj : 0 ≤ j ∧ j ≤ (R6.nd ns n).lv - 2) (bl bx mb db : Nat) (a : Option Addr) (cap : Nat) (es : KVs) (X Y : Asrt) (hix : Idx ns es) :
  FnC Try.prog 42 [pt bl 0, pt bn 0, pt bj 0].toArray (LxA bl bx mb db a cap ns room es [] (X :: Y :: Box bj [.int .i64 j] 3 :: Box bn [.int .i64 n] 3 :: A)) I (LxS bl bx mb db (R9.leap room (R9.lvS (⟨ns, []⟩ : R9.LS) n) ⟨ns, []⟩ n j) room (X :: Y :: Box bj [.int .i64 j] 3 :: Box bn [.int .i64 n] 3 :: A) I) := by
 obtain ⟨lk, k, hn, hk⟩ := may_lk hr
 have hlb := lk.wf.lvb hn.1
 simp only at hlb
 rw [hk]
 skip
 refine fn_enter3 Try.func42 rfl Try.ntmps42 rfl fun w0 => ?_
 refine tS (tR (tA rfl rfl (tA rfl rfl (tN (tT (tS (tR ?_)))))))
 refine tM rfl rfl ?_
 refine yL rfl rfl ?_
 refine yL rfl rfl ?_
 refine tri_g (opg_call (xs := [_, _, _]) rfl (leaper_leap k _ _ (⟨ns, []⟩ : R9.LS) _ _ _ _ _ _ _ n j _ _ _ lk hn hix MemIx.nil (by omega) rfl)) rfl ?_
 rintro _ _ _ ⟨a4, c4, es4, ds4, ns4, m4, rfl, rfl, h4, rfl⟩
 refine tri_v (opv_extract rfl rfl) rfl ?_
 refine tri_v (opv_extract rfl rfl) rfl ?_
 refine tA rfl rfl (tA rfl rfl (tN (tT (tri_ret ?_))))
 refine tri_end _ (⟨[], rfl⟩) rfl (.cons (rv_tmp rfl) (.cons (rv_tmp rfl) .nil)) ⟨a4, c4, es4, ds4, ns4, m4, rfl, rfl, h4, fun _ h => h⟩
set_option maxHeartbeats 1000000 in
set_option maxRecDepth 100000 in
theorem leap_leap {ns : List Node} {a : Option Addr} {cap : Nat} {room n j : Int} (hs : StA I a cap ns) (hn : ns.length ≤ 1000000000) :
  FnC Try.prog 15 [storeV a ns.length cap room, .int .i64 n, .int .i64 j].toArray A I (StoreR (R9.leapT ns room n j) room A I) := by
 skip
 refine fn_enter3 Try.func15 rfl Try.ntmps15 rfl fun w0 => ?_
 refine tS (tR ?_)
 refine tri_g (opg_box_agg rfl) rfl ?_
 rintro _ _ _ ⟨b3, rfl, rfl, rfl⟩
 refine tri_g (opg_box1 rfl rfl) rfl ?_
 rintro _ _ _ ⟨b4, rfl, rfl, rfl⟩
 refine tri_g (opg_box1 rfl rfl) rfl ?_
 rintro _ _ _ ⟨b5, rfl, rfl, rfl⟩
 refine tri_g opg_alloc rfl ?_
 rintro _ _ _ ⟨b6, rfl, rfl, rfl⟩
 refine tA rfl rfl (tA rfl rfl (tN (tT (tS (tR ?_)))))
 refine yB rfl rfl ?_
 refine yL rfl rfl ?_
 refine tri_v (opv_makeFunc (fs := []) (cs := [_, _]) (vf := []) (vc := [_, _]) rfl rfl) rfl ?_
 refine tri_v (opv_makeFunc (fs := []) (cs := [_, _]) (vf := []) (vc := [_, _]) rfl rfl) rfl ?_
 refine tri_perm (A := ?a1_0 :: ?a1_1 :: ?a1_2 :: ?a1_3 :: ?T1) (B := ?a1_1 :: ?a1_2 :: ?a1_0 :: ?a1_3 :: ?T1) (by exact permL [1, 2, 0, 3] [?a1_0, ?a1_1, ?a1_2, ?a1_3] ?T1 (by decide) rfl) ?_
 refine tri_g (opg_call (xs := [_, _, _, _]) rfl (leap_told (ca1 := [_, _]) (ca2 := [_, _]) (p := 0 ≤ j ∧ j ≤ (R6.nd ns n).lv - 2) (r := R9.leap room (R9.lvS (⟨ns, []⟩ : R9.LS) n) ⟨ns, []⟩ n j) hs hn (fun hr bl bx mb db a cap es X Y hix => leap_clo1 hr bl bx mb db a cap es X Y hix) (fun hr hp bl bx mb db a cap es X Y hix => leap_clo2 hr hp bl bx mb db a cap es X Y hix))) rfl ?_
 rintro _ _ _ ⟨a2, c2, rfl, hs2, rfl, hI⟩
 refine tri_v (opv_extract rfl rfl) rfl ?_
 refine tri_v (opv_extract rfl rfl) rfl ?_
 refine tri_v (opv_extract rfl rfl) rfl ?_
 refine yG rfl rfl rfl rfl rfl rfl ?_
 rintro _ _ _ ⟨rfl, rfl⟩
 refine tA rfl rfl (tA rfl rfl (tN (tT (tri_ret ?_))))
 refine tri_end A Suf.h rfl (.cons (rv_cellA rfl rfl rfl) (.cons (rv_tmp rfl) (.cons (rv_tmp rfl) .nil))) ⟨a2, c2, rfl, hs2, rfl, hI⟩
set_option maxHeartbeats 1000000 in
set_option maxRecDepth 100000 in
theorem run_clo1 {ns : List Node} {bn bj : Nat} {room n j : Int} (hr : R8.may ns room n 2) (bl bx mb db : Nat) (a : Option Addr) (cap : Nat) (es : KVs) (X Y : Asrt) (hix : Idx ns es) :
  FnC Try.prog 50 [pt bl 0, pt bj 0].toArray (LxA bl bx mb db a cap ns room es [] (X :: Y :: Box bj [.int .i64 j] 3 :: Box bn [.int .i64 n] 3 :: A)) I (fun v A' I' => v = .bool (decide (0 ≤ j ∧ j ≤ 4611686018427387903)) ∧ LxA bl bx mb db a cap ns room es [] (X :: Y :: Box bj [.int .i64 j] 3 :: Box bn [.int .i64 n] 3 :: A) = A' ∧ I = I') := by
 skip
 refine fn_enter2 Try.func50 rfl Try.ntmps50 rfl fun w0 => ?_
 refine tS (tR (tA rfl rfl (tN (tT (tS (tR ?_))))))
 refine yL rfl rfl ?_
 refine tri_v (opv_geq rfl rfl) rfl ?_
 refine tM rfl rfl ?_
 refine tri_split rfl rfl (fun h1 => ?_) (fun h1 => ?_)
 ·refine yR rfl rfl ?_
  refine yL rfl rfl ?_
  refine yR rfl rfl ?_
  refine tri_v (opv_leq rfl rfl) rfl ?_
  refine tri_v (opv_pick_t rfl rfl) rfl ?_
  refine tA rfl rfl (tN (tT (tri_ret ?_)))
  refine tri_end _ (⟨[], rfl⟩) rfl (.cons (rv_tmp rfl) .nil) ⟨?_, rfl, rfl⟩
  rw [show decide (0 ≤ j ∧ j ≤ 4611686018427387903) = decide (j ≤ 4611686018427387903) from decide_eq_decide.2 ⟨fun h => h.2, fun h => ⟨h1, h⟩⟩]
  rfl
 ·refine tri_guard_skip rfl rfl rfl rfl (tri_guard_skip rfl rfl rfl rfl ?_)
  refine tri_v (opv_pick_f rfl rfl) rfl ?_
  refine tA rfl rfl (tN (tT (tri_ret ?_)))
  refine tri_end _ (⟨[], rfl⟩) rfl (.cons (rv_tmp rfl) .nil) ⟨?_, rfl, rfl⟩
  rw [decide_eq_false fun h => h1 h.1]
  rfl
set_option maxHeartbeats 1000000 in
set_option maxRecDepth 100000 in
theorem run_clo2 {ns : List Node} {bn bj : Nat} {room n j : Int} (hr : R8.may ns room n 2) (hj : 0 ≤ j ∧ j ≤ 4611686018427387903) (bl bx mb db : Nat) (a : Option Addr) (cap : Nat) (es : KVs) (X Y : Asrt) (hix : Idx ns es) :
  FnC Try.prog 51 [pt bl 0, pt bn 0, pt bj 0].toArray (LxA bl bx mb db a cap ns room es [] (X :: Y :: Box bj [.int .i64 j] 3 :: Box bn [.int .i64 n] 3 :: A)) I (LxS bl bx mb db (R9.runL room (R9.bits j) ⟨ns, []⟩ n) room (X :: Y :: Box bj [.int .i64 j] 3 :: Box bn [.int .i64 n] 3 :: A) I) := by
 obtain ⟨lk, k, hn, hk⟩ := may_lk hr
 skip
 refine fn_enter3 Try.func51 rfl Try.ntmps51 rfl fun w0 => ?_
 refine tS (tR (tA rfl rfl (tA rfl rfl (tN (tT (tS (tR ?_)))))))
 refine tM rfl rfl ?_
 refine yL rfl rfl ?_
 refine yL rfl rfl ?_
 refine tri_g (opg_call (xs := [_, _, _]) rfl (leaper_run (s := (⟨ns, []⟩ : R9.LS)) lk hn hix MemIx.nil hj rfl)) rfl ?_
 rintro _ _ _ ⟨a4, c4, es4, ds4, ns4, m4, rfl, rfl, h4, hI⟩
 refine tri_v (opv_extract rfl rfl) rfl ?_
 refine tri_v (opv_extract rfl rfl) rfl ?_
 refine tA rfl rfl (tA rfl rfl (tN (tT (tri_ret ?_))))
 refine tri_end _ (⟨[], rfl⟩) rfl (.cons (rv_tmp rfl) (.cons (rv_tmp rfl) .nil)) ⟨a4, c4, es4, ds4, ns4, m4, rfl, rfl, h4, hI⟩
set_option maxHeartbeats 1000000 in
set_option maxRecDepth 100000 in
theorem leap_run {ns : List Node} {a : Option Addr} {cap : Nat} {room n j : Int} (hs : StA I a cap ns) (hn : ns.length ≤ 1000000000) :
  FnC Try.prog 20 [storeV a ns.length cap room, .int .i64 n, .int .i64 j].toArray A I (StoreR (R9.runT ns room n j) room A I) := by
 skip
 refine fn_enter3 Try.func20 rfl Try.ntmps20 rfl fun w0 => ?_
 refine tS (tR ?_)
 refine tri_g (opg_box_agg rfl) rfl ?_
 rintro _ _ _ ⟨b3, rfl, rfl, rfl⟩
 refine tri_g (opg_box1 rfl rfl) rfl ?_
 rintro _ _ _ ⟨b4, rfl, rfl, rfl⟩
 refine tri_g (opg_box1 rfl rfl) rfl ?_
 rintro _ _ _ ⟨b5, rfl, rfl, rfl⟩
 refine tri_g opg_alloc rfl ?_
 rintro _ _ _ ⟨b6, rfl, rfl, rfl⟩
 refine tA rfl rfl (tA rfl rfl (tN (tT (tS (tR ?_)))))
 refine yB rfl rfl ?_
 refine yL rfl rfl ?_
 refine tri_v (opv_makeFunc (fs := []) (cs := [_]) (vf := []) (vc := [_]) rfl rfl) rfl ?_
 refine tri_v (opv_makeFunc (fs := []) (cs := [_, _]) (vf := []) (vc := [_, _]) rfl rfl) rfl ?_
 refine tri_perm (A := ?a2_0 :: ?a2_1 :: ?a2_2 :: ?a2_3 :: ?T2) (B := ?a2_1 :: ?a2_2 :: ?a2_0 :: ?a2_3 :: ?T2) (by exact permL [1, 2, 0, 3] [?a2_0, ?a2_1, ?a2_2, ?a2_3] ?T2 (by decide) rfl) ?_
 refine tri_g (opg_call (xs := [_, _, _, _]) rfl (leap_told (ca1 := [_]) (ca2 := [_, _]) (p := 0 ≤ j ∧ j ≤ 4611686018427387903) (r := R9.runL room (R9.bits j) ⟨ns, []⟩ n) hs hn (fun hr bl bx mb db a cap es X Y hix => run_clo1 hr bl bx mb db a cap es X Y hix) (fun hr hp bl bx mb db a cap es X Y hix => run_clo2 hr hp bl bx mb db a cap es X Y hix))) rfl ?_
 rintro _ _ _ ⟨a2, c2, rfl, hs2, rfl, hI⟩
 refine tri_v (opv_extract rfl rfl) rfl ?_
 refine tri_v (opv_extract rfl rfl) rfl ?_
 refine tri_v (opv_extract rfl rfl) rfl ?_
 refine yG rfl rfl rfl rfl rfl rfl ?_
 rintro _ _ _ ⟨rfl, rfl⟩
 refine tA rfl rfl (tA rfl rfl (tN (tT (tri_ret ?_))))
 refine tri_end A Suf.h rfl (.cons (rv_cellA rfl rfl rfl) (.cons (rv_tmp rfl) (.cons (rv_tmp rfl) .nil))) ⟨a2, c2, rfl, hs2, rfl, hI⟩
set_option maxHeartbeats 1000000 in
set_option maxRecDepth 100000 in
theorem trim_clo1 {ns : List Node} {bn : Nat} {room n : Int} (bl bx mb db : Nat) (a : Option Addr) (cap : Nat) (es : KVs) (X Y : Asrt) :
  FnC Try.prog 46 [pt bl 0].toArray (LxA bl bx mb db a cap ns room es [] (X :: Y :: Box bn [.int .i64 n] 3 :: A)) I (fun v A' I' => v = .bool (decide True) ∧ LxA bl bx mb db a cap ns room es [] (X :: Y :: Box bn [.int .i64 n] 3 :: A) = A' ∧ I = I') := by
 skip
 refine fn_enter1 Try.func46 rfl Try.ntmps46 rfl fun w0 => ?_
 refine tS (tR (tA rfl rfl (tN (tT (tS (tR (tA rfl rfl ?_)))))))
 refine tN (tT (tri_ret ?_))
 refine tri_end _ (⟨[], rfl⟩) rfl (.cons (rv_tmp rfl) .nil) ⟨rfl, rfl, rfl⟩
set_option maxHeartbeats 1000000 in
set_option maxRecDepth 100000 in
theorem trim_clo2 {ns : List Node} {bn : Nat} {room n : Int} (hr : R8.may ns room n 2) (bl bx mb db : Nat) (a : Option Addr) (cap : Nat) (es : KVs) (X Y : Asrt) (hix : Idx ns es) :
  FnC Try.prog 47 [pt bl 0, pt bn 0].toArray (LxA bl bx mb db a cap ns room es [] (X :: Y :: Box bn [.int .i64 n] 3 :: A)) I (LxS bl bx mb db (R9.trimS room ⟨ns, []⟩ n) room (X :: Y :: Box bn [.int .i64 n] 3 :: A) I) := by
 obtain ⟨lk, k, hn, hk⟩ := may_lk hr
 unfold R9.trimS
 rw [hk]
 skip
 refine fn_enter2 Try.func47 rfl Try.ntmps47 rfl fun w0 => ?_
 refine tS (tR (tA rfl rfl (tA rfl rfl (tN (tT (tS (tR ?_)))))))
 refine tM rfl rfl ?_
 refine yL rfl rfl ?_
 refine tri_g (opg_call (xs := [_, _]) rfl (leaper_trim (s := (⟨ns, []⟩ : R9.LS)) lk hn hix MemIx.nil rfl)) rfl ?_
 rintro _ _ _ ⟨a4, c4, es4, ds4, ns4, m4, rfl, rfl, h4, rfl⟩
 refine tri_v (opv_extract rfl rfl) rfl ?_
 refine tri_v (opv_extract rfl rfl) rfl ?_
 refine tA rfl rfl (tA rfl rfl (tN (tT (tri_ret ?_))))
 refine tri_end _ (⟨[], rfl⟩) rfl (.cons (rv_tmp rfl) (.cons (rv_tmp rfl) .nil)) ⟨a4, c4, es4, ds4, ns4, m4, rfl, rfl, h4, fun _ h => h⟩
set_option maxHeartbeats 1000000 in
set_option maxRecDepth 100000 in
theorem leap_trim {ns : List Node} {a : Option Addr} {cap : Nat} {room n : Int} (hs : StA I a cap ns) (hn : ns.length ≤ 1000000000) :
  FnC Try.prog 18 [storeV a ns.length cap room, .int .i64 n].toArray A I (StoreR (R9.trimT ns room n) room A I) := by
 have e : R9.trimT ns room n = toldL ns room n True (R9.trimS room ⟨ns, []⟩ n) := by
  unfold R9.trimT toldL
  by_cases h : R8.may ns room n 2
  ·rw [if_pos h, if_pos ⟨h, trivial⟩]
  ·rw [if_neg h, if_neg fun x => h x.1]
 rw [e]
 skip
 refine fn_enter2 Try.func18 rfl Try.ntmps18 rfl fun w0 => ?_
 refine tS (tR ?_)
 refine tri_g (opg_box_agg rfl) rfl ?_
 rintro _ _ _ ⟨b2, rfl, rfl, rfl⟩
 refine tri_g (opg_box1 rfl rfl) rfl ?_
 rintro _ _ _ ⟨b3, rfl, rfl, rfl⟩
 refine tri_g opg_alloc rfl ?_
 rintro _ _ _ ⟨b4, rfl, rfl, rfl⟩
 refine tA rfl rfl (tA rfl rfl (tN (tT (tS (tR ?_)))))
 refine yB rfl rfl ?_
 refine yL rfl rfl ?_
 refine tri_v (opv_makeFunc (fs := []) (cs := [_]) (vf := []) (vc := [_]) rfl rfl) rfl ?_
 refine tri_perm (A := ?a3_0 :: ?a3_1 :: ?a3_2 :: ?T3) (B := ?a3_1 :: ?a3_0 :: ?a3_2 :: ?T3) (by exact permL [1, 0, 2] [?a3_0, ?a3_1, ?a3_2] ?T3 (by decide) rfl) ?_
 refine tri_g (opg_call (xs := [_, _, _, _]) rfl (leap_told (ca1 := []) (ca2 := [_]) (p := True) (r := R9.trimS room ⟨ns, []⟩ n) hs hn (fun hr bl bx mb db a cap es X Y hix => trim_clo1 bl bx mb db a cap es X Y) (fun hr _ bl bx mb db a cap es X Y hix => trim_clo2 hr bl bx mb db a cap es X Y hix))) rfl ?_
 rintro _ _ _ ⟨a2, c2, rfl, hs2, rfl, hI⟩
 refine tri_v (opv_extract rfl rfl) rfl ?_
 refine tri_v (opv_extract rfl rfl) rfl ?_
 refine tri_v (opv_extract rfl rfl) rfl ?_
 refine yG rfl rfl rfl rfl rfl rfl ?_
 rintro _ _ _ ⟨rfl, rfl⟩
 refine tA rfl rfl (tA rfl rfl (tN (tT (tri_ret ?_))))
 refine tri_end A Suf.h rfl (.cons (rv_cellA rfl rfl rfl) (.cons (rv_tmp rfl) (.cons (rv_tmp rfl) .nil))) ⟨a2, c2, rfl, hs2, rfl, hI⟩
end Go.GL

