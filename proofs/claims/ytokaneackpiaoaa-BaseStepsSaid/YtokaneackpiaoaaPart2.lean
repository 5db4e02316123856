/- Part 2: contracts of the functions that the law reaches: each answers as its model does. No condition beyond those that each theorem states. -/
import Derived.Test.YtokaneackpiaoaaPart1
set_option linter.unusedVariables false
namespace Go.GL
open Go.Proofs
attribute [local irreducible] wpList Code.wp Exit.then Exit.inBlock Ends Tri TriH OpV OpG FnC epf wpAnyH
variable {A : List Asrt} {I : List Chunk}
set_option maxHeartbeats 1000000 in
set_option maxRecDepth 100000 in
theorem ref06_put {ns : List Node} {a : Option Addr} {cap : Nat} {room q0 q1 q2 q3 : Int} (hst : StA I a cap ns) (hn : ns.length ≤ 1000000000) (hm : R6.Mod ns) :
    FnC Try.prog 62 [storeV a ns.length cap room, int4V q0 q1 q2 q3].toArray A I (fun v A' I' => ∃ a' cap', v = .tuple [storeV a' (R6.put ns room q0 q1 q2 q3).1.length cap' room, .int .i64 (R6.put ns room q0 q1 q2 q3).2.1, .int .i64 (R6.put ns room q0 q1 q2 q3).2.2].toArray ∧ StA I' a' cap' (R6.put ns room q0 q1 q2 q3).1 ∧ A = A' ∧ I ⊆ I') := by
  have hs := hst.sl
  have bad : ¬ R6.fit4 ns q0 q1 q2 q3 → R6.put ns room q0 q1 q2 q3 = (ns, 0, 1) := fun h => if_neg h
  refine fn_enter2 Try.func62 rfl Try.ntmps62 rfl fun w0 => ?_
  refine tri_seq ?_
  refine tri_region ?_
  refine tri_g (opg_box_agg rfl) rfl ?_
  rintro _ _ _ ⟨b, rfl, rfl, rfl⟩
  refine tri_g (opg_box_agg rfl) rfl ?_
  rintro _ _ _ ⟨b, rfl, rfl, rfl⟩
  refine tri_g opg_alloc rfl ?_
  rintro _ _ _ ⟨b, rfl, rfl, rfl⟩
  refine tri_v (opv_assign rfl) rfl ?_
  refine tri_v (opv_assign rfl) rfl ?_
  refine tri_nil ?_
  refine tri_then ?_
  refine tri_seq ?_
  refine tri_region ?_
  refine tri_v (opv_assign rfl) rfl ?_
  refine tri_nil ?_
  refine tri_then ?_
  refine tri_seq ?_
  refine tri_seq ?_
  refine tri_region ?_
  refine tri_v (opv_assign rfl) rfl ?_
  refine tri_nil ?_
  refine tri_then ?_
  refine tri_block ?_
  rename_i bs bk
  revert b; intro br
  refine tri_rounds 5 ?_
  refine tri_round ?_
  refine tri_seq ?_
  refine tri_seq ?_
  refine tri_region ?_
  refine tri_v (opv_move rfl) rfl ?_
  refine tri_v (opv_lss rfl rfl) rfl ?_
  refine tri_nil ?_
  refine tri_then ?_
  refine tri_cond_is rfl (by decide) ?_
  refine tri_skip ?_
  refine tri_then ?_
  refine tri_seq ?_
  refine tri_block ?_
  refine tri_seq ?_
  refine tri_seq ?_
  refine tri_draw [0, 1, 2, 3, 4, 5, 6, 7, 8, 9, 10, 11, 12, 13, 14, 15, 16, 17, 18, 19, 20, 21, 22, 23, 24, 25, 26, 27, 28, 29, 30] rfl [] rfl mixed ?_
  refine th_take rfl rfl (by kernel_rfl)  (opv_move rfl) ?_
  refine th_take rfl rfl (by kernel_rfl)  (opv_indexAddrA rfl rfl (by decide) (by decide)) ?_
  refine th_take rfl rfl (by kernel_rfl)  (opv_load1 rfl rfl rfl) ?_
  refine th_take rfl rfl (by kernel_rfl)  (opv_lss rfl rfl) ?_
  refine th_take rfl rfl (by kernel_rfl)  (opv_move rfl) ?_
  refine th_split rfl rfl rfl (fun h0a => ?_) (fun h0a => ?_)
  · refine th_skip rfl rfl rfl rfl rfl (by kernel_rfl)  ?_
    refine th_skip rfl rfl rfl rfl rfl (by kernel_rfl)  ?_
    refine th_skip rfl rfl rfl rfl rfl (by kernel_rfl)  ?_
    refine th_skip rfl rfl rfl rfl rfl (by kernel_rfl)  ?_
    refine th_skip rfl rfl rfl rfl rfl (by kernel_rfl)  ?_
    refine th_skip rfl rfl rfl rfl rfl (by kernel_rfl)  ?_
    refine th_skip rfl rfl rfl rfl rfl (by kernel_rfl)  ?_
    refine th_take rfl rfl (by kernel_rfl)  (opv_pick_t rfl rfl) ?_
    refine th_take rfl rfl (by kernel_rfl)  (opv_move rfl) ?_
    refine th_skip rfl rfl rfl rfl rfl (by kernel_rfl)  ?_
    refine th_skip rfl rfl rfl rfl rfl (by kernel_rfl)  ?_
    refine th_skip rfl rfl rfl rfl rfl (by kernel_rfl)  ?_
    refine th_skip rfl rfl rfl rfl rfl (by kernel_rfl)  ?_
    refine th_skip rfl rfl rfl rfl rfl (by kernel_rfl)  ?_
    refine th_skip rfl rfl rfl rfl rfl (by kernel_rfl)  ?_
    refine th_skip rfl rfl rfl rfl rfl (by kernel_rfl)  ?_
    refine th_skip rfl rfl rfl rfl rfl (by kernel_rfl)  ?_
    refine th_skip rfl rfl rfl rfl rfl (by kernel_rfl)  ?_
    refine th_skip rfl rfl rfl rfl rfl (by kernel_rfl)  ?_
    refine th_skip rfl rfl rfl rfl rfl (by kernel_rfl)  ?_
    refine th_skip rfl rfl rfl rfl rfl (by kernel_rfl)  ?_
    refine th_skip rfl rfl rfl rfl rfl (by kernel_rfl)  ?_
    refine th_skip rfl rfl rfl rfl rfl (by kernel_rfl)  ?_
    refine th_skip rfl rfl rfl rfl rfl (by kernel_rfl)  ?_
    refine th_skip rfl rfl rfl rfl rfl (by kernel_rfl)  ?_
    refine th_take rfl rfl (by kernel_rfl)  (opv_pick_t rfl rfl) ?_
    refine th_done (by kernel_rfl) ?_
    refine tri_then ?_
    refine tri_cond_true rfl ?_
    refine tri_seq ?_
    refine tri_region ?_
    refine tri_v (opv_loadA rfl rfl rfl) rfl ?_
    refine tri_g (opg_store rfl rfl rfl rfl rfl rfl) rfl ?_
    rintro _ _ _ ⟨rfl, rfl⟩
    refine tri_v (opv_assign rfl) rfl ?_
    refine tri_v (opv_assign rfl) rfl ?_
    refine tri_nil ?_
    refine tri_then ?_
    refine tri_ret ?_
    refine tri_then_ret ?_
    refine tri_inBlock_ret ?_
    refine tri_then_ret ?_
    refine tri_then_ret ?_
    refine tri_inBlock_ret ?_
    refine tri_then_ret ?_
    refine tri_end A Suf.h rfl (.cons (rv_cellA rfl rfl rfl) (.cons (rv_tmp rfl) (.cons (rv_tmp rfl) .nil))) ?_
    rw [bad (by unfold R6.fit4 R6.inS; omega)]
    exact ⟨a, cap, rfl, hst, rfl, fun _ h => h⟩
  refine th_take_g rfl rfl rfl rfl rfl (by kernel_rfl)  (opv_move rfl) ?_
  refine th_take_g rfl rfl rfl rfl rfl (by kernel_rfl)  (opv_indexAddrA rfl rfl (by decide) (by decide)) ?_
  refine th_take_g rfl rfl rfl rfl rfl (by kernel_rfl)  (opv_load1 rfl rfl rfl) ?_
  refine th_take_g rfl rfl rfl rfl rfl (by kernel_rfl)  (opv_fieldAddr rfl rfl) ?_
  refine th_take_g rfl rfl rfl rfl rfl (by kernel_rfl)  (opv_load1 rfl rfl rfl) ?_
  refine th_take_g rfl rfl rfl rfl rfl (by kernel_rfl)  (opv_len rfl) ?_
  refine th_take_g rfl rfl rfl rfl rfl (by kernel_rfl)  (opv_geq rfl rfl) ?_
  refine th_take rfl rfl (by kernel_rfl)  (opv_pick_f rfl rfl) ?_
  refine th_take rfl rfl (by kernel_rfl)  (opv_move rfl) ?_
  refine th_split rfl rfl rfl (fun h0b => ?_) (fun h0b => ?_)
  · refine th_skip rfl rfl rfl rfl rfl (by kernel_rfl)  ?_
    refine th_skip rfl rfl rfl rfl rfl (by kernel_rfl)  ?_
    refine th_skip rfl rfl rfl rfl rfl (by kernel_rfl)  ?_
    refine th_skip rfl rfl rfl rfl rfl (by kernel_rfl)  ?_
    refine th_skip rfl rfl rfl rfl rfl (by kernel_rfl)  ?_
    refine th_skip rfl rfl rfl rfl rfl (by kernel_rfl)  ?_
    refine th_skip rfl rfl rfl rfl rfl (by kernel_rfl)  ?_
    refine th_skip rfl rfl rfl rfl rfl (by kernel_rfl)  ?_
    refine th_skip rfl rfl rfl rfl rfl (by kernel_rfl)  ?_
    refine th_skip rfl rfl rfl rfl rfl (by kernel_rfl)  ?_
    refine th_skip rfl rfl rfl rfl rfl (by kernel_rfl)  ?_
    refine th_skip rfl rfl rfl rfl rfl (by kernel_rfl)  ?_
    refine th_skip rfl rfl rfl rfl rfl (by kernel_rfl)  ?_
    refine th_skip rfl rfl rfl rfl rfl (by kernel_rfl)  ?_
    refine th_skip rfl rfl rfl rfl rfl (by kernel_rfl)  ?_
    refine th_skip rfl rfl rfl rfl rfl (by kernel_rfl)  ?_
    refine th_take rfl rfl (by kernel_rfl)  (opv_pick_t rfl rfl) ?_
    refine th_done (by kernel_rfl) ?_
    refine tri_then ?_
    refine tri_cond_true rfl ?_
    refine tri_seq ?_
    refine tri_region ?_
    refine tri_v (opv_loadA rfl rfl rfl) rfl ?_
    refine tri_g (opg_store rfl rfl rfl rfl rfl rfl) rfl ?_
    rintro _ _ _ ⟨rfl, rfl⟩
    refine tri_v (opv_assign rfl) rfl ?_
    refine tri_v (opv_assign rfl) rfl ?_
    refine tri_nil ?_
    refine tri_then ?_
    refine tri_ret ?_
    refine tri_then_ret ?_
    refine tri_inBlock_ret ?_
    refine tri_then_ret ?_
    refine tri_then_ret ?_
    refine tri_inBlock_ret ?_
    refine tri_then_ret ?_
    refine tri_end A Suf.h rfl (.cons (rv_cellA rfl rfl rfl) (.cons (rv_tmp rfl) (.cons (rv_tmp rfl) .nil))) ?_
    rw [bad (by unfold R6.fit4 R6.inS; omega)]
    exact ⟨a, cap, rfl, hst, rfl, fun _ h => h⟩
  refine th_take_g rfl rfl rfl rfl rfl (by kernel_rfl)  (opv_fieldAddr rfl rfl) ?_
  refine th_take_g rfl rfl rfl rfl rfl (by kernel_rfl)  (opv_load1 rfl rfl rfl) ?_
  refine th_take_g rfl rfl rfl rfl rfl (by kernel_rfl)  (opv_move rfl) ?_
  refine th_take_g rfl rfl rfl rfl rfl (by kernel_rfl)  (opv_indexAddrA rfl rfl (by decide) (by decide)) ?_
  refine th_take_g rfl rfl rfl rfl rfl (by kernel_rfl)  (opv_load1 rfl rfl rfl) ?_
  refine th_take_g rfl rfl rfl rfl rfl (by kernel_rfl)  (opv_indexAddrS rfl rfl (by omega) (by omega) (by assumption) rfl) ?_
  refine th_take_g rfl rfl rfl rfl rfl (by kernel_rfl)  (opv_fieldAddrE rfl (by assumption) (by omega) rfl) ?_
  refine th_take_g rfl rfl rfl rfl rfl (by kernel_rfl)  (opv_loadE1 rfl (by assumption) rfl (by omega) rfl rfl) ?_
  refine th_take_g rfl rfl rfl rfl rfl (by kernel_rfl)  (opv_fieldAddr rfl rfl) ?_
  refine th_take_g rfl rfl rfl rfl rfl (by kernel_rfl)  (opv_load1 rfl rfl rfl) ?_
  refine th_take_g rfl rfl rfl rfl rfl (by kernel_rfl)  (opv_indexAddrA rfl rfl (by decide) (by decide)) ?_
  refine th_take_g rfl rfl rfl rfl rfl (by kernel_rfl)  (opv_load1 rfl rfl rfl) ?_
  refine th_take_g rfl rfl rfl rfl rfl (by kernel_rfl)  (opv_indexAddrS rfl rfl (by omega) (by omega) (by assumption) rfl) ?_
  refine th_take_g rfl rfl rfl rfl rfl (by kernel_rfl)  (opv_fieldAddrE rfl (by assumption) (by omega) rfl) ?_
  refine th_take_g rfl rfl rfl rfl rfl (by kernel_rfl)  (opv_loadE1 rfl (by assumption) rfl (by omega) rfl rfl) ?_
  refine th_take_g rfl rfl rfl rfl rfl (by kernel_rfl)  (opv_neq rfl rfl) ?_
  refine th_take rfl rfl (by kernel_rfl)  (opv_pick_f rfl rfl) ?_
  refine th_done (by kernel_rfl) ?_
  refine tri_then ?_
  refine tri_cond_not rfl (fun h => h rfl) ?_
  have b0 := hm.at h0a h0b
  refine tri_skip ?_
  refine tri_then ?_
  refine tri_draw [0, 1, 2, 3, 4, 5, 6, 7, 8, 9, 10, 11] rfl [] rfl mixed ?_
  refine th_take rfl rfl (by kernel_rfl)  (opv_move rfl) ?_
  refine th_take rfl rfl (by kernel_rfl)  (opv_fieldAddr rfl rfl) ?_
  refine th_take rfl rfl (by kernel_rfl)  (opv_load1 rfl rfl rfl) ?_
  refine th_take rfl rfl (by kernel_rfl)  (opv_move rfl) ?_
  refine th_take rfl rfl (by kernel_rfl)  (opv_indexAddrA rfl rfl (by decide) (by decide)) ?_
  refine th_take rfl rfl (by kernel_rfl)  (opv_load1 rfl rfl rfl) ?_
  refine th_take rfl rfl (by kernel_rfl)  (opv_indexAddrS rfl rfl (by omega) (by omega) (by assumption) rfl) ?_
  refine th_take rfl rfl (by kernel_rfl)  (opv_fieldAddrE rfl (by assumption) (by omega) rfl) ?_
  refine th_take rfl rfl (by kernel_rfl)  (opv_loadE1 rfl (by assumption) rfl (by omega) rfl rfl) ?_
  refine th_take rfl rfl (by kernel_rfl)  (opv_add rfl rfl (w64 (by omega) (by omega))) ?_
  refine th_take rfl rfl (by kernel_rfl)  (opv_min2 rfl rfl) ?_
  refine th_take rfl rfl (by kernel_rfl)  (opv_assign rfl) ?_
  refine th_done (by kernel_rfl) ?_
  refine tri_inBlock ?_
  refine tri_then ?_
  refine tri_region ?_
  refine tri_v (opv_move rfl) rfl ?_
  refine tri_v (opv_add rfl rfl (w64 (by omega) (by omega))) rfl ?_
  refine tri_v (opv_assign rfl) rfl ?_
  refine tri_nil ?_
  refine tri_then ?_
  refine tri_round ?_
  refine tri_seq ?_
  refine tri_seq ?_
  refine tri_region ?_
  refine tri_v (opv_move rfl) rfl ?_
  refine tri_v (opv_lss rfl rfl) rfl ?_
  refine tri_nil ?_
  refine tri_then ?_
  refine tri_cond_is rfl (by decide) ?_
  refine tri_skip ?_
  refine tri_then ?_
  refine tri_seq ?_
  refine tri_block ?_
  refine tri_seq ?_
  refine tri_seq ?_
  refine tri_draw [0, 1, 2, 3, 4, 5, 6, 7, 8, 9, 10, 11, 12, 13, 14, 15, 16, 17, 18, 19, 20, 21, 22, 23, 24, 25, 26, 27, 28, 29, 30] rfl [] rfl mixed ?_
  refine th_take rfl rfl (by kernel_rfl)  (opv_move rfl) ?_
  refine th_take rfl rfl (by kernel_rfl)  (opv_indexAddrA rfl rfl (by decide) (by decide)) ?_
  refine th_take rfl rfl (by kernel_rfl)  (opv_load1 rfl rfl rfl) ?_
  refine th_take rfl rfl (by kernel_rfl)  (opv_lss rfl rfl) ?_
  refine th_take rfl rfl (by kernel_rfl)  (opv_move rfl) ?_
  refine th_split rfl rfl rfl (fun h1a => ?_) (fun h1a => ?_)
  · refine th_skip rfl rfl rfl rfl rfl (by kernel_rfl)  ?_
    refine th_skip rfl rfl rfl rfl rfl (by kernel_rfl)  ?_
    refine th_skip rfl rfl rfl rfl rfl (by kernel_rfl)  ?_
    refine th_skip rfl rfl rfl rfl rfl (by kernel_rfl)  ?_
    refine th_skip rfl rfl rfl rfl rfl (by kernel_rfl)  ?_
    refine th_skip rfl rfl rfl rfl rfl (by kernel_rfl)  ?_
    refine th_skip rfl rfl rfl rfl rfl (by kernel_rfl)  ?_
    refine th_take rfl rfl (by kernel_rfl)  (opv_pick_t rfl rfl) ?_
    refine th_take rfl rfl (by kernel_rfl)  (opv_move rfl) ?_
    refine th_skip rfl rfl rfl rfl rfl (by kernel_rfl)  ?_
    refine th_skip rfl rfl rfl rfl rfl (by kernel_rfl)  ?_
    refine th_skip rfl rfl rfl rfl rfl (by kernel_rfl)  ?_
    refine th_skip rfl rfl rfl rfl rfl (by kernel_rfl)  ?_
    refine th_skip rfl rfl rfl rfl rfl (by kernel_rfl)  ?_
    refine th_skip rfl rfl rfl rfl rfl (by kernel_rfl)  ?_
    refine th_skip rfl rfl rfl rfl rfl (by kernel_rfl)  ?_
    refine th_skip rfl rfl rfl rfl rfl (by kernel_rfl)  ?_
    refine th_skip rfl rfl rfl rfl rfl (by kernel_rfl)  ?_
    refine th_skip rfl rfl rfl rfl rfl (by kernel_rfl)  ?_
    refine th_skip rfl rfl rfl rfl rfl (by kernel_rfl)  ?_
    refine th_skip rfl rfl rfl rfl rfl (by kernel_rfl)  ?_
    refine th_skip rfl rfl rfl rfl rfl (by kernel_rfl)  ?_
    refine th_skip rfl rfl rfl rfl rfl (by kernel_rfl)  ?_
    refine th_skip rfl rfl rfl rfl rfl (by kernel_rfl)  ?_
    refine th_skip rfl rfl rfl rfl rfl (by kernel_rfl)  ?_
    refine th_take rfl rfl (by kernel_rfl)  (opv_pick_t rfl rfl) ?_
    refine th_done (by kernel_rfl) ?_
    refine tri_then ?_
    refine tri_cond_true rfl ?_
    refine tri_seq ?_
    refine tri_region ?_
    refine tri_v (opv_loadA rfl rfl rfl) rfl ?_
    refine tri_g (opg_store rfl rfl rfl rfl rfl rfl) rfl ?_
    rintro _ _ _ ⟨rfl, rfl⟩
    refine tri_v (opv_assign rfl) rfl ?_
    refine tri_v (opv_assign rfl) rfl ?_
    refine tri_nil ?_
    refine tri_then ?_
    refine tri_ret ?_
    refine tri_then_ret ?_
    refine tri_inBlock_ret ?_
    refine tri_then_ret ?_
    refine tri_then_ret ?_
    refine tri_inBlock_ret ?_
    refine tri_then_ret ?_
    refine tri_end A Suf.h rfl (.cons (rv_cellA rfl rfl rfl) (.cons (rv_tmp rfl) (.cons (rv_tmp rfl) .nil))) ?_
    rw [bad (by unfold R6.fit4 R6.inS; omega)]
    exact ⟨a, cap, rfl, hst, rfl, fun _ h => h⟩
  refine th_take_g rfl rfl rfl rfl rfl (by kernel_rfl)  (opv_move rfl) ?_
  refine th_take_g rfl rfl rfl rfl rfl (by kernel_rfl)  (opv_indexAddrA rfl rfl (by decide) (by decide)) ?_
  refine th_take_g rfl rfl rfl rfl rfl (by kernel_rfl)  (opv_load1 rfl rfl rfl) ?_
  refine th_take_g rfl rfl rfl rfl rfl (by kernel_rfl)  (opv_fieldAddr rfl rfl) ?_
  refine th_take_g rfl rfl rfl rfl rfl (by kernel_rfl)  (opv_load1 rfl rfl rfl) ?_
  refine th_take_g rfl rfl rfl rfl rfl (by kernel_rfl)  (opv_len rfl) ?_
  refine th_take_g rfl rfl rfl rfl rfl (by kernel_rfl)  (opv_geq rfl rfl) ?_
  refine th_take rfl rfl (by kernel_rfl)  (opv_pick_f rfl rfl) ?_
  refine th_take rfl rfl (by kernel_rfl)  (opv_move rfl) ?_
  refine th_split rfl rfl rfl (fun h1b => ?_) (fun h1b => ?_)
  · refine th_skip rfl rfl rfl rfl rfl (by kernel_rfl)  ?_
    refine th_skip rfl rfl rfl rfl rfl (by kernel_rfl)  ?_
    refine th_skip rfl rfl rfl rfl rfl (by kernel_rfl)  ?_
    refine th_skip rfl rfl rfl rfl rfl (by kernel_rfl)  ?_
    refine th_skip rfl rfl rfl rfl rfl (by kernel_rfl)  ?_
    refine th_skip rfl rfl rfl rfl rfl (by kernel_rfl)  ?_
    refine th_skip rfl rfl rfl rfl rfl (by kernel_rfl)  ?_
    refine th_skip rfl rfl rfl rfl rfl (by kernel_rfl)  ?_
    refine th_skip rfl rfl rfl rfl rfl (by kernel_rfl)  ?_
    refine th_skip rfl rfl rfl rfl rfl (by kernel_rfl)  ?_
    refine th_skip rfl rfl rfl rfl rfl (by kernel_rfl)  ?_
    refine th_skip rfl rfl rfl rfl rfl (by kernel_rfl)  ?_
    refine th_skip rfl rfl rfl rfl rfl (by kernel_rfl)  ?_
    refine th_skip rfl rfl rfl rfl rfl (by kernel_rfl)  ?_
    refine th_skip rfl rfl rfl rfl rfl (by kernel_rfl)  ?_
    refine th_skip rfl rfl rfl rfl rfl (by kernel_rfl)  ?_
    refine th_take rfl rfl (by kernel_rfl)  (opv_pick_t rfl rfl) ?_
    refine th_done (by kernel_rfl) ?_
    refine tri_then ?_
    refine tri_cond_true rfl ?_
    refine tri_seq ?_
    refine tri_region ?_
    refine tri_v (opv_loadA rfl rfl rfl) rfl ?_
    refine tri_g (opg_store rfl rfl rfl rfl rfl rfl) rfl ?_
    rintro _ _ _ ⟨rfl, rfl⟩
    refine tri_v (opv_assign rfl) rfl ?_
    refine tri_v (opv_assign rfl) rfl ?_
    refine tri_nil ?_
    refine tri_then ?_
    refine tri_ret ?_
    refine tri_then_ret ?_
    refine tri_inBlock_ret ?_
    refine tri_then_ret ?_
    refine tri_then_ret ?_
    refine tri_inBlock_ret ?_
    refine tri_then_ret ?_
    refine tri_end A Suf.h rfl (.cons (rv_cellA rfl rfl rfl) (.cons (rv_tmp rfl) (.cons (rv_tmp rfl) .nil))) ?_
    rw [bad (by unfold R6.fit4 R6.inS; omega)]
    exact ⟨a, cap, rfl, hst, rfl, fun _ h => h⟩
  refine th_take_g rfl rfl rfl rfl rfl (by kernel_rfl)  (opv_fieldAddr rfl rfl) ?_
  refine th_take_g rfl rfl rfl rfl rfl (by kernel_rfl)  (opv_load1 rfl rfl rfl) ?_
  refine th_take_g rfl rfl rfl rfl rfl (by kernel_rfl)  (opv_move rfl) ?_
  refine th_take_g rfl rfl rfl rfl rfl (by kernel_rfl)  (opv_indexAddrA rfl rfl (by decide) (by decide)) ?_
  refine th_take_g rfl rfl rfl rfl rfl (by kernel_rfl)  (opv_load1 rfl rfl rfl) ?_
  refine th_take_g rfl rfl rfl rfl rfl (by kernel_rfl)  (opv_indexAddrS rfl rfl (by omega) (by omega) (by assumption) rfl) ?_
  refine th_take_g rfl rfl rfl rfl rfl (by kernel_rfl)  (opv_fieldAddrE rfl (by assumption) (by omega) rfl) ?_
  refine th_take_g rfl rfl rfl rfl rfl (by kernel_rfl)  (opv_loadE1 rfl (by assumption) rfl (by omega) rfl rfl) ?_
  refine th_take_g rfl rfl rfl rfl rfl (by kernel_rfl)  (opv_fieldAddr rfl rfl) ?_
  refine th_take_g rfl rfl rfl rfl rfl (by kernel_rfl)  (opv_load1 rfl rfl rfl) ?_
  refine th_take_g rfl rfl rfl rfl rfl (by kernel_rfl)  (opv_indexAddrA rfl rfl (by decide) (by decide)) ?_
  refine th_take_g rfl rfl rfl rfl rfl (by kernel_rfl)  (opv_load1 rfl rfl rfl) ?_
  refine th_take_g rfl rfl rfl rfl rfl (by kernel_rfl)  (opv_indexAddrS rfl rfl (by omega) (by omega) (by assumption) rfl) ?_
  refine th_take_g rfl rfl rfl rfl rfl (by kernel_rfl)  (opv_fieldAddrE rfl (by assumption) (by omega) rfl) ?_
  refine th_take_g rfl rfl rfl rfl rfl (by kernel_rfl)  (opv_loadE1 rfl (by assumption) rfl (by omega) rfl rfl) ?_
  refine th_take_g rfl rfl rfl rfl rfl (by kernel_rfl)  (opv_neq rfl rfl) ?_
  refine th_take rfl rfl (by kernel_rfl)  (opv_pick_f rfl rfl) ?_
  refine th_done (by kernel_rfl) ?_
  refine tri_then ?_
  refine tri_cond_dec rfl (fun h1c => ?_) (fun h1c => ?_)
  · refine tri_seq ?_
    refine tri_region ?_
    refine tri_v (opv_loadA rfl rfl rfl) rfl ?_
    refine tri_g (opg_store rfl rfl rfl rfl rfl rfl) rfl ?_
    rintro _ _ _ ⟨rfl, rfl⟩
    refine tri_v (opv_assign rfl) rfl ?_
    refine tri_v (opv_assign rfl) rfl ?_
    refine tri_nil ?_
    refine tri_then ?_
    refine tri_ret ?_
    refine tri_then_ret ?_
    refine tri_inBlock_ret ?_
    refine tri_then_ret ?_
    refine tri_then_ret ?_
    refine tri_inBlock_ret ?_
    refine tri_then_ret ?_
    refine tri_end A Suf.h rfl (.cons (rv_cellA rfl rfl rfl) (.cons (rv_tmp rfl) (.cons (rv_tmp rfl) .nil))) ?_
    rw [bad (by unfold R6.fit4 R6.inS; exact fun h => h1c h.2.1.2)]
    exact ⟨a, cap, rfl, hst, rfl, fun _ h => h⟩
  have b1 := hm.at h1a h1b
  have e1 := R6.mn_bd (x := 0 + (ns.getD q0.toNat default).pop) (by omega)
  refine tri_skip ?_
  refine tri_then ?_
  refine tri_draw [0, 1, 2, 3, 4, 5, 6, 7, 8, 9, 10, 11] rfl [] rfl mixed ?_
  refine th_take rfl rfl (by kernel_rfl)  (opv_move rfl) ?_
  refine th_take rfl rfl (by kernel_rfl)  (opv_fieldAddr rfl rfl) ?_
  refine th_take rfl rfl (by kernel_rfl)  (opv_load1 rfl rfl rfl) ?_
  refine th_take rfl rfl (by kernel_rfl)  (opv_move rfl) ?_
  refine th_take rfl rfl (by kernel_rfl)  (opv_indexAddrA rfl rfl (by decide) (by decide)) ?_
  refine th_take rfl rfl (by kernel_rfl)  (opv_load1 rfl rfl rfl) ?_
  refine th_take rfl rfl (by kernel_rfl)  (opv_indexAddrS rfl rfl (by omega) (by omega) (by assumption) rfl) ?_
  refine th_take rfl rfl (by kernel_rfl)  (opv_fieldAddrE rfl (by assumption) (by omega) rfl) ?_
  refine th_take rfl rfl (by kernel_rfl)  (opv_loadE1 rfl (by assumption) rfl (by omega) rfl rfl) ?_
  refine th_take rfl rfl (by kernel_rfl)  (opv_add rfl rfl (w64 (by omega) (by omega))) ?_
  refine th_take rfl rfl (by kernel_rfl)  (opv_min2 rfl rfl) ?_
  refine th_take rfl rfl (by kernel_rfl)  (opv_assign rfl) ?_
  refine th_done (by kernel_rfl) ?_
  refine tri_inBlock ?_
  refine tri_then ?_
  refine tri_region ?_
  refine tri_v (opv_move rfl) rfl ?_
  refine tri_v (opv_add rfl rfl (w64 (by omega) (by omega))) rfl ?_
  refine tri_v (opv_assign rfl) rfl ?_
  refine tri_nil ?_
  refine tri_then ?_
  refine tri_round ?_
  refine tri_seq ?_
  refine tri_seq ?_
  refine tri_region ?_
  refine tri_v (opv_move rfl) rfl ?_
  refine tri_v (opv_lss rfl rfl) rfl ?_
  refine tri_nil ?_
  refine tri_then ?_
  refine tri_cond_is rfl (by decide) ?_
  refine tri_skip ?_
  refine tri_then ?_
  refine tri_seq ?_
  refine tri_block ?_
  refine tri_seq ?_
  refine tri_seq ?_
  refine tri_draw [0, 1, 2, 3, 4, 5, 6, 7, 8, 9, 10, 11, 12, 13, 14, 15, 16, 17, 18, 19, 20, 21, 22, 23, 24, 25, 26, 27, 28, 29, 30] rfl [] rfl mixed ?_
  refine th_take rfl rfl (by kernel_rfl)  (opv_move rfl) ?_
  refine th_take rfl rfl (by kernel_rfl)  (opv_indexAddrA rfl rfl (by decide) (by decide)) ?_
  refine th_take rfl rfl (by kernel_rfl)  (opv_load1 rfl rfl rfl) ?_
  refine th_take rfl rfl (by kernel_rfl)  (opv_lss rfl rfl) ?_
  refine th_take rfl rfl (by kernel_rfl)  (opv_move rfl) ?_
  refine th_split rfl rfl rfl (fun h2a => ?_) (fun h2a => ?_)
  · refine th_skip rfl rfl rfl rfl rfl (by kernel_rfl)  ?_
    refine th_skip rfl rfl rfl rfl rfl (by kernel_rfl)  ?_
    refine th_skip rfl rfl rfl rfl rfl (by kernel_rfl)  ?_
    refine th_skip rfl rfl rfl rfl rfl (by kernel_rfl)  ?_
    refine th_skip rfl rfl rfl rfl rfl (by kernel_rfl)  ?_
    refine th_skip rfl rfl rfl rfl rfl (by kernel_rfl)  ?_
    refine th_skip rfl rfl rfl rfl rfl (by kernel_rfl)  ?_
    refine th_take rfl rfl (by kernel_rfl)  (opv_pick_t rfl rfl) ?_
    refine th_take rfl rfl (by kernel_rfl)  (opv_move rfl) ?_
    refine th_skip rfl rfl rfl rfl rfl (by kernel_rfl)  ?_
    refine th_skip rfl rfl rfl rfl rfl (by kernel_rfl)  ?_
    refine th_skip rfl rfl rfl rfl rfl (by kernel_rfl)  ?_
    refine th_skip rfl rfl rfl rfl rfl (by kernel_rfl)  ?_
    refine th_skip rfl rfl rfl rfl rfl (by kernel_rfl)  ?_
    refine th_skip rfl rfl rfl rfl rfl (by kernel_rfl)  ?_
    refine th_skip rfl rfl rfl rfl rfl (by kernel_rfl)  ?_
    refine th_skip rfl rfl rfl rfl rfl (by kernel_rfl)  ?_
    refine th_skip rfl rfl rfl rfl rfl (by kernel_rfl)  ?_
    refine th_skip rfl rfl rfl rfl rfl (by kernel_rfl)  ?_
    refine th_skip rfl rfl rfl rfl rfl (by kernel_rfl)  ?_
    refine th_skip rfl rfl rfl rfl rfl (by kernel_rfl)  ?_
    refine th_skip rfl rfl rfl rfl rfl (by kernel_rfl)  ?_
    refine th_skip rfl rfl rfl rfl rfl (by kernel_rfl)  ?_
    refine th_skip rfl rfl rfl rfl rfl (by kernel_rfl)  ?_
    refine th_skip rfl rfl rfl rfl rfl (by kernel_rfl)  ?_
    refine th_take rfl rfl (by kernel_rfl)  (opv_pick_t rfl rfl) ?_
    refine th_done (by kernel_rfl) ?_
    refine tri_then ?_
    refine tri_cond_true rfl ?_
    refine tri_seq ?_
    refine tri_region ?_
    refine tri_v (opv_loadA rfl rfl rfl) rfl ?_
    refine tri_g (opg_store rfl rfl rfl rfl rfl rfl) rfl ?_
    rintro _ _ _ ⟨rfl, rfl⟩
    refine tri_v (opv_assign rfl) rfl ?_
    refine tri_v (opv_assign rfl) rfl ?_
    refine tri_nil ?_
    refine tri_then ?_
    refine tri_ret ?_
    refine tri_then_ret ?_
    refine tri_inBlock_ret ?_
    refine tri_then_ret ?_
    refine tri_then_ret ?_
    refine tri_inBlock_ret ?_
    refine tri_then_ret ?_
    refine tri_end A Suf.h rfl (.cons (rv_cellA rfl rfl rfl) (.cons (rv_tmp rfl) (.cons (rv_tmp rfl) .nil))) ?_
    rw [bad (by unfold R6.fit4 R6.inS; omega)]
    exact ⟨a, cap, rfl, hst, rfl, fun _ h => h⟩
  refine th_take_g rfl rfl rfl rfl rfl (by kernel_rfl)  (opv_move rfl) ?_
  refine th_take_g rfl rfl rfl rfl rfl (by kernel_rfl)  (opv_indexAddrA rfl rfl (by decide) (by decide)) ?_
  refine th_take_g rfl rfl rfl rfl rfl (by kernel_rfl)  (opv_load1 rfl rfl rfl) ?_
  refine th_take_g rfl rfl rfl rfl rfl (by kernel_rfl)  (opv_fieldAddr rfl rfl) ?_
  refine th_take_g rfl rfl rfl rfl rfl (by kernel_rfl)  (opv_load1 rfl rfl rfl) ?_
  refine th_take_g rfl rfl rfl rfl rfl (by kernel_rfl)  (opv_len rfl) ?_
  refine th_take_g rfl rfl rfl rfl rfl (by kernel_rfl)  (opv_geq rfl rfl) ?_
  refine th_take rfl rfl (by kernel_rfl)  (opv_pick_f rfl rfl) ?_
  refine th_take rfl rfl (by kernel_rfl)  (opv_move rfl) ?_
  refine th_split rfl rfl rfl (fun h2b => ?_) (fun h2b => ?_)
  · refine th_skip rfl rfl rfl rfl rfl (by kernel_rfl)  ?_
    refine th_skip rfl rfl rfl rfl rfl (by kernel_rfl)  ?_
    refine th_skip rfl rfl rfl rfl rfl (by kernel_rfl)  ?_
    refine th_skip rfl rfl rfl rfl rfl (by kernel_rfl)  ?_
    refine th_skip rfl rfl rfl rfl rfl (by kernel_rfl)  ?_
    refine th_skip rfl rfl rfl rfl rfl (by kernel_rfl)  ?_
    refine th_skip rfl rfl rfl rfl rfl (by kernel_rfl)  ?_
    refine th_skip rfl rfl rfl rfl rfl (by kernel_rfl)  ?_
    refine th_skip rfl rfl rfl rfl rfl (by kernel_rfl)  ?_
    refine th_skip rfl rfl rfl rfl rfl (by kernel_rfl)  ?_
    refine th_skip rfl rfl rfl rfl rfl (by kernel_rfl)  ?_
    refine th_skip rfl rfl rfl rfl rfl (by kernel_rfl)  ?_
    refine th_skip rfl rfl rfl rfl rfl (by kernel_rfl)  ?_
    refine th_skip rfl rfl rfl rfl rfl (by kernel_rfl)  ?_
    refine th_skip rfl rfl rfl rfl rfl (by kernel_rfl)  ?_
    refine th_skip rfl rfl rfl rfl rfl (by kernel_rfl)  ?_
    refine th_take rfl rfl (by kernel_rfl)  (opv_pick_t rfl rfl) ?_
    refine th_done (by kernel_rfl) ?_
    refine tri_then ?_
    refine tri_cond_true rfl ?_
    refine tri_seq ?_
    refine tri_region ?_
    refine tri_v (opv_loadA rfl rfl rfl) rfl ?_
    refine tri_g (opg_store rfl rfl rfl rfl rfl rfl) rfl ?_
    rintro _ _ _ ⟨rfl, rfl⟩
    refine tri_v (opv_assign rfl) rfl ?_
    refine tri_v (opv_assign rfl) rfl ?_
    refine tri_nil ?_
    refine tri_then ?_
    refine tri_ret ?_
    refine tri_then_ret ?_
    refine tri_inBlock_ret ?_
    refine tri_then_ret ?_
    refine tri_then_ret ?_
    refine tri_inBlock_ret ?_
    refine tri_then_ret ?_
    refine tri_end A Suf.h rfl (.cons (rv_cellA rfl rfl rfl) (.cons (rv_tmp rfl) (.cons (rv_tmp rfl) .nil))) ?_
    rw [bad (by unfold R6.fit4 R6.inS; omega)]
    exact ⟨a, cap, rfl, hst, rfl, fun _ h => h⟩
  refine th_take_g rfl rfl rfl rfl rfl (by kernel_rfl)  (opv_fieldAddr rfl rfl) ?_
  refine th_take_g rfl rfl rfl rfl rfl (by kernel_rfl)  (opv_load1 rfl rfl rfl) ?_
  refine th_take_g rfl rfl rfl rfl rfl (by kernel_rfl)  (opv_move rfl) ?_
  refine th_take_g rfl rfl rfl rfl rfl (by kernel_rfl)  (opv_indexAddrA rfl rfl (by decide) (by decide)) ?_
  refine th_take_g rfl rfl rfl rfl rfl (by kernel_rfl)  (opv_load1 rfl rfl rfl) ?_
  refine th_take_g rfl rfl rfl rfl rfl (by kernel_rfl)  (opv_indexAddrS rfl rfl (by omega) (by omega) (by assumption) rfl) ?_
  refine th_take_g rfl rfl rfl rfl rfl (by kernel_rfl)  (opv_fieldAddrE rfl (by assumption) (by omega) rfl) ?_
  refine th_take_g rfl rfl rfl rfl rfl (by kernel_rfl)  (opv_loadE1 rfl (by assumption) rfl (by omega) rfl rfl) ?_
  refine th_take_g rfl rfl rfl rfl rfl (by kernel_rfl)  (opv_fieldAddr rfl rfl) ?_
  refine th_take_g rfl rfl rfl rfl rfl (by kernel_rfl)  (opv_load1 rfl rfl rfl) ?_
  refine th_take_g rfl rfl rfl rfl rfl (by kernel_rfl)  (opv_indexAddrA rfl rfl (by decide) (by decide)) ?_
  refine th_take_g rfl rfl rfl rfl rfl (by kernel_rfl)  (opv_load1 rfl rfl rfl) ?_
  refine th_take_g rfl rfl rfl rfl rfl (by kernel_rfl)  (opv_indexAddrS rfl rfl (by omega) (by omega) (by assumption) rfl) ?_
  refine th_take_g rfl rfl rfl rfl rfl (by kernel_rfl)  (opv_fieldAddrE rfl (by assumption) (by omega) rfl) ?_
  refine th_take_g rfl rfl rfl rfl rfl (by kernel_rfl)  (opv_loadE1 rfl (by assumption) rfl (by omega) rfl rfl) ?_
  refine th_take_g rfl rfl rfl rfl rfl (by kernel_rfl)  (opv_neq rfl rfl) ?_
  refine th_take rfl rfl (by kernel_rfl)  (opv_pick_f rfl rfl) ?_
  refine th_done (by kernel_rfl) ?_
  refine tri_then ?_
  refine tri_cond_dec rfl (fun h2c => ?_) (fun h2c => ?_)
  · refine tri_seq ?_
    refine tri_region ?_
    refine tri_v (opv_loadA rfl rfl rfl) rfl ?_
    refine tri_g (opg_store rfl rfl rfl rfl rfl rfl) rfl ?_
    rintro _ _ _ ⟨rfl, rfl⟩
    refine tri_v (opv_assign rfl) rfl ?_
    refine tri_v (opv_assign rfl) rfl ?_
    refine tri_nil ?_
    refine tri_then ?_
    refine tri_ret ?_
    refine tri_then_ret ?_
    refine tri_inBlock_ret ?_
    refine tri_then_ret ?_
    refine tri_then_ret ?_
    refine tri_inBlock_ret ?_
    refine tri_then_ret ?_
    refine tri_end A Suf.h rfl (.cons (rv_cellA rfl rfl rfl) (.cons (rv_tmp rfl) (.cons (rv_tmp rfl) .nil))) ?_
    rw [bad (by unfold R6.fit4 R6.inS; exact fun h => h2c h.2.2.1.2)]
    exact ⟨a, cap, rfl, hst, rfl, fun _ h => h⟩
  have b2 := hm.at h2a h2b
  have e2 := R6.mn_bd (x := (if 4611686018427387903 < 0 + (ns.getD q0.toNat default).pop then 4611686018427387903 else 0 + (ns.getD q0.toNat default).pop) + (ns.getD q1.toNat default).pop) (by omega)
  refine tri_skip ?_
  refine tri_then ?_
  refine tri_draw [0, 1, 2, 3, 4, 5, 6, 7, 8, 9, 10, 11] rfl [] rfl mixed ?_
  refine th_take rfl rfl (by kernel_rfl)  (opv_move rfl) ?_
  refine th_take rfl rfl (by kernel_rfl)  (opv_fieldAddr rfl rfl) ?_
  refine th_take rfl rfl (by kernel_rfl)  (opv_load1 rfl rfl rfl) ?_
  refine th_take rfl rfl (by kernel_rfl)  (opv_move rfl) ?_
  refine th_take rfl rfl (by kernel_rfl)  (opv_indexAddrA rfl rfl (by decide) (by decide)) ?_
  refine th_take rfl rfl (by kernel_rfl)  (opv_load1 rfl rfl rfl) ?_
  refine th_take rfl rfl (by kernel_rfl)  (opv_indexAddrS rfl rfl (by omega) (by omega) (by assumption) rfl) ?_
  refine th_take rfl rfl (by kernel_rfl)  (opv_fieldAddrE rfl (by assumption) (by omega) rfl) ?_
  refine th_take rfl rfl (by kernel_rfl)  (opv_loadE1 rfl (by assumption) rfl (by omega) rfl rfl) ?_
  refine th_take rfl rfl (by kernel_rfl)  (opv_add rfl rfl (w64 (by omega) (by omega))) ?_
  refine th_take rfl rfl (by kernel_rfl)  (opv_min2 rfl rfl) ?_
  refine th_take rfl rfl (by kernel_rfl)  (opv_assign rfl) ?_
  refine th_done (by kernel_rfl) ?_
  refine tri_inBlock ?_
  refine tri_then ?_
  refine tri_region ?_
  refine tri_v (opv_move rfl) rfl ?_
  refine tri_v (opv_add rfl rfl (w64 (by omega) (by omega))) rfl ?_
  refine tri_v (opv_assign rfl) rfl ?_
  refine tri_nil ?_
  refine tri_then ?_
  refine tri_round ?_
  refine tri_seq ?_
  refine tri_seq ?_
  refine tri_region ?_
  refine tri_v (opv_move rfl) rfl ?_
  refine tri_v (opv_lss rfl rfl) rfl ?_
  refine tri_nil ?_
  refine tri_then ?_
  refine tri_cond_is rfl (by decide) ?_
  refine tri_skip ?_
  refine tri_then ?_
  refine tri_seq ?_
  refine tri_block ?_
  refine tri_seq ?_
  refine tri_seq ?_
  refine tri_draw [0, 1, 2, 3, 4, 5, 6, 7, 8, 9, 10, 11, 12, 13, 14, 15, 16, 17, 18, 19, 20, 21, 22, 23, 24, 25, 26, 27, 28, 29, 30] rfl [] rfl mixed ?_
  refine th_take rfl rfl (by kernel_rfl)  (opv_move rfl) ?_
  refine th_take rfl rfl (by kernel_rfl)  (opv_indexAddrA rfl rfl (by decide) (by decide)) ?_
  refine th_take rfl rfl (by kernel_rfl)  (opv_load1 rfl rfl rfl) ?_
  refine th_take rfl rfl (by kernel_rfl)  (opv_lss rfl rfl) ?_
  refine th_take rfl rfl (by kernel_rfl)  (opv_move rfl) ?_
  refine th_split rfl rfl rfl (fun h3a => ?_) (fun h3a => ?_)
  · refine th_skip rfl rfl rfl rfl rfl (by kernel_rfl)  ?_
    refine th_skip rfl rfl rfl rfl rfl (by kernel_rfl)  ?_
    refine th_skip rfl rfl rfl rfl rfl (by kernel_rfl)  ?_
    refine th_skip rfl rfl rfl rfl rfl (by kernel_rfl)  ?_
    refine th_skip rfl rfl rfl rfl rfl (by kernel_rfl)  ?_
    refine th_skip rfl rfl rfl rfl rfl (by kernel_rfl)  ?_
    refine th_skip rfl rfl rfl rfl rfl (by kernel_rfl)  ?_
    refine th_take rfl rfl (by kernel_rfl)  (opv_pick_t rfl rfl) ?_
    refine th_take rfl rfl (by kernel_rfl)  (opv_move rfl) ?_
    refine th_skip rfl rfl rfl rfl rfl (by kernel_rfl)  ?_
    refine th_skip rfl rfl rfl rfl rfl (by kernel_rfl)  ?_
    refine th_skip rfl rfl rfl rfl rfl (by kernel_rfl)  ?_
    refine th_skip rfl rfl rfl rfl rfl (by kernel_rfl)  ?_
    refine th_skip rfl rfl rfl rfl rfl (by kernel_rfl)  ?_
    refine th_skip rfl rfl rfl rfl rfl (by kernel_rfl)  ?_
    refine th_skip rfl rfl rfl rfl rfl (by kernel_rfl)  ?_
    refine th_skip rfl rfl rfl rfl rfl (by kernel_rfl)  ?_
    refine th_skip rfl rfl rfl rfl rfl (by kernel_rfl)  ?_
    refine th_skip rfl rfl rfl rfl rfl (by kernel_rfl)  ?_
    refine th_skip rfl rfl rfl rfl rfl (by kernel_rfl)  ?_
    refine th_skip rfl rfl rfl rfl rfl (by kernel_rfl)  ?_
    refine th_skip rfl rfl rfl rfl rfl (by kernel_rfl)  ?_
    refine th_skip rfl rfl rfl rfl rfl (by kernel_rfl)  ?_
    refine th_skip rfl rfl rfl rfl rfl (by kernel_rfl)  ?_
    refine th_skip rfl rfl rfl rfl rfl (by kernel_rfl)  ?_
    refine th_take rfl rfl (by kernel_rfl)  (opv_pick_t rfl rfl) ?_
    refine th_done (by kernel_rfl) ?_
    refine tri_then ?_
    refine tri_cond_true rfl ?_
    refine tri_seq ?_
    refine tri_region ?_
    refine tri_v (opv_loadA rfl rfl rfl) rfl ?_
    refine tri_g (opg_store rfl rfl rfl rfl rfl rfl) rfl ?_
    rintro _ _ _ ⟨rfl, rfl⟩
    refine tri_v (opv_assign rfl) rfl ?_
    refine tri_v (opv_assign rfl) rfl ?_
    refine tri_nil ?_
    refine tri_then ?_
    refine tri_ret ?_
    refine tri_then_ret ?_
    refine tri_inBlock_ret ?_
    refine tri_then_ret ?_
    refine tri_then_ret ?_
    refine tri_inBlock_ret ?_
    refine tri_then_ret ?_
    refine tri_end A Suf.h rfl (.cons (rv_cellA rfl rfl rfl) (.cons (rv_tmp rfl) (.cons (rv_tmp rfl) .nil))) ?_
    rw [bad (by unfold R6.fit4 R6.inS; omega)]
    exact ⟨a, cap, rfl, hst, rfl, fun _ h => h⟩
  refine th_take_g rfl rfl rfl rfl rfl (by kernel_rfl)  (opv_move rfl) ?_
  refine th_take_g rfl rfl rfl rfl rfl (by kernel_rfl)  (opv_indexAddrA rfl rfl (by decide) (by decide)) ?_
  refine th_take_g rfl rfl rfl rfl rfl (by kernel_rfl)  (opv_load1 rfl rfl rfl) ?_
  refine th_take_g rfl rfl rfl rfl rfl (by kernel_rfl)  (opv_fieldAddr rfl rfl) ?_
  refine th_take_g rfl rfl rfl rfl rfl (by kernel_rfl)  (opv_load1 rfl rfl rfl) ?_
  refine th_take_g rfl rfl rfl rfl rfl (by kernel_rfl)  (opv_len rfl) ?_
  refine th_take_g rfl rfl rfl rfl rfl (by kernel_rfl)  (opv_geq rfl rfl) ?_
  refine th_take rfl rfl (by kernel_rfl)  (opv_pick_f rfl rfl) ?_
  refine th_take rfl rfl (by kernel_rfl)  (opv_move rfl) ?_
  refine th_split rfl rfl rfl (fun h3b => ?_) (fun h3b => ?_)
  · refine th_skip rfl rfl rfl rfl rfl (by kernel_rfl)  ?_
    refine th_skip rfl rfl rfl rfl rfl (by kernel_rfl)  ?_
    refine th_skip rfl rfl rfl rfl rfl (by kernel_rfl)  ?_
    refine th_skip rfl rfl rfl rfl rfl (by kernel_rfl)  ?_
    refine th_skip rfl rfl rfl rfl rfl (by kernel_rfl)  ?_
    refine th_skip rfl rfl rfl rfl rfl (by kernel_rfl)  ?_
    refine th_skip rfl rfl rfl rfl rfl (by kernel_rfl)  ?_
    refine th_skip rfl rfl rfl rfl rfl (by kernel_rfl)  ?_
    refine th_skip rfl rfl rfl rfl rfl (by kernel_rfl)  ?_
    refine th_skip rfl rfl rfl rfl rfl (by kernel_rfl)  ?_
    refine th_skip rfl rfl rfl rfl rfl (by kernel_rfl)  ?_
    refine th_skip rfl rfl rfl rfl rfl (by kernel_rfl)  ?_
    refine th_skip rfl rfl rfl rfl rfl (by kernel_rfl)  ?_
    refine th_skip rfl rfl rfl rfl rfl (by kernel_rfl)  ?_
    refine th_skip rfl rfl rfl rfl rfl (by kernel_rfl)  ?_
    refine th_skip rfl rfl rfl rfl rfl (by kernel_rfl)  ?_
    refine th_take rfl rfl (by kernel_rfl)  (opv_pick_t rfl rfl) ?_
    refine th_done (by kernel_rfl) ?_
    refine tri_then ?_
    refine tri_cond_true rfl ?_
    refine tri_seq ?_
    refine tri_region ?_
    refine tri_v (opv_loadA rfl rfl rfl) rfl ?_
    refine tri_g (opg_store rfl rfl rfl rfl rfl rfl) rfl ?_
    rintro _ _ _ ⟨rfl, rfl⟩
    refine tri_v (opv_assign rfl) rfl ?_
    refine tri_v (opv_assign rfl) rfl ?_
    refine tri_nil ?_
    refine tri_then ?_
    refine tri_ret ?_
    refine tri_then_ret ?_
    refine tri_inBlock_ret ?_
    refine tri_then_ret ?_
    refine tri_then_ret ?_
    refine tri_inBlock_ret ?_
    refine tri_then_ret ?_
    refine tri_end A Suf.h rfl (.cons (rv_cellA rfl rfl rfl) (.cons (rv_tmp rfl) (.cons (rv_tmp rfl) .nil))) ?_
    rw [bad (by unfold R6.fit4 R6.inS; omega)]
    exact ⟨a, cap, rfl, hst, rfl, fun _ h => h⟩
  refine th_take_g rfl rfl rfl rfl rfl (by kernel_rfl)  (opv_fieldAddr rfl rfl) ?_
  refine th_take_g rfl rfl rfl rfl rfl (by kernel_rfl)  (opv_load1 rfl rfl rfl) ?_
  refine th_take_g rfl rfl rfl rfl rfl (by kernel_rfl)  (opv_move rfl) ?_
  refine th_take_g rfl rfl rfl rfl rfl (by kernel_rfl)  (opv_indexAddrA rfl rfl (by decide) (by decide)) ?_
  refine th_take_g rfl rfl rfl rfl rfl (by kernel_rfl)  (opv_load1 rfl rfl rfl) ?_
  refine th_take_g rfl rfl rfl rfl rfl (by kernel_rfl)  (opv_indexAddrS rfl rfl (by omega) (by omega) (by assumption) rfl) ?_
  refine th_take_g rfl rfl rfl rfl rfl (by kernel_rfl)  (opv_fieldAddrE rfl (by assumption) (by omega) rfl) ?_
  refine th_take_g rfl rfl rfl rfl rfl (by kernel_rfl)  (opv_loadE1 rfl (by assumption) rfl (by omega) rfl rfl) ?_
  refine th_take_g rfl rfl rfl rfl rfl (by kernel_rfl)  (opv_fieldAddr rfl rfl) ?_
  refine th_take_g rfl rfl rfl rfl rfl (by kernel_rfl)  (opv_load1 rfl rfl rfl) ?_
  refine th_take_g rfl rfl rfl rfl rfl (by kernel_rfl)  (opv_indexAddrA rfl rfl (by decide) (by decide)) ?_
  refine th_take_g rfl rfl rfl rfl rfl (by kernel_rfl)  (opv_load1 rfl rfl rfl) ?_
  refine th_take_g rfl rfl rfl rfl rfl (by kernel_rfl)  (opv_indexAddrS rfl rfl (by omega) (by omega) (by assumption) rfl) ?_
  refine th_take_g rfl rfl rfl rfl rfl (by kernel_rfl)  (opv_fieldAddrE rfl (by assumption) (by omega) rfl) ?_
  refine th_take_g rfl rfl rfl rfl rfl (by kernel_rfl)  (opv_loadE1 rfl (by assumption) rfl (by omega) rfl rfl) ?_
  refine th_take_g rfl rfl rfl rfl rfl (by kernel_rfl)  (opv_neq rfl rfl) ?_
  refine th_take rfl rfl (by kernel_rfl)  (opv_pick_f rfl rfl) ?_
  refine th_done (by kernel_rfl) ?_
  refine tri_then ?_
  refine tri_cond_dec rfl (fun h3c => ?_) (fun h3c => ?_)
  · refine tri_seq ?_
    refine tri_region ?_
    refine tri_v (opv_loadA rfl rfl rfl) rfl ?_
    refine tri_g (opg_store rfl rfl rfl rfl rfl rfl) rfl ?_
    rintro _ _ _ ⟨rfl, rfl⟩
    refine tri_v (opv_assign rfl) rfl ?_
    refine tri_v (opv_assign rfl) rfl ?_
    refine tri_nil ?_
    refine tri_then ?_
    refine tri_ret ?_
    refine tri_then_ret ?_
    refine tri_inBlock_ret ?_
    refine tri_then_ret ?_
    refine tri_then_ret ?_
    refine tri_inBlock_ret ?_
    refine tri_then_ret ?_
    refine tri_end A Suf.h rfl (.cons (rv_cellA rfl rfl rfl) (.cons (rv_tmp rfl) (.cons (rv_tmp rfl) .nil))) ?_
    rw [bad (by unfold R6.fit4 R6.inS; exact fun h => h3c h.2.2.2.1.2)]
    exact ⟨a, cap, rfl, hst, rfl, fun _ h => h⟩
  have b3 := hm.at h3a h3b
  have e3 := R6.mn_bd (x := (if 4611686018427387903 < (if 4611686018427387903 < 0 + (ns.getD q0.toNat default).pop then 4611686018427387903 else 0 + (ns.getD q0.toNat default).pop) + (ns.getD q1.toNat default).pop then 4611686018427387903 else (if 4611686018427387903 < 0 + (ns.getD q0.toNat default).pop then 4611686018427387903 else 0 + (ns.getD q0.toNat default).pop) + (ns.getD q1.toNat default).pop) + (ns.getD q2.toNat default).pop) (by omega)
  refine tri_skip ?_
  refine tri_then ?_
  refine tri_draw [0, 1, 2, 3, 4, 5, 6, 7, 8, 9, 10, 11] rfl [] rfl mixed ?_
  refine th_take rfl rfl (by kernel_rfl)  (opv_move rfl) ?_
  refine th_take rfl rfl (by kernel_rfl)  (opv_fieldAddr rfl rfl) ?_
  refine th_take rfl rfl (by kernel_rfl)  (opv_load1 rfl rfl rfl) ?_
  refine th_take rfl rfl (by kernel_rfl)  (opv_move rfl) ?_
  refine th_take rfl rfl (by kernel_rfl)  (opv_indexAddrA rfl rfl (by decide) (by decide)) ?_
  refine th_take rfl rfl (by kernel_rfl)  (opv_load1 rfl rfl rfl) ?_
  refine th_take rfl rfl (by kernel_rfl)  (opv_indexAddrS rfl rfl (by omega) (by omega) (by assumption) rfl) ?_
  refine th_take rfl rfl (by kernel_rfl)  (opv_fieldAddrE rfl (by assumption) (by omega) rfl) ?_
  refine th_take rfl rfl (by kernel_rfl)  (opv_loadE1 rfl (by assumption) rfl (by omega) rfl rfl) ?_
  refine th_take rfl rfl (by kernel_rfl)  (opv_add rfl rfl (w64 (by omega) (by omega))) ?_
  refine th_take rfl rfl (by kernel_rfl)  (opv_min2 rfl rfl) ?_
  refine th_take rfl rfl (by kernel_rfl)  (opv_assign rfl) ?_
  refine th_done (by kernel_rfl) ?_
  refine tri_inBlock ?_
  refine tri_then ?_
  refine tri_region ?_
  refine tri_v (opv_move rfl) rfl ?_
  refine tri_v (opv_add rfl rfl (w64 (by omega) (by omega))) rfl ?_
  refine tri_v (opv_assign rfl) rfl ?_
  refine tri_nil ?_
  refine tri_then ?_
  refine tri_round ?_
  refine tri_seq ?_
  refine tri_seq ?_
  refine tri_region ?_
  refine tri_v (opv_move rfl) rfl ?_
  refine tri_v (opv_lss rfl rfl) rfl ?_
  refine tri_nil ?_
  refine tri_then ?_
  refine tri_cond_not rfl (by decide) ?_
  refine tri_exit ?_
  refine tri_then_exit ?_
  refine tri_then_exit ?_
  refine tri_inBlock_hit rfl ?_
  refine tri_then ?_
  refine tri_seq ?_
  refine tri_region ?_
  refine tri_v (opv_fieldAddr rfl rfl) rfl ?_
  refine tri_v (opv_load1 rfl rfl rfl) rfl ?_
  refine tri_v (opv_indexAddrA rfl rfl (by decide) (by decide)) rfl ?_
  refine tri_v (opv_load1 rfl rfl rfl) rfl ?_
  refine tri_v (opv_indexAddrS rfl rfl (by omega) (by omega) (by assumption) rfl) rfl ?_
  refine tri_v (opv_fieldAddrE rfl (by assumption) (by omega) rfl) rfl ?_
  refine tri_v (opv_loadE1 rfl (by assumption) rfl (by omega) rfl rfl) rfl ?_
  refine tri_v (opv_add rfl rfl (w64 (by omega) (by omega))) rfl ?_
  refine tri_v (opv_assign rfl) rfl ?_
  refine tri_nil ?_
  refine tri_then ?_
  refine tri_seq ?_
  refine tri_seq ?_
  refine tri_region ?_
  refine tri_v (opv_move rfl) rfl ?_
  refine tri_v (opv_gtr rfl rfl) rfl ?_
  refine tri_nil ?_
  refine tri_then ?_
  refine tri_cond_dec rfl (fun h4 => ?_) (fun h4 => ?_)
  · refine tri_seq ?_
    refine tri_region ?_
    refine tri_v (opv_loadA rfl rfl rfl) rfl ?_
    refine tri_g (opg_store rfl rfl rfl rfl rfl rfl) rfl ?_
    rintro _ _ _ ⟨rfl, rfl⟩
    refine tri_v (opv_assign rfl) rfl ?_
    refine tri_v (opv_assign rfl) rfl ?_
    refine tri_nil ?_
    refine tri_then ?_
    refine tri_ret ?_
    refine tri_then_ret ?_
    refine tri_end A Suf.h rfl (.cons (rv_cellA rfl rfl rfl) (.cons (rv_tmp rfl) (.cons (rv_tmp rfl) .nil))) ?_
    rw [bad (by unfold R6.fit4 R6.inS R6.nd; omega)]
    exact ⟨a, cap, rfl, hst, rfl, fun _ h => h⟩
  refine tri_skip ?_
  refine tri_then ?_
  refine tri_seq ?_
  refine tri_region ?_
  refine tri_v (opv_loadA rfl rfl rfl) rfl ?_
  refine tri_v (opv_loadA rfl rfl rfl) rfl ?_
  refine tri_g (opg_call (xs := [_, _]) rfl (ref06_at hs hn)) rfl ?_
  rintro _ _ _ ⟨rfl, rfl, rfl⟩
  refine tri_v (opv_assign rfl) rfl ?_
  refine tri_nil ?_
  refine tri_then ?_
  refine tri_seq ?_
  refine tri_seq ?_
  refine tri_region ?_
  refine tri_v (opv_move rfl) rfl ?_
  refine tri_v (opv_geq rfl rfl) rfl ?_
  refine tri_nil ?_
  refine tri_then ?_
  have fit : R6.fit4 ns q0 q1 q2 q3 := by unfold R6.fit4 R6.inS R6.nd; omega
  refine tri_cond_dec rfl (fun h6 => ?_) (fun h6 => ?_)
  · refine tri_seq ?_
    refine tri_region ?_
    refine tri_v (opv_loadA rfl rfl rfl) rfl ?_
    refine tri_v (opv_move rfl) rfl ?_
    refine tri_g (opg_store rfl rfl rfl rfl rfl rfl) rfl ?_
    rintro _ _ _ ⟨rfl, rfl⟩
    refine tri_v (opv_assign rfl) rfl ?_
    refine tri_v (opv_assign rfl) rfl ?_
    refine tri_nil ?_
    refine tri_then ?_
    refine tri_ret ?_
    refine tri_then_ret ?_
    refine tri_end A Suf.h rfl (.cons (rv_cellA rfl rfl rfl) (.cons (rv_tmp rfl) (.cons (rv_tmp rfl) .nil))) ?_
    rw [show R6.put ns room q0 q1 q2 q3 = (ns, R6.at_ ns [q0, q1, q2, q3], 0) by unfold R6.put; rw [if_pos fit, if_pos h6]]
    exact ⟨a, cap, rfl, hst, rfl, fun _ h => h⟩
  refine tri_skip ?_
  refine tri_then ?_
  refine tri_seq ?_
  refine tri_seq ?_
  refine tri_region ?_
  refine tri_v (opv_fieldAddr rfl rfl) rfl ?_
  refine tri_v (opv_load1 rfl rfl rfl) rfl ?_
  refine tri_v (opv_len rfl) rfl ?_
  refine tri_v (opv_fieldAddr rfl rfl) rfl ?_
  refine tri_v (opv_load1 rfl rfl rfl) rfl ?_
  refine tri_v (opv_geq rfl rfl) rfl ?_
  refine tri_nil ?_
  refine tri_then ?_
  refine tri_cond_dec rfl (fun h7 => ?_) (fun h7 => ?_)
  · refine tri_seq ?_
    refine tri_region ?_
    refine tri_v (opv_loadA rfl rfl rfl) rfl ?_
    refine tri_g (opg_store rfl rfl rfl rfl rfl rfl) rfl ?_
    rintro _ _ _ ⟨rfl, rfl⟩
    refine tri_v (opv_assign rfl) rfl ?_
    refine tri_v (opv_assign rfl) rfl ?_
    refine tri_nil ?_
    refine tri_then ?_
    refine tri_ret ?_
    refine tri_then_ret ?_
    refine tri_end A Suf.h rfl (.cons (rv_cellA rfl rfl rfl) (.cons (rv_tmp rfl) (.cons (rv_tmp rfl) .nil))) ?_
    rw [show R6.put ns room q0 q1 q2 q3 = (ns, 0, 40) by unfold R6.put; rw [if_pos fit, if_neg h6, if_pos h7]]
    exact ⟨a, cap, rfl, hst, rfl, fun _ h => h⟩
  skip
  refine tri_skip ?_
  refine tri_then ?_
  refine tri_seq ?_
  refine tri_nilRow (E := 45) (sz := 6) ?_
  skip
  refine tri_cut (fun F' A' I' => ∃ b3 a2 cap2, F' = [(2, pt bs 0), (3, pt bk 0), (4, pt br 0), (7, .int .i64 (R6.pop4 ns q0 q1 q2 q3)), (9, .int .i64 ((R6.nd ns q0).lv + 1)), (11, pt b3 0)] ∧ A' = Box b3 [.slice a2 (0 + ns.length) cap2, .int .i64 room] 26 :: Row a2 cap2 (0 + ns.length) 45 6 ([] ++ encs ns) :: Box br [.slice none 0 0, .int .i64 0] 26 :: Box bk [.int .i64 q0, .int .i64 q1, .int .i64 q2, .int .i64 q3] 43 :: Box bs [.slice a ns.length cap, .int .i64 room] 26 :: A ∧ I' = I) ?_ ?_
  · refine tri_draw [0, 1, 2, 3, 4, 5, 6, 7] rfl [_] rfl mixed ?_
    refine th_take rfl rfl (by kernel_rfl)  (opv_fieldAddr rfl rfl) ?_
    refine th_take rfl rfl (by kernel_rfl)  (opv_load1 rfl rfl rfl) ?_
    refine th_take rfl rfl (by kernel_rfl)  (opv_fieldAddr rfl rfl) ?_
    refine th_take rfl rfl (by kernel_rfl)  (opv_load1 rfl rfl rfl) ?_
    refine th_two (j := 6) [4, 5, 7] (by kernel_rfl) rfl ?_ ?_
    · refine (step_m rfl rfl (opg_appendS rfl rfl hs rfl rfl (by omega) rfl) ?_)
      rintro _ _ _ ⟨a2, cap2, rfl, rfl, rfl⟩
      refine ⟨Suf.h, (fun _ h => h), ?_⟩
      refine th_take rfl rfl (by kernel_rfl)  (opv_buildS rfl rfl) ?_
      refine th_one (by kernel_rfl) (step_m rfl rfl opg_alloc ?_)
      rintro _ _ _ ⟨b, rfl, rfl, rfl⟩
      refine ⟨Suf.h, (fun _ h => h), ?_⟩
      refine th_one (by kernel_rfl) (step_m rfl rfl (opg_store rfl rfl rfl rfl rfl rfl) ?_)
      rintro _ _ _ ⟨rfl, rfl⟩
      refine ⟨Suf.h, (fun _ h => h), ?_⟩
      refine th_done (by kernel_rfl) ?_
      refine tri_cutEnd _ ⟨b, a2, cap2, rfl, rfl, rfl⟩ ⟨rfl, rfl, rfl, rfl, rfl, rfl, trivial⟩
    · refine (step_m rfl rfl opg_alloc ?_)
      rintro _ _ _ ⟨b, rfl, rfl, rfl⟩
      refine ⟨Suf.h, (fun _ h => h), ?_⟩
      refine th_one (by kernel_rfl) (step_m rfl rfl (opg_appendS rfl rfl hs rfl rfl (by omega) rfl) ?_)
      rintro _ _ _ ⟨a2, cap2, rfl, rfl, rfl⟩
      refine ⟨Suf.h, (fun _ h => h), ?_⟩
      refine th_take rfl rfl (by kernel_rfl)  (opv_buildS rfl rfl) ?_
      refine th_one (by kernel_rfl) (step_m rfl rfl (opg_store rfl rfl rfl rfl rfl rfl) ?_)
      rintro _ _ _ ⟨rfl, rfl⟩
      refine ⟨Suf.h, (fun _ h => h), ?_⟩
      refine th_done (by kernel_rfl) ?_
      refine tri_cutEnd _ ⟨b, a2, cap2, rfl, rfl, rfl⟩ ⟨rfl, rfl, rfl, rfl, rfl, rfl, trivial⟩
  rintro _ _ _ ⟨b3, a2, cap2, rfl, rfl, rfl⟩
  skip
  refine tri_then ?_
  refine tri_seq ?_
  refine tri_region ?_
  refine tri_v (opv_fieldAddr rfl rfl) rfl ?_
  refine tri_v (opv_load1 rfl rfl rfl) rfl ?_
  refine tri_v (opv_move rfl) rfl ?_
  refine tri_v (opv_loadA rfl rfl rfl) rfl ?_
  refine tri_v (opv_move rfl) rfl ?_
  refine tri_v (opv_buildS rfl rfl) rfl ?_
  refine tri_g (opg_buildSlice rfl rfl rfl rfl) rfl ?_
  rintro _ _ _ ⟨b, rfl, rfl, rfl⟩
  refine tri_g (opg_appendB rfl rfl rfl rfl (by omega) rfl) rfl ?_
  rintro _ _ _ ⟨a3, cap3, rfl, rfl, rfl⟩
  refine tri_v (opv_fieldAddr rfl rfl) rfl ?_
  refine tri_g (opg_store rfl rfl rfl rfl rfl rfl) rfl ?_
  rintro _ _ _ ⟨rfl, rfl⟩
  refine tri_nil ?_
  refine tri_then ?_
  refine tri_seq ?_
  refine tri_pull3 ?_
  skip
  refine tri_draw [0, 1, 2, 3, 4, 5, 6] rfl [_] rfl mixed ?_
  refine th_take rfl rfl (by kernel_rfl)  (opv_loadA rfl rfl rfl) ?_
  refine th_take rfl rfl (by kernel_rfl)  (opv_fieldAddr rfl rfl) ?_
  refine th_take rfl rfl (by kernel_rfl)  (opv_load1 rfl rfl rfl) ?_
  refine th_take rfl rfl (by kernel_rfl)  (opv_len rfl) ?_
  refine th_one (by kernel_rfl) (step_m rfl rfl (opg_store rfl rfl rfl rfl rfl rfl) ?_)
  rintro _ _ _ ⟨rfl, rfl⟩
  refine ⟨Suf.h, (fun _ h => h), ?_⟩
  refine th_take rfl rfl (by kernel_rfl)  (opv_assign rfl) ?_
  refine th_take rfl rfl (by kernel_rfl)  (opv_assign rfl) ?_
  refine th_done (by kernel_rfl) ?_
  refine tri_then ?_
  refine tri_ret ?_
  refine tri_pull3 ?_
  refine tri_rowEq (len' := (ns ++ [R6.mk4 ns q0 q1 q2 q3]).length) (cells' := encs (ns ++ [R6.mk4 ns q0 q1 q2 q3])) (by simp) (by rw [encs_append]; rfl) ?_
  refine tri_freezeRowC rfl fun I' hI hs' => ?_
  refine tri_end A Suf.h rfl (.cons (rv_cellA rfl rfl rfl) (.cons (rv_tmp rfl) (.cons (rv_tmp rfl) .nil))) ?_
  rw [show R6.put ns room q0 q1 q2 q3 = (ns ++ [R6.mk4 ns q0 q1 q2 q3], (ns.length : Int), 0) by unfold R6.put; rw [if_pos fit, if_neg h6, if_neg h7]]
  exact ⟨a3, cap3, by simp [retV], hs', rfl, hI⟩
end Go.GL

set_option linter.unusedVariables false
namespace Go.GL
theorem Node.ext_iff' {a b : Node} : a = b ↔ [a.lv, a.k0, a.k1, a.k2, a.k3, a.pop] = [b.lv, b.k0, b.k1, b.k2, b.k3, b.pop] := by
  cases a; cases b; simp
theorem Node.ne_iff' {a b : Node} : a ≠ b ↔ [a.lv, a.k0, a.k1, a.k2, a.k3, a.pop] ≠ [b.lv, b.k0, b.k1, b.k2, b.k3, b.pop] := by rw [Ne, Node.ext_iff']
abbrev nodeV (x : Node) : Value := .agg [.int .i64 x.lv, .int .i64 x.k0, .int .i64 x.k1, .int .i64 x.k2, .int .i64 x.k3, .int .i64 x.pop].toArray
namespace R6
def kidOk (ns : List Node) (n : Nat) (q lv : Int) : Prop := 0 ≤ q ∧ q < n ∧ (nd ns q).lv = lv - 1
instance (ns : List Node) (n : Nat) (q lv : Int) : Decidable (kidOk ns n q lv) := inferInstanceAs (Decidable (_ ∧ _))
def fitsX (ns : List Node) (n : Nat) (x : Node) : Prop := kidOk ns n x.k0 x.lv ∧ kidOk ns n x.k1 x.lv ∧ kidOk ns n x.k2 x.lv ∧ kidOk ns n x.k3 x.lv ∧ 1 ≤ x.lv ∧ x.lv ≤ 42 ∧ x.pop = pop4 ns x.k0 x.k1 x.k2 x.k3 ∧ at_ ns x.kids = n
instance (ns : List Node) (n : Nat) (x : Node) : Decidable (fitsX ns n x) := inferInstanceAs (Decidable (_ ∧ _))
def fits (ns : List Node) (n : Nat) : Prop := fitsX ns n (ns.getD n default)
instance (ns : List Node) (n : Nat) : Decidable (fits ns n) := inferInstanceAs (Decidable (fitsX _ _ _))
def n0 : Node := ⟨0, 0, 0, 0, 0, 0⟩
def n1 : Node := ⟨0, 0, 0, 0, 0, 1⟩
def right (ns : List Node) (room : Int) : Prop := (2 ≤ room ∧ room ≤ 100000 ∧ 2 ≤ ns.length ∧ ns.length ≤ room ∧ ns.getD 0 default = n0 ∧ ns.getD 1 default = n1) ∧ ∀ i, i < ns.length → 2 ≤ i → fits ns i
instance (ns : List Node) (room : Int) : Decidable (right ns room) := inferInstanceAs (Decidable (_ ∧ _))
def Rng (ns : List Node) : Prop := ∀ x ∈ ns, -9223372036854775808 ≤ x.lv ∧ x.lv ≤ 9223372036854775807
def ModTo (ns : List Node) (n : Nat) : Prop := ∀ j, j < n → 0 ≤ (ns.getD j default).lv ∧ (ns.getD j default).lv ≤ 42 ∧ 0 ≤ (ns.getD j default).pop ∧ (ns.getD j default).pop ≤ 4611686018427387903
theorem ModTo.at {ns : List Node} {n : Nat} (h : ModTo ns n) {k : Int} (h1 : ¬ k < 0) (h2 : ¬ (n : Int) ≤ k) : 0 ≤ (ns.getD k.toNat default).lv ∧ (ns.getD k.toNat default).lv ≤ 42 ∧ 0 ≤ (ns.getD k.toNat default).pop ∧ (ns.getD k.toNat default).pop ≤ 4611686018427387903 := h k.toNat (by omega)
theorem wrapNe {u v : Int} (h1 : 0 ≤ u) (h2 : u ≤ 42) (h3 : -9223372036854775808 ≤ v) (h4 : v ≤ 9223372036854775807) : (u ≠ IntKind.i64.wrap (v - 1)) ↔ u ≠ v - 1 := by
  by_cases e : v = -9223372036854775808
  · subst e
    have : IntKind.i64.wrap (-9223372036854775808 - 1) = 9223372036854775807 := by decide
    rw [this]
    omega
  · rw [w64 (by omega) (by omega)]
theorem pop4_bd {ns : List Node} {n : Nat} (h : ModTo ns n) {q0 q1 q2 q3 : Int} (h3 : 0 ≤ q3 ∧ q3 < n) (h0 : 0 ≤ q0 ∧ q0 < n) (h1 : 0 ≤ q1 ∧ q1 < n) (h2 : 0 ≤ q2 ∧ q2 < n) : 0 ≤ pop4 ns q0 q1 q2 q3 ∧ pop4 ns q0 q1 q2 q3 ≤ 4611686018427387903 := by
  have b0 := (h q0.toNat (by omega)).2.2
  have b1 := (h q1.toNat (by omega)).2.2
  have b2 := (h q2.toNat (by omega)).2.2
  have b3 := (h q3.toNat (by omega)).2.2
  unfold pop4 nd cap62
  have e0 := mn_bd (x := 0 + (ns.getD q0.toNat default).pop) (by omega)
  unfold mn
  generalize (if 4611686018427387903 < 0 + (ns.getD q0.toNat default).pop then (4611686018427387903 : Int) else 0 + (ns.getD q0.toNat default).pop) = p0 at *
  have e1 := mn_bd (x := p0 + (ns.getD q1.toNat default).pop) (by omega)
  generalize (if 4611686018427387903 < p0 + (ns.getD q1.toNat default).pop then (4611686018427387903 : Int) else p0 + (ns.getD q1.toNat default).pop) = p1 at *
  have e2 := mn_bd (x := p1 + (ns.getD q2.toNat default).pop) (by omega)
  generalize (if 4611686018427387903 < p1 + (ns.getD q2.toNat default).pop then (4611686018427387903 : Int) else p1 + (ns.getD q2.toNat default).pop) = p2 at *
  exact mn_bd (x := p2 + (ns.getD q3.toNat default).pop) (by omega)
theorem ModTo.step {ns : List Node} {n : Nat} (h : ModTo ns n) (hf : fits ns n) : ModTo ns (n + 1) := by
  intro j hj
  by_cases e : j = n
  · subst e
    obtain ⟨⟨a0, b0, _⟩, ⟨a1, b1, _⟩, ⟨a2, b2, _⟩, ⟨a3, b3, _⟩, h5, h6, h7, _⟩ := hf
    have := pop4_bd h ⟨a3, b3⟩ ⟨a0, b0⟩ ⟨a1, b1⟩ ⟨a2, b2⟩
    rw [h7]
    exact ⟨by omega, h6, this⟩
  · exact h j (by omega)
theorem right.modTo {ns : List Node} {room : Int} (h : right ns room) : ModTo ns ns.length := by
  have key : ∀ n, n ≤ ns.length → ModTo ns n := by
    intro n
    induction n with
    | zero => intro _ j hj; omega
    | succ n ih =>
      intro hn
      have hm := ih (by omega)
      by_cases h2 : 2 ≤ n
      · exact hm.step (h.2 n (by omega) h2)
      · intro j hj
        have h0 := h.1.2.2.2.2.1
        have h1 := h.1.2.2.2.2.2
        rcases (by omega : j = 0 ∨ j = 1) with rfl | rfl
        · rw [h0]; decide
        · rw [h1]; decide
  exact key _ (Nat.le_refl _)
theorem ModTo.mod {ns : List Node} (h : ModTo ns ns.length) : Mod ns := by
  intro x hx
  obtain ⟨i, hi, rfl⟩ := List.getElem_of_mem hx
  have := h i hi
  simpa [hi, cap62] using this
end R6
end Go.GL

set_option linter.unusedVariables false
namespace Go.GL
open Go.Proofs
attribute [local irreducible] wpList Code.wp Exit.then Exit.inBlock Ends Tri TriH OpV OpG FnC epf wpAnyH
variable {A : List Asrt} {I : List Chunk}
set_option maxHeartbeats 1000000 in
set_option maxRecDepth 100000 in
theorem ref06_fits {ns : List Node} {a : Option Addr} {cap n : Nat} {room : Int} (hs : SlAt I a ns) (hn : ns.length ≤ 1000000000) (hr : R6.Rng ns) (hm : R6.ModTo ns n) (hlt : n < ns.length) :
    FnC Try.prog 44 [storeV a ns.length cap room, .int .i64 (n : Nat)].toArray A I (fun v A' I' => v = .bool (decide (R6.fits ns n)) ∧ A = A' ∧ I = I') := by
  have hx := hr (ns.getD n default) (by simp [hlt])
  have hx1 := hx.1
  have hx2 := hx.2
  refine fn_enter2 Try.func44 rfl Try.ntmps44 rfl fun w0 => ?_
  refine tri_seq ?_
  refine tri_region ?_
  refine tri_g (opg_box_agg rfl) rfl ?_
  rintro _ _ _ ⟨b, rfl, rfl, rfl⟩
  refine tri_v (opv_assign rfl) rfl ?_
  refine tri_nil ?_
  refine tri_then ?_
  refine tri_seq ?_
  refine tri_region ?_
  refine tri_v (opv_fieldAddr rfl rfl) rfl ?_
  refine tri_v (opv_load1 rfl rfl rfl) rfl ?_
  refine tri_v (opv_move rfl) rfl ?_
  refine tri_v (opv_indexAddrSN rfl rfl (by omega) (by assumption) rfl) rfl ?_
  refine tri_v (opv_loadEA rfl (by assumption) rfl (by omega) rfl rfl) rfl ?_
  refine tri_g opg_alloc rfl ?_
  rintro _ _ _ ⟨b, rfl, rfl, rfl⟩
  refine tri_g (opg_store rfl rfl rfl rfl rfl rfl) rfl ?_
  rintro _ _ _ ⟨rfl, rfl⟩
  refine tri_nil ?_
  refine tri_then ?_
  refine tri_seq ?_
  refine tri_region ?_
  refine tri_v (opv_assign rfl) rfl ?_
  refine tri_nil ?_
  refine tri_then ?_
  refine tri_seq ?_
  refine tri_seq ?_
  refine tri_region ?_
  refine tri_v (opv_assign rfl) rfl ?_
  refine tri_nil ?_
  refine tri_then ?_
  refine tri_block ?_
  refine tri_rounds 5 ?_
  refine tri_round ?_
  refine tri_seq ?_
  refine tri_seq ?_
  refine tri_region ?_
  refine tri_v (opv_move rfl) rfl ?_
  refine tri_v (opv_lss rfl rfl) rfl ?_
  refine tri_nil ?_
  refine tri_then ?_
  refine tri_cond_is rfl (by decide) ?_
  refine tri_skip ?_
  refine tri_then ?_
  refine tri_seq ?_
  refine tri_block ?_
  refine tri_seq ?_
  refine tri_seq ?_
  refine tri_draw [0, 1, 2, 3, 4, 5, 6, 7, 8, 9, 10, 11, 12, 13, 14, 15, 16, 17, 18, 19, 20, 21, 22, 23, 24, 25, 26, 27] rfl [] rfl mixed ?_
  refine th_take rfl rfl (by kernel_rfl)  (opv_move rfl) ?_
  refine th_take rfl rfl (by kernel_rfl)  (opv_fieldAddr rfl rfl) ?_
  refine th_take rfl rfl (by kernel_rfl)  (opv_indexAddrA rfl rfl (by decide) (by decide)) ?_
  refine th_take rfl rfl (by kernel_rfl)  (opv_load1 rfl rfl rfl) ?_
  refine th_take rfl rfl (by kernel_rfl)  (opv_lss rfl rfl) ?_
  refine th_take rfl rfl (by kernel_rfl)  (opv_move rfl) ?_
  refine th_split rfl rfl rfl (fun h0a => ?_) (fun h0a => ?_)
  · refine th_skip rfl rfl rfl rfl rfl (by kernel_rfl)  ?_
    refine th_skip rfl rfl rfl rfl rfl (by kernel_rfl)  ?_
    refine th_skip rfl rfl rfl rfl rfl (by kernel_rfl)  ?_
    refine th_skip rfl rfl rfl rfl rfl (by kernel_rfl)  ?_
    refine th_skip rfl rfl rfl rfl rfl (by kernel_rfl)  ?_
    refine th_skip rfl rfl rfl rfl rfl (by kernel_rfl)  ?_
    refine th_take rfl rfl (by kernel_rfl)  (opv_pick_t rfl rfl) ?_
    refine th_take rfl rfl (by kernel_rfl)  (opv_move rfl) ?_
    refine th_skip rfl rfl rfl rfl rfl (by kernel_rfl)  ?_
    refine th_skip rfl rfl rfl rfl rfl (by kernel_rfl)  ?_
    refine th_skip rfl rfl rfl rfl rfl (by kernel_rfl)  ?_
    refine th_skip rfl rfl rfl rfl rfl (by kernel_rfl)  ?_
    refine th_skip rfl rfl rfl rfl rfl (by kernel_rfl)  ?_
    refine th_skip rfl rfl rfl rfl rfl (by kernel_rfl)  ?_
    refine th_skip rfl rfl rfl rfl rfl (by kernel_rfl)  ?_
    refine th_skip rfl rfl rfl rfl rfl (by kernel_rfl)  ?_
    refine th_skip rfl rfl rfl rfl rfl (by kernel_rfl)  ?_
    refine th_skip rfl rfl rfl rfl rfl (by kernel_rfl)  ?_
    refine th_skip rfl rfl rfl rfl rfl (by kernel_rfl)  ?_
    refine th_skip rfl rfl rfl rfl rfl (by kernel_rfl)  ?_
    refine th_skip rfl rfl rfl rfl rfl (by kernel_rfl)  ?_
    refine th_take rfl rfl (by kernel_rfl)  (opv_pick_t rfl rfl) ?_
    refine th_done (by kernel_rfl) ?_
    refine tri_then ?_
    refine tri_cond_true rfl ?_
    refine tri_seq ?_
    refine tri_region ?_
    refine tri_v (opv_assign rfl) rfl ?_
    refine tri_nil ?_
    refine tri_then ?_
    refine tri_ret ?_
    refine tri_then_ret ?_
    refine tri_inBlock_ret ?_
    refine tri_then_ret ?_
    refine tri_then_ret ?_
    refine tri_inBlock_ret ?_
    refine tri_then_ret ?_
    refine tri_end A Suf.h rfl (.cons (rv_tmp rfl) .nil) ⟨congrArg Value.bool (decide_eq_false fun hf => ?_).symm, rfl, rfl⟩
    have := hf.1.1
    omega
  refine th_take_g rfl rfl rfl rfl rfl (by kernel_rfl)  (opv_move rfl) ?_
  refine th_take_g rfl rfl rfl rfl rfl (by kernel_rfl)  (opv_fieldAddr rfl rfl) ?_
  refine th_take_g rfl rfl rfl rfl rfl (by kernel_rfl)  (opv_indexAddrA rfl rfl (by decide) (by decide)) ?_
  refine th_take_g rfl rfl rfl rfl rfl (by kernel_rfl)  (opv_load1 rfl rfl rfl) ?_
  refine th_take_g rfl rfl rfl rfl rfl (by kernel_rfl)  (opv_move rfl) ?_
  refine th_take_g rfl rfl rfl rfl rfl (by kernel_rfl)  (opv_geq rfl rfl) ?_
  refine th_take rfl rfl (by kernel_rfl)  (opv_pick_f rfl rfl) ?_
  refine th_take rfl rfl (by kernel_rfl)  (opv_move rfl) ?_
  refine th_split rfl rfl rfl (fun h0b => ?_) (fun h0b => ?_)
  · refine th_skip rfl rfl rfl rfl rfl (by kernel_rfl)  ?_
    refine th_skip rfl rfl rfl rfl rfl (by kernel_rfl)  ?_
    refine th_skip rfl rfl rfl rfl rfl (by kernel_rfl)  ?_
    refine th_skip rfl rfl rfl rfl rfl (by kernel_rfl)  ?_
    refine th_skip rfl rfl rfl rfl rfl (by kernel_rfl)  ?_
    refine th_skip rfl rfl rfl rfl rfl (by kernel_rfl)  ?_
    refine th_skip rfl rfl rfl rfl rfl (by kernel_rfl)  ?_
    refine th_skip rfl rfl rfl rfl rfl (by kernel_rfl)  ?_
    refine th_skip rfl rfl rfl rfl rfl (by kernel_rfl)  ?_
    refine th_skip rfl rfl rfl rfl rfl (by kernel_rfl)  ?_
    refine th_skip rfl rfl rfl rfl rfl (by kernel_rfl)  ?_
    refine th_skip rfl rfl rfl rfl rfl (by kernel_rfl)  ?_
    refine th_skip rfl rfl rfl rfl rfl (by kernel_rfl)  ?_
    refine th_take rfl rfl (by kernel_rfl)  (opv_pick_t rfl rfl) ?_
    refine th_done (by kernel_rfl) ?_
    refine tri_then ?_
    refine tri_cond_true rfl ?_
    refine tri_seq ?_
    refine tri_region ?_
    refine tri_v (opv_assign rfl) rfl ?_
    refine tri_nil ?_
    refine tri_then ?_
    refine tri_ret ?_
    refine tri_then_ret ?_
    refine tri_inBlock_ret ?_
    refine tri_then_ret ?_
    refine tri_then_ret ?_
    refine tri_inBlock_ret ?_
    refine tri_then_ret ?_
    refine tri_end A Suf.h rfl (.cons (rv_tmp rfl) .nil) ⟨congrArg Value.bool (decide_eq_false fun hf => ?_).symm, rfl, rfl⟩
    have := hf.1.2.1
    omega
  refine th_take_g rfl rfl rfl rfl rfl (by kernel_rfl)  (opv_fieldAddr rfl rfl) ?_
  refine th_take_g rfl rfl rfl rfl rfl (by kernel_rfl)  (opv_load1 rfl rfl rfl) ?_
  refine th_take_g rfl rfl rfl rfl rfl (by kernel_rfl)  (opv_move rfl) ?_
  refine th_take_g rfl rfl rfl rfl rfl (by kernel_rfl)  (opv_fieldAddr rfl rfl) ?_
  refine th_take_g rfl rfl rfl rfl rfl (by kernel_rfl)  (opv_indexAddrA rfl rfl (by decide) (by decide)) ?_
  refine th_take_g rfl rfl rfl rfl rfl (by kernel_rfl)  (opv_load1 rfl rfl rfl) ?_
  refine th_take_g rfl rfl rfl rfl rfl (by kernel_rfl)  (opv_indexAddrS rfl rfl (by omega) (by omega) (by assumption) rfl) ?_
  refine th_take_g rfl rfl rfl rfl rfl (by kernel_rfl)  (opv_fieldAddrE rfl (by assumption) (by omega) rfl) ?_
  refine th_take_g rfl rfl rfl rfl rfl (by kernel_rfl)  (opv_loadE1 rfl (by assumption) rfl (by omega) rfl rfl) ?_
  refine th_take_g rfl rfl rfl rfl rfl (by kernel_rfl)  (opv_fieldAddr rfl rfl) ?_
  refine th_take_g rfl rfl rfl rfl rfl (by kernel_rfl)  (opv_load1 rfl rfl rfl) ?_
  refine th_take_g rfl rfl rfl rfl rfl (by kernel_rfl)  (opv_sub rfl rfl rfl) ?_
  refine th_take_g rfl rfl rfl rfl rfl (by kernel_rfl)  (opv_neq rfl rfl) ?_
  refine th_take rfl rfl (by kernel_rfl)  (opv_pick_f rfl rfl) ?_
  refine th_done (by kernel_rfl) ?_
  refine tri_then ?_
  have b0 := hm.at h0a h0b
  refine tri_cond_dec rfl (fun h0c => ?_) (fun h0c => ?_)
  · refine tri_seq ?_
    refine tri_region ?_
    refine tri_v (opv_assign rfl) rfl ?_
    refine tri_nil ?_
    refine tri_then ?_
    refine tri_ret ?_
    refine tri_then_ret ?_
    refine tri_inBlock_ret ?_
    refine tri_then_ret ?_
    refine tri_then_ret ?_
    refine tri_inBlock_ret ?_
    refine tri_then_ret ?_
    refine tri_end A Suf.h rfl (.cons (rv_tmp rfl) .nil) ⟨congrArg Value.bool (decide_eq_false fun hf => ?_).symm, rfl, rfl⟩
    exact (R6.wrapNe b0.1 b0.2.1 hx1 hx2).1 h0c hf.1.2.2
  have l0 : (ns.getD (ns.getD n default).k0.toNat default).lv = (ns.getD n default).lv - 1 := Decidable.not_not.1 fun h => h0c ((R6.wrapNe b0.1 b0.2.1 hx1 hx2).2 h)
  have e0 := R6.mn_bd (x := 0 + (ns.getD (ns.getD n default).k0.toNat default).pop) (by omega)
  refine tri_skip ?_
  refine tri_then ?_
  refine tri_draw [0, 1, 2, 3, 4, 5, 6, 7, 8, 9, 10, 11, 12] rfl [] rfl mixed ?_
  refine th_take rfl rfl (by kernel_rfl)  (opv_move rfl) ?_
  refine th_take rfl rfl (by kernel_rfl)  (opv_fieldAddr rfl rfl) ?_
  refine th_take rfl rfl (by kernel_rfl)  (opv_load1 rfl rfl rfl) ?_
  refine th_take rfl rfl (by kernel_rfl)  (opv_move rfl) ?_
  refine th_take rfl rfl (by kernel_rfl)  (opv_fieldAddr rfl rfl) ?_
  refine th_take rfl rfl (by kernel_rfl)  (opv_indexAddrA rfl rfl (by decide) (by decide)) ?_
  refine th_take rfl rfl (by kernel_rfl)  (opv_load1 rfl rfl rfl) ?_
  refine th_take rfl rfl (by kernel_rfl)  (opv_indexAddrS rfl rfl (by omega) (by omega) (by assumption) rfl) ?_
  refine th_take rfl rfl (by kernel_rfl)  (opv_fieldAddrE rfl (by assumption) (by omega) rfl) ?_
  refine th_take rfl rfl (by kernel_rfl)  (opv_loadE1 rfl (by assumption) rfl (by omega) rfl rfl) ?_
  refine th_take rfl rfl (by kernel_rfl)  (opv_add rfl rfl (w64 (by omega) (by omega))) ?_
  refine th_take rfl rfl (by kernel_rfl)  (opv_min2 rfl rfl) ?_
  refine th_take rfl rfl (by kernel_rfl)  (opv_assign rfl) ?_
  refine th_done (by kernel_rfl) ?_
  refine tri_inBlock ?_
  refine tri_then ?_
  refine tri_region ?_
  refine tri_v (opv_move rfl) rfl ?_
  refine tri_v (opv_add rfl rfl (w64 (by omega) (by omega))) rfl ?_
  refine tri_v (opv_assign rfl) rfl ?_
  refine tri_nil ?_
  refine tri_then ?_
  refine tri_round ?_
  refine tri_seq ?_
  refine tri_seq ?_
  refine tri_region ?_
  refine tri_v (opv_move rfl) rfl ?_
  refine tri_v (opv_lss rfl rfl) rfl ?_
  refine tri_nil ?_
  refine tri_then ?_
  refine tri_cond_is rfl (by decide) ?_
  refine tri_skip ?_
  refine tri_then ?_
  refine tri_seq ?_
  refine tri_block ?_
  refine tri_seq ?_
  refine tri_seq ?_
  refine tri_draw [0, 1, 2, 3, 4, 5, 6, 7, 8, 9, 10, 11, 12, 13, 14, 15, 16, 17, 18, 19, 20, 21, 22, 23, 24, 25, 26, 27] rfl [] rfl mixed ?_
  refine th_take rfl rfl (by kernel_rfl)  (opv_move rfl) ?_
  refine th_take rfl rfl (by kernel_rfl)  (opv_fieldAddr rfl rfl) ?_
  refine th_take rfl rfl (by kernel_rfl)  (opv_indexAddrA rfl rfl (by decide) (by decide)) ?_
  refine th_take rfl rfl (by kernel_rfl)  (opv_load1 rfl rfl rfl) ?_
  refine th_take rfl rfl (by kernel_rfl)  (opv_lss rfl rfl) ?_
  refine th_take rfl rfl (by kernel_rfl)  (opv_move rfl) ?_
  refine th_split rfl rfl rfl (fun h1a => ?_) (fun h1a => ?_)
  · refine th_skip rfl rfl rfl rfl rfl (by kernel_rfl)  ?_
    refine th_skip rfl rfl rfl rfl rfl (by kernel_rfl)  ?_
    refine th_skip rfl rfl rfl rfl rfl (by kernel_rfl)  ?_
    refine th_skip rfl rfl rfl rfl rfl (by kernel_rfl)  ?_
    refine th_skip rfl rfl rfl rfl rfl (by kernel_rfl)  ?_
    refine th_skip rfl rfl rfl rfl rfl (by kernel_rfl)  ?_
    refine th_take rfl rfl (by kernel_rfl)  (opv_pick_t rfl rfl) ?_
    refine th_take rfl rfl (by kernel_rfl)  (opv_move rfl) ?_
    refine th_skip rfl rfl rfl rfl rfl (by kernel_rfl)  ?_
    refine th_skip rfl rfl rfl rfl rfl (by kernel_rfl)  ?_
    refine th_skip rfl rfl rfl rfl rfl (by kernel_rfl)  ?_
    refine th_skip rfl rfl rfl rfl rfl (by kernel_rfl)  ?_
    refine th_skip rfl rfl rfl rfl rfl (by kernel_rfl)  ?_
    refine th_skip rfl rfl rfl rfl rfl (by kernel_rfl)  ?_
    refine th_skip rfl rfl rfl rfl rfl (by kernel_rfl)  ?_
    refine th_skip rfl rfl rfl rfl rfl (by kernel_rfl)  ?_
    refine th_skip rfl rfl rfl rfl rfl (by kernel_rfl)  ?_
    refine th_skip rfl rfl rfl rfl rfl (by kernel_rfl)  ?_
    refine th_skip rfl rfl rfl rfl rfl (by kernel_rfl)  ?_
    refine th_skip rfl rfl rfl rfl rfl (by kernel_rfl)  ?_
    refine th_skip rfl rfl rfl rfl rfl (by kernel_rfl)  ?_
    refine th_take rfl rfl (by kernel_rfl)  (opv_pick_t rfl rfl) ?_
    refine th_done (by kernel_rfl) ?_
    refine tri_then ?_
    refine tri_cond_true rfl ?_
    refine tri_seq ?_
    refine tri_region ?_
    refine tri_v (opv_assign rfl) rfl ?_
    refine tri_nil ?_
    refine tri_then ?_
    refine tri_ret ?_
    refine tri_then_ret ?_
    refine tri_inBlock_ret ?_
    refine tri_then_ret ?_
    refine tri_then_ret ?_
    refine tri_inBlock_ret ?_
    refine tri_then_ret ?_
    refine tri_end A Suf.h rfl (.cons (rv_tmp rfl) .nil) ⟨congrArg Value.bool (decide_eq_false fun hf => ?_).symm, rfl, rfl⟩
    have := hf.2.1.1
    omega
  refine th_take_g rfl rfl rfl rfl rfl (by kernel_rfl)  (opv_move rfl) ?_
  refine th_take_g rfl rfl rfl rfl rfl (by kernel_rfl)  (opv_fieldAddr rfl rfl) ?_
  refine th_take_g rfl rfl rfl rfl rfl (by kernel_rfl)  (opv_indexAddrA rfl rfl (by decide) (by decide)) ?_
  refine th_take_g rfl rfl rfl rfl rfl (by kernel_rfl)  (opv_load1 rfl rfl rfl) ?_
  refine th_take_g rfl rfl rfl rfl rfl (by kernel_rfl)  (opv_move rfl) ?_
  refine th_take_g rfl rfl rfl rfl rfl (by kernel_rfl)  (opv_geq rfl rfl) ?_
  refine th_take rfl rfl (by kernel_rfl)  (opv_pick_f rfl rfl) ?_
  refine th_take rfl rfl (by kernel_rfl)  (opv_move rfl) ?_
  refine th_split rfl rfl rfl (fun h1b => ?_) (fun h1b => ?_)
  · refine th_skip rfl rfl rfl rfl rfl (by kernel_rfl)  ?_
    refine th_skip rfl rfl rfl rfl rfl (by kernel_rfl)  ?_
    refine th_skip rfl rfl rfl rfl rfl (by kernel_rfl)  ?_
    refine th_skip rfl rfl rfl rfl rfl (by kernel_rfl)  ?_
    refine th_skip rfl rfl rfl rfl rfl (by kernel_rfl)  ?_
    refine th_skip rfl rfl rfl rfl rfl (by kernel_rfl)  ?_
    refine th_skip rfl rfl rfl rfl rfl (by kernel_rfl)  ?_
    refine th_skip rfl rfl rfl rfl rfl (by kernel_rfl)  ?_
    refine th_skip rfl rfl rfl rfl rfl (by kernel_rfl)  ?_
    refine th_skip rfl rfl rfl rfl rfl (by kernel_rfl)  ?_
    refine th_skip rfl rfl rfl rfl rfl (by kernel_rfl)  ?_
    refine th_skip rfl rfl rfl rfl rfl (by kernel_rfl)  ?_
    refine th_skip rfl rfl rfl rfl rfl (by kernel_rfl)  ?_
    refine th_take rfl rfl (by kernel_rfl)  (opv_pick_t rfl rfl) ?_
    refine th_done (by kernel_rfl) ?_
    refine tri_then ?_
    refine tri_cond_true rfl ?_
    refine tri_seq ?_
    refine tri_region ?_
    refine tri_v (opv_assign rfl) rfl ?_
    refine tri_nil ?_
    refine tri_then ?_
    refine tri_ret ?_
    refine tri_then_ret ?_
    refine tri_inBlock_ret ?_
    refine tri_then_ret ?_
    refine tri_then_ret ?_
    refine tri_inBlock_ret ?_
    refine tri_then_ret ?_
    refine tri_end A Suf.h rfl (.cons (rv_tmp rfl) .nil) ⟨congrArg Value.bool (decide_eq_false fun hf => ?_).symm, rfl, rfl⟩
    have := hf.2.1.2.1
    omega
  refine th_take_g rfl rfl rfl rfl rfl (by kernel_rfl)  (opv_fieldAddr rfl rfl) ?_
  refine th_take_g rfl rfl rfl rfl rfl (by kernel_rfl)  (opv_load1 rfl rfl rfl) ?_
  refine th_take_g rfl rfl rfl rfl rfl (by kernel_rfl)  (opv_move rfl) ?_
  refine th_take_g rfl rfl rfl rfl rfl (by kernel_rfl)  (opv_fieldAddr rfl rfl) ?_
  refine th_take_g rfl rfl rfl rfl rfl (by kernel_rfl)  (opv_indexAddrA rfl rfl (by decide) (by decide)) ?_
  refine th_take_g rfl rfl rfl rfl rfl (by kernel_rfl)  (opv_load1 rfl rfl rfl) ?_
  refine th_take_g rfl rfl rfl rfl rfl (by kernel_rfl)  (opv_indexAddrS rfl rfl (by omega) (by omega) (by assumption) rfl) ?_
  refine th_take_g rfl rfl rfl rfl rfl (by kernel_rfl)  (opv_fieldAddrE rfl (by assumption) (by omega) rfl) ?_
  refine th_take_g rfl rfl rfl rfl rfl (by kernel_rfl)  (opv_loadE1 rfl (by assumption) rfl (by omega) rfl rfl) ?_
  refine th_take_g rfl rfl rfl rfl rfl (by kernel_rfl)  (opv_fieldAddr rfl rfl) ?_
  refine th_take_g rfl rfl rfl rfl rfl (by kernel_rfl)  (opv_load1 rfl rfl rfl) ?_
  refine th_take_g rfl rfl rfl rfl rfl (by kernel_rfl)  (opv_sub rfl rfl (w64 (by omega) (by omega))) ?_
  refine th_take_g rfl rfl rfl rfl rfl (by kernel_rfl)  (opv_neq rfl rfl) ?_
  refine th_take rfl rfl (by kernel_rfl)  (opv_pick_f rfl rfl) ?_
  refine th_done (by kernel_rfl) ?_
  refine tri_then ?_
  have b1 := hm.at h1a h1b
  refine tri_cond_dec rfl (fun h1c => ?_) (fun h1c => ?_)
  · refine tri_seq ?_
    refine tri_region ?_
    refine tri_v (opv_assign rfl) rfl ?_
    refine tri_nil ?_
    refine tri_then ?_
    refine tri_ret ?_
    refine tri_then_ret ?_
    refine tri_inBlock_ret ?_
    refine tri_then_ret ?_
    refine tri_then_ret ?_
    refine tri_inBlock_ret ?_
    refine tri_then_ret ?_
    refine tri_end A Suf.h rfl (.cons (rv_tmp rfl) .nil) ⟨congrArg Value.bool (decide_eq_false fun hf => ?_).symm, rfl, rfl⟩
    exact h1c hf.2.1.2.2
  have l1 : (ns.getD (ns.getD n default).k1.toNat default).lv = (ns.getD n default).lv - 1 := Decidable.not_not.1 h1c
  have e1 := R6.mn_bd (x := (if 4611686018427387903 < 0 + (ns.getD (ns.getD n default).k0.toNat default).pop then 4611686018427387903 else 0 + (ns.getD (ns.getD n default).k0.toNat default).pop) + (ns.getD (ns.getD n default).k1.toNat default).pop) (by omega)
  refine tri_skip ?_
  refine tri_then ?_
  refine tri_draw [0, 1, 2, 3, 4, 5, 6, 7, 8, 9, 10, 11, 12] rfl [] rfl mixed ?_
  refine th_take rfl rfl (by kernel_rfl)  (opv_move rfl) ?_
  refine th_take rfl rfl (by kernel_rfl)  (opv_fieldAddr rfl rfl) ?_
  refine th_take rfl rfl (by kernel_rfl)  (opv_load1 rfl rfl rfl) ?_
  refine th_take rfl rfl (by kernel_rfl)  (opv_move rfl) ?_
  refine th_take rfl rfl (by kernel_rfl)  (opv_fieldAddr rfl rfl) ?_
  refine th_take rfl rfl (by kernel_rfl)  (opv_indexAddrA rfl rfl (by decide) (by decide)) ?_
  refine th_take rfl rfl (by kernel_rfl)  (opv_load1 rfl rfl rfl) ?_
  refine th_take rfl rfl (by kernel_rfl)  (opv_indexAddrS rfl rfl (by omega) (by omega) (by assumption) rfl) ?_
  refine th_take rfl rfl (by kernel_rfl)  (opv_fieldAddrE rfl (by assumption) (by omega) rfl) ?_
  refine th_take rfl rfl (by kernel_rfl)  (opv_loadE1 rfl (by assumption) rfl (by omega) rfl rfl) ?_
  refine th_take rfl rfl (by kernel_rfl)  (opv_add rfl rfl (w64 (by omega) (by omega))) ?_
  refine th_take rfl rfl (by kernel_rfl)  (opv_min2 rfl rfl) ?_
  refine th_take rfl rfl (by kernel_rfl)  (opv_assign rfl) ?_
  refine th_done (by kernel_rfl) ?_
  refine tri_inBlock ?_
  refine tri_then ?_
  refine tri_region ?_
  refine tri_v (opv_move rfl) rfl ?_
  refine tri_v (opv_add rfl rfl (w64 (by omega) (by omega))) rfl ?_
  refine tri_v (opv_assign rfl) rfl ?_
  refine tri_nil ?_
  refine tri_then ?_
  refine tri_round ?_
  refine tri_seq ?_
  refine tri_seq ?_
  refine tri_region ?_
  refine tri_v (opv_move rfl) rfl ?_
  refine tri_v (opv_lss rfl rfl) rfl ?_
  refine tri_nil ?_
  refine tri_then ?_
  refine tri_cond_is rfl (by decide) ?_
  refine tri_skip ?_
  refine tri_then ?_
  refine tri_seq ?_
  refine tri_block ?_
  refine tri_seq ?_
  refine tri_seq ?_
  refine tri_draw [0, 1, 2, 3, 4, 5, 6, 7, 8, 9, 10, 11, 12, 13, 14, 15, 16, 17, 18, 19, 20, 21, 22, 23, 24, 25, 26, 27] rfl [] rfl mixed ?_
  refine th_take rfl rfl (by kernel_rfl)  (opv_move rfl) ?_
  refine th_take rfl rfl (by kernel_rfl)  (opv_fieldAddr rfl rfl) ?_
  refine th_take rfl rfl (by kernel_rfl)  (opv_indexAddrA rfl rfl (by decide) (by decide)) ?_
  refine th_take rfl rfl (by kernel_rfl)  (opv_load1 rfl rfl rfl) ?_
  refine th_take rfl rfl (by kernel_rfl)  (opv_lss rfl rfl) ?_
  refine th_take rfl rfl (by kernel_rfl)  (opv_move rfl) ?_
  refine th_split rfl rfl rfl (fun h2a => ?_) (fun h2a => ?_)
  · refine th_skip rfl rfl rfl rfl rfl (by kernel_rfl)  ?_
    refine th_skip rfl rfl rfl rfl rfl (by kernel_rfl)  ?_
    refine th_skip rfl rfl rfl rfl rfl (by kernel_rfl)  ?_
    refine th_skip rfl rfl rfl rfl rfl (by kernel_rfl)  ?_
    refine th_skip rfl rfl rfl rfl rfl (by kernel_rfl)  ?_
    refine th_skip rfl rfl rfl rfl rfl (by kernel_rfl)  ?_
    refine th_take rfl rfl (by kernel_rfl)  (opv_pick_t rfl rfl) ?_
    refine th_take rfl rfl (by kernel_rfl)  (opv_move rfl) ?_
    refine th_skip rfl rfl rfl rfl rfl (by kernel_rfl)  ?_
    refine th_skip rfl rfl rfl rfl rfl (by kernel_rfl)  ?_
    refine th_skip rfl rfl rfl rfl rfl (by kernel_rfl)  ?_
    refine th_skip rfl rfl rfl rfl rfl (by kernel_rfl)  ?_
    refine th_skip rfl rfl rfl rfl rfl (by kernel_rfl)  ?_
    refine th_skip rfl rfl rfl rfl rfl (by kernel_rfl)  ?_
    refine th_skip rfl rfl rfl rfl rfl (by kernel_rfl)  ?_
    refine th_skip rfl rfl rfl rfl rfl (by kernel_rfl)  ?_
    refine th_skip rfl rfl rfl rfl rfl (by kernel_rfl)  ?_
    refine th_skip rfl rfl rfl rfl rfl (by kernel_rfl)  ?_
    refine th_skip rfl rfl rfl rfl rfl (by kernel_rfl)  ?_
    refine th_skip rfl rfl rfl rfl rfl (by kernel_rfl)  ?_
    refine th_skip rfl rfl rfl rfl rfl (by kernel_rfl)  ?_
    refine th_take rfl rfl (by kernel_rfl)  (opv_pick_t rfl rfl) ?_
    refine th_done (by kernel_rfl) ?_
    refine tri_then ?_
    refine tri_cond_true rfl ?_
    refine tri_seq ?_
    refine tri_region ?_
    refine tri_v (opv_assign rfl) rfl ?_
    refine tri_nil ?_
    refine tri_then ?_
    refine tri_ret ?_
    refine tri_then_ret ?_
    refine tri_inBlock_ret ?_
    refine tri_then_ret ?_
    refine tri_then_ret ?_
    refine tri_inBlock_ret ?_
    refine tri_then_ret ?_
    refine tri_end A Suf.h rfl (.cons (rv_tmp rfl) .nil) ⟨congrArg Value.bool (decide_eq_false fun hf => ?_).symm, rfl, rfl⟩
    have := hf.2.2.1.1
    omega
  refine th_take_g rfl rfl rfl rfl rfl (by kernel_rfl)  (opv_move rfl) ?_
  refine th_take_g rfl rfl rfl rfl rfl (by kernel_rfl)  (opv_fieldAddr rfl rfl) ?_
  refine th_take_g rfl rfl rfl rfl rfl (by kernel_rfl)  (opv_indexAddrA rfl rfl (by decide) (by decide)) ?_
  refine th_take_g rfl rfl rfl rfl rfl (by kernel_rfl)  (opv_load1 rfl rfl rfl) ?_
  refine th_take_g rfl rfl rfl rfl rfl (by kernel_rfl)  (opv_move rfl) ?_
  refine th_take_g rfl rfl rfl rfl rfl (by kernel_rfl)  (opv_geq rfl rfl) ?_
  refine th_take rfl rfl (by kernel_rfl)  (opv_pick_f rfl rfl) ?_
  refine th_take rfl rfl (by kernel_rfl)  (opv_move rfl) ?_
  refine th_split rfl rfl rfl (fun h2b => ?_) (fun h2b => ?_)
  · refine th_skip rfl rfl rfl rfl rfl (by kernel_rfl)  ?_
    refine th_skip rfl rfl rfl rfl rfl (by kernel_rfl)  ?_
    refine th_skip rfl rfl rfl rfl rfl (by kernel_rfl)  ?_
    refine th_skip rfl rfl rfl rfl rfl (by kernel_rfl)  ?_
    refine th_skip rfl rfl rfl rfl rfl (by kernel_rfl)  ?_
    refine th_skip rfl rfl rfl rfl rfl (by kernel_rfl)  ?_
    refine th_skip rfl rfl rfl rfl rfl (by kernel_rfl)  ?_
    refine th_skip rfl rfl rfl rfl rfl (by kernel_rfl)  ?_
    refine th_skip rfl rfl rfl rfl rfl (by kernel_rfl)  ?_
    refine th_skip rfl rfl rfl rfl rfl (by kernel_rfl)  ?_
    refine th_skip rfl rfl rfl rfl rfl (by kernel_rfl)  ?_
    refine th_skip rfl rfl rfl rfl rfl (by kernel_rfl)  ?_
    refine th_skip rfl rfl rfl rfl rfl (by kernel_rfl)  ?_
    refine th_take rfl rfl (by kernel_rfl)  (opv_pick_t rfl rfl) ?_
    refine th_done (by kernel_rfl) ?_
    refine tri_then ?_
    refine tri_cond_true rfl ?_
    refine tri_seq ?_
    refine tri_region ?_
    refine tri_v (opv_assign rfl) rfl ?_
    refine tri_nil ?_
    refine tri_then ?_
    refine tri_ret ?_
    refine tri_then_ret ?_
    refine tri_inBlock_ret ?_
    refine tri_then_ret ?_
    refine tri_then_ret ?_
    refine tri_inBlock_ret ?_
    refine tri_then_ret ?_
    refine tri_end A Suf.h rfl (.cons (rv_tmp rfl) .nil) ⟨congrArg Value.bool (decide_eq_false fun hf => ?_).symm, rfl, rfl⟩
    have := hf.2.2.1.2.1
    omega
  refine th_take_g rfl rfl rfl rfl rfl (by kernel_rfl)  (opv_fieldAddr rfl rfl) ?_
  refine th_take_g rfl rfl rfl rfl rfl (by kernel_rfl)  (opv_load1 rfl rfl rfl) ?_
  refine th_take_g rfl rfl rfl rfl rfl (by kernel_rfl)  (opv_move rfl) ?_
  refine th_take_g rfl rfl rfl rfl rfl (by kernel_rfl)  (opv_fieldAddr rfl rfl) ?_
  refine th_take_g rfl rfl rfl rfl rfl (by kernel_rfl)  (opv_indexAddrA rfl rfl (by decide) (by decide)) ?_
  refine th_take_g rfl rfl rfl rfl rfl (by kernel_rfl)  (opv_load1 rfl rfl rfl) ?_
  refine th_take_g rfl rfl rfl rfl rfl (by kernel_rfl)  (opv_indexAddrS rfl rfl (by omega) (by omega) (by assumption) rfl) ?_
  refine th_take_g rfl rfl rfl rfl rfl (by kernel_rfl)  (opv_fieldAddrE rfl (by assumption) (by omega) rfl) ?_
  refine th_take_g rfl rfl rfl rfl rfl (by kernel_rfl)  (opv_loadE1 rfl (by assumption) rfl (by omega) rfl rfl) ?_
  refine th_take_g rfl rfl rfl rfl rfl (by kernel_rfl)  (opv_fieldAddr rfl rfl) ?_
  refine th_take_g rfl rfl rfl rfl rfl (by kernel_rfl)  (opv_load1 rfl rfl rfl) ?_
  refine th_take_g rfl rfl rfl rfl rfl (by kernel_rfl)  (opv_sub rfl rfl (w64 (by omega) (by omega))) ?_
  refine th_take_g rfl rfl rfl rfl rfl (by kernel_rfl)  (opv_neq rfl rfl) ?_
  refine th_take rfl rfl (by kernel_rfl)  (opv_pick_f rfl rfl) ?_
  refine th_done (by kernel_rfl) ?_
  refine tri_then ?_
  have b2 := hm.at h2a h2b
  refine tri_cond_dec rfl (fun h2c => ?_) (fun h2c => ?_)
  · refine tri_seq ?_
    refine tri_region ?_
    refine tri_v (opv_assign rfl) rfl ?_
    refine tri_nil ?_
    refine tri_then ?_
    refine tri_ret ?_
    refine tri_then_ret ?_
    refine tri_inBlock_ret ?_
    refine tri_then_ret ?_
    refine tri_then_ret ?_
    refine tri_inBlock_ret ?_
    refine tri_then_ret ?_
    refine tri_end A Suf.h rfl (.cons (rv_tmp rfl) .nil) ⟨congrArg Value.bool (decide_eq_false fun hf => ?_).symm, rfl, rfl⟩
    exact h2c hf.2.2.1.2.2
  have l2 : (ns.getD (ns.getD n default).k2.toNat default).lv = (ns.getD n default).lv - 1 := Decidable.not_not.1 h2c
  have e2 := R6.mn_bd (x := (if 4611686018427387903 < (if 4611686018427387903 < 0 + (ns.getD (ns.getD n default).k0.toNat default).pop then 4611686018427387903 else 0 + (ns.getD (ns.getD n default).k0.toNat default).pop) + (ns.getD (ns.getD n default).k1.toNat default).pop then 4611686018427387903 else (if 4611686018427387903 < 0 + (ns.getD (ns.getD n default).k0.toNat default).pop then 4611686018427387903 else 0 + (ns.getD (ns.getD n default).k0.toNat default).pop) + (ns.getD (ns.getD n default).k1.toNat default).pop) + (ns.getD (ns.getD n default).k2.toNat default).pop) (by omega)
  refine tri_skip ?_
  refine tri_then ?_
  refine tri_draw [0, 1, 2, 3, 4, 5, 6, 7, 8, 9, 10, 11, 12] rfl [] rfl mixed ?_
  refine th_take rfl rfl (by kernel_rfl)  (opv_move rfl) ?_
  refine th_take rfl rfl (by kernel_rfl)  (opv_fieldAddr rfl rfl) ?_
  refine th_take rfl rfl (by kernel_rfl)  (opv_load1 rfl rfl rfl) ?_
  refine th_take rfl rfl (by kernel_rfl)  (opv_move rfl) ?_
  refine th_take rfl rfl (by kernel_rfl)  (opv_fieldAddr rfl rfl) ?_
  refine th_take rfl rfl (by kernel_rfl)  (opv_indexAddrA rfl rfl (by decide) (by decide)) ?_
  refine th_take rfl rfl (by kernel_rfl)  (opv_load1 rfl rfl rfl) ?_
  refine th_take rfl rfl (by kernel_rfl)  (opv_indexAddrS rfl rfl (by omega) (by omega) (by assumption) rfl) ?_
  refine th_take rfl rfl (by kernel_rfl)  (opv_fieldAddrE rfl (by assumption) (by omega) rfl) ?_
  refine th_take rfl rfl (by kernel_rfl)  (opv_loadE1 rfl (by assumption) rfl (by omega) rfl rfl) ?_
  refine th_take rfl rfl (by kernel_rfl)  (opv_add rfl rfl (w64 (by omega) (by omega))) ?_
  refine th_take rfl rfl (by kernel_rfl)  (opv_min2 rfl rfl) ?_
  refine th_take rfl rfl (by kernel_rfl)  (opv_assign rfl) ?_
  refine th_done (by kernel_rfl) ?_
  refine tri_inBlock ?_
  refine tri_then ?_
  refine tri_region ?_
  refine tri_v (opv_move rfl) rfl ?_
  refine tri_v (opv_add rfl rfl (w64 (by omega) (by omega))) rfl ?_
  refine tri_v (opv_assign rfl) rfl ?_
  refine tri_nil ?_
  refine tri_then ?_
  refine tri_round ?_
  refine tri_seq ?_
  refine tri_seq ?_
  refine tri_region ?_
  refine tri_v (opv_move rfl) rfl ?_
  refine tri_v (opv_lss rfl rfl) rfl ?_
  refine tri_nil ?_
  refine tri_then ?_
  refine tri_cond_is rfl (by decide) ?_
  refine tri_skip ?_
  refine tri_then ?_
  refine tri_seq ?_
  refine tri_block ?_
  refine tri_seq ?_
  refine tri_seq ?_
  refine tri_draw [0, 1, 2, 3, 4, 5, 6, 7, 8, 9, 10, 11, 12, 13, 14, 15, 16, 17, 18, 19, 20, 21, 22, 23, 24, 25, 26, 27] rfl [] rfl mixed ?_
  refine th_take rfl rfl (by kernel_rfl)  (opv_move rfl) ?_
  refine th_take rfl rfl (by kernel_rfl)  (opv_fieldAddr rfl rfl) ?_
  refine th_take rfl rfl (by kernel_rfl)  (opv_indexAddrA rfl rfl (by decide) (by decide)) ?_
  refine th_take rfl rfl (by kernel_rfl)  (opv_load1 rfl rfl rfl) ?_
  refine th_take rfl rfl (by kernel_rfl)  (opv_lss rfl rfl) ?_
  refine th_take rfl rfl (by kernel_rfl)  (opv_move rfl) ?_
  refine th_split rfl rfl rfl (fun h3a => ?_) (fun h3a => ?_)
  · refine th_skip rfl rfl rfl rfl rfl (by kernel_rfl)  ?_
    refine th_skip rfl rfl rfl rfl rfl (by kernel_rfl)  ?_
    refine th_skip rfl rfl rfl rfl rfl (by kernel_rfl)  ?_
    refine th_skip rfl rfl rfl rfl rfl (by kernel_rfl)  ?_
    refine th_skip rfl rfl rfl rfl rfl (by kernel_rfl)  ?_
    refine th_skip rfl rfl rfl rfl rfl (by kernel_rfl)  ?_
    refine th_take rfl rfl (by kernel_rfl)  (opv_pick_t rfl rfl) ?_
    refine th_take rfl rfl (by kernel_rfl)  (opv_move rfl) ?_
    refine th_skip rfl rfl rfl rfl rfl (by kernel_rfl)  ?_
    refine th_skip rfl rfl rfl rfl rfl (by kernel_rfl)  ?_
    refine th_skip rfl rfl rfl rfl rfl (by kernel_rfl)  ?_
    refine th_skip rfl rfl rfl rfl rfl (by kernel_rfl)  ?_
    refine th_skip rfl rfl rfl rfl rfl (by kernel_rfl)  ?_
    refine th_skip rfl rfl rfl rfl rfl (by kernel_rfl)  ?_
    refine th_skip rfl rfl rfl rfl rfl (by kernel_rfl)  ?_
    refine th_skip rfl rfl rfl rfl rfl (by kernel_rfl)  ?_
    refine th_skip rfl rfl rfl rfl rfl (by kernel_rfl)  ?_
    refine th_skip rfl rfl rfl rfl rfl (by kernel_rfl)  ?_
    refine th_skip rfl rfl rfl rfl rfl (by kernel_rfl)  ?_
    refine th_skip rfl rfl rfl rfl rfl (by kernel_rfl)  ?_
    refine th_skip rfl rfl rfl rfl rfl (by kernel_rfl)  ?_
    refine th_take rfl rfl (by kernel_rfl)  (opv_pick_t rfl rfl) ?_
    refine th_done (by kernel_rfl) ?_
    refine tri_then ?_
    refine tri_cond_true rfl ?_
    refine tri_seq ?_
    refine tri_region ?_
    refine tri_v (opv_assign rfl) rfl ?_
    refine tri_nil ?_
    refine tri_then ?_
    refine tri_ret ?_
    refine tri_then_ret ?_
    refine tri_inBlock_ret ?_
    refine tri_then_ret ?_
    refine tri_then_ret ?_
    refine tri_inBlock_ret ?_
    refine tri_then_ret ?_
    refine tri_end A Suf.h rfl (.cons (rv_tmp rfl) .nil) ⟨congrArg Value.bool (decide_eq_false fun hf => ?_).symm, rfl, rfl⟩
    have := hf.2.2.2.1.1
    omega
  refine th_take_g rfl rfl rfl rfl rfl (by kernel_rfl)  (opv_move rfl) ?_
  refine th_take_g rfl rfl rfl rfl rfl (by kernel_rfl)  (opv_fieldAddr rfl rfl) ?_
  refine th_take_g rfl rfl rfl rfl rfl (by kernel_rfl)  (opv_indexAddrA rfl rfl (by decide) (by decide)) ?_
  refine th_take_g rfl rfl rfl rfl rfl (by kernel_rfl)  (opv_load1 rfl rfl rfl) ?_
  refine th_take_g rfl rfl rfl rfl rfl (by kernel_rfl)  (opv_move rfl) ?_
  refine th_take_g rfl rfl rfl rfl rfl (by kernel_rfl)  (opv_geq rfl rfl) ?_
  refine th_take rfl rfl (by kernel_rfl)  (opv_pick_f rfl rfl) ?_
  refine th_take rfl rfl (by kernel_rfl)  (opv_move rfl) ?_
  refine th_split rfl rfl rfl (fun h3b => ?_) (fun h3b => ?_)
  · refine th_skip rfl rfl rfl rfl rfl (by kernel_rfl)  ?_
    refine th_skip rfl rfl rfl rfl rfl (by kernel_rfl)  ?_
    refine th_skip rfl rfl rfl rfl rfl (by kernel_rfl)  ?_
    refine th_skip rfl rfl rfl rfl rfl (by kernel_rfl)  ?_
    refine th_skip rfl rfl rfl rfl rfl (by kernel_rfl)  ?_
    refine th_skip rfl rfl rfl rfl rfl (by kernel_rfl)  ?_
    refine th_skip rfl rfl rfl rfl rfl (by kernel_rfl)  ?_
    refine th_skip rfl rfl rfl rfl rfl (by kernel_rfl)  ?_
    refine th_skip rfl rfl rfl rfl rfl (by kernel_rfl)  ?_
    refine th_skip rfl rfl rfl rfl rfl (by kernel_rfl)  ?_
    refine th_skip rfl rfl rfl rfl rfl (by kernel_rfl)  ?_
    refine th_skip rfl rfl rfl rfl rfl (by kernel_rfl)  ?_
    refine th_skip rfl rfl rfl rfl rfl (by kernel_rfl)  ?_
    refine th_take rfl rfl (by kernel_rfl)  (opv_pick_t rfl rfl) ?_
    refine th_done (by kernel_rfl) ?_
    refine tri_then ?_
    refine tri_cond_true rfl ?_
    refine tri_seq ?_
    refine tri_region ?_
    refine tri_v (opv_assign rfl) rfl ?_
    refine tri_nil ?_
    refine tri_then ?_
    refine tri_ret ?_
    refine tri_then_ret ?_
    refine tri_inBlock_ret ?_
    refine tri_then_ret ?_
    refine tri_then_ret ?_
    refine tri_inBlock_ret ?_
    refine tri_then_ret ?_
    refine tri_end A Suf.h rfl (.cons (rv_tmp rfl) .nil) ⟨congrArg Value.bool (decide_eq_false fun hf => ?_).symm, rfl, rfl⟩
    have := hf.2.2.2.1.2.1
    omega
  refine th_take_g rfl rfl rfl rfl rfl (by kernel_rfl)  (opv_fieldAddr rfl rfl) ?_
  refine th_take_g rfl rfl rfl rfl rfl (by kernel_rfl)  (opv_load1 rfl rfl rfl) ?_
  refine th_take_g rfl rfl rfl rfl rfl (by kernel_rfl)  (opv_move rfl) ?_
  refine th_take_g rfl rfl rfl rfl rfl (by kernel_rfl)  (opv_fieldAddr rfl rfl) ?_
  refine th_take_g rfl rfl rfl rfl rfl (by kernel_rfl)  (opv_indexAddrA rfl rfl (by decide) (by decide)) ?_
  refine th_take_g rfl rfl rfl rfl rfl (by kernel_rfl)  (opv_load1 rfl rfl rfl) ?_
  refine th_take_g rfl rfl rfl rfl rfl (by kernel_rfl)  (opv_indexAddrS rfl rfl (by omega) (by omega) (by assumption) rfl) ?_
  refine th_take_g rfl rfl rfl rfl rfl (by kernel_rfl)  (opv_fieldAddrE rfl (by assumption) (by omega) rfl) ?_
  refine th_take_g rfl rfl rfl rfl rfl (by kernel_rfl)  (opv_loadE1 rfl (by assumption) rfl (by omega) rfl rfl) ?_
  refine th_take_g rfl rfl rfl rfl rfl (by kernel_rfl)  (opv_fieldAddr rfl rfl) ?_
  refine th_take_g rfl rfl rfl rfl rfl (by kernel_rfl)  (opv_load1 rfl rfl rfl) ?_
  refine th_take_g rfl rfl rfl rfl rfl (by kernel_rfl)  (opv_sub rfl rfl (w64 (by omega) (by omega))) ?_
  refine th_take_g rfl rfl rfl rfl rfl (by kernel_rfl)  (opv_neq rfl rfl) ?_
  refine th_take rfl rfl (by kernel_rfl)  (opv_pick_f rfl rfl) ?_
  refine th_done (by kernel_rfl) ?_
  refine tri_then ?_
  have b3 := hm.at h3a h3b
  refine tri_cond_dec rfl (fun h3c => ?_) (fun h3c => ?_)
  · refine tri_seq ?_
    refine tri_region ?_
    refine tri_v (opv_assign rfl) rfl ?_
    refine tri_nil ?_
    refine tri_then ?_
    refine tri_ret ?_
    refine tri_then_ret ?_
    refine tri_inBlock_ret ?_
    refine tri_then_ret ?_
    refine tri_then_ret ?_
    refine tri_inBlock_ret ?_
    refine tri_then_ret ?_
    refine tri_end A Suf.h rfl (.cons (rv_tmp rfl) .nil) ⟨congrArg Value.bool (decide_eq_false fun hf => ?_).symm, rfl, rfl⟩
    exact h3c hf.2.2.2.1.2.2
  have l3 : (ns.getD (ns.getD n default).k3.toNat default).lv = (ns.getD n default).lv - 1 := Decidable.not_not.1 h3c
  refine tri_skip ?_
  refine tri_then ?_
  refine tri_draw [0, 1, 2, 3, 4, 5, 6, 7, 8, 9, 10, 11, 12] rfl [] rfl mixed ?_
  refine th_take rfl rfl (by kernel_rfl)  (opv_move rfl) ?_
  refine th_take rfl rfl (by kernel_rfl)  (opv_fieldAddr rfl rfl) ?_
  refine th_take rfl rfl (by kernel_rfl)  (opv_load1 rfl rfl rfl) ?_
  refine th_take rfl rfl (by kernel_rfl)  (opv_move rfl) ?_
  refine th_take rfl rfl (by kernel_rfl)  (opv_fieldAddr rfl rfl) ?_
  refine th_take rfl rfl (by kernel_rfl)  (opv_indexAddrA rfl rfl (by decide) (by decide)) ?_
  refine th_take rfl rfl (by kernel_rfl)  (opv_load1 rfl rfl rfl) ?_
  refine th_take rfl rfl (by kernel_rfl)  (opv_indexAddrS rfl rfl (by omega) (by omega) (by assumption) rfl) ?_
  refine th_take rfl rfl (by kernel_rfl)  (opv_fieldAddrE rfl (by assumption) (by omega) rfl) ?_
  refine th_take rfl rfl (by kernel_rfl)  (opv_loadE1 rfl (by assumption) rfl (by omega) rfl rfl) ?_
  refine th_take rfl rfl (by kernel_rfl)  (opv_add rfl rfl (w64 (by omega) (by omega))) ?_
  refine th_take rfl rfl (by kernel_rfl)  (opv_min2 rfl rfl) ?_
  refine th_take rfl rfl (by kernel_rfl)  (opv_assign rfl) ?_
  refine th_done (by kernel_rfl) ?_
  refine tri_inBlock ?_
  refine tri_then ?_
  refine tri_region ?_
  refine tri_v (opv_move rfl) rfl ?_
  refine tri_v (opv_add rfl rfl (w64 (by omega) (by omega))) rfl ?_
  refine tri_v (opv_assign rfl) rfl ?_
  refine tri_nil ?_
  refine tri_then ?_
  refine tri_round ?_
  refine tri_seq ?_
  refine tri_seq ?_
  refine tri_region ?_
  refine tri_v (opv_move rfl) rfl ?_
  refine tri_v (opv_lss rfl rfl) rfl ?_
  refine tri_nil ?_
  refine tri_then ?_
  refine tri_cond_not rfl (by decide) ?_
  refine tri_exit ?_
  refine tri_then_exit ?_
  refine tri_then_exit ?_
  refine tri_inBlock_hit rfl ?_
  refine tri_then ?_
  refine tri_seq ?_
  refine tri_region ?_
  refine tri_v (opv_fieldAddr rfl rfl) rfl ?_
  refine tri_v (opv_load1 rfl rfl rfl) rfl ?_
  refine tri_v (opv_geq rfl rfl) rfl ?_
  refine tri_v (opv_move rfl) rfl ?_
  have k0 : R6.kidOk ns n (ns.getD n default).k0 (ns.getD n default).lv := ⟨by omega, by omega, l0⟩
  have k1 : R6.kidOk ns n (ns.getD n default).k1 (ns.getD n default).lv := ⟨by omega, by omega, l1⟩
  have k2 : R6.kidOk ns n (ns.getD n default).k2 (ns.getD n default).lv := ⟨by omega, by omega, l2⟩
  have k3 : R6.kidOk ns n (ns.getD n default).k3 (ns.getD n default).lv := ⟨by omega, by omega, l3⟩
  refine tri_split rfl rfl (fun g1 => ?_) (fun g1 => ?_)
  · refine tri_guard_run rfl rfl rfl ?_
    refine tri_v (opv_fieldAddr rfl rfl) rfl ?_
    refine tri_guard_run rfl rfl rfl ?_
    refine tri_v (opv_load1 rfl rfl rfl) rfl ?_
    refine tri_guard_run rfl rfl rfl ?_
    refine tri_v (opv_leq rfl rfl) rfl ?_
    refine tri_v (opv_pick_t rfl rfl) rfl ?_
    refine tri_v (opv_move rfl) rfl ?_
    refine tri_split rfl rfl (fun g2 => ?_) (fun g2 => ?_)
    · refine tri_guard_run rfl rfl rfl ?_
      refine tri_v (opv_fieldAddr rfl rfl) rfl ?_
      refine tri_guard_run rfl rfl rfl ?_
      refine tri_v (opv_load1 rfl rfl rfl) rfl ?_
      refine tri_guard_run rfl rfl rfl ?_
      refine tri_v (opv_move rfl) rfl ?_
      refine tri_guard_run rfl rfl rfl ?_
      refine tri_v (opv_eql rfl rfl) rfl ?_
      refine tri_v (opv_pick_t rfl rfl) rfl ?_
      refine tri_v (opv_move rfl) rfl ?_
      refine tri_split rfl rfl (fun g3 => ?_) (fun g3 => ?_)
      · refine tri_guard_run rfl rfl rfl ?_
        refine tri_v (opv_loadA rfl rfl rfl) rfl ?_
        refine tri_guard_run rfl rfl rfl ?_
        refine tri_v (opv_fieldAddr rfl rfl) rfl ?_
        refine tri_guard_run rfl rfl rfl ?_
        refine tri_v (opv_loadA rfl rfl rfl) rfl ?_
        refine tri_guard_run rfl rfl rfl ?_
        refine tri_g (opg_call (xs := [_, _]) rfl (ref06_at hs hn)) rfl ?_
        rintro _ _ _ ⟨rfl, rfl, rfl⟩
        refine tri_guard_run rfl rfl rfl ?_
        refine tri_v (opv_move rfl) rfl ?_
        refine tri_guard_run rfl rfl rfl ?_
        refine tri_v (opv_eql rfl rfl) rfl ?_
        refine tri_v (opv_pick_t rfl rfl) rfl ?_
        refine tri_v (opv_assign rfl) rfl ?_
        refine tri_nil ?_
        refine tri_then ?_
        refine tri_ret ?_
        refine tri_end A Suf.h rfl (.cons (rv_tmp rfl) .nil) ⟨congrArg Value.bool (decide_eq_decide.2 ?_), rfl, rfl⟩
        exact ⟨fun h => ⟨k0, k1, k2, k3, g1, g2, g3, h⟩, fun h => h.2.2.2.2.2.2.2⟩
      · refine tri_guard_skip rfl rfl rfl rfl ?_
        refine tri_guard_skip rfl rfl rfl rfl ?_
        refine tri_guard_skip rfl rfl rfl rfl ?_
        refine tri_guard_skip rfl rfl rfl rfl ?_
        refine tri_guard_skip rfl rfl rfl rfl ?_
        refine tri_guard_skip rfl rfl rfl rfl ?_
        refine tri_v (opv_pick_f rfl rfl) rfl ?_
        refine tri_v (opv_assign rfl) rfl ?_
        refine tri_nil ?_
        refine tri_then ?_
        refine tri_ret ?_
        refine tri_end A Suf.h rfl (.cons (rv_tmp rfl) .nil) ⟨congrArg Value.bool (decide_eq_false fun hf => ?_).symm, rfl, rfl⟩
        exact g3 hf.2.2.2.2.2.2.1
    · refine tri_guard_skip rfl rfl rfl rfl ?_
      refine tri_guard_skip rfl rfl rfl rfl ?_
      refine tri_guard_skip rfl rfl rfl rfl ?_
      refine tri_guard_skip rfl rfl rfl rfl ?_
      refine tri_v (opv_pick_f rfl rfl) rfl ?_
      refine tri_v (opv_move rfl) rfl ?_
      refine tri_guard_skip rfl rfl rfl rfl ?_
      refine tri_guard_skip rfl rfl rfl rfl ?_
      refine tri_guard_skip rfl rfl rfl rfl ?_
      refine tri_guard_skip rfl rfl rfl rfl ?_
      refine tri_guard_skip rfl rfl rfl rfl ?_
      refine tri_guard_skip rfl rfl rfl rfl ?_
      refine tri_v (opv_pick_f rfl rfl) rfl ?_
      refine tri_v (opv_assign rfl) rfl ?_
      refine tri_nil ?_
      refine tri_then ?_
      refine tri_ret ?_
      refine tri_end A Suf.h rfl (.cons (rv_tmp rfl) .nil) ⟨congrArg Value.bool (decide_eq_false fun hf => ?_).symm, rfl, rfl⟩
      exact g2 hf.2.2.2.2.2.1
  · refine tri_guard_skip rfl rfl rfl rfl ?_
    refine tri_guard_skip rfl rfl rfl rfl ?_
    refine tri_guard_skip rfl rfl rfl rfl ?_
    refine tri_v (opv_pick_f rfl rfl) rfl ?_
    refine tri_v (opv_move rfl) rfl ?_
    refine tri_guard_skip rfl rfl rfl rfl ?_
    refine tri_guard_skip rfl rfl rfl rfl ?_
    refine tri_guard_skip rfl rfl rfl rfl ?_
    refine tri_guard_skip rfl rfl rfl rfl ?_
    refine tri_v (opv_pick_f rfl rfl) rfl ?_
    refine tri_v (opv_move rfl) rfl ?_
    refine tri_guard_skip rfl rfl rfl rfl ?_
    refine tri_guard_skip rfl rfl rfl rfl ?_
    refine tri_guard_skip rfl rfl rfl rfl ?_
    refine tri_guard_skip rfl rfl rfl rfl ?_
    refine tri_guard_skip rfl rfl rfl rfl ?_
    refine tri_guard_skip rfl rfl rfl rfl ?_
    refine tri_v (opv_pick_f rfl rfl) rfl ?_
    refine tri_v (opv_assign rfl) rfl ?_
    refine tri_nil ?_
    refine tri_then ?_
    refine tri_ret ?_
    refine tri_end A Suf.h rfl (.cons (rv_tmp rfl) .nil) ⟨congrArg Value.bool (decide_eq_false fun hf => ?_).symm, rfl, rfl⟩
    exact g1 hf.2.2.2.2.1
end Go.GL

set_option linter.unusedVariables false
namespace Go.GL
abbrev cellV (c : Cell) : Value := .agg [.int .i64 c.x, .int .i64 c.y].toArray
theorem Cell.ext_iff' {a b : Cell} : a = b ↔ [a.x, a.y] = [b.x, b.y] := by
  cases a; cases b; simp
theorem Cell.ne_iff' {a b : Cell} : a ≠ b ↔ [a.x, a.y] ≠ [b.x, b.y] := by rw [Ne, Cell.ext_iff']
/-! ### Layer 1, as the document has it -/
namespace R1
def inB (c : Cell) : Prop := -1099511627776 ≤ c.x ∧ c.x ≤ 1099511627776 ∧ -1099511627776 ≤ c.y ∧ c.y ≤ 1099511627776
instance (c : Cell) : Decidable (inB c) := inferInstanceAs (Decidable (_ ∧ _))
def less (a b : Cell) : Prop := a.y < b.y ∨ a.y = b.y ∧ a.x < b.x
instance (a b : Cell) : Decidable (less a b) := inferInstanceAs (Decidable (_ ∨ _))
def g (l : List Cell) (i : Nat) : Cell := l.getD i default
def okAt (l : List Cell) (i : Nat) : Prop := inB (g l i) ∧ (0 < i → less (g l (i - 1)) (g l i))
instance (l : List Cell) (i : Nat) : Decidable (okAt l i) := inferInstanceAs (Decidable (_ ∧ _))
def right (l : List Cell) : Prop := (∀ i, i < l.length → okAt l i) ∧ l.length ≤ 2000
instance (l : List Cell) : Decidable (right l) := inferInstanceAs (Decidable (_ ∧ _))
def putF (c : Cell) : Bool → List Cell → List Cell
  | done, [] => if done = true then [] else [c]
  | done, a :: l => if done = false ∧ (a = c ∨ less c a) then (if a ≠ c then c :: a :: putF c true l else c :: putF c true l) else (if a ≠ c then a :: putF c done l else putF c done l)
def put (l : List Cell) (c : Cell) : List Cell := putF c false l
/-- What 'Of' makes of a list: its cells put one by one. -/
def puts (l : List Cell) : List Cell := l.foldl put []
def of (l : List Cell) : List Cell × Int :=
  if ∀ i, i < l.length → inB (g l i) then (if 2000 < (puts l).length then ([], 3) else (puts l, 0)) else ([], 2)
theorem putF_len (c : Cell) : ∀ (l : List Cell) (d : Bool), (putF c d l).length ≤ l.length + 1
  | [], d => by simp only [putF]; split <;> simp
  | a :: l, d => by
    have h1 := putF_len c l true
    have h2 := putF_len c l d
    have h3 := putF_lenT c l
    simp only [putF]
    split <;> split <;> simp only [List.length_cons] <;> omega
  where putF_lenT (c : Cell) : ∀ (l : List Cell), (putF c true l).length ≤ l.length
  | [] => by simp [putF]
  | a :: l => by
    have := putF_lenT c l
    simp only [putF]
    split <;> split <;> simp_all only [List.length_cons] <;> first | omega | simp_all
theorem put_len (l : List Cell) (c : Cell) : (put l c).length ≤ l.length + 1 := putF_len c l false
end R1
end Go.GL

set_option linter.unusedVariables false
namespace Go.GL
/-! ### Layer 2, as the document has it -/
namespace R2
def lives (alive : Bool) (n : Int) : Bool := decide (n = 3) || alive && decide (n = 2)
def near (c d : Cell) : Prop := -1 ≤ d.x - c.x ∧ d.x - c.x ≤ 1 ∧ -1 ≤ d.y - c.y ∧ d.y - c.y ≤ 1 ∧ d ≠ c
instance (c d : Cell) : Decidable (near c d) := inferInstanceAs (Decidable (_ ∧ _))
def around (l : List Cell) (c : Cell) : Int := ((l.filter fun d => decide (near c d)).length : Nat)
def nb (c : Cell) (k : Nat) : Cell := ⟨c.x + (k : Int) % 3 - 1, c.y + (k : Int) / 3 - 1⟩
def livesAt (l : List Cell) (c : Cell) : Bool := lives (decide (c ∈ l)) (around l c)
/-- What is live of the nine about the cell, from k on. -/
def about (l : List Cell) (c : Cell) : List Cell := ((List.range 9).map (nb c)).filter (livesAt l)
def cands (l : List Cell) : List Cell := l.flatMap (about l)
def next (l : List Cell) : List Cell × Int := if R1.right l then R1.of (cands l) else ([], 1)
theorem about_len (l : List Cell) (c : Cell) : (about l c).length ≤ 9 := by
  have := List.length_filter_le (livesAt l) ((List.range 9).map (nb c))
  simpa [about] using this
theorem cands_len (l m : List Cell) : (m.flatMap (about l)).length ≤ 9 * m.length := by
  induction m with
  | nil => simp
  | cons a m ih =>
    have := about_len l a
    simp only [List.flatMap_cons, List.length_append, List.length_cons]
    omega
def bd (c : Cell) : Prop := -2199023255552 ≤ c.x ∧ c.x ≤ 2199023255552 ∧ -2199023255552 ≤ c.y ∧ c.y ≤ 2199023255552
end R2
end Go.GL

set_option linter.unusedVariables false
namespace Go.GL
/-- What a function that tells a store, a node and an error comes to. -/
def StoreR (r : List Node × Int × Int) (room : Int) (A : List Asrt) (I : List Chunk) : Value → List Asrt → List Chunk → Prop :=
  fun v A' I' => ∃ a' cap', v = .tuple [storeV a' r.1.length cap' room, .int .i64 r.2.1, .int .i64 r.2.2].toArray ∧ StA I' a' cap' r.1 ∧ A = A' ∧ I ⊆ I'
namespace R6
def new (room : Int) : List Node × Int := if room < 2 ∨ 100000 < room then ([], 0) else ([n0, n1], room)
def intern (ns : List Node) (room : Int) (q0 q1 q2 q3 : Int) : List Node × Int × Int := if R6.right ns room then R6.put ns room q0 q1 q2 q3 else (ns, 0, 1)
/-- What a store keeps to while nodes are put. -/
structure Good (ns : List Node) (room : Int) : Prop where
  mod : Mod ns
  len : ns.length ≤ 1000000000
  room : room ≤ 1000000000
theorem mod_ModTo {ns : List Node} (h : Mod ns) : ModTo ns ns.length := by
  intro j hj
  exact h.at (k := j) (by omega) (by omega)
theorem Mod.snoc {ns : List Node} (h : Mod ns) {x : Node} (hx : 0 ≤ x.lv ∧ x.lv ≤ 42 ∧ 0 ≤ x.pop ∧ x.pop ≤ cap62) : Mod (ns ++ [x]) := by
  intro y hy
  rcases List.mem_append.1 hy with hy | hy
  · exact h y hy
  · rcases List.mem_singleton.1 hy with rfl
    exact hx
theorem fit4_pop {ns : List Node} (h : Mod ns) {q0 q1 q2 q3 : Int} (hf : fit4 ns q0 q1 q2 q3) : 0 ≤ pop4 ns q0 q1 q2 q3 ∧ pop4 ns q0 q1 q2 q3 ≤ 4611686018427387903 := by
  obtain ⟨a, ⟨b, _⟩, ⟨c, _⟩, ⟨d, _⟩, _⟩ := hf
  exact pop4_bd (mod_ModTo h) d a b c
theorem Good.put {ns : List Node} {room : Int} (h : Good ns room) (q0 q1 q2 q3 : Int) : Good (put ns room q0 q1 q2 q3).1 room := by
  unfold R6.put
  split
  · rename_i hf
    split
    · exact h
    · split
      · exact h
      · rename_i h2
        have hp := fit4_pop h.mod hf
        have hl := h.mod.nd hf.1
        refine ⟨h.mod.snoc ⟨?_, hf.2.2.2.2, hp⟩, ?_, h.room⟩
        · show 0 ≤ (nd ns q0).lv + 1
          omega
        · have := h.room
          simp only [List.length_append, List.length_singleton]
          omega
  · exact h
theorem right.good {ns : List Node} {room : Int} (h : right ns room) {r2 : Int} (hr : r2 ≤ 1000000000) : Good ns r2 := by
  have h1 := h.1.2.1
  have h2 := h.1.2.2.2.1
  exact ⟨h.modTo.mod, by omega, hr⟩
end R6
/-! ### Layer 7, as the document has it -/
namespace R7
def side (lv : Int) : Int := 2 ^ (lv - 1).toNat
def inL (lv : Int) (c : Cell) : Prop := -side lv ≤ c.x ∧ c.x < side lv ∧ -side lv ≤ c.y ∧ c.y < side lv
instance (lv : Int) (c : Cell) : Decidable (inL lv c) := inferInstanceAs (Decidable (_ ∧ _))
theorem side_bd {lv : Int} (h2 : lv ≤ 42) : 0 < side lv ∧ side lv ≤ 2199023255552 := by
  unfold side
  have h : (lv - 1).toNat ≤ 41 := by omega
  have h3 : (2:Nat) ^ (lv - 1).toNat ≤ 2 ^ 41 := Nat.pow_le_pow_right (by omega) h
  have h4 : (2:Int) ^ (lv - 1).toNat = ((2 ^ (lv - 1).toNat : Nat) : Int) := by simp
  have h5 : 0 < (2:Nat) ^ (lv - 1).toNat := Nat.pow_pos (by omega)
  rw [h4]
  generalize (2:Nat) ^ (lv - 1).toNat = k at h3 h5
  omega
/-- Where a cell of a square lies: its quarter, and its place there. -/
def qx (half : Int) (c : Cell) : Nat := (if half ≤ c.x then 1 else 0) + (if half ≤ c.y then 2 else 0)
def qc (half : Int) (c : Cell) : Cell := ⟨if half ≤ c.x then c.x - half else c.x, if half ≤ c.y then c.y - half else c.y⟩
def part (half : Int) (k : Nat) (l : List Cell) : List Cell := (l.filter fun c => qx half c == k).map (qc half)
def emptyF (room : Int) : Nat → List Node → Int → List Node × Int × Int
  | 0, ns, n => (ns, n, 0)
  | k + 1, ns, n => if (R6.put ns room n n n n).2.2 ≠ 0 then (ns, 0, (R6.put ns room n n n n).2.2) else emptyF room k (R6.put ns room n n n n).1 (R6.put ns room n n n n).2.1
def empty (ns : List Node) (room : Int) (lv : Nat) : List Node × Int × Int := emptyF room lv ns 0
def build (room : Int) : Nat → List Node → List Cell → List Node × Int × Int
  | lv, ns, [] => empty ns room lv
  | 0, ns, _ :: _ => (ns, 1, 0)
  | lv + 1, ns, c :: l =>
    let r0 := build room lv ns (part (2 ^ lv) 0 (c :: l))
    if r0.2.2 ≠ 0 then (ns, 0, r0.2.2) else
    let r1 := build room lv r0.1 (part (2 ^ lv) 1 (c :: l))
    if r1.2.2 ≠ 0 then (r0.1, 0, r1.2.2) else
    let r2 := build room lv r1.1 (part (2 ^ lv) 2 (c :: l))
    if r2.2.2 ≠ 0 then (r1.1, 0, r2.2.2) else
    let r3 := build room lv r2.1 (part (2 ^ lv) 3 (c :: l))
    if r3.2.2 ≠ 0 then (r2.1, 0, r3.2.2) else
    R6.put r3.1 room r0.2.1 r1.2.1 r2.2.1 r3.2.1
def corner (s : Int) (l : List Cell) : List Cell := l.map fun c => ⟨c.x + s, c.y + s⟩
def make (ns : List Node) (room : Int) (l : List Cell) (lv : Int) : List Node × Int × Int :=
  if R6.right ns room ∧ 1 ≤ lv ∧ lv ≤ 42 ∧ R1.right l then
    if ∀ i, i < l.length → inL lv (R1.g l i) then
      let r := build room lv.toNat ns (corner (side lv) l)
      if r.2.2 ≠ 0 then (ns, 0, r.2.2) else r
    else (ns, 0, 2)
  else (ns, 0, 1)
def flat (ns : List Node) : Nat → Int → Cell → List Cell
  | lv, n, at_ => if (R6.nd ns n).pop = 0 then [] else match lv with
    | 0 => [at_]
    | lv + 1 => flat ns lv (R6.nd ns n).k0 at_ ++ flat ns lv (R6.nd ns n).k1 ⟨at_.x + 2 ^ lv, at_.y⟩ ++ flat ns lv (R6.nd ns n).k2 ⟨at_.x, at_.y + 2 ^ lv⟩ ++ flat ns lv (R6.nd ns n).k3 ⟨at_.x + 2 ^ lv, at_.y + 2 ^ lv⟩
def of (ns : List Node) (n : Int) : List Cell := flat ns (R6.nd ns n).lv.toNat n ⟨-side (R6.nd ns n).lv, -side (R6.nd ns n).lv⟩
end R7
end Go.GL

set_option linter.unusedVariables false
namespace Go.GL
open Go.Proofs
attribute [local irreducible] wpList Code.wp Exit.then Exit.inBlock Ends Tri TriH OpV OpG FnC epf wpAnyH
variable {A : List Asrt} {I : List Chunk}
set_option maxHeartbeats 1000000 in
set_option maxRecDepth 100000 in
theorem ref06_right {ns : List Node} {a : Option Addr} {cap : Nat} {room : Int} (hs : SlAt I a ns) (hn : ns.length ≤ 1000000000) (hr : R6.Rng ns) :
    FnC Try.prog 20 [storeV a ns.length cap room].toArray A I (fun v A' I' => v = .bool (decide (R6.right ns room)) ∧ A = A' ∧ I = I') := by
  refine fn_enter1 Try.func20 rfl Try.ntmps20 rfl fun w0 => ?_
  refine tri_seq ?_
  refine tri_region ?_
  refine tri_g (opg_box_agg rfl) rfl ?_
  rintro _ _ _ ⟨b, rfl, rfl, rfl⟩
  refine tri_v (opv_assign rfl) rfl ?_
  refine tri_nil ?_
  refine tri_then ?_
  refine tri_seq ?_
  refine tri_seq ?_
  refine tri_region ?_
  refine tri_v (opv_fieldAddr rfl rfl) rfl ?_
  refine tri_v (opv_load1 rfl rfl rfl) rfl ?_
  refine tri_v (opv_lss rfl rfl) rfl ?_
  refine tri_v (opv_move rfl) rfl ?_
  refine tri_split rfl rfl (fun h1 => ?_) (fun h1 => ?_)
  · refine tri_guard_skip rfl rfl rfl rfl ?_
    refine tri_guard_skip rfl rfl rfl rfl ?_
    refine tri_guard_skip rfl rfl rfl rfl ?_
    refine tri_v (opv_pick_t rfl rfl) rfl ?_
    refine tri_v (opv_move rfl) rfl ?_
    refine tri_guard_skip rfl rfl rfl rfl ?_
    refine tri_guard_skip rfl rfl rfl rfl ?_
    refine tri_guard_skip rfl rfl rfl rfl ?_
    refine tri_guard_skip rfl rfl rfl rfl ?_
    refine tri_v (opv_pick_t rfl rfl) rfl ?_
    refine tri_v (opv_move rfl) rfl ?_
    refine tri_guard_skip rfl rfl rfl rfl ?_
    refine tri_guard_skip rfl rfl rfl rfl ?_
    refine tri_guard_skip rfl rfl rfl rfl ?_
    refine tri_guard_skip rfl rfl rfl rfl ?_
    refine tri_guard_skip rfl rfl rfl rfl ?_
    refine tri_guard_skip rfl rfl rfl rfl ?_
    refine tri_v (opv_pick_t rfl rfl) rfl ?_
    refine tri_v (opv_move rfl) rfl ?_
    refine tri_guard_skip rfl rfl rfl rfl ?_
    refine tri_guard_skip rfl rfl rfl rfl ?_
    refine tri_guard_skip rfl rfl rfl rfl ?_
    refine tri_guard_skip rfl rfl rfl rfl ?_
    refine tri_guard_skip rfl rfl rfl rfl ?_
    refine tri_guard_skip rfl rfl rfl rfl ?_
    refine tri_v (opv_pick_t rfl rfl) rfl ?_
    refine tri_v (opv_move rfl) rfl ?_
    refine tri_guard_skip rfl rfl rfl rfl ?_
    refine tri_guard_skip rfl rfl rfl rfl ?_
    refine tri_guard_skip rfl rfl rfl rfl ?_
    refine tri_guard_skip rfl rfl rfl rfl ?_
    refine tri_guard_skip rfl rfl rfl rfl ?_
    refine tri_guard_skip rfl rfl rfl rfl ?_
    refine tri_v (opv_pick_t rfl rfl) rfl ?_
    refine tri_nil ?_
    refine tri_then ?_
    refine tri_cond_true rfl ?_
    refine tri_seq ?_
    refine tri_region ?_
    refine tri_v (opv_assign rfl) rfl ?_
    refine tri_nil ?_
    refine tri_then ?_
    refine tri_ret ?_
    refine tri_then_ret ?_
    refine tri_end A Suf.h rfl (.cons (rv_tmp rfl) .nil) ⟨congrArg Value.bool (decide_eq_false fun hf => ?_).symm, rfl, rfl⟩
    have := hf.1.1; omega
  refine tri_guard_run rfl rfl rfl ?_
  refine tri_v (opv_fieldAddr rfl rfl) rfl ?_
  refine tri_guard_run rfl rfl rfl ?_
  refine tri_v (opv_load1 rfl rfl rfl) rfl ?_
  refine tri_guard_run rfl rfl rfl ?_
  refine tri_v (opv_gtr rfl rfl) rfl ?_
  refine tri_v (opv_pick_f rfl rfl) rfl ?_
  refine tri_v (opv_move rfl) rfl ?_
  refine tri_split rfl rfl (fun h2 => ?_) (fun h2 => ?_)
  · refine tri_guard_skip rfl rfl rfl rfl ?_
    refine tri_guard_skip rfl rfl rfl rfl ?_
    refine tri_guard_skip rfl rfl rfl rfl ?_
    refine tri_guard_skip rfl rfl rfl rfl ?_
    refine tri_v (opv_pick_t rfl rfl) rfl ?_
    refine tri_v (opv_move rfl) rfl ?_
    refine tri_guard_skip rfl rfl rfl rfl ?_
    refine tri_guard_skip rfl rfl rfl rfl ?_
    refine tri_guard_skip rfl rfl rfl rfl ?_
    refine tri_guard_skip rfl rfl rfl rfl ?_
    refine tri_guard_skip rfl rfl rfl rfl ?_
    refine tri_guard_skip rfl rfl rfl rfl ?_
    refine tri_v (opv_pick_t rfl rfl) rfl ?_
    refine tri_v (opv_move rfl) rfl ?_
    refine tri_guard_skip rfl rfl rfl rfl ?_
    refine tri_guard_skip rfl rfl rfl rfl ?_
    refine tri_guard_skip rfl rfl rfl rfl ?_
    refine tri_guard_skip rfl rfl rfl rfl ?_
    refine tri_guard_skip rfl rfl rfl rfl ?_
    refine tri_guard_skip rfl rfl rfl rfl ?_
    refine tri_v (opv_pick_t rfl rfl) rfl ?_
    refine tri_v (opv_move rfl) rfl ?_
    refine tri_guard_skip rfl rfl rfl rfl ?_
    refine tri_guard_skip rfl rfl rfl rfl ?_
    refine tri_guard_skip rfl rfl rfl rfl ?_
    refine tri_guard_skip rfl rfl rfl rfl ?_
    refine tri_guard_skip rfl rfl rfl rfl ?_
    refine tri_guard_skip rfl rfl rfl rfl ?_
    refine tri_v (opv_pick_t rfl rfl) rfl ?_
    refine tri_nil ?_
    refine tri_then ?_
    refine tri_cond_true rfl ?_
    refine tri_seq ?_
    refine tri_region ?_
    refine tri_v (opv_assign rfl) rfl ?_
    refine tri_nil ?_
    refine tri_then ?_
    refine tri_ret ?_
    refine tri_then_ret ?_
    refine tri_end A Suf.h rfl (.cons (rv_tmp rfl) .nil) ⟨congrArg Value.bool (decide_eq_false fun hf => ?_).symm, rfl, rfl⟩
    have := hf.1.2.1; omega
  refine tri_guard_run rfl rfl rfl ?_
  refine tri_v (opv_fieldAddr rfl rfl) rfl ?_
  refine tri_guard_run rfl rfl rfl ?_
  refine tri_v (opv_load1 rfl rfl rfl) rfl ?_
  refine tri_guard_run rfl rfl rfl ?_
  refine tri_v (opv_len rfl) rfl ?_
  refine tri_guard_run rfl rfl rfl ?_
  refine tri_v (opv_lss rfl rfl) rfl ?_
  refine tri_v (opv_pick_f rfl rfl) rfl ?_
  refine tri_v (opv_move rfl) rfl ?_
  refine tri_split rfl rfl (fun h3 => ?_) (fun h3 => ?_)
  · refine tri_guard_skip rfl rfl rfl rfl ?_
    refine tri_guard_skip rfl rfl rfl rfl ?_
    refine tri_guard_skip rfl rfl rfl rfl ?_
    refine tri_guard_skip rfl rfl rfl rfl ?_
    refine tri_guard_skip rfl rfl rfl rfl ?_
    refine tri_guard_skip rfl rfl rfl rfl ?_
    refine tri_v (opv_pick_t rfl rfl) rfl ?_
    refine tri_v (opv_move rfl) rfl ?_
    refine tri_guard_skip rfl rfl rfl rfl ?_
    refine tri_guard_skip rfl rfl rfl rfl ?_
    refine tri_guard_skip rfl rfl rfl rfl ?_
    refine tri_guard_skip rfl rfl rfl rfl ?_
    refine tri_guard_skip rfl rfl rfl rfl ?_
    refine tri_guard_skip rfl rfl rfl rfl ?_
    refine tri_v (opv_pick_t rfl rfl) rfl ?_
    refine tri_v (opv_move rfl) rfl ?_
    refine tri_guard_skip rfl rfl rfl rfl ?_
    refine tri_guard_skip rfl rfl rfl rfl ?_
    refine tri_guard_skip rfl rfl rfl rfl ?_
    refine tri_guard_skip rfl rfl rfl rfl ?_
    refine tri_guard_skip rfl rfl rfl rfl ?_
    refine tri_guard_skip rfl rfl rfl rfl ?_
    refine tri_v (opv_pick_t rfl rfl) rfl ?_
    refine tri_nil ?_
    refine tri_then ?_
    refine tri_cond_true rfl ?_
    refine tri_seq ?_
    refine tri_region ?_
    refine tri_v (opv_assign rfl) rfl ?_
    refine tri_nil ?_
    refine tri_then ?_
    refine tri_ret ?_
    refine tri_then_ret ?_
    refine tri_end A Suf.h rfl (.cons (rv_tmp rfl) .nil) ⟨congrArg Value.bool (decide_eq_false fun hf => ?_).symm, rfl, rfl⟩
    have := hf.1.2.2.1; omega
  refine tri_guard_run rfl rfl rfl ?_
  refine tri_v (opv_fieldAddr rfl rfl) rfl ?_
  refine tri_guard_run rfl rfl rfl ?_
  refine tri_v (opv_load1 rfl rfl rfl) rfl ?_
  refine tri_guard_run rfl rfl rfl ?_
  refine tri_v (opv_len rfl) rfl ?_
  refine tri_guard_run rfl rfl rfl ?_
  refine tri_v (opv_fieldAddr rfl rfl) rfl ?_
  refine tri_guard_run rfl rfl rfl ?_
  refine tri_v (opv_load1 rfl rfl rfl) rfl ?_
  refine tri_guard_run rfl rfl rfl ?_
  refine tri_v (opv_gtr rfl rfl) rfl ?_
  refine tri_v (opv_pick_f rfl rfl) rfl ?_
  refine tri_v (opv_move rfl) rfl ?_
  refine tri_split rfl rfl (fun h4 => ?_) (fun h4 => ?_)
  · refine tri_guard_skip rfl rfl rfl rfl ?_
    refine tri_guard_skip rfl rfl rfl rfl ?_
    refine tri_guard_skip rfl rfl rfl rfl ?_
    refine tri_guard_skip rfl rfl rfl rfl ?_
    refine tri_guard_skip rfl rfl rfl rfl ?_
    refine tri_guard_skip rfl rfl rfl rfl ?_
    refine tri_v (opv_pick_t rfl rfl) rfl ?_
    refine tri_v (opv_move rfl) rfl ?_
    refine tri_guard_skip rfl rfl rfl rfl ?_
    refine tri_guard_skip rfl rfl rfl rfl ?_
    refine tri_guard_skip rfl rfl rfl rfl ?_
    refine tri_guard_skip rfl rfl rfl rfl ?_
    refine tri_guard_skip rfl rfl rfl rfl ?_
    refine tri_guard_skip rfl rfl rfl rfl ?_
    refine tri_v (opv_pick_t rfl rfl) rfl ?_
    refine tri_nil ?_
    refine tri_then ?_
    refine tri_cond_true rfl ?_
    refine tri_seq ?_
    refine tri_region ?_
    refine tri_v (opv_assign rfl) rfl ?_
    refine tri_nil ?_
    refine tri_then ?_
    refine tri_ret ?_
    refine tri_then_ret ?_
    refine tri_end A Suf.h rfl (.cons (rv_tmp rfl) .nil) ⟨congrArg Value.bool (decide_eq_false fun hf => ?_).symm, rfl, rfl⟩
    have := hf.1.2.2.2.1; omega
  refine tri_guard_run rfl rfl rfl ?_
  refine tri_v (opv_fieldAddr rfl rfl) rfl ?_
  refine tri_guard_run rfl rfl rfl ?_
  refine tri_v (opv_load1 rfl rfl rfl) rfl ?_
  refine tri_guard_run rfl rfl rfl ?_
  refine tri_v (opv_indexAddrS rfl rfl (by omega) (by omega) (by assumption) rfl) rfl ?_
  refine tri_guard_run rfl rfl rfl ?_
  refine tri_v (opv_loadEA rfl (by assumption) rfl (by omega) rfl rfl) rfl ?_
  refine tri_guard_run rfl rfl rfl ?_
  refine tri_v (opv_buildS rfl rfl) rfl ?_
  refine tri_guard_run rfl rfl rfl ?_
  refine tri_v (opv_neqI rfl rfl rfl rfl rfl rfl) rfl ?_
  refine tri_v (opv_pick_f rfl rfl) rfl ?_
  refine tri_v (opv_move rfl) rfl ?_
  refine tri_split rfl rfl (fun h5 => ?_) (fun h5 => ?_)
  · refine tri_guard_skip rfl rfl rfl rfl ?_
    refine tri_guard_skip rfl rfl rfl rfl ?_
    refine tri_guard_skip rfl rfl rfl rfl ?_
    refine tri_guard_skip rfl rfl rfl rfl ?_
    refine tri_guard_skip rfl rfl rfl rfl ?_
    refine tri_guard_skip rfl rfl rfl rfl ?_
    refine tri_v (opv_pick_t rfl rfl) rfl ?_
    refine tri_nil ?_
    refine tri_then ?_
    refine tri_cond_true rfl ?_
    refine tri_seq ?_
    refine tri_region ?_
    refine tri_v (opv_assign rfl) rfl ?_
    refine tri_nil ?_
    refine tri_then ?_
    refine tri_ret ?_
    refine tri_then_ret ?_
    refine tri_end A Suf.h rfl (.cons (rv_tmp rfl) .nil) ⟨congrArg Value.bool (decide_eq_false fun hf => ?_).symm, rfl, rfl⟩
    exact Node.ne_iff'.2 h5 hf.1.2.2.2.2.1
  refine tri_guard_run rfl rfl rfl ?_
  refine tri_v (opv_fieldAddr rfl rfl) rfl ?_
  refine tri_guard_run rfl rfl rfl ?_
  refine tri_v (opv_load1 rfl rfl rfl) rfl ?_
  refine tri_guard_run rfl rfl rfl ?_
  refine tri_v (opv_indexAddrS rfl rfl (by omega) (by omega) (by assumption) rfl) rfl ?_
  refine tri_guard_run rfl rfl rfl ?_
  refine tri_v (opv_loadEA rfl (by assumption) rfl (by omega) rfl rfl) rfl ?_
  refine tri_guard_run rfl rfl rfl ?_
  refine tri_v (opv_buildS rfl rfl) rfl ?_
  refine tri_guard_run rfl rfl rfl ?_
  refine tri_v (opv_neqI rfl rfl rfl rfl rfl rfl) rfl ?_
  refine tri_v (opv_pick_f rfl rfl) rfl ?_
  refine tri_nil ?_
  refine tri_then ?_
  refine tri_cond_dec rfl (fun h6 => ?_) (fun h6 => ?_)
  · refine tri_seq ?_
    refine tri_region ?_
    refine tri_v (opv_assign rfl) rfl ?_
    refine tri_nil ?_
    refine tri_then ?_
    refine tri_ret ?_
    refine tri_then_ret ?_
    refine tri_end A Suf.h rfl (.cons (rv_tmp rfl) .nil) ⟨congrArg Value.bool (decide_eq_false fun hf => ?_).symm, rfl, rfl⟩
    exact Node.ne_iff'.2 h6 hf.1.2.2.2.2.2
  refine tri_skip ?_
  refine tri_then ?_
  refine tri_seq ?_
  refine tri_seq ?_
  refine tri_region ?_
  refine tri_v (opv_assign rfl) rfl ?_
  refine tri_nil ?_
  refine tri_then ?_
  refine tri_block ?_
  have e0 : ns.getD 0 default = R6.n0 := Decidable.not_not.1 fun h => h5 (Node.ne_iff'.1 h)
  have e1 : ns.getD 1 default = R6.n1 := Decidable.not_not.1 fun h => h6 (Node.ne_iff'.1 h)
  refine tri_sub (F' := [(1, pt b 0), (3, .int .i64 (2 : Nat))]) ⟨rfl, rfl, trivial⟩ ?_
  refine loop_ind (G := Nat) (fun i => ns.length - i) (fun i => 2 ≤ i ∧ i ≤ ns.length ∧ (∀ j, j < i → 2 ≤ j → R6.fits ns j) ∧ R6.ModTo ns i) (fun i => [(1, pt b 0), (3, .int .i64 (i : Nat))]) (fun _ => _) (fun _ => _) ?_ 2 ⟨by omega, by omega, fun j h h' => absurd h (by omega), fun j hj => ?_⟩
  · rintro i ⟨hi2, hi, hok, hmi⟩ K hK
    skip
    refine tri_seq ?_
    refine tri_seq ?_
    refine tri_region ?_
    refine tri_v (opv_move rfl) rfl ?_
    refine tri_v (opv_fieldAddr rfl rfl) rfl ?_
    refine tri_v (opv_load1 rfl rfl rfl) rfl ?_
    refine tri_v (opv_len rfl) rfl ?_
    refine tri_v (opv_lss rfl rfl) rfl ?_
    refine tri_nil ?_
    refine tri_then ?_
    refine tri_cond_dec rfl (fun h => ?_) (fun h => ?_)
    · refine tri_skip ?_
      refine tri_then ?_
      refine tri_seq ?_
      refine tri_block ?_
      refine tri_seq ?_
      refine tri_region ?_
      refine tri_v (opv_loadA rfl rfl rfl) rfl ?_
      refine tri_v (opv_move rfl) rfl ?_
      refine tri_g (opg_call (xs := [_, _]) rfl (ref06_fits (n := i) hs hn hr hmi (by omega))) rfl ?_
      rintro _ _ _ ⟨rfl, rfl, rfl⟩
      refine tri_v (opv_notD rfl) rfl ?_
      refine tri_nil ?_
      refine tri_then ?_
      refine tri_cond_dec rfl (fun h7 => ?_) (fun h7 => ?_)
      · refine tri_seq ?_
        refine tri_region ?_
        refine tri_v (opv_assign rfl) rfl ?_
        refine tri_nil ?_
        refine tri_then ?_
        refine tri_ret ?_
        refine tri_inBlock_ret ?_
        refine tri_then_ret ?_
        refine tri_then_ret ?_
        refine tri_inBlock_ret ?_
        refine tri_then_ret ?_
        refine tri_end A Suf.h rfl (.cons (rv_tmp rfl) .nil) ⟨congrArg Value.bool (decide_eq_false fun hf => ?_).symm, rfl, rfl⟩
        exact h7 (hf.2 i (by omega) hi2)
      · refine tri_skip ?_
        refine tri_inBlock ?_
        refine tri_then ?_
        refine tri_region ?_
        refine tri_v (opv_move rfl) rfl ?_
        refine tri_v (opv_add rfl rfl (w64 (by omega) (by omega))) rfl ?_
        refine tri_v (opv_assign rfl) rfl ?_
        refine tri_nil ?_
        refine tri_then ?_
        have hfi : R6.fits ns i := Decidable.not_not.1 h7
        refine tri_sub ?_ (hK (i + 1) ⟨by omega, by omega, fun j hj hj2 => ?_, hmi.step hfi⟩ (by omega))
        · exact ⟨rfl, rfl, trivial⟩
        · by_cases e : j = i
          · subst e; exact hfi
          · exact hok j (by omega) hj2
    · refine tri_exit ?_
      refine tri_then_exit ?_
      refine tri_then_exit ?_
      refine tri_inBlock_hit rfl ?_
      refine tri_then ?_
      refine tri_seq ?_
      refine tri_region ?_
      refine tri_v (opv_assign rfl) rfl ?_
      refine tri_nil ?_
      refine tri_then ?_
      refine tri_ret ?_
      refine tri_end A Suf.h rfl (.cons (rv_tmp rfl) .nil) ⟨congrArg Value.bool (decide_eq_true ?_).symm, rfl, rfl⟩
      exact ⟨⟨by omega, by omega, by omega, by omega, e0, e1⟩, fun j hj hj2 => hok j (by omega) hj2⟩
  · rcases (by omega : j = 0 ∨ j = 1) with rfl | rfl
    · rw [e0]; decide
    · rw [e1]; decide
set_option maxRecDepth 100000 in
theorem ref06_intern {ns : List Node} {a : Option Addr} {cap : Nat} {room q0 q1 q2 q3 : Int} (hs : StA I a cap ns) (hn : ns.length ≤ 1000000000) (hr : R6.Rng ns) :
    FnC Try.prog 48 [storeV a ns.length cap room, int4V q0 q1 q2 q3].toArray A I (fun v A' I' => ∃ a' cap', v = .tuple [storeV a' (R6.intern ns room q0 q1 q2 q3).1.length cap' room, .int .i64 (R6.intern ns room q0 q1 q2 q3).2.1, .int .i64 (R6.intern ns room q0 q1 q2 q3).2.2].toArray ∧ StA I' a' cap' (R6.intern ns room q0 q1 q2 q3).1 ∧ A = A' ∧ I ⊆ I') := by
  refine fn_enter2 Try.func48 rfl Try.ntmps48 rfl fun w0 => ?_
  refine tri_seq ?_
  refine tri_region ?_
  refine tri_g (opg_box_agg rfl) rfl ?_
  rintro _ _ _ ⟨b, rfl, rfl, rfl⟩
  refine tri_g (opg_box_agg rfl) rfl ?_
  rintro _ _ _ ⟨b, rfl, rfl, rfl⟩
  refine tri_g opg_alloc rfl ?_
  rintro _ _ _ ⟨b, rfl, rfl, rfl⟩
  refine tri_v (opv_assign rfl) rfl ?_
  refine tri_v (opv_assign rfl) rfl ?_
  refine tri_nil ?_
  refine tri_then ?_
  refine tri_seq ?_
  refine tri_seq ?_
  refine tri_region ?_
  refine tri_v (opv_loadA rfl rfl rfl) rfl ?_
  refine tri_g (opg_call (xs := [_]) rfl (ref06_right hs.sl hn hr)) rfl ?_
  rintro _ _ _ ⟨rfl, rfl, rfl⟩
  refine tri_v (opv_notD rfl) rfl ?_
  refine tri_nil ?_
  refine tri_then ?_
  refine tri_cond_dec rfl (fun h => ?_) (fun h => ?_)
  · refine tri_seq ?_
    refine tri_region ?_
    refine tri_v (opv_loadA rfl rfl rfl) rfl ?_
    refine tri_g (opg_store rfl rfl rfl rfl rfl rfl) rfl ?_
    rintro _ _ _ ⟨rfl, rfl⟩
    refine tri_v (opv_assign rfl) rfl ?_
    refine tri_v (opv_assign rfl) rfl ?_
    refine tri_nil ?_
    refine tri_then ?_
    refine tri_ret ?_
    refine tri_then_ret ?_
    refine tri_end A Suf.h rfl (.cons (rv_cellA rfl rfl rfl) (.cons (rv_tmp rfl) (.cons (rv_tmp rfl) .nil))) ?_
    rw [show R6.intern ns room q0 q1 q2 q3 = (ns, 0, 1) from if_neg h]
    exact ⟨a, cap, rfl, hs, rfl, fun _ h => h⟩
  · have h' : R6.right ns room := Decidable.not_not.1 h
    rw [show R6.intern ns room q0 q1 q2 q3 = R6.put ns room q0 q1 q2 q3 from if_pos h']
    refine tri_skip ?_
    refine tri_then ?_
    refine tri_seq ?_
    refine tri_region ?_
    refine tri_v (opv_loadA rfl rfl rfl) rfl ?_
    refine tri_v (opv_loadA rfl rfl rfl) rfl ?_
    refine tri_g (opg_call (xs := [_, _]) rfl (ref06_put hs hn h'.modTo.mod)) rfl ?_
    rintro _ _ I2 ⟨a2, cap2, rfl, hs2, rfl, hI2⟩
    refine tri_v (opv_extract rfl rfl) rfl ?_
    refine tri_v (opv_extract rfl rfl) rfl ?_
    refine tri_v (opv_extract rfl rfl) rfl ?_
    refine tri_g (opg_store rfl rfl rfl rfl rfl rfl) rfl ?_
    rintro _ _ _ ⟨rfl, rfl⟩
    refine tri_v (opv_assign rfl) rfl ?_
    refine tri_v (opv_assign rfl) rfl ?_
    refine tri_nil ?_
    refine tri_then ?_
    refine tri_ret ?_
    refine tri_end A Suf.h rfl (.cons (rv_cellA rfl rfl rfl) (.cons (rv_tmp rfl) (.cons (rv_tmp rfl) .nil))) ?_
    exact ⟨a2, cap2, rfl, hs2, rfl, hI2⟩
set_option maxRecDepth 100000 in
theorem ref06_same {l m : List Node} {a b : Option Addr} {cap cap2 : Nat} {room room2 : Int} (hs : SlAt I a l) (ht : SlAt I b m) (hn : l.length ≤ 1000000000) :
    FnC Try.prog 14 [storeV a l.length cap room, storeV b m.length cap2 room2].toArray A I (fun v A' I' => v = .bool (decide (room = room2 ∧ l = m)) ∧ A = A' ∧ I = I') := by
  refine fn_enter2 Try.func14 rfl Try.ntmps14 rfl fun w0 => ?_
  refine tri_seq ?_
  refine tri_region ?_
  refine tri_g (opg_box_agg rfl) rfl ?_
  rintro _ _ _ ⟨b, rfl, rfl, rfl⟩
  refine tri_g (opg_box_agg rfl) rfl ?_
  rintro _ _ _ ⟨b, rfl, rfl, rfl⟩
  refine tri_v (opv_assign rfl) rfl ?_
  refine tri_nil ?_
  refine tri_then ?_
  refine tri_seq ?_
  refine tri_seq ?_
  refine tri_region ?_
  refine tri_v (opv_fieldAddr rfl rfl) rfl ?_
  refine tri_v (opv_load1 rfl rfl rfl) rfl ?_
  refine tri_v (opv_fieldAddr rfl rfl) rfl ?_
  refine tri_v (opv_load1 rfl rfl rfl) rfl ?_
  refine tri_v (opv_neq rfl rfl) rfl ?_
  refine tri_v (opv_move rfl) rfl ?_
  rename_i b1
  revert b
  intro b2
  refine tri_split rfl rfl (fun h0 => ?_) (fun h0 => ?_)
  · refine tri_guard_skip rfl rfl rfl rfl ?_
    refine tri_guard_skip rfl rfl rfl rfl ?_
    refine tri_guard_skip rfl rfl rfl rfl ?_
    refine tri_guard_skip rfl rfl rfl rfl ?_
    refine tri_guard_skip rfl rfl rfl rfl ?_
    refine tri_guard_skip rfl rfl rfl rfl ?_
    refine tri_guard_skip rfl rfl rfl rfl ?_
    refine tri_v (opv_pick_t rfl rfl) rfl ?_
    refine tri_nil ?_
    refine tri_then ?_
    refine tri_cond_true rfl ?_
    refine tri_seq ?_
    refine tri_region ?_
    refine tri_v (opv_assign rfl) rfl ?_
    refine tri_nil ?_
    refine tri_then ?_
    refine tri_ret ?_
    refine tri_then_ret ?_
    refine tri_end A Suf.h rfl (.cons (rv_tmp rfl) .nil) ⟨congrArg Value.bool ?_, rfl, rfl⟩
    exact (decide_eq_false fun h => h0 h.1).symm
  refine tri_guard_run rfl rfl rfl ?_
  refine tri_v (opv_fieldAddr rfl rfl) rfl ?_
  refine tri_guard_run rfl rfl rfl ?_
  refine tri_v (opv_load1 rfl rfl rfl) rfl ?_
  refine tri_guard_run rfl rfl rfl ?_
  refine tri_v (opv_len rfl) rfl ?_
  refine tri_guard_run rfl rfl rfl ?_
  refine tri_v (opv_fieldAddr rfl rfl) rfl ?_
  refine tri_guard_run rfl rfl rfl ?_
  refine tri_v (opv_load1 rfl rfl rfl) rfl ?_
  refine tri_guard_run rfl rfl rfl ?_
  refine tri_v (opv_len rfl) rfl ?_
  refine tri_guard_run rfl rfl rfl ?_
  refine tri_v (opv_neq rfl rfl) rfl ?_
  refine tri_v (opv_pick_f rfl rfl) rfl ?_
  refine tri_nil ?_
  refine tri_then ?_
  refine tri_cond_dec rfl (fun h1 => ?_) (fun h1 => ?_)
  · refine tri_seq ?_
    refine tri_region ?_
    refine tri_v (opv_assign rfl) rfl ?_
    refine tri_nil ?_
    refine tri_then ?_
    refine tri_ret ?_
    refine tri_then_ret ?_
    refine tri_end A Suf.h rfl (.cons (rv_tmp rfl) .nil) ⟨congrArg Value.bool ?_, rfl, rfl⟩
    exact (decide_eq_false fun h => h1 (by rw [h.2])).symm
  refine tri_skip ?_
  refine tri_then ?_
  refine tri_seq ?_
  refine tri_seq ?_
  refine tri_region ?_
  refine tri_v (opv_assign rfl) rfl ?_
  refine tri_nil ?_
  refine tri_then ?_
  refine tri_block ?_
  have hlen : l.length = m.length := by omega
  have hroom : room = room2 := Decidable.not_not.1 h0
  refine tri_sub (F' := [(2, pt b1 0), (3, pt b2 0), (5, .int .i64 (0 : Nat))]) ⟨rfl, rfl, rfl, trivial⟩ ?_
  refine loop_ind (G := Nat) (fun i => l.length - i) (fun i => i ≤ l.length ∧ ∀ j, j < i → l.getD j default = m.getD j default) (fun i => [(2, pt b1 0), (3, pt b2 0), (5, .int .i64 (i : Nat))]) (fun _ => _) (fun _ => _) ?_ 0 ⟨by omega, fun j h => absurd h (by omega)⟩
  rintro i ⟨hi, hok⟩ K hK
  skip
  refine tri_seq ?_
  refine tri_seq ?_
  refine tri_region ?_
  refine tri_v (opv_move rfl) rfl ?_
  refine tri_v (opv_fieldAddr rfl rfl) rfl ?_
  refine tri_v (opv_load1 rfl rfl rfl) rfl ?_
  refine tri_v (opv_len rfl) rfl ?_
  refine tri_v (opv_lss rfl rfl) rfl ?_
  refine tri_nil ?_
  refine tri_then ?_
  refine tri_cond_dec rfl (fun h => ?_) (fun h => ?_)
  · refine tri_skip ?_
    refine tri_then ?_
    refine tri_seq ?_
    refine tri_block ?_
    refine tri_seq ?_
    refine tri_draw [0, 1, 2, 3, 4, 5, 6, 7, 8, 9, 10] rfl [] rfl mixed ?_
    refine th_take rfl rfl (by kernel_rfl)  (opv_fieldAddr rfl rfl) ?_
    refine th_take rfl rfl (by kernel_rfl)  (opv_load1 rfl rfl rfl) ?_
    refine th_take rfl rfl (by kernel_rfl)  (opv_move rfl) ?_
    refine th_take rfl rfl (by kernel_rfl)  (opv_indexAddrSN rfl rfl (by omega) (by assumption) rfl) ?_
    refine th_take rfl rfl (by kernel_rfl)  (opv_loadEA rfl (by assumption) rfl (by omega) rfl rfl) ?_
    refine th_take rfl rfl (by kernel_rfl)  (opv_fieldAddr rfl rfl) ?_
    refine th_take rfl rfl (by kernel_rfl)  (opv_load1 rfl rfl rfl) ?_
    refine th_take rfl rfl (by kernel_rfl)  (opv_move rfl) ?_
    refine th_take rfl rfl (by kernel_rfl)  (opv_indexAddrSN rfl rfl (by omega) (by assumption) rfl) ?_
    refine th_take rfl rfl (by kernel_rfl)  (opv_loadEA rfl (by assumption) rfl (by omega) rfl rfl) ?_
    refine th_take rfl rfl (by kernel_rfl)  (opv_neqI rfl rfl rfl rfl rfl rfl) ?_
    refine th_done (by kernel_rfl) ?_
    refine tri_then ?_
    refine tri_cond_dec rfl (fun h1 => ?_) (fun h1 => ?_)
    · refine tri_seq ?_
      refine tri_region ?_
      refine tri_v (opv_assign rfl) rfl ?_
      refine tri_nil ?_
      refine tri_then ?_
      refine tri_ret ?_
      refine tri_inBlock_ret ?_
      refine tri_then_ret ?_
      refine tri_then_ret ?_
      refine tri_inBlock_ret ?_
      refine tri_then_ret ?_
      refine tri_end A Suf.h rfl (.cons (rv_tmp rfl) .nil) ⟨congrArg Value.bool ?_, rfl, rfl⟩
      exact (decide_eq_false fun h => Node.ne_iff'.2 h1 (by rw [h.2])).symm
    · refine tri_skip ?_
      refine tri_inBlock ?_
      refine tri_then ?_
      refine tri_region ?_
      refine tri_v (opv_move rfl) rfl ?_
      refine tri_v (opv_add rfl rfl (w64 (by omega) (by omega))) rfl ?_
      refine tri_v (opv_assign rfl) rfl ?_
      refine tri_nil ?_
      refine tri_then ?_
      refine tri_sub ?_ (hK (i + 1) ⟨by omega, fun j hj => ?_⟩ (by omega))
      · exact ⟨rfl, rfl, rfl, trivial⟩
      · by_cases e : j = i
        · subst e
          exact Decidable.not_not.1 fun h => h1 (Node.ne_iff'.1 h)
        · exact hok j (by omega)
  · refine tri_exit ?_
    refine tri_then_exit ?_
    refine tri_then_exit ?_
    refine tri_inBlock_hit rfl ?_
    refine tri_then ?_
    refine tri_seq ?_
    refine tri_region ?_
    refine tri_v (opv_assign rfl) rfl ?_
    refine tri_nil ?_
    refine tri_then ?_
    refine tri_ret ?_
    refine tri_end A Suf.h rfl (.cons (rv_tmp rfl) .nil) ⟨congrArg Value.bool ?_, rfl, rfl⟩
    refine (decide_eq_true ⟨hroom, List.ext_getElem hlen fun j h1 h2 => ?_⟩).symm
    have := hok j (by omega)
    simpa [h1, h2] using this
end Go.GL

set_option linter.unusedVariables false
namespace Go.GL
/-! ### Layer 8, as the document has it -/
namespace R8
def may (ns : List Node) (room n lv : Int) : Prop := R6.right ns room ∧ R6.inS ns n ∧ lv ≤ (R6.nd ns n).lv
instance (ns : List Node) (room n lv : Int) : Decidable (may ns room n lv) := inferInstanceAs (Decidable (_ ∧ _))
def s16 (ns : List Node) (n : Int) : List Int :=
  let a := R6.nd ns (R6.nd ns n).k0
  let b := R6.nd ns (R6.nd ns n).k1
  let c := R6.nd ns (R6.nd ns n).k2
  let d := R6.nd ns (R6.nd ns n).k3
  [a.k0, a.k1, b.k0, b.k1, a.k2, a.k3, b.k2, b.k3, c.k0, c.k1, d.k0, d.k1, c.k2, c.k3, d.k2, d.k3]
def g (l : List Int) (i : Int) : Int := l.getD i.toNat default
def putSq (ns : List Node) (room : Int) (l : List Int) (y x : Int) : List Node × Int × Int := R6.put ns room (g l (4 * y + x)) (g l (4 * y + x + 1)) (g l (4 * y + x + 4)) (g l (4 * y + x + 5))
/-- What tells a store, nine nodes and an error. -/
abbrev R9 := List Node × List Int × Int
def z9 : List Int := [0, 0, 0, 0, 0, 0, 0, 0, 0]
def all (ns : List Node) (room n : Int) : R9 :=
  let l := s16 ns n
  let p0 := putSq ns room l 0 0
  if p0.2.2 ≠ 0 then (ns, z9, p0.2.2) else
  let p1 := putSq p0.1 room l 0 1
  if p1.2.2 ≠ 0 then (ns, z9, p1.2.2) else
  let p2 := putSq p1.1 room l 0 2
  if p2.2.2 ≠ 0 then (ns, z9, p2.2.2) else
  let p3 := putSq p2.1 room l 1 0
  if p3.2.2 ≠ 0 then (ns, z9, p3.2.2) else
  let p4 := putSq p3.1 room l 1 1
  if p4.2.2 ≠ 0 then (ns, z9, p4.2.2) else
  let p5 := putSq p4.1 room l 1 2
  if p5.2.2 ≠ 0 then (ns, z9, p5.2.2) else
  let p6 := putSq p5.1 room l 2 0
  if p6.2.2 ≠ 0 then (ns, z9, p6.2.2) else
  let p7 := putSq p6.1 room l 2 1
  if p7.2.2 ≠ 0 then (ns, z9, p7.2.2) else
  let p8 := putSq p7.1 room l 2 2
  if p8.2.2 ≠ 0 then (ns, z9, p8.2.2) else
  (p8.1, [p0.2.1, p1.2.1, p2.2.1, p3.2.1, p4.2.1, p5.2.1, p6.2.1, p7.2.1, p8.2.1], 0)
def about (l : List Int) (y x : Int) : Nat → Int
  | 0 => 0
  | i + 1 => about l y x i + if i = 4 then 0 else g l (4 * (y + (i : Int) / 3 - 1) + x + (i : Int) % 3 - 1)
def bit (l : List Int) (y x : Int) : Int := if R2.lives (decide (g l (4 * y + x) = 1)) (about l y x 9) = true then 1 else 0
def one (ns : List Node) (room n : Int) : List Node × Int × Int := R6.put ns room (bit (s16 ns n) 1 1) (bit (s16 ns n) 1 2) (bit (s16 ns n) 2 1) (bit (s16 ns n) 2 2)
def centre (ns : List Node) (room n : Int) : List Node × Int × Int := if may ns room n 2 then putSq ns room (s16 ns n) 1 1 else (ns, 0, 1)
def nine (ns : List Node) (room n : Int) : R9 := if may ns room n 2 then all ns room n else (ns, z9, 1)
def step (ns : List Node) (room n : Int) : List Node × Int × Int := if may ns room n 2 ∧ (R6.nd ns n).lv = 2 then one ns room n else (ns, 0, 1)
end R8
def Nine (r : R8.R9) (room : Int) (A : List Asrt) (I : List Chunk) : Value → List Asrt → List Chunk → Prop :=
  fun v A' I' => ∃ a' cap' q0 q1 q2 q3 q4 q5 q6 q7 q8, r.2.1 = [q0, q1, q2, q3, q4, q5, q6, q7, q8] ∧ v = .tuple [storeV a' r.1.length cap' room, .agg [.int .i64 q0, .int .i64 q1, .int .i64 q2, .int .i64 q3, .int .i64 q4, .int .i64 q5, .int .i64 q6, .int .i64 q7, .int .i64 q8].toArray, .int .i64 r.2.2].toArray ∧ StA I' a' cap' r.1 ∧ A = A' ∧ I ⊆ I'
end Go.GL

set_option linter.unusedVariables false
namespace Go.GL
namespace R6
theorem atFrom_snoc (k : List Int) (x : Node) : ∀ (ns : List Node) (i : Nat), atFrom k i (ns ++ [x]) = if 0 ≤ atFrom k i ns then atFrom k i ns else if x.kids = k then ((i + ns.length : Nat) : Int) else -1
  | [], i => by
    simp only [List.nil_append, atFrom, List.length_nil, Nat.add_zero]
    rw [if_neg (by decide : ¬ (0:Int) ≤ -1)]
  | y :: ns, i => by
    simp only [List.cons_append, atFrom]
    split
    · rw [if_pos (by omega)]
    · rw [atFrom_snoc k x ns (i + 1), List.length_cons, show i + 1 + ns.length = i + (ns.length + 1) by omega]
theorem at_snoc {ns : List Node} (h : 2 ≤ ns.length) (k : List Int) (x : Node) : at_ (ns ++ [x]) k = if 0 ≤ at_ ns k then at_ ns k else if x.kids = k then (ns.length : Int) else -1 := by
  unfold at_
  rw [List.drop_append_of_le_length h, atFrom_snoc, List.length_drop, show 2 + (ns.length - 2) = ns.length by omega]
theorem atFrom_ge (k : List Int) : ∀ (ns : List Node) (i : Nat), atFrom k i ns = -1 ∨ ((i : Int) ≤ atFrom k i ns ∧ atFrom k i ns < ((i + ns.length : Nat) : Int))
  | [], i => .inl rfl
  | y :: ns, i => by
    simp only [atFrom, List.length_cons]
    split
    · right; omega
    · rcases atFrom_ge k ns (i + 1) with h | h
      · exact .inl h
      · right; omega
theorem at_ge {ns : List Node} (h : 2 ≤ ns.length) (k : List Int) : at_ ns k = -1 ∨ (2 ≤ at_ ns k ∧ at_ ns k < ns.length) := by
  have := atFrom_ge k (ns.drop 2) 2
  rw [List.length_drop] at this
  unfold at_
  rcases this with h1 | h1
  · exact .inl h1
  · right; omega
end R6
namespace R6
theorem atFrom_append (k : List Int) (ys : List Node) : ∀ (xs : List Node) (i : Nat), atFrom k i (xs ++ ys) = if 0 ≤ atFrom k i xs then atFrom k i xs else atFrom k (i + xs.length) ys
  | [], i => by
    have h : atFrom k i [] = -1 := rfl
    rw [List.nil_append, if_neg (by rw [h]; decide), List.length_nil, Nat.add_zero]
  | x :: xs, i => by
    simp only [List.cons_append, atFrom]
    split
    · rw [if_pos (by omega)]
    · rw [atFrom_append k ys xs (i + 1), List.length_cons, show i + 1 + xs.length = i + (xs.length + 1) by omega]
theorem at_take {ns : List Node} {n : Nat} (h2 : 2 ≤ n) (hn : n < ns.length) : at_ ns (ns.getD n default).kids = if 0 ≤ at_ (ns.take n) (ns.getD n default).kids then at_ (ns.take n) (ns.getD n default).kids else n := by
  have e : ns.drop 2 = (ns.take n).drop 2 ++ ns.drop n := by
    rw [← List.drop_append_of_le_length (by rw [List.length_take]; omega), List.take_append_drop]
  unfold at_
  rw [e, atFrom_append]
  have hl : ((ns.take n).drop 2).length = n - 2 := by rw [List.length_drop, List.length_take]; omega
  rw [hl, show 2 + (n - 2) = n by omega, List.drop_eq_getElem_cons hn]
  simp only [atFrom]
  rw [show ns.getD n default = ns[n] by simp [hn], if_pos rfl]
theorem nd_take {ns : List Node} {n : Nat} {q : Int} (h : q < n) (h2 : 2 ≤ n) : nd (ns.take n) q = nd ns q := by
  unfold nd
  have hq : q.toNat < n := by omega
  rw [List.getD_eq_getElem?_getD, List.getD_eq_getElem?_getD, List.getElem?_take_of_lt hq]
theorem fits_iff {ns : List Node} {n : Nat} (h2 : 2 ≤ n) (hn : n < ns.length) (hm : ModTo ns n) : fits ns n ↔ ¬ 0 ≤ at_ (ns.take n) (ns.getD n default).kids ∧ fit4 (ns.take n) (ns.getD n default).k0 (ns.getD n default).k1 (ns.getD n default).k2 (ns.getD n default).k3 ∧ mk4 (ns.take n) (ns.getD n default).k0 (ns.getD n default).k1 (ns.getD n default).k2 (ns.getD n default).k3 = ns.getD n default := by
  have hat := at_take h2 hn
  have hge := at_ge (ns := ns.take n) (by rw [List.length_take]; omega) (ns.getD n default).kids
  have hl : (ns.take n).length = n := by rw [List.length_take]; omega
  unfold fits fitsX kidOk fit4 inS mk4
  rw [hl]
  rw [hl] at hge
  generalize hx : ns.getD n default = x at *
  have pop : x.k0 < n → x.k1 < n → x.k2 < n → x.k3 < n → pop4 (ns.take n) x.k0 x.k1 x.k2 x.k3 = pop4 ns x.k0 x.k1 x.k2 x.k3 := fun a b c d => by
    unfold pop4
    rw [nd_take a h2, nd_take b h2, nd_take c h2, nd_take d h2]
  constructor
  · rintro ⟨⟨a0, a1, a2⟩, ⟨b0, b1, b2⟩, ⟨c0, c1, c2⟩, ⟨d0, d1, d2⟩, e1, e2, e3, e4⟩
    rw [e4] at hat
    rw [nd_take a1 h2, nd_take b1 h2, nd_take c1 h2, nd_take d1 h2, pop a1 b1 c1 d1]
    refine ⟨fun h => ?_, ⟨⟨a0, a1⟩, ⟨⟨b0, b1⟩, by omega⟩, ⟨⟨c0, c1⟩, by omega⟩, ⟨⟨d0, d1⟩, by omega⟩, by omega⟩, ?_⟩
    · rw [if_pos h] at hat
      omega
    · rw [← e3, a2]
      cases x
      simp
  · rintro ⟨h1, ⟨⟨a0, a1⟩, ⟨⟨b0, b1⟩, b2⟩, ⟨⟨c0, c1⟩, c2⟩, ⟨⟨d0, d1⟩, d2⟩, e1⟩, e2⟩
    rw [if_neg h1] at hat
    rw [nd_take a1 h2, nd_take b1 h2] at b2
    rw [nd_take a1 h2, nd_take c1 h2] at c2
    rw [nd_take a1 h2, nd_take d1 h2] at d2
    rw [nd_take a1 h2] at e1 e2
    rw [pop a1 b1 c1 d1] at e2
    have f1 : (nd ns x.k0).lv + 1 = x.lv := congrArg Node.lv e2
    have f2 : pop4 ns x.k0 x.k1 x.k2 x.k3 = x.pop := congrArg Node.pop e2
    have f3 := (hm.at (k := x.k0) (by omega) (by omega)).1
    have f3' : 0 ≤ (nd ns x.k0).lv := f3
    exact ⟨⟨a0, a1, by omega⟩, ⟨b0, b1, by omega⟩, ⟨c0, c1, by omega⟩, ⟨d0, d1, by omega⟩, by omega, by omega, f2.symm, hat⟩
theorem ModTo.take {ns : List Node} {n : Nat} (h : ModTo ns n) : Mod (ns.take n) := by
  intro x hx
  obtain ⟨i, hi, rfl⟩ := List.getElem_of_mem hx
  rw [List.length_take] at hi
  have := h i (by omega)
  rw [List.getElem_take]
  have hi2 : i < ns.length := by omega
  simpa [hi2, cap62] using this
end R6
theorem mfind_mset (es : KVs) (k k' : List Int) (v : Value) : mfind (mset es k v) k' = if k = k' then some v else mfind es k' := by
  induction es with
  | nil => simp [mset, mfind]
  | cons p es ih =>
    simp only [mset]
    by_cases h : p.1 = k
    · rw [if_pos h]
      simp only [mfind]
      by_cases h2 : k = k'
      · simp [h2]
      · rw [if_neg h2, if_neg h2, if_neg (by rw [h]; exact h2)]
    · rw [if_neg h]
      simp only [mfind, ih]
      by_cases h2 : k = k'
      · subst h2; simp [h]
      · simp [h2]
/-- The map tells each node's place by its kids. -/
def Idx (ns : List Node) (es : KVs) : Prop := ∀ k, mfind es k = if 0 ≤ R6.at_ ns k then some (.int .i64 (R6.at_ ns k)) else none
theorem Idx.snoc {ns : List Node} {es : KVs} (h : Idx ns es) (h2 : 2 ≤ ns.length) (x : Node) (hx : ¬ 0 ≤ R6.at_ ns x.kids) : Idx (ns ++ [x]) (mset es x.kids (.int .i64 ns.length)) := by
  intro k
  rw [mfind_mset, h k, R6.at_snoc h2]
  by_cases e : x.kids = k
  · subst e
    have h0 : (0:Int) ≤ (ns.length : Int) := Int.natCast_nonneg _
    rw [if_pos rfl, if_neg hx, if_pos rfl, if_pos h0]
  · rw [if_neg e, if_neg e]
    split
    · rfl
    · rename_i h3; rw [if_neg (by decide : ¬ (0:Int) ≤ -1)]
theorem Idx.start : Idx [R6.n0, R6.n1] [] := by
  intro k
  rfl
/-- An index as the program holds it. -/
def IdxA (P : Program) (kt E : TypeId) (T : TypeId) (bx : Nat) (ns : List Node) (room : Int) (A : List Asrt) : List Asrt → Prop := fun L => ∃ a cap mb es, L = Box bx [.slice a ns.length cap, .int .i64 room, .map (some mb)] T :: Row a cap ns.length E 6 (encs ns) :: MapA P kt mb es :: A ∧ Idx ns es
end Go.GL

set_option linter.unusedVariables false
namespace Go.GL
open Go.Proofs
attribute [local irreducible] wpList Code.wp Exit.then Exit.inBlock Ends Tri TriH OpV OpG FnC epf wpAnyH
theorem clone_nodes {A : List Asrt} {I : List Chunk} {ns : List Node} {a : Option Addr} {cap : Nat} (hs : SlAt I a ns) (hn : ns.length ≤ 1000000000) (h0 : 0 < ns.length) :
    FnC Try.prog 72 [.slice a ns.length cap].toArray A I (fun v A' I' => ∃ a' cap', v = .slice a' ns.length cap' ∧ A' = Row a' cap' ns.length 45 6 (encs ns) :: A ∧ I = I') := by
  have hsome := hs.some h0
  have hnone : a.isNone = false := by cases a <;> simp_all
  skip
  refine fn_enter1 Try.func72 rfl Try.ntmps72 rfl fun w0 => ?_
  refine tri_seq ?_
  refine tri_region ?_
  refine tri_v (opv_assign rfl) rfl ?_
  refine tri_nil ?_
  refine tri_then ?_
  refine tri_seq ?_
  refine tri_seq ?_
  refine tri_region ?_
  refine tri_v (opv_move rfl) rfl ?_
  refine tri_v (opv_eqlNil rfl rfl) rfl ?_
  refine tri_nil ?_
  refine tri_then ?_
  refine tri_cond_false (congrArg some (congrArg Value.bool hnone)) ?_
  refine tri_skip ?_
  refine tri_then ?_
  refine tri_seq ?_
  refine tri_region ?_
  refine tri_g (opg_buildSlice rfl rfl rfl rfl) rfl ?_
  rintro _ _ _ ⟨b5, rfl, rfl, rfl⟩
  refine tri_v (opv_move rfl) rfl ?_
  refine tri_boxRow (k := 0) (sz := 6) rfl ?_
  refine tri_g (opg_appendS rfl rfl hs rfl rfl (by omega) rfl) rfl ?_
  rintro _ _ _ ⟨a2, cap2, rfl, rfl, rfl⟩
  refine tri_v (opv_assign rfl) rfl ?_
  refine tri_nil ?_
  refine tri_then ?_
  refine tri_ret ?_
  refine tri_rowEq (len' := ns.length) (cells' := encs ns) (by omega) rfl ?_
  refine tri_end _ (⟨[], rfl⟩) rfl (.cons (rv_tmp rfl) .nil) ⟨a2, cap2, ?_, rfl, rfl⟩
  rw [Nat.zero_add]; rfl
set_option maxHeartbeats 1000000 in
set_option maxRecDepth 100000 in
theorem node_parent {A : List Asrt} {I : List Chunk} {ns : List Node} {a : Option Addr} {cap bx : Nat} {room q0 q1 q2 q3 : Int} {mv : Value} (hn : ns.length ≤ 1000000000) (hm : R6.Mod ns) :
    FnC Try.prog 71 [pt bx 0, int4V q0 q1 q2 q3].toArray (Box bx [.slice a ns.length cap, .int .i64 room, mv] 73 :: Row a cap ns.length 45 6 (encs ns) :: A) I (fun v A' I' => (∃ z ok, v = .tuple [nodeV z, .bool ok].toArray ∧ (ok = true ↔ R6.fit4 ns q0 q1 q2 q3) ∧ (ok = true → z = R6.mk4 ns q0 q1 q2 q3)) ∧ A' = (Box bx [.slice a ns.length cap, .int .i64 room, mv] 73 :: Row a cap ns.length 45 6 (encs ns) :: A) ∧ I = I') := by
  have bad : ∀ z, ¬ R6.fit4 ns q0 q1 q2 q3 → ∃ z' ok, Value.tuple [nodeV z, .bool false].toArray = .tuple [nodeV z', .bool ok].toArray ∧ (ok = true ↔ R6.fit4 ns q0 q1 q2 q3) ∧ (ok = true → z' = R6.mk4 ns q0 q1 q2 q3) :=
    fun z h => ⟨z, false, rfl, ⟨fun h2 => absurd h2 (by decide), fun h2 => absurd h2 h⟩, fun h2 => absurd h2 (by decide)⟩
  skip
  refine fn_enter2 Try.func71 rfl Try.ntmps71 rfl fun w0 => ?_
  refine tri_seq ?_
  refine tri_region ?_
  refine tri_g (opg_box_agg rfl) rfl ?_
  rintro _ _ _ ⟨b3, rfl, rfl, rfl⟩
  refine tri_g opg_alloc rfl ?_
  rintro _ _ _ ⟨b4, rfl, rfl, rfl⟩
  refine tri_v (opv_assign rfl) rfl ?_
  refine tri_nil ?_
  refine tri_then ?_
  refine tri_seq ?_
  refine tri_seq ?_
  refine tri_region ?_
  refine tri_v (opv_loadA rfl rfl rfl) rfl ?_
  refine tri_v (opv_move rfl) rfl ?_
  refine tri_nil ?_
  refine tri_then ?_
  refine tri_block ?_
  refine tri_rounds 5 ?_
  refine tri_round ?_
  refine tri_seq ?_
  refine tri_region ?_
  refine tri_v (opv_lss rfl rfl) rfl ?_
  refine tri_nil ?_
  refine tri_then ?_
  refine tri_seq ?_
  refine tri_cond_is rfl (by decide) ?_
  refine tri_skip ?_
  refine tri_then ?_
  refine tri_seq ?_
  refine tri_block ?_
  refine tri_seq ?_
  refine tri_region ?_
  refine tri_v (opv_move rfl) rfl ?_
  refine tri_v (opv_index rfl rfl (by decide) (by decide) rfl rfl) rfl ?_
  refine tri_v (opv_assign rfl) rfl ?_
  refine tri_v (opv_assign rfl) rfl ?_
  refine tri_nil ?_
  refine tri_then ?_
  refine tri_seq ?_
  refine tri_seq ?_
  refine tri_region ?_
  refine tri_v (opv_move rfl) rfl ?_
  refine tri_v (opv_lss rfl rfl) rfl ?_
  refine tri_v (opv_move rfl) rfl ?_
  refine tri_split rfl rfl (fun h0a => ?_) (fun h0a => ?_)
  · refine tri_guard_skip rfl rfl rfl rfl ?_
    refine tri_guard_skip rfl rfl rfl rfl ?_
    refine tri_guard_skip rfl rfl rfl rfl ?_
    refine tri_guard_skip rfl rfl rfl rfl ?_
    refine tri_guard_skip rfl rfl rfl rfl ?_
    refine tri_guard_skip rfl rfl rfl rfl ?_
    refine tri_guard_skip rfl rfl rfl rfl ?_
    refine tri_guard_skip rfl rfl rfl rfl ?_
    refine tri_v (opv_pick_t rfl rfl) rfl ?_
    refine tri_nil ?_
    refine tri_then ?_
    refine tri_cond_true rfl ?_
    refine tri_seq ?_
    refine tri_region ?_
    refine tri_v (opv_loadA rfl rfl rfl) rfl ?_
    refine tri_g (opg_store rfl rfl rfl rfl rfl rfl) rfl ?_
    rintro _ _ _ ⟨rfl, rfl⟩
    refine tri_v (opv_assign rfl) rfl ?_
    refine tri_nil ?_
    refine tri_then ?_
    refine tri_ret ?_
    refine tri_then_ret ?_
    refine tri_inBlock_ret ?_
    refine tri_then_ret ?_
    refine tri_then_ret ?_
    refine tri_inBlock_ret ?_
    refine tri_then_ret ?_
    refine tri_end _ (⟨[_, _], rfl⟩) rfl (.cons (rv_cellA rfl rfl rfl) (.cons (rv_tmp rfl) .nil)) ⟨bad ⟨_, _, _, _, _, _⟩ ?_, rfl, rfl⟩
    unfold R6.fit4 R6.inS; omega
  refine tri_guard_run rfl rfl rfl ?_
  refine tri_v (opv_move rfl) rfl ?_
  refine tri_guard_run rfl rfl rfl ?_
  refine tri_v (opv_move rfl) rfl ?_
  refine tri_guard_run rfl rfl rfl ?_
  refine tri_v (opv_nilCheck rfl) rfl ?_
  refine tri_guard_run rfl rfl rfl ?_
  refine tri_v (opv_fieldAddr rfl rfl) rfl ?_
  refine tri_guard_run rfl rfl rfl ?_
  refine tri_v (opv_fieldAddr rfl rfl) rfl ?_
  refine tri_guard_run rfl rfl rfl ?_
  refine tri_v (opv_load1 rfl rfl rfl) rfl ?_
  refine tri_guard_run rfl rfl rfl ?_
  refine tri_v (opv_len rfl) rfl ?_
  refine tri_guard_run rfl rfl rfl ?_
  refine tri_v (opv_geq rfl rfl) rfl ?_
  refine tri_v (opv_pick_f rfl rfl) rfl ?_
  refine tri_nil ?_
  refine tri_then ?_
  refine tri_cond_dec rfl (fun h0b => ?_) (fun h0b => ?_)
  · refine tri_seq ?_
    refine tri_region ?_
    refine tri_v (opv_loadA rfl rfl rfl) rfl ?_
    refine tri_g (opg_store rfl rfl rfl rfl rfl rfl) rfl ?_
    rintro _ _ _ ⟨rfl, rfl⟩
    refine tri_v (opv_assign rfl) rfl ?_
    refine tri_nil ?_
    refine tri_then ?_
    refine tri_ret ?_
    refine tri_then_ret ?_
    refine tri_inBlock_ret ?_
    refine tri_then_ret ?_
    refine tri_then_ret ?_
    refine tri_inBlock_ret ?_
    refine tri_then_ret ?_
    refine tri_end _ (⟨[_, _], rfl⟩) rfl (.cons (rv_cellA rfl rfl rfl) (.cons (rv_tmp rfl) .nil)) ⟨bad ⟨_, _, _, _, _, _⟩ ?_, rfl, rfl⟩
    unfold R6.fit4 R6.inS; omega
  have b0 := hm.at h0a h0b
  refine tri_skip ?_
  refine tri_then ?_
  refine tri_seq ?_
  refine tri_region ?_
  refine tri_v (opv_move rfl) rfl ?_
  refine tri_v (opv_nilCheck rfl) rfl ?_
  refine tri_v (opv_fieldAddr rfl rfl) rfl ?_
  refine tri_v (opv_fieldAddr rfl rfl) rfl ?_
  refine tri_v (opv_load1 rfl rfl rfl) rfl ?_
  refine tri_v (opv_move rfl) rfl ?_
  refine tri_v (opv_indexAddrR rfl rfl (by omega) (by omega)) rfl ?_
  refine tri_v (opv_loadRXA rfl rfl (by omega) rfl rfl rfl) rfl ?_
  refine tri_g opg_alloc rfl ?_
  rintro _ _ _ ⟨b8, rfl, rfl, rfl⟩
  refine tri_g (opg_store rfl rfl rfl rfl rfl rfl) rfl ?_
  rintro _ _ _ ⟨rfl, rfl⟩
  refine tri_nil ?_
  refine tri_then ?_
  refine tri_seq ?_
  refine tri_seq ?_
  refine tri_region ?_
  refine tri_v (opv_move rfl) rfl ?_
  refine tri_v (opv_gtr rfl rfl) rfl ?_
  refine tri_v (opv_move rfl) rfl ?_
  refine tri_false rfl rfl (by decide) ?_
  refine tri_guard_skip rfl rfl rfl rfl ?_
  refine tri_guard_skip rfl rfl rfl rfl ?_
  refine tri_guard_skip rfl rfl rfl rfl ?_
  refine tri_guard_skip rfl rfl rfl rfl ?_
  refine tri_guard_skip rfl rfl rfl rfl ?_
  refine tri_guard_skip rfl rfl rfl rfl ?_
  refine tri_v (opv_pick_f rfl rfl) rfl ?_
  refine tri_nil ?_
  refine tri_then ?_
  refine tri_cond_false rfl ?_
  refine tri_skip ?_
  refine tri_then ?_
  refine tri_seq ?_
  refine tri_region ?_
  refine tri_v (opv_fieldAddr rfl rfl) rfl ?_
  refine tri_v (opv_load1 rfl rfl rfl) rfl ?_
  refine tri_v (opv_add rfl rfl (w64 (by omega) (by omega))) rfl ?_
  refine tri_v (opv_fieldAddr rfl rfl) rfl ?_
  refine tri_g (opg_store rfl rfl rfl rfl rfl rfl) rfl ?_
  rintro _ _ _ ⟨rfl, rfl⟩
  refine tri_nil ?_
  refine tri_then ?_
  refine tri_region ?_
  refine tri_v (opv_fieldAddr rfl rfl) rfl ?_
  refine tri_v (opv_load1 rfl rfl rfl) rfl ?_
  refine tri_v (opv_fieldAddr rfl rfl) rfl ?_
  refine tri_v (opv_load1 rfl rfl rfl) rfl ?_
  refine tri_v (opv_add rfl rfl (w64 (by omega) (by omega))) rfl ?_
  refine tri_v (opv_min2 rfl rfl) rfl ?_
  refine tri_v (opv_fieldAddr rfl rfl) rfl ?_
  refine tri_g (opg_store rfl rfl rfl rfl rfl rfl) rfl ?_
  rintro _ _ _ ⟨rfl, rfl⟩
  refine tri_nil ?_
  refine tri_inBlock ?_
  refine tri_then ?_
  refine tri_region ?_
  refine tri_v (opv_add rfl rfl (w64 (by omega) (by omega))) rfl ?_
  refine tri_v (opv_move rfl) rfl ?_
  refine tri_nil ?_
  refine tri_then ?_
  refine tri_round ?_
  refine tri_seq ?_
  refine tri_region ?_
  refine tri_v (opv_lss rfl rfl) rfl ?_
  refine tri_nil ?_
  refine tri_then ?_
  refine tri_seq ?_
  have e0 := R6.mn_bd (x := 0 + (ns.getD q0.toNat default).pop) (by omega)
  refine tri_drop ?_
  skip
  refine tri_cond_is rfl (by decide) ?_
  refine tri_skip ?_
  refine tri_then ?_
  refine tri_seq ?_
  refine tri_block ?_
  refine tri_seq ?_
  refine tri_region ?_
  refine tri_v (opv_move rfl) rfl ?_
  refine tri_v (opv_index rfl rfl (by decide) (by decide) rfl rfl) rfl ?_
  refine tri_v (opv_assign rfl) rfl ?_
  refine tri_v (opv_assign rfl) rfl ?_
  refine tri_nil ?_
  refine tri_then ?_
  refine tri_seq ?_
  refine tri_seq ?_
  refine tri_region ?_
  refine tri_v (opv_move rfl) rfl ?_
  refine tri_v (opv_lss rfl rfl) rfl ?_
  refine tri_v (opv_move rfl) rfl ?_
  refine tri_split rfl rfl (fun h1a => ?_) (fun h1a => ?_)
  · refine tri_guard_skip rfl rfl rfl rfl ?_
    refine tri_guard_skip rfl rfl rfl rfl ?_
    refine tri_guard_skip rfl rfl rfl rfl ?_
    refine tri_guard_skip rfl rfl rfl rfl ?_
    refine tri_guard_skip rfl rfl rfl rfl ?_
    refine tri_guard_skip rfl rfl rfl rfl ?_
    refine tri_guard_skip rfl rfl rfl rfl ?_
    refine tri_guard_skip rfl rfl rfl rfl ?_
    refine tri_v (opv_pick_t rfl rfl) rfl ?_
    refine tri_nil ?_
    refine tri_then ?_
    refine tri_cond_true rfl ?_
    refine tri_seq ?_
    refine tri_region ?_
    refine tri_v (opv_loadA rfl rfl rfl) rfl ?_
    refine tri_g (opg_store rfl rfl rfl rfl rfl rfl) rfl ?_
    rintro _ _ _ ⟨rfl, rfl⟩
    refine tri_v (opv_assign rfl) rfl ?_
    refine tri_nil ?_
    refine tri_then ?_
    refine tri_ret ?_
    refine tri_then_ret ?_
    refine tri_inBlock_ret ?_
    refine tri_then_ret ?_
    refine tri_then_ret ?_
    refine tri_inBlock_ret ?_
    refine tri_then_ret ?_
    refine tri_end _ (⟨[_, _], rfl⟩) rfl (.cons (rv_cellA rfl rfl rfl) (.cons (rv_tmp rfl) .nil)) ⟨bad ⟨_, _, _, _, _, _⟩ ?_, rfl, rfl⟩
    unfold R6.fit4 R6.inS; omega
  refine tri_guard_run rfl rfl rfl ?_
  refine tri_v (opv_move rfl) rfl ?_
  refine tri_guard_run rfl rfl rfl ?_
  refine tri_v (opv_move rfl) rfl ?_
  refine tri_guard_run rfl rfl rfl ?_
  refine tri_v (opv_nilCheck rfl) rfl ?_
  refine tri_guard_run rfl rfl rfl ?_
  refine tri_v (opv_fieldAddr rfl rfl) rfl ?_
  refine tri_guard_run rfl rfl rfl ?_
  refine tri_v (opv_fieldAddr rfl rfl) rfl ?_
  refine tri_guard_run rfl rfl rfl ?_
  refine tri_v (opv_load1 rfl rfl rfl) rfl ?_
  refine tri_guard_run rfl rfl rfl ?_
  refine tri_v (opv_len rfl) rfl ?_
  refine tri_guard_run rfl rfl rfl ?_
  refine tri_v (opv_geq rfl rfl) rfl ?_
  refine tri_v (opv_pick_f rfl rfl) rfl ?_
  refine tri_nil ?_
  refine tri_then ?_
  refine tri_cond_dec rfl (fun h1b => ?_) (fun h1b => ?_)
  · refine tri_seq ?_
    refine tri_region ?_
    refine tri_v (opv_loadA rfl rfl rfl) rfl ?_
    refine tri_g (opg_store rfl rfl rfl rfl rfl rfl) rfl ?_
    rintro _ _ _ ⟨rfl, rfl⟩
    refine tri_v (opv_assign rfl) rfl ?_
    refine tri_nil ?_
    refine tri_then ?_
    refine tri_ret ?_
    refine tri_then_ret ?_
    refine tri_inBlock_ret ?_
    refine tri_then_ret ?_
    refine tri_then_ret ?_
    refine tri_inBlock_ret ?_
    refine tri_then_ret ?_
    refine tri_end _ (⟨[_, _], rfl⟩) rfl (.cons (rv_cellA rfl rfl rfl) (.cons (rv_tmp rfl) .nil)) ⟨bad ⟨_, _, _, _, _, _⟩ ?_, rfl, rfl⟩
    unfold R6.fit4 R6.inS; omega
  have b1 := hm.at h1a h1b
  refine tri_skip ?_
  refine tri_then ?_
  refine tri_seq ?_
  refine tri_region ?_
  refine tri_v (opv_move rfl) rfl ?_
  refine tri_v (opv_nilCheck rfl) rfl ?_
  refine tri_v (opv_fieldAddr rfl rfl) rfl ?_
  refine tri_v (opv_fieldAddr rfl rfl) rfl ?_
  refine tri_v (opv_load1 rfl rfl rfl) rfl ?_
  refine tri_v (opv_move rfl) rfl ?_
  refine tri_v (opv_indexAddrR rfl rfl (by omega) (by omega)) rfl ?_
  refine tri_v (opv_loadRXA rfl rfl (by omega) rfl rfl rfl) rfl ?_
  refine tri_g opg_alloc rfl ?_
  rintro _ _ _ ⟨b8, rfl, rfl, rfl⟩
  refine tri_g (opg_store rfl rfl rfl rfl rfl rfl) rfl ?_
  rintro _ _ _ ⟨rfl, rfl⟩
  refine tri_nil ?_
  refine tri_then ?_
  refine tri_seq ?_
  refine tri_seq ?_
  refine tri_region ?_
  refine tri_v (opv_move rfl) rfl ?_
  refine tri_v (opv_gtr rfl rfl) rfl ?_
  refine tri_v (opv_move rfl) rfl ?_
  refine tri_true rfl rfl (by decide) ?_
  refine tri_guard_run rfl rfl rfl ?_
  refine tri_v (opv_fieldAddr rfl rfl) rfl ?_
  refine tri_guard_run rfl rfl rfl ?_
  refine tri_v (opv_load1 rfl rfl rfl) rfl ?_
  refine tri_guard_run rfl rfl rfl ?_
  refine tri_v (opv_fieldAddr rfl rfl) rfl ?_
  refine tri_guard_run rfl rfl rfl ?_
  refine tri_v (opv_load1 rfl rfl rfl) rfl ?_
  refine tri_guard_run rfl rfl rfl ?_
  refine tri_v (opv_sub rfl rfl (w64 (by omega) (by omega))) rfl ?_
  refine tri_guard_run rfl rfl rfl ?_
  refine tri_v (opv_neq rfl rfl) rfl ?_
  refine tri_v (opv_pick_t rfl rfl) rfl ?_
  refine tri_nil ?_
  refine tri_then ?_
  refine tri_cond_dec rfl (fun h1c => ?_) (fun h1c => ?_)
  · refine tri_seq ?_
    refine tri_region ?_
    refine tri_v (opv_loadA rfl rfl rfl) rfl ?_
    refine tri_g (opg_store rfl rfl rfl rfl rfl rfl) rfl ?_
    rintro _ _ _ ⟨rfl, rfl⟩
    refine tri_v (opv_assign rfl) rfl ?_
    refine tri_nil ?_
    refine tri_then ?_
    refine tri_ret ?_
    refine tri_then_ret ?_
    refine tri_inBlock_ret ?_
    refine tri_then_ret ?_
    refine tri_then_ret ?_
    refine tri_inBlock_ret ?_
    refine tri_then_ret ?_
    refine tri_end _ (⟨[_, _, _], rfl⟩) rfl (.cons (rv_cellA rfl rfl rfl) (.cons (rv_tmp rfl) .nil)) ⟨bad ⟨_, _, _, _, _, _⟩ ?_, rfl, rfl⟩
    unfold R6.fit4 R6.nd R6.inS; omega
  refine tri_skip ?_
  refine tri_then ?_
  refine tri_seq ?_
  refine tri_region ?_
  refine tri_v (opv_fieldAddr rfl rfl) rfl ?_
  refine tri_v (opv_load1 rfl rfl rfl) rfl ?_
  refine tri_v (opv_add rfl rfl (w64 (by omega) (by omega))) rfl ?_
  refine tri_v (opv_fieldAddr rfl rfl) rfl ?_
  refine tri_g (opg_store rfl rfl rfl rfl rfl rfl) rfl ?_
  rintro _ _ _ ⟨rfl, rfl⟩
  refine tri_nil ?_
  refine tri_then ?_
  refine tri_region ?_
  refine tri_v (opv_fieldAddr rfl rfl) rfl ?_
  refine tri_v (opv_load1 rfl rfl rfl) rfl ?_
  refine tri_v (opv_fieldAddr rfl rfl) rfl ?_
  refine tri_v (opv_load1 rfl rfl rfl) rfl ?_
  refine tri_v (opv_add rfl rfl (w64 (by omega) (by omega))) rfl ?_
  refine tri_v (opv_min2 rfl rfl) rfl ?_
  refine tri_v (opv_fieldAddr rfl rfl) rfl ?_
  refine tri_g (opg_store rfl rfl rfl rfl rfl rfl) rfl ?_
  rintro _ _ _ ⟨rfl, rfl⟩
  refine tri_nil ?_
  refine tri_inBlock ?_
  refine tri_then ?_
  refine tri_region ?_
  refine tri_v (opv_add rfl rfl (w64 (by omega) (by omega))) rfl ?_
  refine tri_v (opv_move rfl) rfl ?_
  refine tri_nil ?_
  refine tri_then ?_
  refine tri_round ?_
  refine tri_seq ?_
  refine tri_region ?_
  refine tri_v (opv_lss rfl rfl) rfl ?_
  refine tri_nil ?_
  refine tri_then ?_
  refine tri_seq ?_
  have e1 := R6.mn_bd (x := (if 4611686018427387903 < 0 + (ns.getD q0.toNat default).pop then 4611686018427387903 else 0 + (ns.getD q0.toNat default).pop) + (ns.getD q1.toNat default).pop) (by omega)
  refine tri_drop ?_
  skip
  refine tri_cond_is rfl (by decide) ?_
  refine tri_skip ?_
  refine tri_then ?_
  refine tri_seq ?_
  refine tri_block ?_
  refine tri_seq ?_
  refine tri_region ?_
  refine tri_v (opv_move rfl) rfl ?_
  refine tri_v (opv_index rfl rfl (by decide) (by decide) rfl rfl) rfl ?_
  refine tri_v (opv_assign rfl) rfl ?_
  refine tri_v (opv_assign rfl) rfl ?_
  refine tri_nil ?_
  refine tri_then ?_
  refine tri_seq ?_
  refine tri_seq ?_
  refine tri_region ?_
  refine tri_v (opv_move rfl) rfl ?_
  refine tri_v (opv_lss rfl rfl) rfl ?_
  refine tri_v (opv_move rfl) rfl ?_
  refine tri_split rfl rfl (fun h2a => ?_) (fun h2a => ?_)
  · refine tri_guard_skip rfl rfl rfl rfl ?_
    refine tri_guard_skip rfl rfl rfl rfl ?_
    refine tri_guard_skip rfl rfl rfl rfl ?_
    refine tri_guard_skip rfl rfl rfl rfl ?_
    refine tri_guard_skip rfl rfl rfl rfl ?_
    refine tri_guard_skip rfl rfl rfl rfl ?_
    refine tri_guard_skip rfl rfl rfl rfl ?_
    refine tri_guard_skip rfl rfl rfl rfl ?_
    refine tri_v (opv_pick_t rfl rfl) rfl ?_
    refine tri_nil ?_
    refine tri_then ?_
    refine tri_cond_true rfl ?_
    refine tri_seq ?_
    refine tri_region ?_
    refine tri_v (opv_loadA rfl rfl rfl) rfl ?_
    refine tri_g (opg_store rfl rfl rfl rfl rfl rfl) rfl ?_
    rintro _ _ _ ⟨rfl, rfl⟩
    refine tri_v (opv_assign rfl) rfl ?_
    refine tri_nil ?_
    refine tri_then ?_
    refine tri_ret ?_
    refine tri_then_ret ?_
    refine tri_inBlock_ret ?_
    refine tri_then_ret ?_
    refine tri_then_ret ?_
    refine tri_inBlock_ret ?_
    refine tri_then_ret ?_
    refine tri_end _ (⟨[_, _], rfl⟩) rfl (.cons (rv_cellA rfl rfl rfl) (.cons (rv_tmp rfl) .nil)) ⟨bad ⟨_, _, _, _, _, _⟩ ?_, rfl, rfl⟩
    unfold R6.fit4 R6.inS; omega
  refine tri_guard_run rfl rfl rfl ?_
  refine tri_v (opv_move rfl) rfl ?_
  refine tri_guard_run rfl rfl rfl ?_
  refine tri_v (opv_move rfl) rfl ?_
  refine tri_guard_run rfl rfl rfl ?_
  refine tri_v (opv_nilCheck rfl) rfl ?_
  refine tri_guard_run rfl rfl rfl ?_
  refine tri_v (opv_fieldAddr rfl rfl) rfl ?_
  refine tri_guard_run rfl rfl rfl ?_
  refine tri_v (opv_fieldAddr rfl rfl) rfl ?_
  refine tri_guard_run rfl rfl rfl ?_
  refine tri_v (opv_load1 rfl rfl rfl) rfl ?_
  refine tri_guard_run rfl rfl rfl ?_
  refine tri_v (opv_len rfl) rfl ?_
  refine tri_guard_run rfl rfl rfl ?_
  refine tri_v (opv_geq rfl rfl) rfl ?_
  refine tri_v (opv_pick_f rfl rfl) rfl ?_
  refine tri_nil ?_
  refine tri_then ?_
  refine tri_cond_dec rfl (fun h2b => ?_) (fun h2b => ?_)
  · refine tri_seq ?_
    refine tri_region ?_
    refine tri_v (opv_loadA rfl rfl rfl) rfl ?_
    refine tri_g (opg_store rfl rfl rfl rfl rfl rfl) rfl ?_
    rintro _ _ _ ⟨rfl, rfl⟩
    refine tri_v (opv_assign rfl) rfl ?_
    refine tri_nil ?_
    refine tri_then ?_
    refine tri_ret ?_
    refine tri_then_ret ?_
    refine tri_inBlock_ret ?_
    refine tri_then_ret ?_
    refine tri_then_ret ?_
    refine tri_inBlock_ret ?_
    refine tri_then_ret ?_
    refine tri_end _ (⟨[_, _], rfl⟩) rfl (.cons (rv_cellA rfl rfl rfl) (.cons (rv_tmp rfl) .nil)) ⟨bad ⟨_, _, _, _, _, _⟩ ?_, rfl, rfl⟩
    unfold R6.fit4 R6.inS; omega
  have b2 := hm.at h2a h2b
  refine tri_skip ?_
  refine tri_then ?_
  refine tri_seq ?_
  refine tri_region ?_
  refine tri_v (opv_move rfl) rfl ?_
  refine tri_v (opv_nilCheck rfl) rfl ?_
  refine tri_v (opv_fieldAddr rfl rfl) rfl ?_
  refine tri_v (opv_fieldAddr rfl rfl) rfl ?_
  refine tri_v (opv_load1 rfl rfl rfl) rfl ?_
  refine tri_v (opv_move rfl) rfl ?_
  refine tri_v (opv_indexAddrR rfl rfl (by omega) (by omega)) rfl ?_
  refine tri_v (opv_loadRXA rfl rfl (by omega) rfl rfl rfl) rfl ?_
  refine tri_g opg_alloc rfl ?_
  rintro _ _ _ ⟨b8, rfl, rfl, rfl⟩
  refine tri_g (opg_store rfl rfl rfl rfl rfl rfl) rfl ?_
  rintro _ _ _ ⟨rfl, rfl⟩
  refine tri_nil ?_
  refine tri_then ?_
  refine tri_seq ?_
  refine tri_seq ?_
  refine tri_region ?_
  refine tri_v (opv_move rfl) rfl ?_
  refine tri_v (opv_gtr rfl rfl) rfl ?_
  refine tri_v (opv_move rfl) rfl ?_
  refine tri_true rfl rfl (by decide) ?_
  refine tri_guard_run rfl rfl rfl ?_
  refine tri_v (opv_fieldAddr rfl rfl) rfl ?_
  refine tri_guard_run rfl rfl rfl ?_
  refine tri_v (opv_load1 rfl rfl rfl) rfl ?_
  refine tri_guard_run rfl rfl rfl ?_
  refine tri_v (opv_fieldAddr rfl rfl) rfl ?_
  refine tri_guard_run rfl rfl rfl ?_
  refine tri_v (opv_load1 rfl rfl rfl) rfl ?_
  refine tri_guard_run rfl rfl rfl ?_
  refine tri_v (opv_sub rfl rfl (w64 (by omega) (by omega))) rfl ?_
  refine tri_guard_run rfl rfl rfl ?_
  refine tri_v (opv_neq rfl rfl) rfl ?_
  refine tri_v (opv_pick_t rfl rfl) rfl ?_
  refine tri_nil ?_
  refine tri_then ?_
  refine tri_cond_dec rfl (fun h2c => ?_) (fun h2c => ?_)
  · refine tri_seq ?_
    refine tri_region ?_
    refine tri_v (opv_loadA rfl rfl rfl) rfl ?_
    refine tri_g (opg_store rfl rfl rfl rfl rfl rfl) rfl ?_
    rintro _ _ _ ⟨rfl, rfl⟩
    refine tri_v (opv_assign rfl) rfl ?_
    refine tri_nil ?_
    refine tri_then ?_
    refine tri_ret ?_
    refine tri_then_ret ?_
    refine tri_inBlock_ret ?_
    refine tri_then_ret ?_
    refine tri_then_ret ?_
    refine tri_inBlock_ret ?_
    refine tri_then_ret ?_
    refine tri_end _ (⟨[_, _, _], rfl⟩) rfl (.cons (rv_cellA rfl rfl rfl) (.cons (rv_tmp rfl) .nil)) ⟨bad ⟨_, _, _, _, _, _⟩ ?_, rfl, rfl⟩
    unfold R6.fit4 R6.nd R6.inS; omega
  refine tri_skip ?_
  refine tri_then ?_
  refine tri_seq ?_
  refine tri_region ?_
  refine tri_v (opv_fieldAddr rfl rfl) rfl ?_
  refine tri_v (opv_load1 rfl rfl rfl) rfl ?_
  refine tri_v (opv_add rfl rfl (w64 (by omega) (by omega))) rfl ?_
  refine tri_v (opv_fieldAddr rfl rfl) rfl ?_
  refine tri_g (opg_store rfl rfl rfl rfl rfl rfl) rfl ?_
  rintro _ _ _ ⟨rfl, rfl⟩
  refine tri_nil ?_
  refine tri_then ?_
  refine tri_region ?_
  refine tri_v (opv_fieldAddr rfl rfl) rfl ?_
  refine tri_v (opv_load1 rfl rfl rfl) rfl ?_
  refine tri_v (opv_fieldAddr rfl rfl) rfl ?_
  refine tri_v (opv_load1 rfl rfl rfl) rfl ?_
  refine tri_v (opv_add rfl rfl (w64 (by omega) (by omega))) rfl ?_
  refine tri_v (opv_min2 rfl rfl) rfl ?_
  refine tri_v (opv_fieldAddr rfl rfl) rfl ?_
  refine tri_g (opg_store rfl rfl rfl rfl rfl rfl) rfl ?_
  rintro _ _ _ ⟨rfl, rfl⟩
  refine tri_nil ?_
  refine tri_inBlock ?_
  refine tri_then ?_
  refine tri_region ?_
  refine tri_v (opv_add rfl rfl (w64 (by omega) (by omega))) rfl ?_
  refine tri_v (opv_move rfl) rfl ?_
  refine tri_nil ?_
  refine tri_then ?_
  refine tri_round ?_
  refine tri_seq ?_
  refine tri_region ?_
  refine tri_v (opv_lss rfl rfl) rfl ?_
  refine tri_nil ?_
  refine tri_then ?_
  refine tri_seq ?_
  have e2 := R6.mn_bd (x := (if 4611686018427387903 < (if 4611686018427387903 < 0 + (ns.getD q0.toNat default).pop then 4611686018427387903 else 0 + (ns.getD q0.toNat default).pop) + (ns.getD q1.toNat default).pop then 4611686018427387903 else (if 4611686018427387903 < 0 + (ns.getD q0.toNat default).pop then 4611686018427387903 else 0 + (ns.getD q0.toNat default).pop) + (ns.getD q1.toNat default).pop) + (ns.getD q2.toNat default).pop) (by omega)
  refine tri_drop ?_
  skip
  refine tri_cond_is rfl (by decide) ?_
  refine tri_skip ?_
  refine tri_then ?_
  refine tri_seq ?_
  refine tri_block ?_
  refine tri_seq ?_
  refine tri_region ?_
  refine tri_v (opv_move rfl) rfl ?_
  refine tri_v (opv_index rfl rfl (by decide) (by decide) rfl rfl) rfl ?_
  refine tri_v (opv_assign rfl) rfl ?_
  refine tri_v (opv_assign rfl) rfl ?_
  refine tri_nil ?_
  refine tri_then ?_
  refine tri_seq ?_
  refine tri_seq ?_
  refine tri_region ?_
  refine tri_v (opv_move rfl) rfl ?_
  refine tri_v (opv_lss rfl rfl) rfl ?_
  refine tri_v (opv_move rfl) rfl ?_
  refine tri_split rfl rfl (fun h3a => ?_) (fun h3a => ?_)
  · refine tri_guard_skip rfl rfl rfl rfl ?_
    refine tri_guard_skip rfl rfl rfl rfl ?_
    refine tri_guard_skip rfl rfl rfl rfl ?_
    refine tri_guard_skip rfl rfl rfl rfl ?_
    refine tri_guard_skip rfl rfl rfl rfl ?_
    refine tri_guard_skip rfl rfl rfl rfl ?_
    refine tri_guard_skip rfl rfl rfl rfl ?_
    refine tri_guard_skip rfl rfl rfl rfl ?_
    refine tri_v (opv_pick_t rfl rfl) rfl ?_
    refine tri_nil ?_
    refine tri_then ?_
    refine tri_cond_true rfl ?_
    refine tri_seq ?_
    refine tri_region ?_
    refine tri_v (opv_loadA rfl rfl rfl) rfl ?_
    refine tri_g (opg_store rfl rfl rfl rfl rfl rfl) rfl ?_
    rintro _ _ _ ⟨rfl, rfl⟩
    refine tri_v (opv_assign rfl) rfl ?_
    refine tri_nil ?_
    refine tri_then ?_
    refine tri_ret ?_
    refine tri_then_ret ?_
    refine tri_inBlock_ret ?_
    refine tri_then_ret ?_
    refine tri_then_ret ?_
    refine tri_inBlock_ret ?_
    refine tri_then_ret ?_
    refine tri_end _ (⟨[_, _], rfl⟩) rfl (.cons (rv_cellA rfl rfl rfl) (.cons (rv_tmp rfl) .nil)) ⟨bad ⟨_, _, _, _, _, _⟩ ?_, rfl, rfl⟩
    unfold R6.fit4 R6.inS; omega
  refine tri_guard_run rfl rfl rfl ?_
  refine tri_v (opv_move rfl) rfl ?_
  refine tri_guard_run rfl rfl rfl ?_
  refine tri_v (opv_move rfl) rfl ?_
  refine tri_guard_run rfl rfl rfl ?_
  refine tri_v (opv_nilCheck rfl) rfl ?_
  refine tri_guard_run rfl rfl rfl ?_
  refine tri_v (opv_fieldAddr rfl rfl) rfl ?_
  refine tri_guard_run rfl rfl rfl ?_
  refine tri_v (opv_fieldAddr rfl rfl) rfl ?_
  refine tri_guard_run rfl rfl rfl ?_
  refine tri_v (opv_load1 rfl rfl rfl) rfl ?_
  refine tri_guard_run rfl rfl rfl ?_
  refine tri_v (opv_len rfl) rfl ?_
  refine tri_guard_run rfl rfl rfl ?_
  refine tri_v (opv_geq rfl rfl) rfl ?_
  refine tri_v (opv_pick_f rfl rfl) rfl ?_
  refine tri_nil ?_
  refine tri_then ?_
  refine tri_cond_dec rfl (fun h3b => ?_) (fun h3b => ?_)
  · refine tri_seq ?_
    refine tri_region ?_
    refine tri_v (opv_loadA rfl rfl rfl) rfl ?_
    refine tri_g (opg_store rfl rfl rfl rfl rfl rfl) rfl ?_
    rintro _ _ _ ⟨rfl, rfl⟩
    refine tri_v (opv_assign rfl) rfl ?_
    refine tri_nil ?_
    refine tri_then ?_
    refine tri_ret ?_
    refine tri_then_ret ?_
    refine tri_inBlock_ret ?_
    refine tri_then_ret ?_
    refine tri_then_ret ?_
    refine tri_inBlock_ret ?_
    refine tri_then_ret ?_
    refine tri_end _ (⟨[_, _], rfl⟩) rfl (.cons (rv_cellA rfl rfl rfl) (.cons (rv_tmp rfl) .nil)) ⟨bad ⟨_, _, _, _, _, _⟩ ?_, rfl, rfl⟩
    unfold R6.fit4 R6.inS; omega
  have b3 := hm.at h3a h3b
  refine tri_skip ?_
  refine tri_then ?_
  refine tri_seq ?_
  refine tri_region ?_
  refine tri_v (opv_move rfl) rfl ?_
  refine tri_v (opv_nilCheck rfl) rfl ?_
  refine tri_v (opv_fieldAddr rfl rfl) rfl ?_
  refine tri_v (opv_fieldAddr rfl rfl) rfl ?_
  refine tri_v (opv_load1 rfl rfl rfl) rfl ?_
  refine tri_v (opv_move rfl) rfl ?_
  refine tri_v (opv_indexAddrR rfl rfl (by omega) (by omega)) rfl ?_
  refine tri_v (opv_loadRXA rfl rfl (by omega) rfl rfl rfl) rfl ?_
  refine tri_g opg_alloc rfl ?_
  rintro _ _ _ ⟨b8, rfl, rfl, rfl⟩
  refine tri_g (opg_store rfl rfl rfl rfl rfl rfl) rfl ?_
  rintro _ _ _ ⟨rfl, rfl⟩
  refine tri_nil ?_
  refine tri_then ?_
  refine tri_seq ?_
  refine tri_seq ?_
  refine tri_region ?_
  refine tri_v (opv_move rfl) rfl ?_
  refine tri_v (opv_gtr rfl rfl) rfl ?_
  refine tri_v (opv_move rfl) rfl ?_
  refine tri_true rfl rfl (by decide) ?_
  refine tri_guard_run rfl rfl rfl ?_
  refine tri_v (opv_fieldAddr rfl rfl) rfl ?_
  refine tri_guard_run rfl rfl rfl ?_
  refine tri_v (opv_load1 rfl rfl rfl) rfl ?_
  refine tri_guard_run rfl rfl rfl ?_
  refine tri_v (opv_fieldAddr rfl rfl) rfl ?_
  refine tri_guard_run rfl rfl rfl ?_
  refine tri_v (opv_load1 rfl rfl rfl) rfl ?_
  refine tri_guard_run rfl rfl rfl ?_
  refine tri_v (opv_sub rfl rfl (w64 (by omega) (by omega))) rfl ?_
  refine tri_guard_run rfl rfl rfl ?_
  refine tri_v (opv_neq rfl rfl) rfl ?_
  refine tri_v (opv_pick_t rfl rfl) rfl ?_
  refine tri_nil ?_
  refine tri_then ?_
  refine tri_cond_dec rfl (fun h3c => ?_) (fun h3c => ?_)
  · refine tri_seq ?_
    refine tri_region ?_
    refine tri_v (opv_loadA rfl rfl rfl) rfl ?_
    refine tri_g (opg_store rfl rfl rfl rfl rfl rfl) rfl ?_
    rintro _ _ _ ⟨rfl, rfl⟩
    refine tri_v (opv_assign rfl) rfl ?_
    refine tri_nil ?_
    refine tri_then ?_
    refine tri_ret ?_
    refine tri_then_ret ?_
    refine tri_inBlock_ret ?_
    refine tri_then_ret ?_
    refine tri_then_ret ?_
    refine tri_inBlock_ret ?_
    refine tri_then_ret ?_
    refine tri_end _ (⟨[_, _, _], rfl⟩) rfl (.cons (rv_cellA rfl rfl rfl) (.cons (rv_tmp rfl) .nil)) ⟨bad ⟨_, _, _, _, _, _⟩ ?_, rfl, rfl⟩
    unfold R6.fit4 R6.nd R6.inS; omega
  refine tri_skip ?_
  refine tri_then ?_
  refine tri_seq ?_
  refine tri_region ?_
  refine tri_v (opv_fieldAddr rfl rfl) rfl ?_
  refine tri_v (opv_load1 rfl rfl rfl) rfl ?_
  refine tri_v (opv_add rfl rfl (w64 (by omega) (by omega))) rfl ?_
  refine tri_v (opv_fieldAddr rfl rfl) rfl ?_
  refine tri_g (opg_store rfl rfl rfl rfl rfl rfl) rfl ?_
  rintro _ _ _ ⟨rfl, rfl⟩
  refine tri_nil ?_
  refine tri_then ?_
  refine tri_region ?_
  refine tri_v (opv_fieldAddr rfl rfl) rfl ?_
  refine tri_v (opv_load1 rfl rfl rfl) rfl ?_
  refine tri_v (opv_fieldAddr rfl rfl) rfl ?_
  refine tri_v (opv_load1 rfl rfl rfl) rfl ?_
  refine tri_v (opv_add rfl rfl (w64 (by omega) (by omega))) rfl ?_
  refine tri_v (opv_min2 rfl rfl) rfl ?_
  refine tri_v (opv_fieldAddr rfl rfl) rfl ?_
  refine tri_g (opg_store rfl rfl rfl rfl rfl rfl) rfl ?_
  rintro _ _ _ ⟨rfl, rfl⟩
  refine tri_nil ?_
  refine tri_inBlock ?_
  refine tri_then ?_
  refine tri_region ?_
  refine tri_v (opv_add rfl rfl (w64 (by omega) (by omega))) rfl ?_
  refine tri_v (opv_move rfl) rfl ?_
  refine tri_nil ?_
  refine tri_then ?_
  refine tri_round ?_
  refine tri_seq ?_
  refine tri_region ?_
  refine tri_v (opv_lss rfl rfl) rfl ?_
  refine tri_nil ?_
  refine tri_then ?_
  refine tri_seq ?_
  refine tri_drop ?_
  skip
  refine tri_cond_not rfl (by decide) ?_
  refine tri_exit ?_
  refine tri_then_exit ?_
  refine tri_then_exit ?_
  refine tri_inBlock_hit rfl ?_
  refine tri_then ?_
  refine tri_seq ?_
  refine tri_region ?_
  refine tri_v (opv_loadA rfl rfl rfl) rfl ?_
  refine tri_v (opv_fieldAddr rfl rfl) rfl ?_
  refine tri_g (opg_store rfl rfl rfl rfl rfl rfl) rfl ?_
  rintro _ _ _ ⟨rfl, rfl⟩
  refine tri_nil ?_
  refine tri_then ?_
  refine tri_seq ?_
  refine tri_region ?_
  refine tri_v (opv_loadA rfl rfl rfl) rfl ?_
  refine tri_v (opv_fieldAddr rfl rfl) rfl ?_
  refine tri_v (opv_load1 rfl rfl rfl) rfl ?_
  refine tri_v (opv_leq rfl rfl) rfl ?_
  refine tri_g (opg_store rfl rfl rfl rfl rfl rfl) rfl ?_
  rintro _ _ _ ⟨rfl, rfl⟩
  refine tri_v (opv_assign rfl) rfl ?_
  refine tri_nil ?_
  refine tri_then ?_
  refine tri_ret ?_
  refine tri_end _ (⟨[_, _], rfl⟩) rfl (.cons (rv_cellA rfl rfl rfl) (.cons (rv_tmp rfl) .nil)) ⟨⟨⟨_, _, _, _, _, _⟩, _, rfl, ?_, fun h => ?_⟩, rfl, rfl⟩
  · rw [decide_eq_true_iff]
    unfold R6.fit4 R6.nd R6.inS
    omega
  · unfold R6.mk4 R6.nd
    rw [Node.mk.injEq]
    exact ⟨by omega, rfl, rfl, rfl, rfl, rfl⟩
end Go.GL

set_option linter.unusedVariables false
namespace Go.GL
open Go.Proofs
attribute [local irreducible] wpList Code.wp Exit.then Exit.inBlock Ends Tri TriH OpV OpG FnC epf wpAnyH
theorem key4 (q0 q1 q2 q3 : Int) : int4V q0 q1 q2 q3 = mkv Try.prog 43 [q0, q1, q2, q3] := by kernel_rfl
theorem zeroInt (w : World) : (zeroValue 3).run Try.prog w = .ok (.int .i64 0) w := by kernel_rfl
theorem keyAt : intAt Try.prog 9 43 = some 4 := by kernel_rfl
/-- The index, as it lies in the heap. -/
abbrev IxA (bx mb : Nat) (a : Option Addr) (cap : Nat) (ns : List Node) (room : Int) (es : KVs) (A : List Asrt) : List Asrt :=
  Box bx [.slice a ns.length cap, .int .i64 room, .map (some mb)] 73 :: Row a cap ns.length 45 6 (encs ns) :: MapA Try.prog 43 mb es :: A
set_option maxHeartbeats 1000000 in
set_option maxRecDepth 100000 in
theorem node_put {A : List Asrt} {I : List Chunk} {ns : List Node} {a : Option Addr} {cap bx mb : Nat} {room q0 q1 q2 q3 : Int} {es : KVs} (hg : R6.Good ns room) (h2 : 2 ≤ ns.length) (hi : Idx ns es) :
    FnC Try.prog 59 [pt bx 0, int4V q0 q1 q2 q3].toArray (IxA bx mb a cap ns room es A) I (fun v A' I' => ∃ a' cap' es', v = .tuple [.int .i64 (R6.put ns room q0 q1 q2 q3).2.1, .int .i64 (R6.put ns room q0 q1 q2 q3).2.2].toArray ∧ A' = IxA bx mb a' cap' (R6.put ns room q0 q1 q2 q3).1 room es' A ∧ Idx (R6.put ns room q0 q1 q2 q3).1 es' ∧ I = I') := by
  have hn := hg.len
  have hmf := hi [q0, q1, q2, q3]
  skip
  refine fn_enter2 Try.func59 rfl Try.ntmps59 rfl fun w0 => ?_
  refine tri_seq ?_
  refine tri_region ?_
  refine tri_g (opg_box_agg rfl) rfl ?_
  rintro _ _ _ ⟨b3, rfl, rfl, rfl⟩
  refine tri_v (opv_assign rfl) rfl ?_
  refine tri_v (opv_assign rfl) rfl ?_
  refine tri_nil ?_
  refine tri_then ?_
  refine tri_seq ?_
  refine tri_perm (A := ?a1_0 :: ?a1_1 :: ?a1_2 :: ?T1) (B := ?a1_1 :: ?a1_2 :: ?a1_0 :: ?T1) (by exact permL [1, 2, 0] [?a1_0, ?a1_1, ?a1_2] ?T1 (by decide) rfl) ?_
  refine tri_region ?_
  refine tri_v (opv_move rfl) rfl ?_
  refine tri_v (opv_loadA rfl rfl rfl) rfl ?_
  refine tri_g (opg_call (xs := [_, _]) rfl (node_parent hn hg.mod)) rfl ?_
  rintro _ _ _ ⟨⟨z, ok, rfl, hok, hz⟩, rfl, rfl⟩
  refine tri_v (opv_move rfl) rfl ?_
  refine tri_v (opv_extract rfl rfl) rfl ?_
  refine tri_v (opv_extract rfl rfl) rfl ?_
  refine tri_g opg_alloc rfl ?_
  rintro _ _ _ ⟨b6, rfl, rfl, rfl⟩
  refine tri_g (opg_store rfl rfl rfl rfl rfl rfl) rfl ?_
  rintro _ _ _ ⟨rfl, rfl⟩
  refine tri_v (opv_assign rfl) rfl ?_
  refine tri_nil ?_
  refine tri_then ?_
  refine tri_seq ?_
  refine tri_seq ?_
  refine tri_region ?_
  refine tri_v (opv_move rfl) rfl ?_
  refine tri_v (opv_not rfl) rfl ?_
  refine tri_nil ?_
  refine tri_then ?_
  refine tri_cond rfl (fun h => ?_) (fun h => ?_)
  · have hf : ¬ R6.fit4 ns q0 q1 q2 q3 := fun hf => by
      rw [hok.2 hf] at h; cases h
    rw [show R6.put ns room q0 q1 q2 q3 = (ns, 0, 1) from if_neg hf]
    refine tri_seq ?_
    refine tri_region ?_
    refine tri_v (opv_assign rfl) rfl ?_
    refine tri_v (opv_assign rfl) rfl ?_
    refine tri_nil ?_
    refine tri_then ?_
    refine tri_ret ?_
    refine tri_then_ret ?_
    refine tri_perm (A := ?a2_0 :: ?a2_1 :: ?a2_2 :: ?a2_3 :: ?a2_4 :: ?T2) (B := ?a2_0 :: ?a2_3 :: ?a2_1 :: ?a2_2 :: ?a2_4 :: ?T2) (by exact permL [0, 3, 1, 2, 4] [?a2_0, ?a2_1, ?a2_2, ?a2_3, ?a2_4] ?T2 (by decide) rfl) ?_
    refine tri_end _ (⟨[_, _], rfl⟩) rfl (.cons (rv_tmp rfl) (.cons (rv_tmp rfl) .nil)) ⟨a, cap, es, rfl, rfl, hi, rfl⟩
  have hok1 : ok = true := by cases ok <;> simp_all
  have hf := hok.1 hok1
  have hz' := hz hok1
  subst hz'
  have hput : R6.put ns room q0 q1 q2 q3 = if 0 ≤ R6.at_ ns [q0, q1, q2, q3] then (ns, R6.at_ ns [q0, q1, q2, q3], 0) else if room ≤ ns.length then (ns, 0, 40) else (ns ++ [R6.mk4 ns q0 q1 q2 q3], ns.length, 0) := if_pos hf
  refine tri_skip ?_
  refine tri_then ?_
  refine tri_seq ?_
  refine tri_seq ?_
  refine tri_draw [0, 1, 2, 3, 4, 5, 6, 7, 8, 9, 10] rfl [] rfl mixed ?_
  refine th_take rfl rfl (by kernel_rfl)  (opv_move rfl) ?_
  refine th_take rfl rfl (by kernel_rfl)  (opv_nilCheck rfl) ?_
  refine th_take rfl rfl (by kernel_rfl)  (opv_fieldAddr rfl rfl) ?_
  refine th_take rfl rfl (by kernel_rfl)  (opv_load1 rfl rfl rfl) ?_
  refine th_take rfl rfl (by kernel_rfl)  (opv_loadA rfl rfl rfl) ?_
  refine th_take rfl rfl (by kernel_rfl)  (opv_lookup2 (P := Try.prog) (ks := [q0, q1, q2, q3]) zeroInt rfl rfl (key4 q0 q1 q2 q3) keyAt rfl) ?_
  refine th_take rfl rfl (by kernel_rfl)  (opv_move rfl) ?_
  refine th_take rfl rfl (by kernel_rfl)  (opv_extract rfl rfl) ?_
  refine th_take rfl rfl (by kernel_rfl)  (opv_extract rfl rfl) ?_
  refine th_take rfl rfl (by kernel_rfl)  (opv_assign rfl) ?_
  refine th_take rfl rfl (by kernel_rfl)  (opv_assign rfl) ?_
  refine th_done (by kernel_rfl) ?_
  refine tri_then ?_
  refine tri_seq ?_
  refine tri_region ?_
  refine tri_v (opv_move rfl) rfl ?_
  refine tri_nil ?_
  refine tri_then ?_
  by_cases hat : 0 ≤ R6.at_ ns [q0, q1, q2, q3]
  · rw [if_pos hat] at hmf hput
    rw [hput]
    refine tri_cond_true (congrArg (fun o => some (Value.bool (Option.isSome o))) hmf) ?_
    refine tri_seq ?_
    refine tri_region ?_
    refine tri_v (opv_move rfl) rfl ?_
    refine tri_v (opv_assign rfl) rfl ?_
    refine tri_v (opv_assign rfl) rfl ?_
    refine tri_nil ?_
    refine tri_then ?_
    refine tri_ret ?_
    refine tri_then_ret ?_
    refine tri_perm (A := ?a3_0 :: ?a3_1 :: ?a3_2 :: ?a3_3 :: ?a3_4 :: ?T3) (B := ?a3_0 :: ?a3_3 :: ?a3_1 :: ?a3_2 :: ?a3_4 :: ?T3) (by exact permL [0, 3, 1, 2, 4] [?a3_0, ?a3_1, ?a3_2, ?a3_3, ?a3_4] ?T3 (by decide) rfl) ?_
    refine tri_end _ (⟨[_, _], rfl⟩) rfl (.cons (rv_tmp rfl) (.cons (rv_tmp rfl) .nil)) ⟨a, cap, es, ?_, rfl, hi, rfl⟩
    rw [hmf]; rfl
  rw [if_neg hat] at hmf hput
  skip
  refine tri_cond_false (congrArg (fun o => some (Value.bool (Option.isSome o))) hmf) ?_
  refine tri_skip ?_
  refine tri_then ?_
  refine tri_seq ?_
  refine tri_seq ?_
  refine tri_draw [0, 1, 2, 3, 4, 5, 6, 7, 8, 9, 10, 11] rfl [] rfl mixed ?_
  refine th_take rfl rfl (by kernel_rfl)  (opv_move rfl) ?_
  refine th_take rfl rfl (by kernel_rfl)  (opv_nilCheck rfl) ?_
  refine th_take rfl rfl (by kernel_rfl)  (opv_fieldAddr rfl rfl) ?_
  refine th_take rfl rfl (by kernel_rfl)  (opv_fieldAddr rfl rfl) ?_
  refine th_take rfl rfl (by kernel_rfl)  (opv_load1 rfl rfl rfl) ?_
  refine th_take rfl rfl (by kernel_rfl)  (opv_len rfl) ?_
  refine th_take rfl rfl (by kernel_rfl)  (opv_move rfl) ?_
  refine th_take rfl rfl (by kernel_rfl)  (opv_nilCheck rfl) ?_
  refine th_take rfl rfl (by kernel_rfl)  (opv_fieldAddr rfl rfl) ?_
  refine th_take rfl rfl (by kernel_rfl)  (opv_fieldAddr rfl rfl) ?_
  refine th_take rfl rfl (by kernel_rfl)  (opv_load1 rfl rfl rfl) ?_
  refine th_take rfl rfl (by kernel_rfl)  (opv_geq rfl rfl) ?_
  refine th_done (by kernel_rfl) ?_
  refine tri_then ?_
  refine tri_cond_dec rfl (fun h7 => ?_) (fun h7 => ?_)
  · rw [if_pos h7] at hput
    rw [hput]
    refine tri_seq ?_
    refine tri_region ?_
    refine tri_v (opv_assign rfl) rfl ?_
    refine tri_v (opv_assign rfl) rfl ?_
    refine tri_nil ?_
    refine tri_then ?_
    refine tri_ret ?_
    refine tri_then_ret ?_
    refine tri_perm (A := ?a4_0 :: ?a4_1 :: ?a4_2 :: ?a4_3 :: ?a4_4 :: ?T4) (B := ?a4_0 :: ?a4_3 :: ?a4_1 :: ?a4_2 :: ?a4_4 :: ?T4) (by exact permL [0, 3, 1, 2, 4] [?a4_0, ?a4_1, ?a4_2, ?a4_3, ?a4_4] ?T4 (by decide) rfl) ?_
    refine tri_end _ (⟨[_, _], rfl⟩) rfl (.cons (rv_tmp rfl) (.cons (rv_tmp rfl) .nil)) ⟨a, cap, es, rfl, rfl, hi, rfl⟩
  rw [if_neg h7] at hput
  rw [hput]
  skip
  refine tri_skip ?_
  refine tri_then ?_
  refine tri_seq ?_
  refine tri_region ?_
  refine tri_v (opv_move rfl) rfl ?_
  refine tri_v (opv_nilCheck rfl) rfl ?_
  refine tri_v (opv_fieldAddr rfl rfl) rfl ?_
  refine tri_v (opv_fieldAddr rfl rfl) rfl ?_
  refine tri_v (opv_load1 rfl rfl rfl) rfl ?_
  refine tri_v (opv_len rfl) rfl ?_
  refine tri_v (opv_assign rfl) rfl ?_
  refine tri_nil ?_
  refine tri_then ?_
  refine tri_seq ?_
  refine tri_perm (A := ?a5_0 :: ?a5_1 :: ?a5_2 :: ?a5_3 :: ?a5_4 :: ?T5) (B := ?a5_4 :: ?a5_0 :: ?a5_1 :: ?a5_2 :: ?a5_3 :: ?T5) (by exact permL [4, 0, 1, 2, 3] [?a5_0, ?a5_1, ?a5_2, ?a5_3, ?a5_4] ?T5 (by decide) rfl) ?_
  skip
  skip
  refine tri_draw [0, 1, 2, 3, 4, 5, 6] rfl [_] rfl mixed ?_
  refine th_take rfl rfl (by kernel_rfl)  (opv_move rfl) ?_
  refine th_take rfl rfl (by kernel_rfl)  (opv_nilCheck rfl) ?_
  refine th_take rfl rfl (by kernel_rfl)  (opv_fieldAddr rfl rfl) ?_
  refine th_take rfl rfl (by kernel_rfl)  (opv_load1 rfl rfl rfl) ?_
  refine th_take rfl rfl (by kernel_rfl)  (opv_loadA rfl rfl rfl) ?_
  refine th_take rfl rfl (by kernel_rfl)  (opv_move rfl) ?_
  refine th_one (by kernel_rfl) (step_m rfl rfl (opg_mapUpdate (P := Try.prog) (ks := [q0, q1, q2, q3]) rfl rfl rfl (key4 q0 q1 q2 q3) keyAt rfl) ?_)
  rintro _ _ _ ⟨rfl, rfl⟩
  refine ⟨Suf.h, (fun _ h => h), ?_⟩
  refine th_done (by kernel_rfl) ?_
  refine tri_then ?_
  refine tri_seq ?_
  refine tri_perm (A := ?a6_0 :: ?a6_1 :: ?a6_2 :: ?a6_3 :: ?a6_4 :: ?T6) (B := ?a6_2 :: ?a6_3 :: ?a6_0 :: ?a6_1 :: ?a6_4 :: ?T6) (by exact permL [2, 3, 0, 1, 4] [?a6_0, ?a6_1, ?a6_2, ?a6_3, ?a6_4] ?T6 (by decide) rfl) ?_
  skip
  refine tri_draw [0, 1, 2, 3, 4, 6, 5, 7, 8, 9, 10, 11, 12] rfl [_, _] rfl mixed ?_
  refine th_take rfl rfl (by kernel_rfl)  (opv_move rfl) ?_
  refine th_take rfl rfl (by kernel_rfl)  (opv_move rfl) ?_
  refine th_take rfl rfl (by kernel_rfl)  (opv_nilCheck rfl) ?_
  refine th_take rfl rfl (by kernel_rfl)  (opv_fieldAddr rfl rfl) ?_
  refine th_take rfl rfl (by kernel_rfl)  (opv_fieldAddr rfl rfl) ?_
  refine th_take rfl rfl (by kernel_rfl)  (opv_loadA rfl rfl rfl) ?_
  refine th_two (j := 7) [5, 8, 9, 10, 11, 12] (by kernel_rfl) rfl ?_ ?_
  · refine (step_m rfl rfl (OpV.toG (opv_load1 rfl rfl rfl)) ?_)
    rintro _ _ _ ⟨rfl, rfl, rfl⟩
    refine ⟨Suf.h, (fun _ h => h), ?_⟩
    refine th_one (by kernel_rfl) (step_m rfl rfl (opg_buildSlice rfl rfl rfl rfl) ?_)
    rintro _ _ _ ⟨b61, rfl, rfl, rfl⟩
    refine ⟨Suf.h, (fun _ h => h), ?_⟩
    refine th_one (by kernel_rfl) (step_m rfl rfl (opg_appendB rfl rfl rfl rfl (by omega) rfl) ?_)
    rintro _ _ _ ⟨a3, cap3, rfl, rfl, rfl⟩
    refine ⟨Suf.h, (fun _ h => h), ?_⟩
    refine th_take rfl rfl (by kernel_rfl)  (opv_nilCheck rfl) ?_
    refine th_take rfl rfl (by kernel_rfl)  (opv_fieldAddr rfl rfl) ?_
    refine th_take rfl rfl (by kernel_rfl)  (opv_fieldAddr rfl rfl) ?_
    refine th_one (by kernel_rfl) (step_m rfl rfl (opg_store rfl rfl rfl rfl rfl rfl) ?_)
    rintro _ _ _ ⟨rfl, rfl⟩
    refine ⟨Suf.h, (fun _ h => h), ?_⟩
    refine th_done (by kernel_rfl) ?_
    refine tri_then ?_
    refine tri_seq ?_
    refine tri_region ?_
    refine tri_v (opv_move rfl) rfl ?_
    refine tri_v (opv_assign rfl) rfl ?_
    refine tri_v (opv_assign rfl) rfl ?_
    refine tri_nil ?_
    refine tri_then ?_
    refine tri_ret ?_
    refine tri_perm (A := ?a7_0 :: ?a7_1 :: ?a7_2 :: ?a7_3 :: ?a7_4 :: ?a7_5 :: ?T7) (B := ?a7_2 :: ?a7_0 :: ?a7_1 :: ?a7_3 :: ?a7_4 :: ?a7_5 :: ?T7) (by exact permL [2, 0, 1, 3, 4, 5] [?a7_0, ?a7_1, ?a7_2, ?a7_3, ?a7_4, ?a7_5] ?T7 (by decide) rfl) ?_
    have hix := hi.snoc h2 (R6.mk4 ns q0 q1 q2 q3) hat
    have hl : (ns ++ [R6.mk4 ns q0 q1 q2 q3]).length = ns.length + 1 := by simp
    refine tri_rowEq (len' := (ns ++ [R6.mk4 ns q0 q1 q2 q3]).length) (cells' := encs (ns ++ [R6.mk4 ns q0 q1 q2 q3])) hl.symm (by rw [encs_append]; rfl) ?_
    rw [← hl]
    refine tri_perm (A := ?a8_0 :: ?a8_1 :: ?a8_2 :: ?a8_3 :: ?a8_4 :: ?a8_5 :: ?T8) (B := ?a8_1 :: ?a8_4 :: ?a8_5 :: ?a8_2 :: ?a8_0 :: ?a8_3 :: ?T8) (by exact permL [1, 4, 5, 2, 0, 3] [?a8_0, ?a8_1, ?a8_2, ?a8_3, ?a8_4, ?a8_5] ?T8 (by decide) rfl) ?_
    refine tri_end (IxA bx mb a3 cap3 (ns ++ [R6.mk4 ns q0 q1 q2 q3]) room (mset es [q0, q1, q2, q3] (.int .i64 ns.length)) A) Suf.h rfl (.cons (rv_tmp rfl) (.cons (rv_tmp rfl) .nil)) ⟨a3, cap3, _, rfl, rfl, hix, rfl⟩
  · refine (step_m rfl rfl (opg_buildSlice rfl rfl rfl rfl) ?_)
    rintro _ _ _ ⟨b61, rfl, rfl, rfl⟩
    refine ⟨Suf.h, (fun _ h => h), ?_⟩
    refine th_one (by kernel_rfl) (step_m rfl rfl (OpV.toG (opv_load1 rfl rfl rfl)) ?_)
    rintro _ _ _ ⟨rfl, rfl, rfl⟩
    refine ⟨Suf.h, (fun _ h => h), ?_⟩
    refine th_one (by kernel_rfl) (step_m rfl rfl (opg_appendB rfl rfl rfl rfl (by omega) rfl) ?_)
    rintro _ _ _ ⟨a3, cap3, rfl, rfl, rfl⟩
    refine ⟨Suf.h, (fun _ h => h), ?_⟩
    refine th_take rfl rfl (by kernel_rfl)  (opv_nilCheck rfl) ?_
    refine th_take rfl rfl (by kernel_rfl)  (opv_fieldAddr rfl rfl) ?_
    refine th_take rfl rfl (by kernel_rfl)  (opv_fieldAddr rfl rfl) ?_
    refine th_one (by kernel_rfl) (step_m rfl rfl (opg_store rfl rfl rfl rfl rfl rfl) ?_)
    rintro _ _ _ ⟨rfl, rfl⟩
    refine ⟨Suf.h, (fun _ h => h), ?_⟩
    refine th_done (by kernel_rfl) ?_
    refine tri_then ?_
    refine tri_seq ?_
    refine tri_region ?_
    refine tri_v (opv_move rfl) rfl ?_
    refine tri_v (opv_assign rfl) rfl ?_
    refine tri_v (opv_assign rfl) rfl ?_
    refine tri_nil ?_
    refine tri_then ?_
    refine tri_ret ?_
    refine tri_perm (A := ?a9_0 :: ?a9_1 :: ?a9_2 :: ?a9_3 :: ?a9_4 :: ?a9_5 :: ?T9) (B := ?a9_2 :: ?a9_0 :: ?a9_1 :: ?a9_3 :: ?a9_4 :: ?a9_5 :: ?T9) (by exact permL [2, 0, 1, 3, 4, 5] [?a9_0, ?a9_1, ?a9_2, ?a9_3, ?a9_4, ?a9_5] ?T9 (by decide) rfl) ?_
    have hix := hi.snoc h2 (R6.mk4 ns q0 q1 q2 q3) hat
    have hl : (ns ++ [R6.mk4 ns q0 q1 q2 q3]).length = ns.length + 1 := by simp
    refine tri_rowEq (len' := (ns ++ [R6.mk4 ns q0 q1 q2 q3]).length) (cells' := encs (ns ++ [R6.mk4 ns q0 q1 q2 q3])) hl.symm (by rw [encs_append]; rfl) ?_
    rw [← hl]
    refine tri_perm (A := ?a10_0 :: ?a10_1 :: ?a10_2 :: ?a10_3 :: ?a10_4 :: ?a10_5 :: ?T10) (B := ?a10_1 :: ?a10_4 :: ?a10_5 :: ?a10_2 :: ?a10_0 :: ?a10_3 :: ?T10) (by exact permL [1, 4, 5, 2, 0, 3] [?a10_0, ?a10_1, ?a10_2, ?a10_3, ?a10_4, ?a10_5] ?T10 (by decide) rfl) ?_
    refine tri_end (IxA bx mb a3 cap3 (ns ++ [R6.mk4 ns q0 q1 q2 q3]) room (mset es [q0, q1, q2, q3] (.int .i64 ns.length)) A) Suf.h rfl (.cons (rv_tmp rfl) (.cons (rv_tmp rfl) .nil)) ⟨a3, cap3, _, rfl, rfl, hix, rfl⟩
end Go.GL

set_option linter.unusedVariables false
namespace Go.GL
open Go.Proofs
attribute [local irreducible] wpList Code.wp Exit.then Exit.inBlock Ends Tri TriH OpV OpG FnC epf wpAnyH
/-- What node.Of tells. -/
def OfR (ns : List Node) (room : Int) (A : List Asrt) (I : List Chunk) : Value → List Asrt → List Chunk → Prop := fun v A' I' =>
  (R6.right ns room ∧ ∃ bx mb a' cap' es, v = .tuple [pt bx 0, .bool true].toArray ∧ A' = IxA bx mb a' cap' ns room es A ∧ Idx ns es ∧ I = I') ∨ (¬ R6.right ns room ∧ v = .tuple [.pointer none, .bool false].toArray ∧ A = A' ∧ I = I')
set_option maxHeartbeats 1000000 in
set_option maxRecDepth 100000 in
theorem node_of {A : List Asrt} {I : List Chunk} {ns : List Node} {a : Option Addr} {cap : Nat} {room : Int} (hs : StA I a cap ns) (hn : ns.length ≤ 1000000000) :
    FnC Try.prog 70 [storeV a ns.length cap room].toArray A I (OfR ns room A I) := by
  have hsl := hs.sl
  skip
  refine fn_enter1 Try.func70 rfl Try.ntmps70 rfl fun w0 => ?_
  refine tri_seq ?_
  refine tri_region ?_
  refine tri_g (opg_box_agg rfl) rfl ?_
  rintro _ _ _ ⟨b1, rfl, rfl, rfl⟩
  refine tri_v (opv_assign rfl) rfl ?_
  refine tri_v (opv_assign rfl) rfl ?_
  refine tri_nil ?_
  refine tri_then ?_
  refine tri_seq ?_
  refine tri_region ?_
  refine tri_v (opv_fieldAddr rfl rfl) rfl ?_
  refine tri_v (opv_load1 rfl rfl rfl) rfl ?_
  refine tri_v (opv_len rfl) rfl ?_
  refine tri_v (opv_assign rfl) rfl ?_
  refine tri_nil ?_
  refine tri_then ?_
  refine tri_seq ?_
  refine tri_seq ?_
  refine tri_region ?_
  refine tri_v (opv_fieldAddr rfl rfl) rfl ?_
  refine tri_v (opv_load1 rfl rfl rfl) rfl ?_
  refine tri_v (opv_lss rfl rfl) rfl ?_
  refine tri_v (opv_move rfl) rfl ?_
  refine tri_split rfl rfl (fun h1 => ?_) (fun h1 => ?_)
  · refine tri_guard_skip rfl rfl rfl rfl ?_
    refine tri_guard_skip rfl rfl rfl rfl ?_
    refine tri_guard_skip rfl rfl rfl rfl ?_
    refine tri_v (opv_pick_t rfl rfl) rfl ?_
    refine tri_v (opv_move rfl) rfl ?_
    refine tri_guard_skip rfl rfl rfl rfl ?_
    refine tri_guard_skip rfl rfl rfl rfl ?_
    refine tri_v (opv_pick_t rfl rfl) rfl ?_
    refine tri_v (opv_move rfl) rfl ?_
    refine tri_guard_skip rfl rfl rfl rfl ?_
    refine tri_guard_skip rfl rfl rfl rfl ?_
    refine tri_guard_skip rfl rfl rfl rfl ?_
    refine tri_guard_skip rfl rfl rfl rfl ?_
    refine tri_v (opv_pick_t rfl rfl) rfl ?_
    refine tri_v (opv_move rfl) rfl ?_
    refine tri_guard_skip rfl rfl rfl rfl ?_
    refine tri_guard_skip rfl rfl rfl rfl ?_
    refine tri_guard_skip rfl rfl rfl rfl ?_
    refine tri_guard_skip rfl rfl rfl rfl ?_
    refine tri_guard_skip rfl rfl rfl rfl ?_
    refine tri_guard_skip rfl rfl rfl rfl ?_
    refine tri_v (opv_pick_t rfl rfl) rfl ?_
    refine tri_v (opv_move rfl) rfl ?_
    refine tri_guard_skip rfl rfl rfl rfl ?_
    refine tri_guard_skip rfl rfl rfl rfl ?_
    refine tri_guard_skip rfl rfl rfl rfl ?_
    refine tri_guard_skip rfl rfl rfl rfl ?_
    refine tri_guard_skip rfl rfl rfl rfl ?_
    refine tri_guard_skip rfl rfl rfl rfl ?_
    refine tri_v (opv_pick_t rfl rfl) rfl ?_
    refine tri_nil ?_
    refine tri_then ?_
    refine tri_cond_true rfl ?_
    refine tri_seq ?_
    refine tri_region ?_
    refine tri_v (opv_assign rfl) rfl ?_
    refine tri_v (opv_assign rfl) rfl ?_
    refine tri_nil ?_
    refine tri_then ?_
    refine tri_ret ?_
    refine tri_then_ret ?_
    refine tri_end A Suf.h rfl (.cons (rv_tmp rfl) (.cons (rv_tmp rfl) .nil)) (.inr ⟨fun hf => ?_, rfl, rfl, rfl⟩)
    have := hf.1.1; omega
  refine tri_guard_run rfl rfl rfl ?_
  refine tri_v (opv_fieldAddr rfl rfl) rfl ?_
  refine tri_guard_run rfl rfl rfl ?_
  refine tri_v (opv_load1 rfl rfl rfl) rfl ?_
  refine tri_guard_run rfl rfl rfl ?_
  refine tri_v (opv_gtr rfl rfl) rfl ?_
  refine tri_v (opv_pick_f rfl rfl) rfl ?_
  refine tri_v (opv_move rfl) rfl ?_
  refine tri_split rfl rfl (fun h2 => ?_) (fun h2 => ?_)
  · refine tri_guard_skip rfl rfl rfl rfl ?_
    refine tri_guard_skip rfl rfl rfl rfl ?_
    refine tri_v (opv_pick_t rfl rfl) rfl ?_
    refine tri_v (opv_move rfl) rfl ?_
    refine tri_guard_skip rfl rfl rfl rfl ?_
    refine tri_guard_skip rfl rfl rfl rfl ?_
    refine tri_guard_skip rfl rfl rfl rfl ?_
    refine tri_guard_skip rfl rfl rfl rfl ?_
    refine tri_v (opv_pick_t rfl rfl) rfl ?_
    refine tri_v (opv_move rfl) rfl ?_
    refine tri_guard_skip rfl rfl rfl rfl ?_
    refine tri_guard_skip rfl rfl rfl rfl ?_
    refine tri_guard_skip rfl rfl rfl rfl ?_
    refine tri_guard_skip rfl rfl rfl rfl ?_
    refine tri_guard_skip rfl rfl rfl rfl ?_
    refine tri_guard_skip rfl rfl rfl rfl ?_
    refine tri_v (opv_pick_t rfl rfl) rfl ?_
    refine tri_v (opv_move rfl) rfl ?_
    refine tri_guard_skip rfl rfl rfl rfl ?_
    refine tri_guard_skip rfl rfl rfl rfl ?_
    refine tri_guard_skip rfl rfl rfl rfl ?_
    refine tri_guard_skip rfl rfl rfl rfl ?_
    refine tri_guard_skip rfl rfl rfl rfl ?_
    refine tri_guard_skip rfl rfl rfl rfl ?_
    refine tri_v (opv_pick_t rfl rfl) rfl ?_
    refine tri_nil ?_
    refine tri_then ?_
    refine tri_cond_true rfl ?_
    refine tri_seq ?_
    refine tri_region ?_
    refine tri_v (opv_assign rfl) rfl ?_
    refine tri_v (opv_assign rfl) rfl ?_
    refine tri_nil ?_
    refine tri_then ?_
    refine tri_ret ?_
    refine tri_then_ret ?_
    refine tri_end A Suf.h rfl (.cons (rv_tmp rfl) (.cons (rv_tmp rfl) .nil)) (.inr ⟨fun hf => ?_, rfl, rfl, rfl⟩)
    have := hf.1.2.1; omega
  refine tri_guard_run rfl rfl rfl ?_
  refine tri_v (opv_move rfl) rfl ?_
  refine tri_guard_run rfl rfl rfl ?_
  refine tri_v (opv_lss rfl rfl) rfl ?_
  refine tri_v (opv_pick_f rfl rfl) rfl ?_
  refine tri_v (opv_move rfl) rfl ?_
  refine tri_split rfl rfl (fun h3 => ?_) (fun h3 => ?_)
  · refine tri_guard_skip rfl rfl rfl rfl ?_
    refine tri_guard_skip rfl rfl rfl rfl ?_
    refine tri_guard_skip rfl rfl rfl rfl ?_
    refine tri_guard_skip rfl rfl rfl rfl ?_
    refine tri_v (opv_pick_t rfl rfl) rfl ?_
    refine tri_v (opv_move rfl) rfl ?_
    refine tri_guard_skip rfl rfl rfl rfl ?_
    refine tri_guard_skip rfl rfl rfl rfl ?_
    refine tri_guard_skip rfl rfl rfl rfl ?_
    refine tri_guard_skip rfl rfl rfl rfl ?_
    refine tri_guard_skip rfl rfl rfl rfl ?_
    refine tri_guard_skip rfl rfl rfl rfl ?_
    refine tri_v (opv_pick_t rfl rfl) rfl ?_
    refine tri_v (opv_move rfl) rfl ?_
    refine tri_guard_skip rfl rfl rfl rfl ?_
    refine tri_guard_skip rfl rfl rfl rfl ?_
    refine tri_guard_skip rfl rfl rfl rfl ?_
    refine tri_guard_skip rfl rfl rfl rfl ?_
    refine tri_guard_skip rfl rfl rfl rfl ?_
    refine tri_guard_skip rfl rfl rfl rfl ?_
    refine tri_v (opv_pick_t rfl rfl) rfl ?_
    refine tri_nil ?_
    refine tri_then ?_
    refine tri_cond_true rfl ?_
    refine tri_seq ?_
    refine tri_region ?_
    refine tri_v (opv_assign rfl) rfl ?_
    refine tri_v (opv_assign rfl) rfl ?_
    refine tri_nil ?_
    refine tri_then ?_
    refine tri_ret ?_
    refine tri_then_ret ?_
    refine tri_end A Suf.h rfl (.cons (rv_tmp rfl) (.cons (rv_tmp rfl) .nil)) (.inr ⟨fun hf => ?_, rfl, rfl, rfl⟩)
    have := hf.1.2.2.1; omega
  refine tri_guard_run rfl rfl rfl ?_
  refine tri_v (opv_move rfl) rfl ?_
  refine tri_guard_run rfl rfl rfl ?_
  refine tri_v (opv_fieldAddr rfl rfl) rfl ?_
  refine tri_guard_run rfl rfl rfl ?_
  refine tri_v (opv_load1 rfl rfl rfl) rfl ?_
  refine tri_guard_run rfl rfl rfl ?_
  refine tri_v (opv_gtr rfl rfl) rfl ?_
  refine tri_v (opv_pick_f rfl rfl) rfl ?_
  refine tri_v (opv_move rfl) rfl ?_
  refine tri_split rfl rfl (fun h4 => ?_) (fun h4 => ?_)
  · refine tri_guard_skip rfl rfl rfl rfl ?_
    refine tri_guard_skip rfl rfl rfl rfl ?_
    refine tri_guard_skip rfl rfl rfl rfl ?_
    refine tri_guard_skip rfl rfl rfl rfl ?_
    refine tri_guard_skip rfl rfl rfl rfl ?_
    refine tri_guard_skip rfl rfl rfl rfl ?_
    refine tri_v (opv_pick_t rfl rfl) rfl ?_
    refine tri_v (opv_move rfl) rfl ?_
    refine tri_guard_skip rfl rfl rfl rfl ?_
    refine tri_guard_skip rfl rfl rfl rfl ?_
    refine tri_guard_skip rfl rfl rfl rfl ?_
    refine tri_guard_skip rfl rfl rfl rfl ?_
    refine tri_guard_skip rfl rfl rfl rfl ?_
    refine tri_guard_skip rfl rfl rfl rfl ?_
    refine tri_v (opv_pick_t rfl rfl) rfl ?_
    refine tri_nil ?_
    refine tri_then ?_
    refine tri_cond_true rfl ?_
    refine tri_seq ?_
    refine tri_region ?_
    refine tri_v (opv_assign rfl) rfl ?_
    refine tri_v (opv_assign rfl) rfl ?_
    refine tri_nil ?_
    refine tri_then ?_
    refine tri_ret ?_
    refine tri_then_ret ?_
    refine tri_end A Suf.h rfl (.cons (rv_tmp rfl) (.cons (rv_tmp rfl) .nil)) (.inr ⟨fun hf => ?_, rfl, rfl, rfl⟩)
    have := hf.1.2.2.2.1; omega
  refine tri_guard_run rfl rfl rfl ?_
  refine tri_v (opv_fieldAddr rfl rfl) rfl ?_
  refine tri_guard_run rfl rfl rfl ?_
  refine tri_v (opv_load1 rfl rfl rfl) rfl ?_
  refine tri_guard_run rfl rfl rfl ?_
  refine tri_v (opv_indexAddrS rfl rfl (by omega) (by omega) (by assumption) rfl) rfl ?_
  refine tri_guard_run rfl rfl rfl ?_
  refine tri_v (opv_loadEA rfl (by assumption) rfl (by omega) rfl rfl) rfl ?_
  refine tri_guard_run rfl rfl rfl ?_
  refine tri_v (opv_buildS rfl rfl) rfl ?_
  refine tri_guard_run rfl rfl rfl ?_
  refine tri_v (opv_neqI rfl rfl rfl rfl rfl rfl) rfl ?_
  refine tri_v (opv_pick_f rfl rfl) rfl ?_
  refine tri_v (opv_move rfl) rfl ?_
  refine tri_split rfl rfl (fun h5 => ?_) (fun h5 => ?_)
  · refine tri_guard_skip rfl rfl rfl rfl ?_
    refine tri_guard_skip rfl rfl rfl rfl ?_
    refine tri_guard_skip rfl rfl rfl rfl ?_
    refine tri_guard_skip rfl rfl rfl rfl ?_
    refine tri_guard_skip rfl rfl rfl rfl ?_
    refine tri_guard_skip rfl rfl rfl rfl ?_
    refine tri_v (opv_pick_t rfl rfl) rfl ?_
    refine tri_nil ?_
    refine tri_then ?_
    refine tri_cond_true rfl ?_
    refine tri_seq ?_
    refine tri_region ?_
    refine tri_v (opv_assign rfl) rfl ?_
    refine tri_v (opv_assign rfl) rfl ?_
    refine tri_nil ?_
    refine tri_then ?_
    refine tri_ret ?_
    refine tri_then_ret ?_
    refine tri_end A Suf.h rfl (.cons (rv_tmp rfl) (.cons (rv_tmp rfl) .nil)) (.inr ⟨fun hf => ?_, rfl, rfl, rfl⟩)
    exact Node.ne_iff'.2 h5 hf.1.2.2.2.2.1
  refine tri_guard_run rfl rfl rfl ?_
  refine tri_v (opv_fieldAddr rfl rfl) rfl ?_
  refine tri_guard_run rfl rfl rfl ?_
  refine tri_v (opv_load1 rfl rfl rfl) rfl ?_
  refine tri_guard_run rfl rfl rfl ?_
  refine tri_v (opv_indexAddrS rfl rfl (by omega) (by omega) (by assumption) rfl) rfl ?_
  refine tri_guard_run rfl rfl rfl ?_
  refine tri_v (opv_loadEA rfl (by assumption) rfl (by omega) rfl rfl) rfl ?_
  refine tri_guard_run rfl rfl rfl ?_
  refine tri_v (opv_buildS rfl rfl) rfl ?_
  refine tri_guard_run rfl rfl rfl ?_
  refine tri_v (opv_neqI rfl rfl rfl rfl rfl rfl) rfl ?_
  refine tri_v (opv_pick_f rfl rfl) rfl ?_
  refine tri_nil ?_
  refine tri_then ?_
  refine tri_cond_dec rfl (fun h6 => ?_) (fun h6 => ?_)
  · refine tri_seq ?_
    refine tri_region ?_
    refine tri_v (opv_assign rfl) rfl ?_
    refine tri_v (opv_assign rfl) rfl ?_
    refine tri_nil ?_
    refine tri_then ?_
    refine tri_ret ?_
    refine tri_then_ret ?_
    refine tri_end A Suf.h rfl (.cons (rv_tmp rfl) (.cons (rv_tmp rfl) .nil)) (.inr ⟨fun hf => ?_, rfl, rfl, rfl⟩)
    exact Node.ne_iff'.2 h6 hf.1.2.2.2.2.2
  skip
  have e0 : ns.getD 0 default = R6.n0 := Decidable.not_not.1 fun h => h5 (Node.ne_iff'.1 h)
  have e1 : ns.getD 1 default = R6.n1 := Decidable.not_not.1 fun h => h6 (Node.ne_iff'.1 h)
  have et : ns.take 2 = [R6.n0, R6.n1] := by
    rw [← e0, ← e1]
    apply List.ext_getElem
    · rw [List.length_take]; simp; omega
    · intro i h1 h2
      rw [List.length_take] at h1
      rcases (by omega : i = 0 ∨ i = 1) with rfl | rfl <;> simp <;> rw [List.getElem?_eq_getElem (by omega)] <;> simp
  have htl : (ns.take 2).length = 2 := by rw [et]; rfl
  refine tri_skip ?_
  refine tri_then ?_
  refine tri_seq ?_
  refine tri_cut (fun F' A' J => ∃ bx mb a1 c1, F' = [(1, pt b1 0), (5, pt bx 0)] ∧ A' = IxA bx mb a1 c1 (ns.take 2) room [] (Box b1 [.slice a ns.length cap, .int .i64 room] 26 :: A) ∧ I = J) ?_ ?_
  · refine tri_draw [0, 1, 2, 4, 5, 3, 6, 7, 8, 9, 10] rfl [] rfl mixed ?_
    refine th_take rfl rfl (by kernel_rfl)  (opv_fieldAddr rfl rfl) ?_
    refine th_take rfl rfl (by kernel_rfl)  (opv_load1 rfl rfl rfl) ?_
    refine th_take rfl rfl (by kernel_rfl)  (opv_sliceHi rfl rfl (by omega) (by omega) hs rfl) ?_
    refine th_take rfl rfl (by kernel_rfl)  (opv_fieldAddr rfl rfl) ?_
    refine th_take rfl rfl (by kernel_rfl)  (opv_load1 rfl rfl rfl) ?_
    refine th_two (j := 7) [3, 6, 8, 9, 10] (by kernel_rfl) rfl ?_ ?_
    · refine (step_m rfl rfl (opg_call (xs := [_]) rfl (clone_nodes (hsl.take 2) (by omega) (by omega))) ?_)
      rintro _ _ _ ⟨a1, c1, rfl, rfl, rfl⟩
      refine ⟨Suf.h, (fun _ h => h), ?_⟩
      refine th_take rfl rfl (by kernel_rfl)  (opv_buildS rfl rfl) ?_
      refine th_one (by kernel_rfl) (step_m rfl rfl opg_makeMap ?_)
      rintro _ _ _ ⟨b56, rfl, rfl, rfl⟩
      refine ⟨Suf.h, (fun _ h => h), ?_⟩
      refine th_take rfl rfl (by kernel_rfl)  (opv_buildS rfl rfl) ?_
      refine th_one (by kernel_rfl) (step_m rfl rfl (opg_box_agg rfl) ?_)
      rintro _ _ _ ⟨b58, rfl, rfl, rfl⟩
      refine ⟨Suf.h, (fun _ h => h), ?_⟩
      refine th_take rfl rfl (by kernel_rfl)  (opv_assign rfl) ?_
      refine th_done (by kernel_rfl) ?_
      refine tri_perm (A := ?a1_0 :: ?a1_1 :: ?a1_2 :: ?T1) (B := ?a1_0 :: ?a1_2 :: ?a1_1 :: ?T1) (by exact permL [0, 2, 1] [?a1_0, ?a1_1, ?a1_2] ?T1 (by decide) rfl) ?_
      exact tri_cutEnd _ ⟨b58, b56, a1, c1, rfl, rfl, rfl⟩ ⟨rfl, rfl, trivial⟩
    · refine (step_m rfl rfl opg_makeMap ?_)
      rintro _ _ _ ⟨b56, rfl, rfl, rfl⟩
      refine ⟨Suf.h, (fun _ h => h), ?_⟩
      refine th_one (by kernel_rfl) (step_m rfl rfl (opg_call (xs := [_]) rfl (clone_nodes (hsl.take 2) (by omega) (by omega))) ?_)
      rintro _ _ _ ⟨a1, c1, rfl, rfl, rfl⟩
      refine ⟨Suf.h, (fun _ h => h), ?_⟩
      refine th_take rfl rfl (by kernel_rfl)  (opv_buildS rfl rfl) ?_
      refine th_take rfl rfl (by kernel_rfl)  (opv_buildS rfl rfl) ?_
      refine th_one (by kernel_rfl) (step_m rfl rfl (opg_box_agg rfl) ?_)
      rintro _ _ _ ⟨b58, rfl, rfl, rfl⟩
      refine ⟨Suf.h, (fun _ h => h), ?_⟩
      refine th_take rfl rfl (by kernel_rfl)  (opv_assign rfl) ?_
      refine th_done (by kernel_rfl) ?_
      exact tri_cutEnd _ ⟨b58, b56, a1, c1, rfl, rfl, rfl⟩ ⟨rfl, rfl, trivial⟩
  rintro _ _ _ ⟨bx, mb, a1, c1, rfl, rfl, rfl⟩
  skip
  refine tri_then ?_
  refine tri_seq ?_
  refine tri_seq ?_
  refine tri_region ?_
  refine tri_v (opv_fieldAddr rfl rfl) rfl ?_
  refine tri_v (opv_load1 rfl rfl rfl) rfl ?_
  refine tri_g (opg_sliceLo rfl rfl (by omega) (by omega) hs rfl rfl) rfl ?_
  rintro _ _ _ ⟨a5, rfl, hs5, rfl, rfl⟩
  have hs5' := hs5.sl
  have hdl : (ns.drop (2:Int).toNat).length = ns.length - 2 := by rw [List.length_drop]; rfl
  refine tri_v (opv_len rfl) rfl ?_
  refine tri_v (opv_move rfl) rfl ?_
  refine tri_nil ?_
  refine tri_then ?_
  refine tri_block ?_
  have hix0 : Idx (ns.take (0 + 2)) [] := by rw [et]; exact Idx.start
  have hm0 : R6.ModTo ns (0 + 2) := fun j hj => by
    rcases (by omega : j = 0 ∨ j = 1) with rfl | rfl
    · rw [e0]; decide
    · rw [e1]; decide
  refine tri_sub (F' := [(1, pt b1 0), (5, pt bx 0), (61, .slice a5 (ns.drop (2:Int).toNat).length (cap - (2:Int).toNat)), (62, .int .i64 ((ns.drop (2:Int).toNat).length : Nat)), (63, .int .i64 (0 : Nat))]) ⟨rfl, rfl, rfl, rfl, rfl, trivial⟩ ?_
  refine loop_ind (G := Nat × Option Addr × Nat × KVs) (fun g => ns.length - g.1) (fun g => g.1 + 2 ≤ ns.length ∧ (∀ j, j < g.1 + 2 → 2 ≤ j → R6.fits ns j) ∧ R6.ModTo ns (g.1 + 2) ∧ Idx (ns.take (g.1 + 2)) g.2.2.2) (fun g => [(1, pt b1 0), (5, pt bx 0), (61, .slice a5 (ns.drop (2:Int).toNat).length (cap - (2:Int).toNat)), (62, .int .i64 ((ns.drop (2:Int).toNat).length : Nat)), (63, .int .i64 (g.1 : Nat))])
    (fun g => IxA bx mb g.2.1 g.2.2.1 (ns.take (g.1 + 2)) room g.2.2.2 (Box b1 [.slice a ns.length cap, .int .i64 room] 26 :: A)) (fun _ => I) ?_ (0, a1, c1, []) ⟨by simp only; omega, fun j h h' => absurd h (by simp only; omega), hm0, hix0⟩
  rintro ⟨i, ai, ci, es⟩ ⟨hi, hok, hmi, hix⟩ K hK
  simp only at hi hok hmi hix hK ⊢
  have htk : (ns.take (i + 2)).length = i + 2 := by rw [List.length_take]; omega
  skip
  refine tri_seq ?_
  refine tri_region ?_
  refine tri_v (opv_lss rfl rfl) rfl ?_
  refine tri_nil ?_
  refine tri_then ?_
  refine tri_seq ?_
  refine tri_cond_dec rfl (fun h => ?_) (fun h => ?_)
  · have hlt : i + 2 < ns.length := by omega
    have hy : (ns.drop (2:Int).toNat).getD i default = ns.getD (i + 2) default := by
      rw [List.getD_eq_getElem?_getD, List.getD_eq_getElem?_getD, List.getElem?_drop, show (2:Int).toNat + i = i + 2 by simp; omega]
    have hfi := R6.fits_iff (by omega) hlt hmi
    have htk1 : ns.take (i + 2 + 1) = ns.take (i + 2) ++ [ns.getD (i + 2) default] := by
      rw [List.take_succ_eq_append_getElem hlt]; simp [hlt]
    obtain ⟨y, hyd⟩ : ∃ y, y = (ns.drop (2:Int).toNat).getD i default := ⟨_, rfl⟩
    have hy2 : y = ns.getD (i + 2) default := hyd.trans hy
    rw [← hy2] at hfi htk1
    have hmf := hix y.kids
    refine tri_skip ?_
    refine tri_then ?_
    refine tri_seq ?_
    refine tri_block ?_
    refine tri_seq ?_
    refine tri_region ?_
    refine tri_v (opv_move rfl) rfl ?_
    refine tri_v (opv_indexAddrSN rfl rfl (by omega) (by assumption) rfl) rfl ?_
    refine tri_v (opv_loadEA rfl (by assumption) rfl (by omega) rfl rfl) rfl ?_
    refine tri_g opg_alloc rfl ?_
    rintro _ _ _ ⟨b7, rfl, rfl, rfl⟩
    refine tri_v (opv_assign rfl) rfl ?_
    refine tri_g (opg_store rfl rfl rfl rfl rfl rfl) rfl ?_
    rintro _ _ _ ⟨rfl, rfl⟩
    refine tri_nil ?_
    refine tri_then ?_
    refine tri_seq ?_
    refine tri_sub (F' := [(1, pt b1 0), (5, pt bx 0), (6, .int .i64 (i : Nat)), (7, pt b7 0), (61, .slice a5 (ns.drop (2:Int).toNat).length (cap - (2:Int).toNat)), (62, .int .i64 ((ns.drop (2:Int).toNat).length : Nat)), (63, .int .i64 (i : Nat))]) ⟨rfl, rfl, rfl, rfl, rfl, rfl, rfl, trivial⟩ ?_
    rw [← hyd]
    refine tri_perm (A := ?a2_0 :: ?a2_1 :: ?a2_2 :: ?T2) (B := ?a2_1 :: ?a2_2 :: ?a2_0 :: ?T2) (by exact permL [1, 2, 0] [?a2_0, ?a2_1, ?a2_2] ?T2 (by decide) rfl) ?_
    refine tri_region ?_
    refine tri_v (opv_move rfl) rfl ?_
    refine tri_v (opv_fieldAddr rfl rfl) rfl ?_
    refine tri_v (opv_loadA rfl rfl rfl) rfl ?_
    refine tri_g (opg_call (xs := [_, _]) rfl (node_parent (by omega) hmi.take)) rfl ?_
    rintro _ _ _ ⟨⟨z, ok, rfl, hok2, hz⟩, rfl, rfl⟩
    refine tri_v (opv_move rfl) rfl ?_
    refine tri_v (opv_extract rfl rfl) rfl ?_
    refine tri_v (opv_extract rfl rfl) rfl ?_
    refine tri_g opg_alloc rfl ?_
    rintro _ _ _ ⟨b8, rfl, rfl, rfl⟩
    refine tri_g (opg_store rfl rfl rfl rfl rfl rfl) rfl ?_
    rintro _ _ _ ⟨rfl, rfl⟩
    refine tri_v (opv_assign rfl) rfl ?_
    refine tri_nil ?_
    refine tri_then ?_
    refine tri_seq ?_
    refine tri_seq ?_
    refine tri_draw [0, 1, 2, 3, 4, 5, 6, 7, 8, 9, 10, 11] rfl [] rfl mixed ?_
    refine th_take rfl rfl (by kernel_rfl)  (opv_move rfl) ?_
    refine th_take rfl rfl (by kernel_rfl)  (opv_nilCheck rfl) ?_
    refine th_take rfl rfl (by kernel_rfl)  (opv_fieldAddr rfl rfl) ?_
    refine th_take rfl rfl (by kernel_rfl)  (opv_load1 rfl rfl rfl) ?_
    refine th_take rfl rfl (by kernel_rfl)  (opv_fieldAddr rfl rfl) ?_
    refine th_take rfl rfl (by kernel_rfl)  (opv_loadA rfl rfl rfl) ?_
    refine th_take rfl rfl (by kernel_rfl)  (opv_lookup2 (P := Try.prog) (ks := [y.k0, y.k1, y.k2, y.k3]) zeroInt rfl rfl (key4 y.k0 y.k1 y.k2 y.k3) keyAt rfl) ?_
    refine th_take rfl rfl (by kernel_rfl)  (opv_move rfl) ?_
    refine th_take rfl rfl (by kernel_rfl)  (opv_extract rfl rfl) ?_
    refine th_take rfl rfl (by kernel_rfl)  (opv_extract rfl rfl) ?_
    refine th_take rfl rfl (by kernel_rfl)  (opv_assign rfl) ?_
    refine th_take rfl rfl (by kernel_rfl)  (opv_assign rfl) ?_
    refine th_done (by kernel_rfl) ?_
    refine tri_then ?_
    refine tri_seq ?_
    refine tri_region ?_
    refine tri_v (opv_move rfl) rfl ?_
    refine tri_v (opv_move rfl) rfl ?_
    refine tri_bool 86 rfl (fun g1 => ?_) (fun g1 => ?_)
    · refine tri_guard_skip rfl rfl rfl rfl ?_
      refine tri_guard_skip rfl rfl rfl rfl ?_
      refine tri_v (opv_pick_t rfl rfl) rfl ?_
      refine tri_v (opv_move rfl) rfl ?_
      refine tri_guard_skip rfl rfl rfl rfl ?_
      refine tri_guard_skip rfl rfl rfl rfl ?_
      refine tri_guard_skip rfl rfl rfl rfl ?_
      refine tri_v (opv_pick_t rfl rfl) rfl ?_
      refine tri_nil ?_
      refine tri_then ?_
      refine tri_cond_true rfl ?_
      refine tri_seq ?_
      refine tri_region ?_
      refine tri_v (opv_assign rfl) rfl ?_
      refine tri_v (opv_assign rfl) rfl ?_
      refine tri_nil ?_
      refine tri_then ?_
      refine tri_ret ?_
      refine tri_then_ret ?_
      refine tri_inBlock_ret ?_
      refine tri_then_ret ?_
      refine tri_then_ret ?_
      refine tri_inBlock_ret ?_
      refine tri_then_ret ?_
      refine tri_end A Suf.h rfl (.cons (rv_tmp rfl) (.cons (rv_tmp rfl) .nil)) (.inr ⟨fun hf => ?_, rfl, rfl, rfl⟩)
      have h3 := (hfi.1 (hf.2 (i + 2) hlt (by omega))).1
      rw [if_neg h3] at hmf
      have g1' : (mfind es y.kids).isSome = true := g1
      rw [hmf] at g1'
      cases g1'
    refine tri_guard_run rfl rfl rfl ?_
    refine tri_v (opv_move rfl) rfl ?_
    refine tri_guard_run rfl rfl rfl ?_
    refine tri_v (opv_not rfl) rfl ?_
    refine tri_v (opv_pick_f rfl rfl) rfl ?_
    refine tri_v (opv_move rfl) rfl ?_
    have hat : ¬ 0 ≤ R6.at_ (ns.take (i + 2)) y.kids := fun h3 => by
      rw [if_pos h3] at hmf
      have g1' : (mfind es y.kids).isSome = false := g1
      rw [hmf] at g1'
      cases g1'
    refine tri_bool 90 rfl (fun g2 => ?_) (fun g2 => ?_)
    · refine tri_guard_skip rfl rfl rfl rfl ?_
      refine tri_guard_skip rfl rfl rfl rfl ?_
      refine tri_guard_skip rfl rfl rfl rfl ?_
      refine tri_v (opv_pick_t rfl rfl) rfl ?_
      refine tri_nil ?_
      refine tri_then ?_
      refine tri_cond_true rfl ?_
      refine tri_seq ?_
      refine tri_region ?_
      refine tri_v (opv_assign rfl) rfl ?_
      refine tri_v (opv_assign rfl) rfl ?_
      refine tri_nil ?_
      refine tri_then ?_
      refine tri_ret ?_
      refine tri_then_ret ?_
      refine tri_inBlock_ret ?_
      refine tri_then_ret ?_
      refine tri_then_ret ?_
      refine tri_inBlock_ret ?_
      refine tri_then_ret ?_
      refine tri_end A Suf.h rfl (.cons (rv_tmp rfl) (.cons (rv_tmp rfl) .nil)) (.inr ⟨fun hf => ?_, rfl, rfl, rfl⟩)
      have h3 := (hfi.1 (hf.2 (i + 2) hlt (by omega))).2.1
      rw [hok2.2 h3] at g2
      cases g2
    refine tri_guard_run rfl rfl rfl ?_
    refine tri_v (opv_loadA rfl rfl rfl) rfl ?_
    refine tri_guard_run rfl rfl rfl ?_
    refine tri_v (opv_loadA rfl rfl rfl) rfl ?_
    refine tri_guard_run rfl rfl rfl ?_
    refine tri_v (opv_neqI rfl rfl rfl rfl rfl rfl) rfl ?_
    refine tri_v (opv_pick_f rfl rfl) rfl ?_
    refine tri_nil ?_
    refine tri_then ?_
    have hok1 : ok = true := by cases ok <;> simp_all
    have hf4 := hok2.1 hok1
    have hz' := hz hok1
    refine tri_cond_dec rfl (fun g3 => ?_) (fun g3 => ?_)
    · refine tri_seq ?_
      refine tri_region ?_
      refine tri_v (opv_assign rfl) rfl ?_
      refine tri_v (opv_assign rfl) rfl ?_
      refine tri_nil ?_
      refine tri_then ?_
      refine tri_ret ?_
      refine tri_then_ret ?_
      refine tri_inBlock_ret ?_
      refine tri_then_ret ?_
      refine tri_then_ret ?_
      refine tri_inBlock_ret ?_
      refine tri_then_ret ?_
      refine tri_end A Suf.h rfl (.cons (rv_tmp rfl) (.cons (rv_tmp rfl) .nil)) (.inr ⟨fun hf => ?_, rfl, rfl, rfl⟩)
      have h3 := (hfi.1 (hf.2 (i + 2) hlt (by omega))).2.2
      exact Node.ne_iff'.2 g3 (hz'.trans h3)
    have hzy : z = y := Decidable.not_not.1 fun h => g3 (Node.ne_iff'.1 h)
    have hfit : R6.fits ns (i + 2) := hfi.2 ⟨hat, hf4, hz'.symm.trans hzy⟩
    have htk2 : ns.take (i + 1 + 2) = ns.take (i + 2) ++ [y] := htk1
    have hl3 : (ns.take (i + 1 + 2)).length = (ns.take (i + 2)).length + 1 := by rw [htk2]; simp
    have hok2' : ∀ j, j < i + 1 + 2 → 2 ≤ j → R6.fits ns j := fun j hj hj2 => by
      by_cases e : j = i + 2
      · subst e; exact hfit
      · exact hok j (by omega) hj2
    have hix2 : Idx (ns.take (i + 1 + 2)) (mset es [y.k0, y.k1, y.k2, y.k3] (.int .i64 ((i : Int) + 2))) := by
      have := hix.snoc (by omega) y hat
      rw [htk, ← htk2] at this
      exact this
    skip
    refine tri_skip ?_
    refine tri_then ?_
    refine tri_seq ?_
    refine tri_perm (A := ?a3_0 :: ?a3_1 :: ?a3_2 :: ?a3_3 :: ?a3_4 :: ?T3) (B := ?a3_4 :: ?a3_0 :: ?a3_1 :: ?a3_2 :: ?a3_3 :: ?T3) (by exact permL [4, 0, 1, 2, 3] [?a3_0, ?a3_1, ?a3_2, ?a3_3, ?a3_4] ?T3 (by decide) rfl) ?_
    skip
    refine tri_draw [0, 1, 2, 3, 4, 5, 6, 7, 8] rfl [_] rfl mixed ?_
    refine th_take rfl rfl (by kernel_rfl)  (opv_move rfl) ?_
    refine th_take rfl rfl (by kernel_rfl)  (opv_nilCheck rfl) ?_
    refine th_take rfl rfl (by kernel_rfl)  (opv_fieldAddr rfl rfl) ?_
    refine th_take rfl rfl (by kernel_rfl)  (opv_load1 rfl rfl rfl) ?_
    refine th_take rfl rfl (by kernel_rfl)  (opv_fieldAddr rfl rfl) ?_
    refine th_take rfl rfl (by kernel_rfl)  (opv_loadA rfl rfl rfl) ?_
    refine th_take rfl rfl (by kernel_rfl)  (opv_move rfl) ?_
    refine th_take rfl rfl (by kernel_rfl)  (opv_add rfl rfl (w64 (by omega) (by omega))) ?_
    refine th_one (by kernel_rfl) (step_m rfl rfl (opg_mapUpdate (P := Try.prog) (ks := [y.k0, y.k1, y.k2, y.k3]) rfl rfl rfl (key4 y.k0 y.k1 y.k2 y.k3) keyAt rfl) ?_)
    rintro _ _ _ ⟨rfl, rfl⟩
    refine ⟨Suf.h, (fun _ h => h), ?_⟩
    refine th_done (by kernel_rfl) ?_
    refine tri_then ?_
    refine tri_perm (A := ?a4_0 :: ?a4_1 :: ?a4_2 :: ?a4_3 :: ?a4_4 :: ?T4) (B := ?a4_2 :: ?a4_3 :: ?a4_0 :: ?a4_1 :: ?a4_4 :: ?T4) (by exact permL [2, 3, 0, 1, 4] [?a4_0, ?a4_1, ?a4_2, ?a4_3, ?a4_4] ?T4 (by decide) rfl) ?_
    skip
    refine tri_draw [0, 1, 2, 3, 4, 6, 5, 7, 8, 9, 10, 11, 12] rfl [_, _] rfl mixed ?_
    refine th_take rfl rfl (by kernel_rfl)  (opv_move rfl) ?_
    refine th_take rfl rfl (by kernel_rfl)  (opv_move rfl) ?_
    refine th_take rfl rfl (by kernel_rfl)  (opv_nilCheck rfl) ?_
    refine th_take rfl rfl (by kernel_rfl)  (opv_fieldAddr rfl rfl) ?_
    refine th_take rfl rfl (by kernel_rfl)  (opv_fieldAddr rfl rfl) ?_
    refine th_take rfl rfl (by kernel_rfl)  (opv_loadA rfl rfl rfl) ?_
    refine th_two (j := 7) [5, 8, 9, 10, 11, 12] (by kernel_rfl) rfl ?_ ?_
    · refine (step_m rfl rfl (OpV.toG (opv_load1 rfl rfl rfl)) ?_)
      rintro _ _ _ ⟨rfl, rfl, rfl⟩
      refine ⟨Suf.h, (fun _ h => h), ?_⟩
      refine th_one (by kernel_rfl) (step_m rfl rfl (opg_buildSlice rfl rfl rfl rfl) ?_)
      rintro _ _ _ ⟨b110, rfl, rfl, rfl⟩
      refine ⟨Suf.h, (fun _ h => h), ?_⟩
      refine th_one (by kernel_rfl) (step_m rfl rfl (opg_appendB rfl rfl rfl rfl (by omega) rfl) ?_)
      rintro _ _ _ ⟨a3, c3, rfl, rfl, rfl⟩
      refine ⟨Suf.h, (fun _ h => h), ?_⟩
      refine th_take rfl rfl (by kernel_rfl)  (opv_nilCheck rfl) ?_
      refine th_take rfl rfl (by kernel_rfl)  (opv_fieldAddr rfl rfl) ?_
      refine th_take rfl rfl (by kernel_rfl)  (opv_fieldAddr rfl rfl) ?_
      refine th_one (by kernel_rfl) (step_m rfl rfl (opg_store rfl rfl rfl rfl rfl rfl) ?_)
      rintro _ _ _ ⟨rfl, rfl⟩
      refine ⟨Suf.h, (fun _ h => h), ?_⟩
      refine th_done (by kernel_rfl) ?_
      refine tri_inBlock ?_
      refine tri_then ?_
      refine tri_region ?_
      refine tri_v (opv_add rfl rfl (w64 (by omega) (by omega))) rfl ?_
      refine tri_v (opv_move rfl) rfl ?_
      refine tri_nil ?_
      refine tri_then ?_
      refine tri_perm (A := ?a5_0 :: ?a5_1 :: ?a5_2 :: ?a5_3 :: ?a5_4 :: ?a5_5 :: ?T5) (B := ?a5_0 :: ?a5_4 :: ?a5_5 :: ?a5_2 :: ?a5_1 :: ?a5_3 :: ?T5) (by exact permL [0, 4, 5, 2, 1, 3] [?a5_0, ?a5_1, ?a5_2, ?a5_3, ?a5_4, ?a5_5] ?T5 (by decide) rfl) ?_
      refine tri_drop ?_
      refine tri_drop ?_
      refine tri_drop ?_
      refine tri_rowEq (len' := (ns.take (i + 1 + 2)).length) (cells' := encs (ns.take (i + 1 + 2))) hl3.symm (by rw [htk2, encs_append]; rfl) ?_
      rw [← hl3]
      refine tri_perm (A := ?a6_0 :: ?a6_1 :: ?a6_2 :: ?T6) (B := ?a6_1 :: ?a6_0 :: ?a6_2 :: ?T6) (by exact permL [1, 0, 2] [?a6_0, ?a6_1, ?a6_2] ?T6 (by decide) rfl) ?_
      refine tri_sub ?_ (hK (i + 1, a3, c3, mset es [y.k0, y.k1, y.k2, y.k3] (.int .i64 ((i : Int) + 2))) ⟨by simp only; omega, hok2', hmi.step hfit, hix2⟩ (by simp only; omega))
      exact ⟨rfl, rfl, rfl, rfl, rfl, trivial⟩
    · refine (step_m rfl rfl (opg_buildSlice rfl rfl rfl rfl) ?_)
      rintro _ _ _ ⟨b110, rfl, rfl, rfl⟩
      refine ⟨Suf.h, (fun _ h => h), ?_⟩
      refine th_one (by kernel_rfl) (step_m rfl rfl (OpV.toG (opv_load1 rfl rfl rfl)) ?_)
      rintro _ _ _ ⟨rfl, rfl, rfl⟩
      refine ⟨Suf.h, (fun _ h => h), ?_⟩
      refine th_one (by kernel_rfl) (step_m rfl rfl (opg_appendB rfl rfl rfl rfl (by omega) rfl) ?_)
      rintro _ _ _ ⟨a3, c3, rfl, rfl, rfl⟩
      refine ⟨Suf.h, (fun _ h => h), ?_⟩
      refine th_take rfl rfl (by kernel_rfl)  (opv_nilCheck rfl) ?_
      refine th_take rfl rfl (by kernel_rfl)  (opv_fieldAddr rfl rfl) ?_
      refine th_take rfl rfl (by kernel_rfl)  (opv_fieldAddr rfl rfl) ?_
      refine th_one (by kernel_rfl) (step_m rfl rfl (opg_store rfl rfl rfl rfl rfl rfl) ?_)
      rintro _ _ _ ⟨rfl, rfl⟩
      refine ⟨Suf.h, (fun _ h => h), ?_⟩
      refine th_done (by kernel_rfl) ?_
      refine tri_inBlock ?_
      refine tri_then ?_
      refine tri_region ?_
      refine tri_v (opv_add rfl rfl (w64 (by omega) (by omega))) rfl ?_
      refine tri_v (opv_move rfl) rfl ?_
      refine tri_nil ?_
      refine tri_then ?_
      refine tri_perm (A := ?a7_0 :: ?a7_1 :: ?a7_2 :: ?a7_3 :: ?a7_4 :: ?a7_5 :: ?T7) (B := ?a7_0 :: ?a7_4 :: ?a7_5 :: ?a7_2 :: ?a7_1 :: ?a7_3 :: ?T7) (by exact permL [0, 4, 5, 2, 1, 3] [?a7_0, ?a7_1, ?a7_2, ?a7_3, ?a7_4, ?a7_5] ?T7 (by decide) rfl) ?_
      refine tri_drop ?_
      refine tri_drop ?_
      refine tri_drop ?_
      refine tri_rowEq (len' := (ns.take (i + 1 + 2)).length) (cells' := encs (ns.take (i + 1 + 2))) hl3.symm (by rw [htk2, encs_append]; rfl) ?_
      rw [← hl3]
      refine tri_perm (A := ?a8_0 :: ?a8_1 :: ?a8_2 :: ?T8) (B := ?a8_1 :: ?a8_0 :: ?a8_2 :: ?T8) (by exact permL [1, 0, 2] [?a8_0, ?a8_1, ?a8_2] ?T8 (by decide) rfl) ?_
      refine tri_sub ?_ (hK (i + 1, a3, c3, mset es [y.k0, y.k1, y.k2, y.k3] (.int .i64 ((i : Int) + 2))) ⟨by simp only; omega, hok2', hmi.step hfit, hix2⟩ (by simp only; omega))
      exact ⟨rfl, rfl, rfl, rfl, rfl, trivial⟩
  · have hi2 : i + 2 = ns.length := by omega
    have hr : R6.right ns room := ⟨⟨by omega, by omega, by omega, by omega, e0, e1⟩, fun j hj hj2 => hok j (by omega) hj2⟩
    have e : ns.take (i + 2) = ns := List.take_of_length_le (by omega)
    rw [e] at hix
    rw [e]
    refine tri_exit ?_
    refine tri_then_exit ?_
    refine tri_then_exit ?_
    refine tri_inBlock_hit rfl ?_
    refine tri_then ?_
    refine tri_seq ?_
    refine tri_region ?_
    refine tri_v (opv_move rfl) rfl ?_
    refine tri_v (opv_assign rfl) rfl ?_
    refine tri_v (opv_assign rfl) rfl ?_
    refine tri_nil ?_
    refine tri_then ?_
    refine tri_ret ?_
    refine tri_perm (A := ?a9_0 :: ?a9_1 :: ?a9_2 :: ?a9_3 :: ?T9) (B := ?a9_3 :: ?a9_0 :: ?a9_1 :: ?a9_2 :: ?T9) (by exact permL [3, 0, 1, 2] [?a9_0, ?a9_1, ?a9_2, ?a9_3] ?T9 (by decide) rfl) ?_
    refine tri_end (IxA bx mb ai ci ns room es A) Suf.h rfl (.cons (rv_tmp rfl) (.cons (rv_tmp rfl) .nil)) (.inl ⟨hr, bx, mb, ai, ci, es, rfl, rfl, hix, rfl⟩)
end Go.GL

set_option linter.unusedVariables false
namespace Go.GL
open Go.Proofs
attribute [local irreducible] wpList Code.wp Exit.then Exit.inBlock Ends Tri TriH OpV OpG FnC epf wpAnyH
variable {A : List Asrt} {I : List Chunk}
set_option maxRecDepth 100000 in
theorem ref01_in {c : Cell} : FnC Try.prog 45 [cellV c].toArray A I (fun v A' I' => v = .bool (decide (R1.inB c)) ∧ A = A' ∧ I = I') := by
  refine fn_enter1 Try.func45 rfl Try.ntmps45 rfl fun w0 => ?_
  refine tri_seq ?_
  refine tri_region ?_
  refine tri_g (opg_box_agg rfl) rfl ?_
  rintro _ _ _ ⟨b, rfl, rfl, rfl⟩
  refine tri_v (opv_assign rfl) rfl ?_
  refine tri_nil ?_
  refine tri_then ?_
  refine tri_seq ?_
  refine tri_region ?_
  refine tri_v (opv_fieldAddr rfl rfl) rfl ?_
  refine tri_v (opv_load1 rfl rfl rfl) rfl ?_
  refine tri_v (opv_geq rfl rfl) rfl ?_
  refine tri_v (opv_move rfl) rfl ?_
  refine tri_split rfl rfl (fun h1 => ?_) (fun h1 => ?_)
  · refine tri_guard_run rfl rfl rfl ?_
    refine tri_v (opv_fieldAddr rfl rfl) rfl ?_
    refine tri_guard_run rfl rfl rfl ?_
    refine tri_v (opv_load1 rfl rfl rfl) rfl ?_
    refine tri_guard_run rfl rfl rfl ?_
    refine tri_v (opv_leq rfl rfl) rfl ?_
    refine tri_v (opv_pick_t rfl rfl) rfl ?_
    refine tri_v (opv_move rfl) rfl ?_
    refine tri_split rfl rfl (fun h2 => ?_) (fun h2 => ?_)
    · refine tri_guard_run rfl rfl rfl ?_
      refine tri_v (opv_fieldAddr rfl rfl) rfl ?_
      refine tri_guard_run rfl rfl rfl ?_
      refine tri_v (opv_load1 rfl rfl rfl) rfl ?_
      refine tri_guard_run rfl rfl rfl ?_
      refine tri_v (opv_geq rfl rfl) rfl ?_
      refine tri_v (opv_pick_t rfl rfl) rfl ?_
      refine tri_v (opv_move rfl) rfl ?_
      refine tri_split rfl rfl (fun h3 => ?_) (fun h3 => ?_)
      · refine tri_guard_run rfl rfl rfl ?_
        refine tri_v (opv_fieldAddr rfl rfl) rfl ?_
        refine tri_guard_run rfl rfl rfl ?_
        refine tri_v (opv_load1 rfl rfl rfl) rfl ?_
        refine tri_guard_run rfl rfl rfl ?_
        refine tri_v (opv_leq rfl rfl) rfl ?_
        refine tri_v (opv_pick_t rfl rfl) rfl ?_
        refine tri_v (opv_assign rfl) rfl ?_
        refine tri_nil ?_
        refine tri_then ?_
        refine tri_ret ?_
        refine tri_end A Suf.h rfl (.cons (rv_tmp rfl) .nil) ⟨congrArg Value.bool ?_, rfl, rfl⟩
        unfold R1.inB; simp [h1, h2, h3]
      · refine tri_guard_skip rfl rfl rfl rfl ?_
        refine tri_guard_skip rfl rfl rfl rfl ?_
        refine tri_guard_skip rfl rfl rfl rfl ?_
        refine tri_v (opv_pick_f rfl rfl) rfl ?_
        refine tri_v (opv_assign rfl) rfl ?_
        refine tri_nil ?_
        refine tri_then ?_
        refine tri_ret ?_
        refine tri_end A Suf.h rfl (.cons (rv_tmp rfl) .nil) ⟨congrArg Value.bool ?_, rfl, rfl⟩
        unfold R1.inB; simp [h1, h2, h3]
    · refine tri_guard_skip rfl rfl rfl rfl ?_
      refine tri_guard_skip rfl rfl rfl rfl ?_
      refine tri_guard_skip rfl rfl rfl rfl ?_
      refine tri_v (opv_pick_f rfl rfl) rfl ?_
      refine tri_v (opv_move rfl) rfl ?_
      refine tri_guard_skip rfl rfl rfl rfl ?_
      refine tri_guard_skip rfl rfl rfl rfl ?_
      refine tri_guard_skip rfl rfl rfl rfl ?_
      refine tri_v (opv_pick_f rfl rfl) rfl ?_
      refine tri_v (opv_assign rfl) rfl ?_
      refine tri_nil ?_
      refine tri_then ?_
      refine tri_ret ?_
      refine tri_end A Suf.h rfl (.cons (rv_tmp rfl) .nil) ⟨congrArg Value.bool ?_, rfl, rfl⟩
      unfold R1.inB; simp [h1, h2]
  · refine tri_guard_skip rfl rfl rfl rfl ?_
    refine tri_guard_skip rfl rfl rfl rfl ?_
    refine tri_guard_skip rfl rfl rfl rfl ?_
    refine tri_v (opv_pick_f rfl rfl) rfl ?_
    refine tri_v (opv_move rfl) rfl ?_
    refine tri_guard_skip rfl rfl rfl rfl ?_
    refine tri_guard_skip rfl rfl rfl rfl ?_
    refine tri_guard_skip rfl rfl rfl rfl ?_
    refine tri_v (opv_pick_f rfl rfl) rfl ?_
    refine tri_v (opv_move rfl) rfl ?_
    refine tri_guard_skip rfl rfl rfl rfl ?_
    refine tri_guard_skip rfl rfl rfl rfl ?_
    refine tri_guard_skip rfl rfl rfl rfl ?_
    refine tri_v (opv_pick_f rfl rfl) rfl ?_
    refine tri_v (opv_assign rfl) rfl ?_
    refine tri_nil ?_
    refine tri_then ?_
    refine tri_ret ?_
    refine tri_end A Suf.h rfl (.cons (rv_tmp rfl) .nil) ⟨congrArg Value.bool ?_, rfl, rfl⟩
    unfold R1.inB; simp [h1]
set_option maxRecDepth 100000 in
theorem ref01_less {a b : Cell} : FnC Try.prog 46 [cellV a, cellV b].toArray A I (fun v A' I' => v = .bool (decide (R1.less a b)) ∧ A = A' ∧ I = I') := by
  refine fn_enter2 Try.func46 rfl Try.ntmps46 rfl fun w0 => ?_
  refine tri_seq ?_
  refine tri_region ?_
  refine tri_g (opg_box_agg rfl) rfl ?_
  rintro _ _ _ ⟨b, rfl, rfl, rfl⟩
  refine tri_g (opg_box_agg rfl) rfl ?_
  rintro _ _ _ ⟨b, rfl, rfl, rfl⟩
  refine tri_v (opv_assign rfl) rfl ?_
  refine tri_nil ?_
  refine tri_then ?_
  refine tri_seq ?_
  refine tri_region ?_
  refine tri_v (opv_fieldAddr rfl rfl) rfl ?_
  refine tri_v (opv_load1 rfl rfl rfl) rfl ?_
  refine tri_v (opv_fieldAddr rfl rfl) rfl ?_
  refine tri_v (opv_load1 rfl rfl rfl) rfl ?_
  refine tri_v (opv_lss rfl rfl) rfl ?_
  refine tri_v (opv_move rfl) rfl ?_
  refine tri_split rfl rfl (fun h1 => ?_) (fun h1 => ?_)
  · refine tri_guard_skip rfl rfl rfl rfl ?_
    refine tri_guard_skip rfl rfl rfl rfl ?_
    refine tri_guard_skip rfl rfl rfl rfl ?_
    refine tri_guard_skip rfl rfl rfl rfl ?_
    refine tri_guard_skip rfl rfl rfl rfl ?_
    refine tri_guard_skip rfl rfl rfl rfl ?_
    refine tri_guard_skip_u rfl rfl rfl ?_
    refine tri_guard_skip_u rfl rfl rfl ?_
    refine tri_guard_skip_u rfl rfl rfl ?_
    refine tri_guard_skip_u rfl rfl rfl ?_
    refine tri_guard_skip_u rfl rfl rfl ?_
    refine tri_guard_skip rfl rfl rfl rfl ?_
    refine tri_v (opv_pick_t rfl rfl) rfl ?_
    refine tri_v (opv_assign rfl) rfl ?_
    refine tri_nil ?_
    refine tri_then ?_
    refine tri_ret ?_
    refine tri_end A Suf.h rfl (.cons (rv_tmp rfl) .nil) ⟨congrArg Value.bool ?_, rfl, rfl⟩
    unfold R1.less; simp [h1]
  · refine tri_guard_run rfl rfl rfl ?_
    refine tri_v (opv_fieldAddr rfl rfl) rfl ?_
    refine tri_guard_run rfl rfl rfl ?_
    refine tri_v (opv_load1 rfl rfl rfl) rfl ?_
    refine tri_guard_run rfl rfl rfl ?_
    refine tri_v (opv_fieldAddr rfl rfl) rfl ?_
    refine tri_guard_run rfl rfl rfl ?_
    refine tri_v (opv_load1 rfl rfl rfl) rfl ?_
    refine tri_guard_run rfl rfl rfl ?_
    refine tri_v (opv_eql rfl rfl) rfl ?_
    refine tri_guard_run rfl rfl rfl ?_
    refine tri_v (opv_move rfl) rfl ?_
    refine tri_split rfl rfl (fun h2 => ?_) (fun h2 => ?_)
    · refine tri_guard_run rfl rfl rfl ?_
      refine tri_v (opv_fieldAddr rfl rfl) rfl ?_
      refine tri_guard_run rfl rfl rfl ?_
      refine tri_v (opv_load1 rfl rfl rfl) rfl ?_
      refine tri_guard_run rfl rfl rfl ?_
      refine tri_v (opv_fieldAddr rfl rfl) rfl ?_
      refine tri_guard_run rfl rfl rfl ?_
      refine tri_v (opv_load1 rfl rfl rfl) rfl ?_
      refine tri_guard_run rfl rfl rfl ?_
      refine tri_v (opv_lss rfl rfl) rfl ?_
      refine tri_guard_run rfl rfl rfl ?_
      refine tri_v (opv_pick_t rfl rfl) rfl ?_
      refine tri_v (opv_pick_f rfl rfl) rfl ?_
      refine tri_v (opv_assign rfl) rfl ?_
      refine tri_nil ?_
      refine tri_then ?_
      refine tri_ret ?_
      refine tri_end A Suf.h rfl (.cons (rv_tmp rfl) .nil) ⟨congrArg Value.bool ?_, rfl, rfl⟩
      unfold R1.less; simp [h2]
    · refine tri_guard_skip rfl rfl rfl rfl ?_
      refine tri_guard_skip rfl rfl rfl rfl ?_
      refine tri_guard_skip rfl rfl rfl rfl ?_
      refine tri_guard_skip rfl rfl rfl rfl ?_
      refine tri_guard_skip rfl rfl rfl rfl ?_
      refine tri_guard_run rfl rfl rfl ?_
      refine tri_v (opv_pick_f rfl rfl) rfl ?_
      refine tri_v (opv_pick_f rfl rfl) rfl ?_
      refine tri_v (opv_assign rfl) rfl ?_
      refine tri_nil ?_
      refine tri_then ?_
      refine tri_ret ?_
      refine tri_end A Suf.h rfl (.cons (rv_tmp rfl) .nil) ⟨congrArg Value.bool ?_, rfl, rfl⟩
      unfold R1.less; simp [h1, h2]
end Go.GL

set_option linter.unusedVariables false
namespace Go.GL
open Go.Proofs
attribute [local irreducible] wpList Code.wp Exit.then Exit.inBlock Ends Tri TriH OpV OpG FnC epf wpAnyH
variable {A : List Asrt} {I : List Chunk}
theorem toNat_pred (i : Nat) (h : 0 < i) : ((i : Int) - 1).toNat = i - 1 := by omega
set_option maxRecDepth 100000 in
theorem ref01_right {l : List Cell} {a : Option Addr} {cap : Nat} (hs : SlAt I a l) (hn : l.length ≤ 1000000000) :
    FnC Try.prog 50 [.slice a l.length cap].toArray A I (fun v A' I' => v = .bool (decide (R1.right l)) ∧ A = A' ∧ I = I') := by
  refine fn_enter1 Try.func50 rfl Try.ntmps50 rfl fun w0 => ?_
  refine tri_seq ?_
  refine tri_region ?_
  refine tri_v (opv_assign rfl) rfl ?_
  refine tri_nil ?_
  refine tri_then ?_
  refine tri_seq ?_
  refine tri_seq ?_
  refine tri_region ?_
  refine tri_v (opv_assign rfl) rfl ?_
  refine tri_nil ?_
  refine tri_then ?_
  refine tri_block ?_
  refine tri_sub (F' := [(0, .slice a l.length cap), (3, .int .i64 (0 : Nat))]) ⟨rfl, rfl, trivial⟩ ?_
  refine loop_ind (G := Nat) (fun i => l.length - i) (fun i => i ≤ l.length ∧ ∀ j, j < i → R1.okAt l j) (fun i => [(0, .slice a l.length cap), (3, .int .i64 (i : Nat))]) (fun _ => _) (fun _ => _) ?_ 0 ⟨by omega, fun j h => absurd h (by omega)⟩
  rintro i ⟨hi, hok⟩ K hK
  skip
  refine tri_seq ?_
  refine tri_seq ?_
  refine tri_region ?_
  refine tri_v (opv_move rfl) rfl ?_
  refine tri_v (opv_move rfl) rfl ?_
  refine tri_v (opv_len rfl) rfl ?_
  refine tri_v (opv_lss rfl rfl) rfl ?_
  refine tri_nil ?_
  refine tri_then ?_
  refine tri_cond_dec rfl (fun h => ?_) (fun h => ?_)
  · refine tri_skip ?_
    refine tri_then ?_
    refine tri_seq ?_
    refine tri_block ?_
    refine tri_seq ?_
    refine tri_draw [0, 1, 2, 3, 4, 5, 6, 7, 8, 9, 10, 11, 12, 13, 14, 15, 16, 17, 18, 19, 20, 21, 22] rfl [] rfl mixed ?_
    refine th_take rfl rfl (by kernel_rfl)  (opv_move rfl) ?_
    refine th_take rfl rfl (by kernel_rfl)  (opv_move rfl) ?_
    refine th_take rfl rfl (by kernel_rfl)  (opv_indexAddrSN rfl rfl (by omega) (by assumption) rfl) ?_
    refine th_take rfl rfl (by kernel_rfl)  (opv_loadEA rfl (by assumption) rfl (by omega) rfl rfl) ?_
    have bad : ¬ R1.okAt l i → ¬ R1.right l := fun h2 h3 => h2 (h3.1 i (by omega))
    refine th_one (by kernel_rfl) (step_m rfl rfl (opg_call (xs := [_]) rfl (ref01_in (c := R1.g l i))) ?_)
    rintro _ _ _ ⟨rfl, rfl, rfl⟩
    refine ⟨Suf.h, (fun _ h => h), ?_⟩
    refine th_take rfl rfl (by kernel_rfl)  (opv_notD rfl) ?_
    refine th_take rfl rfl (by kernel_rfl)  (opv_move rfl) ?_
    refine th_split rfl rfl rfl (fun h1 => ?_) (fun h1 => ?_)
    · refine th_skip rfl rfl rfl rfl rfl (by kernel_rfl)  ?_
      refine th_skip rfl rfl rfl rfl rfl (by kernel_rfl)  ?_
      refine th_skip rfl rfl rfl rfl rfl (by kernel_rfl)  ?_
      refine th_skip_u rfl rfl rfl rfl (by kernel_rfl)  ?_
      refine th_skip_u rfl rfl rfl rfl (by kernel_rfl)  ?_
      refine th_skip_u rfl rfl rfl rfl (by kernel_rfl)  ?_
      refine th_skip_u rfl rfl rfl rfl (by kernel_rfl)  ?_
      refine th_skip_u rfl rfl rfl rfl (by kernel_rfl)  ?_
      refine th_skip_u rfl rfl rfl rfl (by kernel_rfl)  ?_
      refine th_skip_u rfl rfl rfl rfl (by kernel_rfl)  ?_
      refine th_skip_u rfl rfl rfl rfl (by kernel_rfl)  ?_
      refine th_skip_u rfl rfl rfl rfl (by kernel_rfl)  ?_
      refine th_one (by kernel_rfl) (step_skip_u rfl rfl rfl rfl ?_)
      refine th_skip_u rfl rfl rfl rfl (by kernel_rfl)  ?_
      refine th_skip rfl rfl rfl rfl rfl (by kernel_rfl)  ?_
      refine th_take rfl rfl (by kernel_rfl)  (opv_pick_t rfl rfl) ?_
      refine th_done (by kernel_rfl) ?_
      refine tri_then ?_
      refine tri_cond_true rfl ?_
      refine tri_seq ?_
      refine tri_region ?_
      refine tri_v (opv_assign rfl) rfl ?_
      refine tri_nil ?_
      refine tri_then ?_
      refine tri_ret ?_
      refine tri_inBlock_ret ?_
      refine tri_then_ret ?_
      refine tri_then_ret ?_
      refine tri_inBlock_ret ?_
      refine tri_then_ret ?_
      refine tri_end A Suf.h rfl (.cons (rv_tmp rfl) .nil) ⟨congrArg Value.bool ?_, rfl, rfl⟩
      exact (decide_eq_false (bad fun h2 => h1 h2.1)).symm
    · refine th_take_g rfl rfl rfl rfl rfl (by kernel_rfl)  (opv_move rfl) ?_
      refine th_take_g rfl rfl rfl rfl rfl (by kernel_rfl)  (opv_gtr rfl rfl) ?_
      refine th_take_g rfl rfl rfl rfl rfl (by kernel_rfl)  (opv_move rfl) ?_
      refine th_split rfl rfl rfl (fun h2 => ?_) (fun h2 => ?_)
      · refine th_take_g rfl rfl rfl rfl rfl (by kernel_rfl)  (opv_move rfl) ?_
        refine th_take_g rfl rfl rfl rfl rfl (by kernel_rfl)  (opv_move rfl) ?_
        refine th_take_g rfl rfl rfl rfl rfl (by kernel_rfl)  (opv_sub rfl rfl (w64 (by omega) (by omega))) ?_
        refine th_take_g rfl rfl rfl rfl rfl (by kernel_rfl)  (opv_indexAddrS rfl rfl (by omega) (by omega) (by assumption) rfl) ?_
        refine th_take_g rfl rfl rfl rfl rfl (by kernel_rfl)  (opv_loadEA rfl (by assumption) rfl (by omega) rfl rfl) ?_
        refine th_take_g rfl rfl rfl rfl rfl (by kernel_rfl)  (opv_move rfl) ?_
        refine th_take_g rfl rfl rfl rfl rfl (by kernel_rfl)  (opv_move rfl) ?_
        refine th_take_g rfl rfl rfl rfl rfl (by kernel_rfl)  (opv_indexAddrSN rfl rfl (by omega) (by assumption) rfl) ?_
        refine th_take_g rfl rfl rfl rfl rfl (by kernel_rfl)  (opv_loadEA rfl (by assumption) rfl (by omega) rfl rfl) ?_
        refine th_one (by kernel_rfl) (step_mg rfl rfl rfl rfl rfl (opg_call (xs := [_, _]) rfl (ref01_less (a := R1.g l ((i:Int)-1).toNat) (b := R1.g l i))) ?_)
        rintro _ _ _ ⟨rfl, rfl, rfl⟩
        refine ⟨Suf.h, (fun _ h => h), ?_⟩
        refine th_take_g rfl rfl rfl rfl rfl (by kernel_rfl)  (opv_notD rfl) ?_
        refine th_take_g rfl rfl rfl rfl rfl (by kernel_rfl)  (opv_pick_t rfl rfl) ?_
        refine th_take rfl rfl (by kernel_rfl)  (opv_pick_f rfl rfl) ?_
        refine th_done (by kernel_rfl) ?_
        refine tri_then ?_
        refine tri_cond_dec rfl (fun h3 => ?_) (fun h3 => ?_)
        · refine tri_seq ?_
          refine tri_region ?_
          refine tri_v (opv_assign rfl) rfl ?_
          refine tri_nil ?_
          refine tri_then ?_
          refine tri_ret ?_
          refine tri_inBlock_ret ?_
          refine tri_then_ret ?_
          refine tri_then_ret ?_
          refine tri_inBlock_ret ?_
          refine tri_then_ret ?_
          refine tri_end A Suf.h rfl (.cons (rv_tmp rfl) .nil) ⟨congrArg Value.bool ?_, rfl, rfl⟩
          refine (decide_eq_false (bad fun h4 => h3 ?_)).symm
          have := h4.2 (by omega)
          rw [toNat_pred i (by omega)]; exact this
        · refine tri_skip ?_
          refine tri_inBlock ?_
          refine tri_then ?_
          refine tri_region ?_
          refine tri_v (opv_move rfl) rfl ?_
          refine tri_v (opv_add rfl rfl (w64 (by omega) (by omega))) rfl ?_
          refine tri_v (opv_assign rfl) rfl ?_
          refine tri_nil ?_
          refine tri_then ?_
          refine tri_sub ?_ (hK (i + 1) ⟨by omega, fun j hj => ?_⟩ (by omega))
          · exact ⟨rfl, rfl, trivial⟩
          · by_cases e : j = i
            · subst e
              rw [toNat_pred j (by omega)] at h3
              exact ⟨Decidable.not_not.1 h1, fun _ => Decidable.not_not.1 h3⟩
            · exact hok j (by omega)
      · refine th_skip rfl rfl rfl rfl rfl (by kernel_rfl)  ?_
        refine th_skip rfl rfl rfl rfl rfl (by kernel_rfl)  ?_
        refine th_skip rfl rfl rfl rfl rfl (by kernel_rfl)  ?_
        refine th_skip rfl rfl rfl rfl rfl (by kernel_rfl)  ?_
        refine th_skip rfl rfl rfl rfl rfl (by kernel_rfl)  ?_
        refine th_skip rfl rfl rfl rfl rfl (by kernel_rfl)  ?_
        refine th_skip rfl rfl rfl rfl rfl (by kernel_rfl)  ?_
        refine th_skip rfl rfl rfl rfl rfl (by kernel_rfl)  ?_
        refine th_skip rfl rfl rfl rfl rfl (by kernel_rfl)  ?_
        refine th_one (by kernel_rfl) (step_skip rfl rfl rfl rfl rfl ?_)
        refine th_skip rfl rfl rfl rfl rfl (by kernel_rfl)  ?_
        refine th_take_g rfl rfl rfl rfl rfl (by kernel_rfl)  (opv_pick_f rfl rfl) ?_
        refine th_take rfl rfl (by kernel_rfl)  (opv_pick_f rfl rfl) ?_
        refine th_done (by kernel_rfl) ?_
        refine tri_then ?_
        refine tri_cond_false rfl ?_
        refine tri_skip ?_
        refine tri_inBlock ?_
        refine tri_then ?_
        refine tri_region ?_
        refine tri_v (opv_move rfl) rfl ?_
        refine tri_v (opv_add rfl rfl (w64 (by omega) (by omega))) rfl ?_
        refine tri_v (opv_assign rfl) rfl ?_
        refine tri_nil ?_
        refine tri_then ?_
        refine tri_sub ?_ (hK (i + 1) ⟨by omega, fun j hj => ?_⟩ (by omega))
        · exact ⟨rfl, rfl, trivial⟩
        · by_cases e : j = i
          · subst e
            exact ⟨Decidable.not_not.1 h1, fun h => absurd h (by omega)⟩
          · exact hok j (by omega)
  · refine tri_exit ?_
    refine tri_then_exit ?_
    refine tri_then_exit ?_
    refine tri_inBlock_hit rfl ?_
    refine tri_then ?_
    refine tri_seq ?_
    refine tri_region ?_
    refine tri_v (opv_move rfl) rfl ?_
    refine tri_v (opv_len rfl) rfl ?_
    refine tri_v (opv_leq rfl rfl) rfl ?_
    refine tri_v (opv_assign rfl) rfl ?_
    refine tri_nil ?_
    refine tri_then ?_
    refine tri_ret ?_
    refine tri_end A Suf.h rfl (.cons (rv_tmp rfl) .nil) ⟨congrArg Value.bool (decide_eq_decide.2 ?_), rfl, rfl⟩
    unfold R1.right
    constructor
    · intro h2; exact ⟨fun j hj => hok j (by omega), by omega⟩
    · rintro ⟨_, h2⟩; omega
set_option maxRecDepth 100000 in
theorem ref01_has {l : List Cell} {a : Option Addr} {cap : Nat} {c : Cell} (hs : SlAt I a l) (hn : l.length ≤ 1000000000) :
    FnC Try.prog 56 [.slice a l.length cap, cellV c].toArray A I (fun v A' I' => v = .bool (decide (c ∈ l)) ∧ A = A' ∧ I = I') := by
  refine fn_enter2 Try.func56 rfl Try.ntmps56 rfl fun w0 => ?_
  refine tri_seq ?_
  refine tri_region ?_
  refine tri_g (opg_box_agg rfl) rfl ?_
  rintro _ _ _ ⟨b, rfl, rfl, rfl⟩
  refine tri_v (opv_assign rfl) rfl ?_
  refine tri_nil ?_
  refine tri_then ?_
  refine tri_seq ?_
  refine tri_seq ?_
  refine tri_region ?_
  refine tri_v (opv_assign rfl) rfl ?_
  refine tri_nil ?_
  refine tri_then ?_
  refine tri_block ?_
  refine tri_sub (F' := [(0, .slice a l.length cap), (3, pt b 0), (5, .int .i64 (0 : Nat))]) ⟨rfl, rfl, rfl, trivial⟩ ?_
  refine loop_ind (G := Nat) (fun i => l.length - i) (fun i => i ≤ l.length ∧ (c ∈ l ↔ c ∈ l.drop i)) (fun i => [(0, .slice a l.length cap), (3, pt b 0), (5, .int .i64 (i : Nat))]) (fun _ => _) (fun _ => _) ?_ 0 ⟨by omega, by simp⟩
  rintro i ⟨hi, hok⟩ K hK
  skip
  refine tri_seq ?_
  refine tri_seq ?_
  refine tri_region ?_
  refine tri_v (opv_move rfl) rfl ?_
  refine tri_v (opv_move rfl) rfl ?_
  refine tri_v (opv_len rfl) rfl ?_
  refine tri_v (opv_lss rfl rfl) rfl ?_
  refine tri_nil ?_
  refine tri_then ?_
  refine tri_cond_dec rfl (fun h => ?_) (fun h => ?_)
  · refine tri_skip ?_
    refine tri_then ?_
    refine tri_seq ?_
    refine tri_block ?_
    refine tri_seq ?_
    refine tri_draw [0, 1, 2, 3, 4, 5] rfl [] rfl mixed ?_
    refine th_take rfl rfl (by kernel_rfl)  (opv_move rfl) ?_
    refine th_take rfl rfl (by kernel_rfl)  (opv_move rfl) ?_
    refine th_take rfl rfl (by kernel_rfl)  (opv_indexAddrSN rfl rfl (by omega) (by assumption) rfl) ?_
    refine th_take rfl rfl (by kernel_rfl)  (opv_loadEA rfl (by assumption) rfl (by omega) rfl rfl) ?_
    refine th_take rfl rfl (by kernel_rfl)  (opv_loadA rfl rfl rfl) ?_
    refine th_take rfl rfl (by kernel_rfl)  (opv_eqlI rfl rfl rfl rfl rfl rfl) ?_
    refine th_done (by kernel_rfl) ?_
    refine tri_then ?_
    have hlt : i < l.length := by omega
    have e : l.getD i default = l[i] := by simp [hlt]
    refine tri_cond_dec rfl (fun h1 => ?_) (fun h1 => ?_)
    · refine tri_seq ?_
      refine tri_region ?_
      refine tri_v (opv_assign rfl) rfl ?_
      refine tri_nil ?_
      refine tri_then ?_
      refine tri_ret ?_
      refine tri_inBlock_ret ?_
      refine tri_then_ret ?_
      refine tri_then_ret ?_
      refine tri_inBlock_ret ?_
      refine tri_then_ret ?_
      refine tri_end A Suf.h rfl (.cons (rv_tmp rfl) .nil) ⟨congrArg Value.bool ?_, rfl, rfl⟩
      have h2 : l.getD i default = c := Cell.ext_iff'.2 h1
      rw [e] at h2
      exact (decide_eq_true (h2 ▸ List.getElem_mem hlt)).symm
    · refine tri_skip ?_
      refine tri_inBlock ?_
      refine tri_then ?_
      refine tri_region ?_
      refine tri_v (opv_move rfl) rfl ?_
      refine tri_v (opv_add rfl rfl (w64 (by omega) (by omega))) rfl ?_
      refine tri_v (opv_assign rfl) rfl ?_
      refine tri_nil ?_
      refine tri_then ?_
      refine tri_sub ?_ (hK (i + 1) ⟨by omega, ?_⟩ (by omega))
      · exact ⟨rfl, rfl, rfl, trivial⟩
      · have h2 : l.getD i default ≠ c := fun h3 => h1 (Cell.ext_iff'.1 h3)
        rw [e] at h2
        refine hok.trans ?_
        have e2 : l.drop i = l[i] :: l.drop (i + 1) := List.drop_eq_getElem_cons hlt
        rw [e2, List.mem_cons]
        exact ⟨fun h => h.resolve_left (Ne.symm h2), .inr⟩
  · refine tri_exit ?_
    refine tri_then_exit ?_
    refine tri_then_exit ?_
    refine tri_inBlock_hit rfl ?_
    refine tri_then ?_
    refine tri_seq ?_
    refine tri_region ?_
    refine tri_v (opv_assign rfl) rfl ?_
    refine tri_nil ?_
    refine tri_then ?_
    refine tri_ret ?_
    refine tri_end A Suf.h rfl (.cons (rv_tmp rfl) .nil) ⟨congrArg Value.bool ?_, rfl, rfl⟩
    refine (decide_eq_false fun h3 => ?_).symm
    have := hok.1 h3
    rw [List.drop_of_length_le (by omega)] at this
    simp at this
set_option maxRecDepth 100000 in
theorem ref01_same {l m : List Cell} {a b : Option Addr} {cap cap2 : Nat} (hs : SlAt I a l) (ht : SlAt I b m) (hn : l.length ≤ 1000000000) :
    FnC Try.prog 23 [.slice a l.length cap, .slice b m.length cap2].toArray A I (fun v A' I' => v = .bool (decide (l = m)) ∧ A = A' ∧ I = I') := by
  refine fn_enter2 Try.func23 rfl Try.ntmps23 rfl fun w0 => ?_
  refine tri_seq ?_
  refine tri_region ?_
  refine tri_v (opv_assign rfl) rfl ?_
  refine tri_nil ?_
  refine tri_then ?_
  refine tri_seq ?_
  refine tri_seq ?_
  refine tri_region ?_
  refine tri_v (opv_move rfl) rfl ?_
  refine tri_v (opv_len rfl) rfl ?_
  refine tri_v (opv_move rfl) rfl ?_
  refine tri_v (opv_len rfl) rfl ?_
  refine tri_v (opv_neq rfl rfl) rfl ?_
  refine tri_nil ?_
  refine tri_then ?_
  refine tri_cond_dec rfl (fun h0 => ?_) (fun h0 => ?_)
  · refine tri_seq ?_
    refine tri_region ?_
    refine tri_v (opv_assign rfl) rfl ?_
    refine tri_nil ?_
    refine tri_then ?_
    refine tri_ret ?_
    refine tri_then_ret ?_
    refine tri_end A Suf.h rfl (.cons (rv_tmp rfl) .nil) ⟨congrArg Value.bool ?_, rfl, rfl⟩
    exact (decide_eq_false fun h => h0 (by rw [h])).symm
  refine tri_skip ?_
  refine tri_then ?_
  refine tri_seq ?_
  refine tri_seq ?_
  refine tri_region ?_
  refine tri_v (opv_assign rfl) rfl ?_
  refine tri_nil ?_
  refine tri_then ?_
  refine tri_block ?_
  have hlen : l.length = m.length := by omega
  refine tri_sub (F' := [(0, .slice a l.length cap), (1, .slice b m.length cap2), (5, .int .i64 (0 : Nat))]) ⟨rfl, rfl, rfl, trivial⟩ ?_
  refine loop_ind (G := Nat) (fun i => l.length - i) (fun i => i ≤ l.length ∧ ∀ j, j < i → l.getD j default = m.getD j default) (fun i => [(0, .slice a l.length cap), (1, .slice b m.length cap2), (5, .int .i64 (i : Nat))]) (fun _ => _) (fun _ => _) ?_ 0 ⟨by omega, fun j h => absurd h (by omega)⟩
  rintro i ⟨hi, hok⟩ K hK
  skip
  refine tri_seq ?_
  refine tri_seq ?_
  refine tri_region ?_
  refine tri_v (opv_move rfl) rfl ?_
  refine tri_v (opv_move rfl) rfl ?_
  refine tri_v (opv_len rfl) rfl ?_
  refine tri_v (opv_lss rfl rfl) rfl ?_
  refine tri_nil ?_
  refine tri_then ?_
  refine tri_cond_dec rfl (fun h => ?_) (fun h => ?_)
  · refine tri_skip ?_
    refine tri_then ?_
    refine tri_seq ?_
    refine tri_block ?_
    refine tri_seq ?_
    refine tri_draw [0, 1, 2, 3, 4, 5, 6, 7, 8] rfl [] rfl mixed ?_
    refine th_take rfl rfl (by kernel_rfl)  (opv_move rfl) ?_
    refine th_take rfl rfl (by kernel_rfl)  (opv_move rfl) ?_
    refine th_take rfl rfl (by kernel_rfl)  (opv_indexAddrSN rfl rfl (by omega) (by assumption) rfl) ?_
    refine th_take rfl rfl (by kernel_rfl)  (opv_loadEA rfl (by assumption) rfl (by omega) rfl rfl) ?_
    refine th_take rfl rfl (by kernel_rfl)  (opv_move rfl) ?_
    refine th_take rfl rfl (by kernel_rfl)  (opv_move rfl) ?_
    refine th_take rfl rfl (by kernel_rfl)  (opv_indexAddrSN rfl rfl (by omega) (by assumption) rfl) ?_
    refine th_take rfl rfl (by kernel_rfl)  (opv_loadEA rfl (by assumption) rfl (by omega) rfl rfl) ?_
    refine th_take rfl rfl (by kernel_rfl)  (opv_neqI rfl rfl rfl rfl rfl rfl) ?_
    refine th_done (by kernel_rfl) ?_
    refine tri_then ?_
    refine tri_cond_dec rfl (fun h1 => ?_) (fun h1 => ?_)
    · refine tri_seq ?_
      refine tri_region ?_
      refine tri_v (opv_assign rfl) rfl ?_
      refine tri_nil ?_
      refine tri_then ?_
      refine tri_ret ?_
      refine tri_inBlock_ret ?_
      refine tri_then_ret ?_
      refine tri_then_ret ?_
      refine tri_inBlock_ret ?_
      refine tri_then_ret ?_
      refine tri_end A Suf.h rfl (.cons (rv_tmp rfl) .nil) ⟨congrArg Value.bool ?_, rfl, rfl⟩
      exact (decide_eq_false fun h => Cell.ne_iff'.2 h1 (by rw [h])).symm
    · refine tri_skip ?_
      refine tri_inBlock ?_
      refine tri_then ?_
      refine tri_region ?_
      refine tri_v (opv_move rfl) rfl ?_
      refine tri_v (opv_add rfl rfl (w64 (by omega) (by omega))) rfl ?_
      refine tri_v (opv_assign rfl) rfl ?_
      refine tri_nil ?_
      refine tri_then ?_
      refine tri_sub ?_ (hK (i + 1) ⟨by omega, fun j hj => ?_⟩ (by omega))
      · exact ⟨rfl, rfl, rfl, trivial⟩
      · by_cases e : j = i
        · subst e
          exact Decidable.not_not.1 fun h => h1 (Cell.ne_iff'.1 h)
        · exact hok j (by omega)
  · refine tri_exit ?_
    refine tri_then_exit ?_
    refine tri_then_exit ?_
    refine tri_inBlock_hit rfl ?_
    refine tri_then ?_
    refine tri_seq ?_
    refine tri_region ?_
    refine tri_v (opv_assign rfl) rfl ?_
    refine tri_nil ?_
    refine tri_then ?_
    refine tri_ret ?_
    refine tri_end A Suf.h rfl (.cons (rv_tmp rfl) .nil) ⟨congrArg Value.bool ?_, rfl, rfl⟩
    refine (decide_eq_true (List.ext_getElem hlen fun j h1 h2 => ?_)).symm
    have := hok j (by omega)
    simpa [h1, h2] using this
end Go.GL

set_option linter.unusedVariables false
namespace Go.GL
open Go.Proofs
attribute [local irreducible] wpList Code.wp Exit.then Exit.inBlock Ends Tri TriH OpV OpG FnC epf wpAnyH
variable {A : List Asrt} {I : List Chunk}
set_option maxHeartbeats 1000000 in
set_option maxRecDepth 100000 in
theorem ref01_put {l : List Cell} {a : Option Addr} {cap : Nat} {c : Cell} (hs : SlAt I a l) (hn : l.length ≤ 1000000000) :
    FnC Try.prog 24 [.slice a l.length cap, cellV c].toArray A I (fun v A' I' => ∃ a' cap', v = .slice a' (R1.put l c).length cap' ∧ SlAt I' a' (R1.put l c) ∧ A = A' ∧ I ⊆ I') := by
  refine fn_enter2 Try.func24 rfl Try.ntmps24 rfl fun w0 => ?_
  refine tri_seq ?_
  refine tri_region ?_
  refine tri_g (opg_box_agg rfl) rfl ?_
  rintro _ _ _ ⟨b, rfl, rfl, rfl⟩
  refine tri_v (opv_assign rfl) rfl ?_
  refine tri_nil ?_
  refine tri_then ?_
  refine tri_seq ?_
  refine tri_region ?_
  refine tri_v (opv_assign rfl) rfl ?_
  refine tri_nil ?_
  refine tri_then ?_
  refine tri_seq ?_
  refine tri_region ?_
  refine tri_v (opv_assign rfl) rfl ?_
  refine tri_nil ?_
  refine tri_then ?_
  refine tri_seq ?_
  refine tri_seq ?_
  refine tri_region ?_
  refine tri_v (opv_assign rfl) rfl ?_
  refine tri_nil ?_
  refine tri_then ?_
  refine tri_block ?_
  refine tri_nilRow (E := 55) (sz := 2) ?_
  refine tri_sub (F' := [(0, .slice a l.length cap), (3, pt b 0), (5, .slice none 0 0), (6, .bool false), (7, .int .i64 (0 : Nat))]) ⟨rfl, rfl, rfl, rfl, rfl, trivial⟩ ?_
  refine loop_ind (G := Nat × List Cell × Bool × Option Addr × Nat) (fun g => l.length - g.1) (fun g => g.1 ≤ l.length ∧ g.2.1.length ≤ 2 * g.1 ∧ R1.put l c = g.2.1 ++ R1.putF c g.2.2.1 (l.drop g.1)) (fun g => [(0, .slice a l.length cap), (3, pt b 0), (5, .slice g.2.2.2.1 g.2.1.length g.2.2.2.2), (6, .bool g.2.2.1), (7, .int .i64 (g.1 : Nat))]) (fun g => Row g.2.2.2.1 g.2.2.2.2 g.2.1.length 55 2 (encs g.2.1) :: Box b [.int .i64 c.x, .int .i64 c.y] 55 :: A) (fun _ => I) ?_ (0, [], false, none, 0) ⟨by omega, by simp, rfl⟩
  rintro ⟨i, acc, dn, a1, cap1⟩ ⟨hi, hal, hp⟩ K hK
  simp only at hi hal hp hK ⊢
  skip
  refine tri_seq ?_
  refine tri_seq ?_
  refine tri_region ?_
  refine tri_v (opv_move rfl) rfl ?_
  refine tri_v (opv_move rfl) rfl ?_
  refine tri_v (opv_len rfl) rfl ?_
  refine tri_v (opv_lss rfl rfl) rfl ?_
  refine tri_nil ?_
  refine tri_then ?_
  refine tri_cond_dec rfl (fun h => ?_) (fun h => ?_)
  · refine tri_skip ?_
    refine tri_then ?_
    refine tri_seq ?_
    refine tri_block ?_
    refine tri_seq ?_
    refine tri_seq ?_
    refine tri_draw [0, 1, 2, 3, 4, 5, 6, 7, 8, 9, 10, 11, 12, 13, 14, 15, 16, 17] rfl [] rfl mixed ?_
    refine th_take rfl rfl (by kernel_rfl)  (opv_move rfl) ?_
    refine th_take rfl rfl (by kernel_rfl)  (opv_not rfl) ?_
    refine th_take rfl rfl (by kernel_rfl)  (opv_move rfl) ?_
    have hlt : i < l.length := by omega
    have hd : l.drop i = l.getD i default :: l.drop (i + 1) := by rw [List.drop_eq_getElem_cons hlt]; simp [hlt]
    rw [hd] at hp
    refine th_bool 16 rfl (fun hd1 => ?_) (fun hd1 => ?_)
    · have dn0 : dn = false := by simpa using hd1
      subst dn0
      refine th_take_g rfl rfl rfl rfl rfl (by kernel_rfl)  (opv_move rfl) ?_
      refine th_take_g rfl rfl rfl rfl rfl (by kernel_rfl)  (opv_move rfl) ?_
      refine th_take_g rfl rfl rfl rfl rfl (by kernel_rfl)  (opv_indexAddrSN rfl rfl (by omega) (by assumption) rfl) ?_
      refine th_take_g rfl rfl rfl rfl rfl (by kernel_rfl)  (opv_loadEA rfl (by assumption) rfl (by omega) rfl rfl) ?_
      refine th_take_g rfl rfl rfl rfl rfl (by kernel_rfl)  (opv_loadA rfl rfl rfl) ?_
      refine th_take_g rfl rfl rfl rfl rfl (by kernel_rfl)  (opv_eqlI rfl rfl rfl rfl rfl rfl) ?_
      refine th_take_g rfl rfl rfl rfl rfl (by kernel_rfl)  (opv_move rfl) ?_
      refine th_split rfl rfl rfl (fun h1 => ?_) (fun h1 => ?_)
      · have e1 : l.getD i default = c := Cell.ext_iff'.2 h1
        refine th_skip rfl rfl rfl rfl rfl (by kernel_rfl)  ?_
        refine th_skip rfl rfl rfl rfl rfl (by kernel_rfl)  ?_
        refine th_skip rfl rfl rfl rfl rfl (by kernel_rfl)  ?_
        refine th_skip rfl rfl rfl rfl rfl (by kernel_rfl)  ?_
        refine th_skip rfl rfl rfl rfl rfl (by kernel_rfl)  ?_
        refine th_one (by kernel_rfl) (step_skip rfl rfl rfl rfl rfl ?_)
        refine th_take_g rfl rfl rfl rfl rfl (by kernel_rfl)  (opv_pick_t rfl rfl) ?_
        refine th_take rfl rfl (by kernel_rfl)  (opv_pick_t rfl rfl) ?_
        refine th_done (by kernel_rfl) ?_
        refine tri_then ?_
        refine tri_cond_true rfl ?_
        refine tri_seq ?_
        refine tri_region ?_
        refine tri_v (opv_move rfl) rfl ?_
        refine tri_v (opv_loadA rfl rfl rfl) rfl ?_
        refine tri_g (opg_buildSlice rfl rfl rfl rfl) rfl ?_
        rintro _ _ _ ⟨b, rfl, rfl, rfl⟩
        refine tri_g (opg_appendB rfl rfl rfl rfl (by omega) rfl) rfl ?_
        rintro _ _ _ ⟨a2, cap2, rfl, rfl, rfl⟩
        refine tri_v (opv_assign rfl) rfl ?_
        refine tri_nil ?_
        refine tri_then ?_
        refine tri_region ?_
        refine tri_v (opv_assign rfl) rfl ?_
        refine tri_nil ?_
        refine tri_then ?_
        refine tri_seq ?_
        refine tri_draw [0, 1, 2, 3, 4, 5] rfl [] rfl mixed ?_
        refine th_take rfl rfl (by kernel_rfl)  (opv_move rfl) ?_
        refine th_take rfl rfl (by kernel_rfl)  (opv_move rfl) ?_
        refine th_take rfl rfl (by kernel_rfl)  (opv_indexAddrSN rfl rfl (by omega) (by assumption) rfl) ?_
        refine th_take rfl rfl (by kernel_rfl)  (opv_loadEA rfl (by assumption) rfl (by omega) rfl rfl) ?_
        refine th_take rfl rfl (by kernel_rfl)  (opv_loadA rfl rfl rfl) ?_
        refine th_take rfl rfl (by kernel_rfl)  (opv_neqI rfl rfl rfl rfl rfl rfl) ?_
        refine th_done (by kernel_rfl) ?_
        refine tri_then ?_
        refine tri_cond_not rfl (fun h2 => h2 h1) ?_
        refine tri_skip ?_
        refine tri_inBlock ?_
        refine tri_then ?_
        refine tri_region ?_
        refine tri_v (opv_move rfl) rfl ?_
        refine tri_v (opv_add rfl rfl (w64 (by omega) (by omega))) rfl ?_
        refine tri_v (opv_assign rfl) rfl ?_
        refine tri_nil ?_
        refine tri_then ?_
        refine tri_drop ?_
        refine tri_rowEq (len' := (acc ++ [c]).length) (cells' := encs (acc ++ [c])) (by simp) (by rw [encs_append]; rfl) ?_
        refine tri_sub ?_ (hK (i + 1, acc ++ [c], true, a2, cap2) ⟨by simp only; omega, by simp only [List.length_append, List.length_singleton]; omega, ?_⟩ (by simp only; omega))
        · exact ⟨rfl, rfl, by rw [List.length_append]; rfl, rfl, rfl, trivial⟩
        · simp only [R1.putF, e1] at hp
          simpa using hp
      · have e1 : l.getD i default ≠ c := fun h => h1 (Cell.ext_iff'.1 h)
        refine th_take_g rfl rfl rfl rfl rfl (by kernel_rfl)  (opv_loadA rfl rfl rfl) ?_
        refine th_take_g rfl rfl rfl rfl rfl (by kernel_rfl)  (opv_move rfl) ?_
        refine th_take_g rfl rfl rfl rfl rfl (by kernel_rfl)  (opv_move rfl) ?_
        refine th_take_g rfl rfl rfl rfl rfl (by kernel_rfl)  (opv_indexAddrSN rfl rfl (by omega) (by assumption) rfl) ?_
        refine th_take_g rfl rfl rfl rfl rfl (by kernel_rfl)  (opv_loadEA rfl (by assumption) rfl (by omega) rfl rfl) ?_
        refine th_one (by kernel_rfl) (step_mg rfl rfl rfl rfl rfl (opg_call (xs := [_, _]) rfl (ref01_less (a := c) (b := R1.g l i))) ?_)
        rintro _ _ _ ⟨rfl, rfl, rfl⟩
        refine ⟨Suf.h, (fun _ h => h), ?_⟩
        refine th_take_g rfl rfl rfl rfl rfl (by kernel_rfl)  (opv_pick_f rfl rfl) ?_
        refine th_take rfl rfl (by kernel_rfl)  (opv_pick_t rfl rfl) ?_
        refine th_done (by kernel_rfl) ?_
        refine tri_then ?_
        refine tri_cond_dec rfl (fun h2 => ?_) (fun h2 => ?_)
        · have h2' : R1.less c (l.getD i default) := h2
          refine tri_seq ?_
          refine tri_region ?_
          refine tri_v (opv_move rfl) rfl ?_
          refine tri_v (opv_loadA rfl rfl rfl) rfl ?_
          refine tri_g (opg_buildSlice rfl rfl rfl rfl) rfl ?_
          rintro _ _ _ ⟨b, rfl, rfl, rfl⟩
          refine tri_g (opg_appendB rfl rfl rfl rfl (by omega) rfl) rfl ?_
          rintro _ _ _ ⟨a2, cap2, rfl, rfl, rfl⟩
          refine tri_v (opv_assign rfl) rfl ?_
          refine tri_nil ?_
          refine tri_then ?_
          refine tri_region ?_
          refine tri_v (opv_assign rfl) rfl ?_
          refine tri_nil ?_
          refine tri_then ?_
          refine tri_seq ?_
          refine tri_draw [0, 1, 2, 3, 4, 5] rfl [] rfl mixed ?_
          refine th_take rfl rfl (by kernel_rfl)  (opv_move rfl) ?_
          refine th_take rfl rfl (by kernel_rfl)  (opv_move rfl) ?_
          refine th_take rfl rfl (by kernel_rfl)  (opv_indexAddrSN rfl rfl (by omega) (by assumption) rfl) ?_
          refine th_take rfl rfl (by kernel_rfl)  (opv_loadEA rfl (by assumption) rfl (by omega) rfl rfl) ?_
          refine th_take rfl rfl (by kernel_rfl)  (opv_loadA rfl rfl rfl) ?_
          refine th_take rfl rfl (by kernel_rfl)  (opv_neqI rfl rfl rfl rfl rfl rfl) ?_
          refine th_done (by kernel_rfl) ?_
          refine tri_then ?_
          refine tri_cond_is rfl (h1) ?_
          refine tri_region ?_
          refine tri_v (opv_move rfl) rfl ?_
          refine tri_v (opv_move rfl) rfl ?_
          refine tri_v (opv_move rfl) rfl ?_
          refine tri_v (opv_indexAddrSN rfl rfl (by omega) (by assumption) rfl) rfl ?_
          refine tri_v (opv_loadEA rfl (by assumption) rfl (by omega) rfl rfl) rfl ?_
          refine tri_g (opg_buildSlice rfl rfl rfl rfl) rfl ?_
          rintro _ _ _ ⟨b, rfl, rfl, rfl⟩
          refine tri_g (opg_appendB rfl rfl rfl rfl (by omega) rfl) rfl ?_
          rintro _ _ _ ⟨a3, cap3, rfl, rfl, rfl⟩
          refine tri_v (opv_assign rfl) rfl ?_
          refine tri_nil ?_
          refine tri_inBlock ?_
          refine tri_then ?_
          refine tri_region ?_
          refine tri_v (opv_move rfl) rfl ?_
          refine tri_v (opv_add rfl rfl (w64 (by omega) (by omega))) rfl ?_
          refine tri_v (opv_assign rfl) rfl ?_
          refine tri_nil ?_
          refine tri_then ?_
          refine tri_drop ?_
          refine tri_drop ?_
          refine tri_rowEq (len' := (acc ++ [c, l.getD i default]).length) (cells' := encs (acc ++ [c, l.getD i default])) (by simp) (by rw [encs_append, List.append_assoc]; rfl) ?_
          refine tri_sub ?_ (hK (i + 1, acc ++ [c, l.getD i default], true, a3, cap3) ⟨by simp only; omega, by simp only [List.length_append, List.length_cons, List.length_nil]; omega, ?_⟩ (by simp only; omega))
          · exact ⟨rfl, rfl, by rw [List.length_append]; rfl, rfl, rfl, trivial⟩
          · simp only [R1.putF, e1, h2', or_true, and_self, if_true, ne_eq, not_false_eq_true] at hp
            simpa using hp
        · have h2' : ¬ R1.less c (l.getD i default) := h2
          refine tri_skip ?_
          refine tri_then ?_
          refine tri_seq ?_
          refine tri_draw [0, 1, 2, 3, 4, 5] rfl [] rfl mixed ?_
          refine th_take rfl rfl (by kernel_rfl)  (opv_move rfl) ?_
          refine th_take rfl rfl (by kernel_rfl)  (opv_move rfl) ?_
          refine th_take rfl rfl (by kernel_rfl)  (opv_indexAddrSN rfl rfl (by omega) (by assumption) rfl) ?_
          refine th_take rfl rfl (by kernel_rfl)  (opv_loadEA rfl (by assumption) rfl (by omega) rfl rfl) ?_
          refine th_take rfl rfl (by kernel_rfl)  (opv_loadA rfl rfl rfl) ?_
          refine th_take rfl rfl (by kernel_rfl)  (opv_neqI rfl rfl rfl rfl rfl rfl) ?_
          refine th_done (by kernel_rfl) ?_
          refine tri_then ?_
          refine tri_cond_is rfl (h1) ?_
          refine tri_region ?_
          refine tri_v (opv_move rfl) rfl ?_
          refine tri_v (opv_move rfl) rfl ?_
          refine tri_v (opv_move rfl) rfl ?_
          refine tri_v (opv_indexAddrSN rfl rfl (by omega) (by assumption) rfl) rfl ?_
          refine tri_v (opv_loadEA rfl (by assumption) rfl (by omega) rfl rfl) rfl ?_
          refine tri_g (opg_buildSlice rfl rfl rfl rfl) rfl ?_
          rintro _ _ _ ⟨b, rfl, rfl, rfl⟩
          refine tri_g (opg_appendB rfl rfl rfl rfl (by omega) rfl) rfl ?_
          rintro _ _ _ ⟨a3, cap3, rfl, rfl, rfl⟩
          refine tri_v (opv_assign rfl) rfl ?_
          refine tri_nil ?_
          refine tri_inBlock ?_
          refine tri_then ?_
          refine tri_region ?_
          refine tri_v (opv_move rfl) rfl ?_
          refine tri_v (opv_add rfl rfl (w64 (by omega) (by omega))) rfl ?_
          refine tri_v (opv_assign rfl) rfl ?_
          refine tri_nil ?_
          refine tri_then ?_
          refine tri_drop ?_
          refine tri_rowEq (len' := (acc ++ [l.getD i default]).length) (cells' := encs (acc ++ [l.getD i default])) (by simp) (by rw [encs_append]; rfl) ?_
          refine tri_sub ?_ (hK (i + 1, acc ++ [l.getD i default], false, a3, cap3) ⟨by simp only; omega, by simp only [List.length_append, List.length_cons, List.length_nil]; omega, ?_⟩ (by simp only; omega))
          · exact ⟨rfl, rfl, by rw [List.length_append]; rfl, rfl, rfl, trivial⟩
          · simp only [R1.putF, e1, h2', or_false, and_false, if_false, ne_eq, not_false_eq_true, if_true] at hp
            simpa using hp
    · have dn1 : dn = true := by simpa using hd1
      subst dn1
      refine th_skip rfl rfl rfl rfl rfl (by kernel_rfl)  ?_
      refine th_skip rfl rfl rfl rfl rfl (by kernel_rfl)  ?_
      refine th_skip rfl rfl rfl rfl rfl (by kernel_rfl)  ?_
      refine th_skip rfl rfl rfl rfl rfl (by kernel_rfl)  ?_
      refine th_skip rfl rfl rfl rfl rfl (by kernel_rfl)  ?_
      refine th_skip rfl rfl rfl rfl rfl (by kernel_rfl)  ?_
      refine th_skip rfl rfl rfl rfl rfl (by kernel_rfl)  ?_
      refine th_skip_u rfl rfl rfl rfl (by kernel_rfl)  ?_
      refine th_skip_u rfl rfl rfl rfl (by kernel_rfl)  ?_
      refine th_skip_u rfl rfl rfl rfl (by kernel_rfl)  ?_
      refine th_skip_u rfl rfl rfl rfl (by kernel_rfl)  ?_
      refine th_skip_u rfl rfl rfl rfl (by kernel_rfl)  ?_
      refine th_one (by kernel_rfl) (step_skip_u rfl rfl rfl rfl ?_)
      refine th_skip rfl rfl rfl rfl rfl (by kernel_rfl)  ?_
      refine th_take rfl rfl (by kernel_rfl)  (opv_pick_f rfl rfl) ?_
      refine th_done (by kernel_rfl) ?_
      refine tri_then ?_
      refine tri_cond_false rfl ?_
      refine tri_skip ?_
      refine tri_then ?_
      refine tri_seq ?_
      refine tri_draw [0, 1, 2, 3, 4, 5] rfl [] rfl mixed ?_
      refine th_take rfl rfl (by kernel_rfl)  (opv_move rfl) ?_
      refine th_take rfl rfl (by kernel_rfl)  (opv_move rfl) ?_
      refine th_take rfl rfl (by kernel_rfl)  (opv_indexAddrSN rfl rfl (by omega) (by assumption) rfl) ?_
      refine th_take rfl rfl (by kernel_rfl)  (opv_loadEA rfl (by assumption) rfl (by omega) rfl rfl) ?_
      refine th_take rfl rfl (by kernel_rfl)  (opv_loadA rfl rfl rfl) ?_
      refine th_take rfl rfl (by kernel_rfl)  (opv_neqI rfl rfl rfl rfl rfl rfl) ?_
      refine th_done (by kernel_rfl) ?_
      refine tri_then ?_
      refine tri_cond_dec rfl (fun h2 => ?_) (fun h2 => ?_)
      · have e1 : l.getD i default ≠ c := Cell.ne_iff'.2 h2
        refine tri_region ?_
        refine tri_v (opv_move rfl) rfl ?_
        refine tri_v (opv_move rfl) rfl ?_
        refine tri_v (opv_move rfl) rfl ?_
        refine tri_v (opv_indexAddrSN rfl rfl (by omega) (by assumption) rfl) rfl ?_
        refine tri_v (opv_loadEA rfl (by assumption) rfl (by omega) rfl rfl) rfl ?_
        refine tri_g (opg_buildSlice rfl rfl rfl rfl) rfl ?_
        rintro _ _ _ ⟨b, rfl, rfl, rfl⟩
        refine tri_g (opg_appendB rfl rfl rfl rfl (by omega) rfl) rfl ?_
        rintro _ _ _ ⟨a3, cap3, rfl, rfl, rfl⟩
        refine tri_v (opv_assign rfl) rfl ?_
        refine tri_nil ?_
        refine tri_inBlock ?_
        refine tri_then ?_
        refine tri_region ?_
        refine tri_v (opv_move rfl) rfl ?_
        refine tri_v (opv_add rfl rfl (w64 (by omega) (by omega))) rfl ?_
        refine tri_v (opv_assign rfl) rfl ?_
        refine tri_nil ?_
        refine tri_then ?_
        refine tri_drop ?_
        refine tri_rowEq (len' := (acc ++ [l.getD i default]).length) (cells' := encs (acc ++ [l.getD i default])) (by simp) (by rw [encs_append]; rfl) ?_
        refine tri_sub ?_ (hK (i + 1, acc ++ [l.getD i default], true, a3, cap3) ⟨by simp only; omega, by simp only [List.length_append, List.length_cons, List.length_nil]; omega, ?_⟩ (by simp only; omega))
        · exact ⟨rfl, rfl, by rw [List.length_append]; rfl, rfl, rfl, trivial⟩
        · simp only [R1.putF, e1, Bool.true_eq_false, false_and, if_false, ne_eq, not_false_eq_true, if_true] at hp
          simpa using hp
      · have e1 : l.getD i default = c := Decidable.not_not.1 fun h => h2 (Cell.ne_iff'.1 h)
        refine tri_skip ?_
        refine tri_inBlock ?_
        refine tri_then ?_
        refine tri_region ?_
        refine tri_v (opv_move rfl) rfl ?_
        refine tri_v (opv_add rfl rfl (w64 (by omega) (by omega))) rfl ?_
        refine tri_v (opv_assign rfl) rfl ?_
        refine tri_nil ?_
        refine tri_then ?_
        refine tri_sub ?_ (hK (i + 1, acc, true, a1, cap1) ⟨by simp only; omega, by simp only; omega, ?_⟩ (by simp only; omega))
        · exact ⟨rfl, rfl, rfl, rfl, rfl, trivial⟩
        · simp only [R1.putF, e1, Bool.true_eq_false, false_and, if_false, ne_eq, not_true_eq_false] at hp
          simpa using hp
  · refine tri_exit ?_
    refine tri_then_exit ?_
    refine tri_then_exit ?_
    refine tri_inBlock_hit rfl ?_
    refine tri_then ?_
    refine tri_seq ?_
    refine tri_seq ?_
    refine tri_region ?_
    refine tri_v (opv_move rfl) rfl ?_
    refine tri_v (opv_not rfl) rfl ?_
    refine tri_nil ?_
    refine tri_then ?_
    have hd : l.drop i = [] := List.drop_of_length_le (by omega)
    rw [hd] at hp
    refine tri_cond rfl (fun hd1 => ?_) (fun hd1 => ?_)
    · have dn0 : dn = false := by simpa using hd1
      subst dn0
      refine tri_region ?_
      refine tri_v (opv_move rfl) rfl ?_
      refine tri_v (opv_loadA rfl rfl rfl) rfl ?_
      refine tri_g (opg_buildSlice rfl rfl rfl rfl) rfl ?_
      rintro _ _ _ ⟨b, rfl, rfl, rfl⟩
      refine tri_g (opg_appendB rfl rfl rfl rfl (by omega) rfl) rfl ?_
      rintro _ _ _ ⟨a3, cap3, rfl, rfl, rfl⟩
      refine tri_v (opv_assign rfl) rfl ?_
      refine tri_nil ?_
      refine tri_then ?_
      refine tri_seq ?_
      refine tri_region ?_
      refine tri_v (opv_move rfl) rfl ?_
      refine tri_v (opv_assign rfl) rfl ?_
      refine tri_nil ?_
      refine tri_then ?_
      refine tri_ret ?_
      have hp' : R1.put l c = acc ++ [c] := by simpa [R1.putF] using hp
      refine tri_drop ?_
      refine tri_rowEq (len' := (R1.put l c).length) (cells' := encs (R1.put l c)) (by rw [hp']; simp) (by rw [hp', encs_append]; rfl) ?_
      refine tri_freezeRow rfl fun I' hI hs' => ?_
      refine tri_end A Suf.h rfl (.cons (rv_tmp rfl) .nil) ⟨a3, cap3, ?_, hs', rfl, hI⟩
      rw [hp', List.length_append]; rfl
    · have dn1 : dn = true := by simpa using hd1
      subst dn1
      refine tri_skip ?_
      refine tri_then ?_
      refine tri_seq ?_
      refine tri_region ?_
      refine tri_v (opv_move rfl) rfl ?_
      refine tri_v (opv_assign rfl) rfl ?_
      refine tri_nil ?_
      refine tri_then ?_
      refine tri_ret ?_
      have hp' : R1.put l c = acc := by simpa [R1.putF] using hp
      refine tri_rowEq (len' := (R1.put l c).length) (cells' := encs (R1.put l c)) (by rw [hp']) (by rw [hp']) ?_
      refine tri_freezeRow rfl fun I' hI hs' => ?_
      refine tri_end A Suf.h rfl (.cons (rv_tmp rfl) .nil) ⟨a1, cap1, ?_, hs', rfl, hI⟩
      rw [hp']; rfl
end Go.GL

set_option linter.unusedVariables false
namespace Go.GL
open Go.Proofs
attribute [local irreducible] wpList Code.wp Exit.then Exit.inBlock Ends Tri TriH OpV OpG FnC epf wpAnyH
variable {A : List Asrt} {I : List Chunk}
theorem R1.puts_snoc (l : List Cell) (c : Cell) : R1.puts (l ++ [c]) = R1.put (R1.puts l) c := by simp [R1.puts]
theorem R1.puts_len (l : List Cell) : (R1.puts l).length ≤ l.length := by
  have key : ∀ (l acc : List Cell), (l.foldl R1.put acc).length ≤ acc.length + l.length := by
    intro l
    induction l with
    | nil => intro acc; simp
    | cons c l ih =>
      intro acc
      have h1 := ih (R1.put acc c)
      have h2 := R1.put_len acc c
      simp only [List.foldl_cons, List.length_cons]
      omega
  have := key l []
  simpa [R1.puts] using this
set_option maxRecDepth 100000 in
theorem ref01_of {l : List Cell} {a : Option Addr} {cap : Nat} (hs : SlAt I a l) (hn : l.length ≤ 1000000000) :
    FnC Try.prog 22 [.slice a l.length cap].toArray A I (fun v A' I' => ∃ a' cap', v = .tuple [.slice a' (R1.of l).1.length cap', .int .i64 (R1.of l).2].toArray ∧ SlAt I' a' (R1.of l).1 ∧ A = A' ∧ I ⊆ I') := by
  refine fn_enter1 Try.func22 rfl Try.ntmps22 rfl fun w0 => ?_
  refine tri_seq ?_
  refine tri_region ?_
  refine tri_v (opv_assign rfl) rfl ?_
  refine tri_v (opv_assign rfl) rfl ?_
  refine tri_nil ?_
  refine tri_then ?_
  refine tri_seq ?_
  refine tri_seq ?_
  refine tri_region ?_
  refine tri_v (opv_assign rfl) rfl ?_
  refine tri_nil ?_
  refine tri_then ?_
  refine tri_block ?_
  refine tri_sub (F' := [(0, .slice a l.length cap), (4, .int .i64 (0 : Nat))]) ⟨rfl, rfl, trivial⟩ ?_
  refine loop_ind (G := Nat) (fun i => l.length - i) (fun i => i ≤ l.length ∧ ∀ j, j < i → R1.inB (R1.g l j)) (fun i => [(0, .slice a l.length cap), (4, .int .i64 (i : Nat))]) (fun _ => _) (fun _ => _) ?_ 0 ⟨by omega, fun j h => absurd h (by omega)⟩
  rintro i ⟨hi, hok⟩ K hK
  skip
  refine tri_seq ?_
  refine tri_seq ?_
  refine tri_region ?_
  refine tri_v (opv_move rfl) rfl ?_
  refine tri_v (opv_move rfl) rfl ?_
  refine tri_v (opv_len rfl) rfl ?_
  refine tri_v (opv_lss rfl rfl) rfl ?_
  refine tri_nil ?_
  refine tri_then ?_
  refine tri_cond_dec rfl (fun h => ?_) (fun h => ?_)
  · refine tri_skip ?_
    refine tri_then ?_
    refine tri_seq ?_
    refine tri_block ?_
    refine tri_seq ?_
    refine tri_region ?_
    refine tri_v (opv_move rfl) rfl ?_
    refine tri_v (opv_move rfl) rfl ?_
    refine tri_v (opv_indexAddrSN rfl rfl (by omega) (by assumption) rfl) rfl ?_
    refine tri_v (opv_loadEA rfl (by assumption) rfl (by omega) rfl rfl) rfl ?_
    refine tri_g (opg_call (xs := [_]) rfl (ref01_in (c := R1.g l i))) rfl ?_
    rintro _ _ _ ⟨rfl, rfl, rfl⟩
    refine tri_v (opv_notD rfl) rfl ?_
    refine tri_nil ?_
    refine tri_then ?_
    refine tri_cond_dec rfl (fun h1 => ?_) (fun h1 => ?_)
    · refine tri_seq ?_
      refine tri_region ?_
      refine tri_v (opv_assign rfl) rfl ?_
      refine tri_v (opv_assign rfl) rfl ?_
      refine tri_nil ?_
      refine tri_then ?_
      refine tri_ret ?_
      refine tri_inBlock_ret ?_
      refine tri_then_ret ?_
      refine tri_then_ret ?_
      refine tri_inBlock_ret ?_
      refine tri_then_ret ?_
      refine tri_end A Suf.h rfl (.cons (rv_tmp rfl) (.cons (rv_tmp rfl) .nil)) ?_
      rw [show R1.of l = ([], 2) from if_neg fun h2 => h1 (h2 i (by omega))]
      exact ⟨none, 0, rfl, SlAt.nil, rfl, fun _ h => h⟩
    · refine tri_skip ?_
      refine tri_inBlock ?_
      refine tri_then ?_
      refine tri_region ?_
      refine tri_v (opv_move rfl) rfl ?_
      refine tri_v (opv_add rfl rfl (w64 (by omega) (by omega))) rfl ?_
      refine tri_v (opv_assign rfl) rfl ?_
      refine tri_nil ?_
      refine tri_then ?_
      refine tri_sub ?_ (hK (i + 1) ⟨by omega, fun j hj => ?_⟩ (by omega))
      · exact ⟨rfl, rfl, trivial⟩
      · by_cases e : j = i
        · subst e; exact Decidable.not_not.1 h1
        · exact hok j (by omega)
  · refine tri_exit ?_
    refine tri_then_exit ?_
    refine tri_then_exit ?_
    refine tri_inBlock_hit rfl ?_
    refine tri_then ?_
    refine tri_seq ?_
    refine tri_region ?_
    refine tri_v (opv_assign rfl) rfl ?_
    refine tri_nil ?_
    refine tri_then ?_
    refine tri_seq ?_
    refine tri_seq ?_
    refine tri_region ?_
    refine tri_v (opv_assign rfl) rfl ?_
    refine tri_nil ?_
    refine tri_then ?_
    refine tri_block ?_
    have hall : ∀ i, i < l.length → R1.inB (R1.g l i) := fun j hj => hok j (by omega)
    refine tri_sub (F' := [(0, .slice a l.length cap), (5, .slice none 0 0), (6, .int .i64 (0 : Nat))]) ⟨rfl, rfl, rfl, trivial⟩ ?_
    refine loop_ind (G := Nat × Option Addr × Nat × List Chunk) (fun g => l.length - g.1) (fun g => g.1 ≤ l.length ∧ SlAt g.2.2.2 g.2.1 (R1.puts (l.take g.1)) ∧ I ⊆ g.2.2.2) (fun g => [(0, .slice a l.length cap), (5, .slice g.2.1 (R1.puts (l.take g.1)).length g.2.2.1), (6, .int .i64 (g.1 : Nat))]) (fun _ => A) (fun g => g.2.2.2) ?_ (0, none, 0, I) ⟨by omega, SlAt.nil, fun _ h => h⟩
    rintro ⟨i, a1, cap1, I1⟩ ⟨hi, hs1, hI1⟩ K hK
    simp only at hi hs1 hI1 hK ⊢
    have hsm : SlAt I1 a l := hs.mono hI1
    skip
    refine tri_seq ?_
    refine tri_seq ?_
    refine tri_region ?_
    refine tri_v (opv_move rfl) rfl ?_
    refine tri_v (opv_move rfl) rfl ?_
    refine tri_v (opv_len rfl) rfl ?_
    refine tri_v (opv_lss rfl rfl) rfl ?_
    refine tri_nil ?_
    refine tri_then ?_
    refine tri_cond_dec rfl (fun h2 => ?_) (fun h2 => ?_)
    · refine tri_skip ?_
      refine tri_then ?_
      refine tri_seq ?_
      refine tri_block ?_
      refine tri_region ?_
      refine tri_v (opv_move rfl) rfl ?_
      refine tri_v (opv_move rfl) rfl ?_
      refine tri_v (opv_move rfl) rfl ?_
      refine tri_v (opv_indexAddrSN rfl rfl (by omega) (by assumption) rfl) rfl ?_
      refine tri_v (opv_loadEA rfl (by assumption) rfl (by omega) rfl rfl) rfl ?_
      have hlt : i < l.length := by omega
      have hl1 := R1.puts_len (l.take i)
      rw [List.length_take] at hl1
      refine tri_g (opg_call (xs := [_, _]) rfl (ref01_put (c := l.getD i default) hs1 (by omega))) rfl ?_
      rintro _ _ I2 ⟨a2, cap2, rfl, hs2, rfl, hI2⟩
      refine tri_v (opv_assign rfl) rfl ?_
      refine tri_nil ?_
      refine tri_inBlock ?_
      refine tri_then ?_
      refine tri_region ?_
      refine tri_v (opv_move rfl) rfl ?_
      refine tri_v (opv_add rfl rfl (w64 (by omega) (by omega))) rfl ?_
      refine tri_v (opv_assign rfl) rfl ?_
      refine tri_nil ?_
      refine tri_then ?_
      have e : R1.puts (l.take (i + 1)) = R1.put (R1.puts (l.take i)) (l.getD i default) := by
        rw [← R1.puts_snoc, List.take_succ_eq_append_getElem hlt]
        simp [hlt]
      refine tri_sub ?_ (hK (i + 1, a2, cap2, I2) ⟨by simp only; omega, by simp only [e]; exact hs2, fun _ h => hI2 (hI1 h)⟩ (by simp only; omega))
      simp only [e]
      exact ⟨rfl, rfl, rfl, trivial⟩
    · refine tri_exit ?_
      refine tri_then_exit ?_
      refine tri_then_exit ?_
      refine tri_inBlock_hit rfl ?_
      refine tri_then ?_
      refine tri_seq ?_
      refine tri_seq ?_
      refine tri_region ?_
      refine tri_v (opv_move rfl) rfl ?_
      refine tri_v (opv_len rfl) rfl ?_
      refine tri_v (opv_gtr rfl rfl) rfl ?_
      refine tri_nil ?_
      refine tri_then ?_
      have e : l.take i = l := List.take_of_length_le (by omega)
      rw [e] at hs1
      have hl1 := R1.puts_len l
      have e2 : l.take i = l := e
      have ho : R1.of l = if 2000 < (R1.puts l).length then ([], 3) else (R1.puts l, 0) := if_pos hall
      refine tri_cond_dec rfl (fun h3 => ?_) (fun h3 => ?_)
      · rw [e] at h3
        refine tri_seq ?_
        refine tri_region ?_
        refine tri_v (opv_assign rfl) rfl ?_
        refine tri_v (opv_assign rfl) rfl ?_
        refine tri_nil ?_
        refine tri_then ?_
        refine tri_ret ?_
        refine tri_then_ret ?_
        refine tri_end A Suf.h rfl (.cons (rv_tmp rfl) (.cons (rv_tmp rfl) .nil)) ?_
        rw [ho, if_pos (by omega)]
        exact ⟨none, 0, rfl, SlAt.nil, rfl, hI1⟩
      · rw [e] at h3
        refine tri_skip ?_
        refine tri_then ?_
        refine tri_seq ?_
        refine tri_region ?_
        refine tri_v (opv_move rfl) rfl ?_
        refine tri_v (opv_assign rfl) rfl ?_
        refine tri_v (opv_assign rfl) rfl ?_
        refine tri_nil ?_
        refine tri_then ?_
        refine tri_ret ?_
        refine tri_end A Suf.h rfl (.cons (rv_tmp rfl) (.cons (rv_tmp rfl) .nil)) ?_
        rw [ho, if_neg (by omega), e]
        exact ⟨a1, cap1, rfl, hs1, rfl, hI1⟩
end Go.GL
