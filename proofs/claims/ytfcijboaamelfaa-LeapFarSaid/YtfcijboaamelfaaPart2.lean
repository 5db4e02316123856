/- Part 2: contracts of the functions that the law reaches: each answers as its model does. No condition beyond those that each theorem states. -/
import Derived.Test.YtfcijboaamelfaaPart1
import Derived.Carry
import Derived.ProofKit
import Derived.OpenShut
import Derived.JoinedCond
import Derived.Deep.Slices
import Derived.ChangeSame
import Derived.Below
set_option linter.unusedVariables false
namespace Go.GL
open Go.Proofs
attribute [local irreducible] wpList Code.wp Exit.then Exit.inBlock Ends Tri TriH OpV OpG FnC epf wpAnyH
variable {A : List Asrt} {I : List Chunk}
set_option maxHeartbeats 1000000 in
set_option maxRecDepth 100000 in
theorem ref06_fits {ns : List Node} {a : Option Addr} {cap n : Nat} {room : Int} (hs : SlAt I a ns) (hn : ns.length ≤ 1000000000) (hr : R6.Rng ns) (hm : R6.ModTo ns n) (hlt : n < ns.length) :
  FnC Try.prog 60 [storeV a ns.length cap room, .int .i64 (n : Nat)].toArray A I (fun v A' I' => v = .bool (decide (R6.fits ns n)) ∧ A = A' ∧ I = I') := by
 have hx := hr (ns.getD n default) (by simp [hlt])
 have hx1 := hx.1
 have hx2 := hx.2
 refine fn_enter2 Try.func60 rfl Try.ntmps60 rfl fun w0 => ?_
 refine tS (tR ?_)
 refine tri_g (opg_box_agg rfl) rfl ?_
 rintro _ _ _ ⟨b, rfl, rfl, rfl⟩
 refine tA rfl rfl (tN (tT (tS (tR (yF rfl ?_)))))
 refine yL rfl rfl ?_
 refine tM rfl rfl ?_
 refine tri_v (opv_indexAddrSN rfl rfl (by omega) (by assumption) rfl) rfl ?_
 refine tri_v (opv_loadEA rfl (by assumption) rfl (by omega) rfl rfl) rfl ?_
 refine tri_g opg_alloc rfl ?_
 rintro _ _ _ ⟨b, rfl, rfl, rfl⟩
 refine yG rfl rfl rfl rfl rfl rfl ?_
 rintro _ _ _ ⟨rfl, rfl⟩
 refine tN (tT (tS (tR (tA rfl rfl (tN (tT (tS ?_)))))))
 refine tS (tR (tA rfl rfl (tN (tT (tri_block ?_)))))
 refine tri_rounds 5 ?_
 refine tri_round (tS (tS (tR (tM rfl rfl (yC rfl rfl (tN (tT ?_)))))))
 refine tri_cond_is rfl (by decide) ?_
 refine tri_skip (tT (tS (tri_block (tS (tS ?_)))))
 refine tri_draw [0, 1, 2, 3, 4, 5, 6, 7, 8, 9, 10, 11, 12, 13, 14, 15, 16, 17, 18, 19, 20, 21, 22, 23, 24, 25, 26, 27] rfl [] rfl mixed ?_
 refine yM rfl rfl (yf rfl rfl ?_)
 refine th_take rfl rfl (by kernel_rfl)  (opv_indexAddrA rfl rfl (by decide) (by decide)) ?_
 refine yl rfl rfl rfl ?_
 refine th_take rfl rfl (by kernel_rfl)  (opv_lss rfl rfl) ?_
 refine yM rfl rfl ?_
 refine th_split rfl rfl rfl (fun h0a => ?_) (fun h0a => ?_)
 ·refine yS rfl rfl rfl (yS rfl rfl rfl (yS rfl rfl rfl (yS rfl rfl rfl (yS rfl rfl rfl (yS rfl rfl rfl ?_)))))
  refine th_take rfl rfl (by kernel_rfl)  (opv_pick_t rfl rfl) ?_
  refine yM rfl rfl (yS rfl rfl rfl (yS rfl rfl rfl (yS rfl rfl rfl (yS rfl rfl rfl (yS rfl rfl rfl (yS rfl rfl rfl (yS rfl rfl rfl ?_)))))))
  refine yS rfl rfl rfl (yS rfl rfl rfl (yS rfl rfl rfl (yS rfl rfl rfl (yS rfl rfl rfl (yS rfl rfl rfl ?_)))))
  refine th_take rfl rfl (by kernel_rfl)  (opv_pick_t rfl rfl) ?_
  refine yD (tT ?_)
  refine tri_cond_true rfl ?_
  refine tS (tR (tA rfl rfl (tN (tT (tri_ret (tri_then_ret (tri_inBlock_ret ?_)))))))
  refine tri_then_ret (tri_then_ret (tri_inBlock_ret (tri_then_ret ?_)))
  refine tri_end A Suf.h rfl (.cons (rv_tmp rfl) .nil) ⟨congrArg Value.bool (decide_eq_false fun hf => ?_).symm, rfl, rfl⟩
  have := hf.1.1
  omega
 refine th_take_g rfl rfl rfl rfl rfl (by kernel_rfl)  (opv_move rfl) ?_
 refine th_take_g rfl rfl rfl rfl rfl (by kernel_rfl)  (opv_fieldAddr rfl rfl) ?_
 refine th_take_g rfl rfl rfl rfl rfl (by kernel_rfl)  (opv_indexAddrA rfl rfl (by decide) (by decide)) ?_
 refine th_take_g rfl rfl rfl rfl rfl (by kernel_rfl)  (opv_load1 rfl rfl rfl) ?_
 refine th_take_g rfl rfl rfl rfl rfl (by kernel_rfl)  (opv_move rfl) ?_
 refine th_take_g rfl rfl rfl rfl rfl (by kernel_rfl)  (opv_geq rfl rfl) ?_
 refine th_take rfl rfl (by kernel_rfl)  (opv_pick_f rfl rfl) ?_
 refine yM rfl rfl ?_
 refine th_split rfl rfl rfl (fun h0b => ?_) (fun h0b => ?_)
 ·refine yS rfl rfl rfl (yS rfl rfl rfl (yS rfl rfl rfl (yS rfl rfl rfl (yS rfl rfl rfl (yS rfl rfl rfl (yS rfl rfl rfl (yS rfl rfl rfl ?_)))))))
  refine yS rfl rfl rfl (yS rfl rfl rfl (yS rfl rfl rfl (yS rfl rfl rfl (yS rfl rfl rfl ?_))))
  refine th_take rfl rfl (by kernel_rfl)  (opv_pick_t rfl rfl) ?_
  refine yD (tT ?_)
  refine tri_cond_true rfl ?_
  refine tS (tR (tA rfl rfl (tN (tT (tri_ret (tri_then_ret (tri_inBlock_ret ?_)))))))
  refine tri_then_ret (tri_then_ret (tri_inBlock_ret (tri_then_ret ?_)))
  refine tri_end A Suf.h rfl (.cons (rv_tmp rfl) .nil) ⟨congrArg Value.bool (decide_eq_false fun hf => ?_).symm, rfl, rfl⟩
  have := hf.1.2.1
  omega
 refine th_take_g rfl rfl rfl rfl rfl (by kernel_rfl)  (opv_fieldAddr rfl rfl) ?_
 refine th_take_g rfl rfl rfl rfl rfl (by kernel_rfl)  (opv_load1 rfl rfl rfl) ?_
 refine th_take_g rfl rfl rfl rfl rfl (by kernel_rfl)  (opv_move rfl) ?_
 refine th_take_g rfl rfl rfl rfl rfl (by kernel_rfl)  (opv_fieldAddr rfl rfl) ?_
 refine th_take_g rfl rfl rfl rfl rfl (by kernel_rfl)  (opv_indexAddrA rfl rfl (by decide) (by decide)) ?_
 refine th_take_g rfl rfl rfl rfl rfl (by kernel_rfl)  (opv_load1 rfl rfl rfl) ?_
 refine th_take_g rfl rfl rfl rfl rfl (by kernel_rfl)  (opv_indexAddrS rfl rfl (by omega) (by omega) (by assumption) rfl) ?_
 refine th_take_g rfl rfl rfl rfl rfl (by kernel_rfl)  (opv_fieldAddrE rfl (by assumption) (by omega) rfl) ?_
 refine th_take_g rfl rfl rfl rfl rfl (by kernel_rfl)  (opv_loadE1 rfl (by assumption) rfl (by omega) rfl rfl) ?_
 refine th_take_g rfl rfl rfl rfl rfl (by kernel_rfl)  (opv_fieldAddr rfl rfl) ?_
 refine th_take_g rfl rfl rfl rfl rfl (by kernel_rfl)  (opv_load1 rfl rfl rfl) ?_
 refine th_take_g rfl rfl rfl rfl rfl (by kernel_rfl)  (opv_sub rfl rfl rfl) ?_
 refine th_take_g rfl rfl rfl rfl rfl (by kernel_rfl)  (opv_neq rfl rfl) ?_
 refine th_take rfl rfl (by kernel_rfl)  (opv_pick_f rfl rfl) ?_
 refine yD (tT ?_)
 have b0 := hm.at h0a h0b
 refine tri_cond_dec rfl (fun h0c => ?_) (fun h0c => ?_)
 ·refine tS (tR (tA rfl rfl (tN (tT (tri_ret (tri_then_ret (tri_inBlock_ret ?_)))))))
  refine tri_then_ret (tri_then_ret (tri_inBlock_ret (tri_then_ret ?_)))
  refine tri_end A Suf.h rfl (.cons (rv_tmp rfl) .nil) ⟨congrArg Value.bool (decide_eq_false fun hf => ?_).symm, rfl, rfl⟩
  exact (R6.wrapNe b0.1 b0.2.1 hx1 hx2).1 h0c hf.1.2.2
 have l0 : (ns.getD (ns.getD n default).k0.toNat default).lv = (ns.getD n default).lv - 1 := Decidable.not_not.1 fun h => h0c ((R6.wrapNe b0.1 b0.2.1 hx1 hx2).2 h)
 have e0 := R6.mn_bd (x := 0 + (ns.getD (ns.getD n default).k0.toNat default).pop) (by omega)
 refine tri_skip (tT ?_)
 refine tri_draw [0, 1, 2, 3, 4, 5, 6, 7, 8, 9, 10, 11, 12] rfl [] rfl mixed ?_
 refine yM rfl rfl (yf rfl rfl ?_)
 refine yl rfl rfl rfl ?_
 refine yM rfl rfl (yf rfl rfl ?_)
 refine th_take rfl rfl (by kernel_rfl)  (opv_indexAddrA rfl rfl (by decide) (by decide)) ?_
 refine yl rfl rfl rfl ?_
 refine th_take rfl rfl (by kernel_rfl)  (opv_indexAddrS rfl rfl (by omega) (by omega) (by assumption) rfl) ?_
 refine th_take rfl rfl (by kernel_rfl)  (opv_fieldAddrE rfl (by assumption) (by omega) rfl) ?_
 refine th_take rfl rfl (by kernel_rfl)  (opv_loadE1 rfl (by assumption) rfl (by omega) rfl rfl) ?_
 refine th_take rfl rfl (by kernel_rfl)  (opv_add rfl rfl (w64 (by omega) (by omega))) ?_
 refine th_take rfl rfl (by kernel_rfl)  (opv_min2 rfl rfl) ?_
 refine yA rfl rfl (yD (tri_inBlock (tT (tR (tM rfl rfl ?_)))))
 refine yU rfl rfl ?_
 refine tA rfl rfl (tN (tT (tri_round (tS (tS (tR (tM rfl rfl ?_)))))))
 refine yC rfl rfl (tN (tT ?_))
 refine tri_cond_is rfl (by decide) ?_
 refine tri_skip (tT (tS (tri_block (tS (tS ?_)))))
 refine tri_draw [0, 1, 2, 3, 4, 5, 6, 7, 8, 9, 10, 11, 12, 13, 14, 15, 16, 17, 18, 19, 20, 21, 22, 23, 24, 25, 26, 27] rfl [] rfl mixed ?_
 refine yM rfl rfl (yf rfl rfl ?_)
 refine th_take rfl rfl (by kernel_rfl)  (opv_indexAddrA rfl rfl (by decide) (by decide)) ?_
 refine yl rfl rfl rfl ?_
 refine th_take rfl rfl (by kernel_rfl)  (opv_lss rfl rfl) ?_
 refine yM rfl rfl ?_
 refine th_split rfl rfl rfl (fun h1a => ?_) (fun h1a => ?_)
 ·refine yS rfl rfl rfl (yS rfl rfl rfl (yS rfl rfl rfl (yS rfl rfl rfl (yS rfl rfl rfl (yS rfl rfl rfl ?_)))))
  refine th_take rfl rfl (by kernel_rfl)  (opv_pick_t rfl rfl) ?_
  refine yM rfl rfl (yS rfl rfl rfl (yS rfl rfl rfl (yS rfl rfl rfl (yS rfl rfl rfl (yS rfl rfl rfl (yS rfl rfl rfl (yS rfl rfl rfl ?_)))))))
  refine yS rfl rfl rfl (yS rfl rfl rfl (yS rfl rfl rfl (yS rfl rfl rfl (yS rfl rfl rfl (yS rfl rfl rfl ?_)))))
  refine th_take rfl rfl (by kernel_rfl)  (opv_pick_t rfl rfl) ?_
  refine yD (tT ?_)
  refine tri_cond_true rfl ?_
  refine tS (tR (tA rfl rfl (tN (tT (tri_ret (tri_then_ret (tri_inBlock_ret ?_)))))))
  refine tri_then_ret (tri_then_ret (tri_inBlock_ret (tri_then_ret ?_)))
  refine tri_end A Suf.h rfl (.cons (rv_tmp rfl) .nil) ⟨congrArg Value.bool (decide_eq_false fun hf => ?_).symm, rfl, rfl⟩
  have := hf.2.1.1
  omega
 refine th_take_g rfl rfl rfl rfl rfl (by kernel_rfl)  (opv_move rfl) ?_
 refine th_take_g rfl rfl rfl rfl rfl (by kernel_rfl)  (opv_fieldAddr rfl rfl) ?_
 refine th_take_g rfl rfl rfl rfl rfl (by kernel_rfl)  (opv_indexAddrA rfl rfl (by decide) (by decide)) ?_
 refine th_take_g rfl rfl rfl rfl rfl (by kernel_rfl)  (opv_load1 rfl rfl rfl) ?_
 refine th_take_g rfl rfl rfl rfl rfl (by kernel_rfl)  (opv_move rfl) ?_
 refine th_take_g rfl rfl rfl rfl rfl (by kernel_rfl)  (opv_geq rfl rfl) ?_
 refine th_take rfl rfl (by kernel_rfl)  (opv_pick_f rfl rfl) ?_
 refine yM rfl rfl ?_
 refine th_split rfl rfl rfl (fun h1b => ?_) (fun h1b => ?_)
 ·refine yS rfl rfl rfl (yS rfl rfl rfl (yS rfl rfl rfl (yS rfl rfl rfl (yS rfl rfl rfl (yS rfl rfl rfl (yS rfl rfl rfl (yS rfl rfl rfl ?_)))))))
  refine yS rfl rfl rfl (yS rfl rfl rfl (yS rfl rfl rfl (yS rfl rfl rfl (yS rfl rfl rfl ?_))))
  refine th_take rfl rfl (by kernel_rfl)  (opv_pick_t rfl rfl) ?_
  refine yD (tT ?_)
  refine tri_cond_true rfl ?_
  refine tS (tR (tA rfl rfl (tN (tT (tri_ret (tri_then_ret (tri_inBlock_ret ?_)))))))
  refine tri_then_ret (tri_then_ret (tri_inBlock_ret (tri_then_ret ?_)))
  refine tri_end A Suf.h rfl (.cons (rv_tmp rfl) .nil) ⟨congrArg Value.bool (decide_eq_false fun hf => ?_).symm, rfl, rfl⟩
  have := hf.2.1.2.1
  omega
 refine th_take_g rfl rfl rfl rfl rfl (by kernel_rfl)  (opv_fieldAddr rfl rfl) ?_
 refine th_take_g rfl rfl rfl rfl rfl (by kernel_rfl)  (opv_load1 rfl rfl rfl) ?_
 refine th_take_g rfl rfl rfl rfl rfl (by kernel_rfl)  (opv_move rfl) ?_
 refine th_take_g rfl rfl rfl rfl rfl (by kernel_rfl)  (opv_fieldAddr rfl rfl) ?_
 refine th_take_g rfl rfl rfl rfl rfl (by kernel_rfl)  (opv_indexAddrA rfl rfl (by decide) (by decide)) ?_
 refine th_take_g rfl rfl rfl rfl rfl (by kernel_rfl)  (opv_load1 rfl rfl rfl) ?_
 refine th_take_g rfl rfl rfl rfl rfl (by kernel_rfl)  (opv_indexAddrS rfl rfl (by omega) (by omega) (by assumption) rfl) ?_
 refine th_take_g rfl rfl rfl rfl rfl (by kernel_rfl)  (opv_fieldAddrE rfl (by assumption) (by omega) rfl) ?_
 refine th_take_g rfl rfl rfl rfl rfl (by kernel_rfl)  (opv_loadE1 rfl (by assumption) rfl (by omega) rfl rfl) ?_
 refine th_take_g rfl rfl rfl rfl rfl (by kernel_rfl)  (opv_fieldAddr rfl rfl) ?_
 refine th_take_g rfl rfl rfl rfl rfl (by kernel_rfl)  (opv_load1 rfl rfl rfl) ?_
 refine th_take_g rfl rfl rfl rfl rfl (by kernel_rfl)  (opv_sub rfl rfl (w64 (by omega) (by omega))) ?_
 refine th_take_g rfl rfl rfl rfl rfl (by kernel_rfl)  (opv_neq rfl rfl) ?_
 refine th_take rfl rfl (by kernel_rfl)  (opv_pick_f rfl rfl) ?_
 refine yD (tT ?_)
 have b1 := hm.at h1a h1b
 refine tri_cond_dec rfl (fun h1c => ?_) (fun h1c => ?_)
 ·refine tS (tR (tA rfl rfl (tN (tT (tri_ret (tri_then_ret (tri_inBlock_ret ?_)))))))
  refine tri_then_ret (tri_then_ret (tri_inBlock_ret (tri_then_ret ?_)))
  refine tri_end A Suf.h rfl (.cons (rv_tmp rfl) .nil) ⟨congrArg Value.bool (decide_eq_false fun hf => ?_).symm, rfl, rfl⟩
  exact h1c hf.2.1.2.2
 have l1 : (ns.getD (ns.getD n default).k1.toNat default).lv = (ns.getD n default).lv - 1 := Decidable.not_not.1 h1c
 have e1 := R6.mn_bd (x := (if 4611686018427387903 < 0 + (ns.getD (ns.getD n default).k0.toNat default).pop then 4611686018427387903 else 0 + (ns.getD (ns.getD n default).k0.toNat default).pop) + (ns.getD (ns.getD n default).k1.toNat default).pop) (by omega)
 refine tri_skip (tT ?_)
 refine tri_draw [0, 1, 2, 3, 4, 5, 6, 7, 8, 9, 10, 11, 12] rfl [] rfl mixed ?_
 refine yM rfl rfl (yf rfl rfl ?_)
 refine yl rfl rfl rfl ?_
 refine yM rfl rfl (yf rfl rfl ?_)
 refine th_take rfl rfl (by kernel_rfl)  (opv_indexAddrA rfl rfl (by decide) (by decide)) ?_
 refine yl rfl rfl rfl ?_
 refine th_take rfl rfl (by kernel_rfl)  (opv_indexAddrS rfl rfl (by omega) (by omega) (by assumption) rfl) ?_
 refine th_take rfl rfl (by kernel_rfl)  (opv_fieldAddrE rfl (by assumption) (by omega) rfl) ?_
 refine th_take rfl rfl (by kernel_rfl)  (opv_loadE1 rfl (by assumption) rfl (by omega) rfl rfl) ?_
 refine th_take rfl rfl (by kernel_rfl)  (opv_add rfl rfl (w64 (by omega) (by omega))) ?_
 refine th_take rfl rfl (by kernel_rfl)  (opv_min2 rfl rfl) ?_
 refine yA rfl rfl (yD (tri_inBlock (tT (tR (tM rfl rfl ?_)))))
 refine yU rfl rfl ?_
 refine tA rfl rfl (tN (tT (tri_round (tS (tS (tR (tM rfl rfl ?_)))))))
 refine yC rfl rfl (tN (tT ?_))
 refine tri_cond_is rfl (by decide) ?_
 refine tri_skip (tT (tS (tri_block (tS (tS ?_)))))
 refine tri_draw [0, 1, 2, 3, 4, 5, 6, 7, 8, 9, 10, 11, 12, 13, 14, 15, 16, 17, 18, 19, 20, 21, 22, 23, 24, 25, 26, 27] rfl [] rfl mixed ?_
 refine yM rfl rfl (yf rfl rfl ?_)
 refine th_take rfl rfl (by kernel_rfl)  (opv_indexAddrA rfl rfl (by decide) (by decide)) ?_
 refine yl rfl rfl rfl ?_
 refine th_take rfl rfl (by kernel_rfl)  (opv_lss rfl rfl) ?_
 refine yM rfl rfl ?_
 refine th_split rfl rfl rfl (fun h2a => ?_) (fun h2a => ?_)
 ·refine yS rfl rfl rfl (yS rfl rfl rfl (yS rfl rfl rfl (yS rfl rfl rfl (yS rfl rfl rfl (yS rfl rfl rfl ?_)))))
  refine th_take rfl rfl (by kernel_rfl)  (opv_pick_t rfl rfl) ?_
  refine yM rfl rfl (yS rfl rfl rfl (yS rfl rfl rfl (yS rfl rfl rfl (yS rfl rfl rfl (yS rfl rfl rfl (yS rfl rfl rfl (yS rfl rfl rfl ?_)))))))
  refine yS rfl rfl rfl (yS rfl rfl rfl (yS rfl rfl rfl (yS rfl rfl rfl (yS rfl rfl rfl (yS rfl rfl rfl ?_)))))
  refine th_take rfl rfl (by kernel_rfl)  (opv_pick_t rfl rfl) ?_
  refine yD (tT ?_)
  refine tri_cond_true rfl ?_
  refine tS (tR (tA rfl rfl (tN (tT (tri_ret (tri_then_ret (tri_inBlock_ret ?_)))))))
  refine tri_then_ret (tri_then_ret (tri_inBlock_ret (tri_then_ret ?_)))
  refine tri_end A Suf.h rfl (.cons (rv_tmp rfl) .nil) ⟨congrArg Value.bool (decide_eq_false fun hf => ?_).symm, rfl, rfl⟩
  have := hf.2.2.1.1
  omega
 refine th_take_g rfl rfl rfl rfl rfl (by kernel_rfl)  (opv_move rfl) ?_
 refine th_take_g rfl rfl rfl rfl rfl (by kernel_rfl)  (opv_fieldAddr rfl rfl) ?_
 refine th_take_g rfl rfl rfl rfl rfl (by kernel_rfl)  (opv_indexAddrA rfl rfl (by decide) (by decide)) ?_
 refine th_take_g rfl rfl rfl rfl rfl (by kernel_rfl)  (opv_load1 rfl rfl rfl) ?_
 refine th_take_g rfl rfl rfl rfl rfl (by kernel_rfl)  (opv_move rfl) ?_
 refine th_take_g rfl rfl rfl rfl rfl (by kernel_rfl)  (opv_geq rfl rfl) ?_
 refine th_take rfl rfl (by kernel_rfl)  (opv_pick_f rfl rfl) ?_
 refine yM rfl rfl ?_
 refine th_split rfl rfl rfl (fun h2b => ?_) (fun h2b => ?_)
 ·refine yS rfl rfl rfl (yS rfl rfl rfl (yS rfl rfl rfl (yS rfl rfl rfl (yS rfl rfl rfl (yS rfl rfl rfl (yS rfl rfl rfl (yS rfl rfl rfl ?_)))))))
  refine yS rfl rfl rfl (yS rfl rfl rfl (yS rfl rfl rfl (yS rfl rfl rfl (yS rfl rfl rfl ?_))))
  refine th_take rfl rfl (by kernel_rfl)  (opv_pick_t rfl rfl) ?_
  refine yD (tT ?_)
  refine tri_cond_true rfl ?_
  refine tS (tR (tA rfl rfl (tN (tT (tri_ret (tri_then_ret (tri_inBlock_ret ?_)))))))
  refine tri_then_ret (tri_then_ret (tri_inBlock_ret (tri_then_ret ?_)))
  refine tri_end A Suf.h rfl (.cons (rv_tmp rfl) .nil) ⟨congrArg Value.bool (decide_eq_false fun hf => ?_).symm, rfl, rfl⟩
  have := hf.2.2.1.2.1
  omega
 refine th_take_g rfl rfl rfl rfl rfl (by kernel_rfl)  (opv_fieldAddr rfl rfl) ?_
 refine th_take_g rfl rfl rfl rfl rfl (by kernel_rfl)  (opv_load1 rfl rfl rfl) ?_
 refine th_take_g rfl rfl rfl rfl rfl (by kernel_rfl)  (opv_move rfl) ?_
 refine th_take_g rfl rfl rfl rfl rfl (by kernel_rfl)  (opv_fieldAddr rfl rfl) ?_
 refine th_take_g rfl rfl rfl rfl rfl (by kernel_rfl)  (opv_indexAddrA rfl rfl (by decide) (by decide)) ?_
 refine th_take_g rfl rfl rfl rfl rfl (by kernel_rfl)  (opv_load1 rfl rfl rfl) ?_
 refine th_take_g rfl rfl rfl rfl rfl (by kernel_rfl)  (opv_indexAddrS rfl rfl (by omega) (by omega) (by assumption) rfl) ?_
 refine th_take_g rfl rfl rfl rfl rfl (by kernel_rfl)  (opv_fieldAddrE rfl (by assumption) (by omega) rfl) ?_
 refine th_take_g rfl rfl rfl rfl rfl (by kernel_rfl)  (opv_loadE1 rfl (by assumption) rfl (by omega) rfl rfl) ?_
 refine th_take_g rfl rfl rfl rfl rfl (by kernel_rfl)  (opv_fieldAddr rfl rfl) ?_
 refine th_take_g rfl rfl rfl rfl rfl (by kernel_rfl)  (opv_load1 rfl rfl rfl) ?_
 refine th_take_g rfl rfl rfl rfl rfl (by kernel_rfl)  (opv_sub rfl rfl (w64 (by omega) (by omega))) ?_
 refine th_take_g rfl rfl rfl rfl rfl (by kernel_rfl)  (opv_neq rfl rfl) ?_
 refine th_take rfl rfl (by kernel_rfl)  (opv_pick_f rfl rfl) ?_
 refine yD (tT ?_)
 have b2 := hm.at h2a h2b
 refine tri_cond_dec rfl (fun h2c => ?_) (fun h2c => ?_)
 ·refine tS (tR (tA rfl rfl (tN (tT (tri_ret (tri_then_ret (tri_inBlock_ret ?_)))))))
  refine tri_then_ret (tri_then_ret (tri_inBlock_ret (tri_then_ret ?_)))
  refine tri_end A Suf.h rfl (.cons (rv_tmp rfl) .nil) ⟨congrArg Value.bool (decide_eq_false fun hf => ?_).symm, rfl, rfl⟩
  exact h2c hf.2.2.1.2.2
 have l2 : (ns.getD (ns.getD n default).k2.toNat default).lv = (ns.getD n default).lv - 1 := Decidable.not_not.1 h2c
 have e2 := R6.mn_bd (x := (if 4611686018427387903 < (if 4611686018427387903 < 0 + (ns.getD (ns.getD n default).k0.toNat default).pop then 4611686018427387903 else 0 + (ns.getD (ns.getD n default).k0.toNat default).pop) + (ns.getD (ns.getD n default).k1.toNat default).pop then 4611686018427387903 else (if 4611686018427387903 < 0 + (ns.getD (ns.getD n default).k0.toNat default).pop then 4611686018427387903 else 0 + (ns.getD (ns.getD n default).k0.toNat default).pop) + (ns.getD (ns.getD n default).k1.toNat default).pop) + (ns.getD (ns.getD n default).k2.toNat default).pop) (by omega)
 refine tri_skip (tT ?_)
 refine tri_draw [0, 1, 2, 3, 4, 5, 6, 7, 8, 9, 10, 11, 12] rfl [] rfl mixed ?_
 refine yM rfl rfl (yf rfl rfl ?_)
 refine yl rfl rfl rfl ?_
 refine yM rfl rfl (yf rfl rfl ?_)
 refine th_take rfl rfl (by kernel_rfl)  (opv_indexAddrA rfl rfl (by decide) (by decide)) ?_
 refine yl rfl rfl rfl ?_
 refine th_take rfl rfl (by kernel_rfl)  (opv_indexAddrS rfl rfl (by omega) (by omega) (by assumption) rfl) ?_
 refine th_take rfl rfl (by kernel_rfl)  (opv_fieldAddrE rfl (by assumption) (by omega) rfl) ?_
 refine th_take rfl rfl (by kernel_rfl)  (opv_loadE1 rfl (by assumption) rfl (by omega) rfl rfl) ?_
 refine th_take rfl rfl (by kernel_rfl)  (opv_add rfl rfl (w64 (by omega) (by omega))) ?_
 refine th_take rfl rfl (by kernel_rfl)  (opv_min2 rfl rfl) ?_
 refine yA rfl rfl (yD (tri_inBlock (tT (tR (tM rfl rfl ?_)))))
 refine yU rfl rfl ?_
 refine tA rfl rfl (tN (tT (tri_round (tS (tS (tR (tM rfl rfl ?_)))))))
 refine yC rfl rfl (tN (tT ?_))
 refine tri_cond_is rfl (by decide) ?_
 refine tri_skip (tT (tS (tri_block (tS (tS ?_)))))
 refine tri_draw [0, 1, 2, 3, 4, 5, 6, 7, 8, 9, 10, 11, 12, 13, 14, 15, 16, 17, 18, 19, 20, 21, 22, 23, 24, 25, 26, 27] rfl [] rfl mixed ?_
 refine yM rfl rfl (yf rfl rfl ?_)
 refine th_take rfl rfl (by kernel_rfl)  (opv_indexAddrA rfl rfl (by decide) (by decide)) ?_
 refine yl rfl rfl rfl ?_
 refine th_take rfl rfl (by kernel_rfl)  (opv_lss rfl rfl) ?_
 refine yM rfl rfl ?_
 refine th_split rfl rfl rfl (fun h3a => ?_) (fun h3a => ?_)
 ·refine yS rfl rfl rfl (yS rfl rfl rfl (yS rfl rfl rfl (yS rfl rfl rfl (yS rfl rfl rfl (yS rfl rfl rfl ?_)))))
  refine th_take rfl rfl (by kernel_rfl)  (opv_pick_t rfl rfl) ?_
  refine yM rfl rfl (yS rfl rfl rfl (yS rfl rfl rfl (yS rfl rfl rfl (yS rfl rfl rfl (yS rfl rfl rfl (yS rfl rfl rfl (yS rfl rfl rfl ?_)))))))
  refine yS rfl rfl rfl (yS rfl rfl rfl (yS rfl rfl rfl (yS rfl rfl rfl (yS rfl rfl rfl (yS rfl rfl rfl ?_)))))
  refine th_take rfl rfl (by kernel_rfl)  (opv_pick_t rfl rfl) ?_
  refine yD (tT ?_)
  refine tri_cond_true rfl ?_
  refine tS (tR (tA rfl rfl (tN (tT (tri_ret (tri_then_ret (tri_inBlock_ret ?_)))))))
  refine tri_then_ret (tri_then_ret (tri_inBlock_ret (tri_then_ret ?_)))
  refine tri_end A Suf.h rfl (.cons (rv_tmp rfl) .nil) ⟨congrArg Value.bool (decide_eq_false fun hf => ?_).symm, rfl, rfl⟩
  have := hf.2.2.2.1.1
  omega
 refine th_take_g rfl rfl rfl rfl rfl (by kernel_rfl)  (opv_move rfl) ?_
 refine th_take_g rfl rfl rfl rfl rfl (by kernel_rfl)  (opv_fieldAddr rfl rfl) ?_
 refine th_take_g rfl rfl rfl rfl rfl (by kernel_rfl)  (opv_indexAddrA rfl rfl (by decide) (by decide)) ?_
 refine th_take_g rfl rfl rfl rfl rfl (by kernel_rfl)  (opv_load1 rfl rfl rfl) ?_
 refine th_take_g rfl rfl rfl rfl rfl (by kernel_rfl)  (opv_move rfl) ?_
 refine th_take_g rfl rfl rfl rfl rfl (by kernel_rfl)  (opv_geq rfl rfl) ?_
 refine th_take rfl rfl (by kernel_rfl)  (opv_pick_f rfl rfl) ?_
 refine yM rfl rfl ?_
 refine th_split rfl rfl rfl (fun h3b => ?_) (fun h3b => ?_)
 ·refine yS rfl rfl rfl (yS rfl rfl rfl (yS rfl rfl rfl (yS rfl rfl rfl (yS rfl rfl rfl (yS rfl rfl rfl (yS rfl rfl rfl (yS rfl rfl rfl ?_)))))))
  refine yS rfl rfl rfl (yS rfl rfl rfl (yS rfl rfl rfl (yS rfl rfl rfl (yS rfl rfl rfl ?_))))
  refine th_take rfl rfl (by kernel_rfl)  (opv_pick_t rfl rfl) ?_
  refine yD (tT ?_)
  refine tri_cond_true rfl ?_
  refine tS (tR (tA rfl rfl (tN (tT (tri_ret (tri_then_ret (tri_inBlock_ret ?_)))))))
  refine tri_then_ret (tri_then_ret (tri_inBlock_ret (tri_then_ret ?_)))
  refine tri_end A Suf.h rfl (.cons (rv_tmp rfl) .nil) ⟨congrArg Value.bool (decide_eq_false fun hf => ?_).symm, rfl, rfl⟩
  have := hf.2.2.2.1.2.1
  omega
 refine th_take_g rfl rfl rfl rfl rfl (by kernel_rfl)  (opv_fieldAddr rfl rfl) ?_
 refine th_take_g rfl rfl rfl rfl rfl (by kernel_rfl)  (opv_load1 rfl rfl rfl) ?_
 refine th_take_g rfl rfl rfl rfl rfl (by kernel_rfl)  (opv_move rfl) ?_
 refine th_take_g rfl rfl rfl rfl rfl (by kernel_rfl)  (opv_fieldAddr rfl rfl) ?_
 refine th_take_g rfl rfl rfl rfl rfl (by kernel_rfl)  (opv_indexAddrA rfl rfl (by decide) (by decide)) ?_
 refine th_take_g rfl rfl rfl rfl rfl (by kernel_rfl)  (opv_load1 rfl rfl rfl) ?_
 refine th_take_g rfl rfl rfl rfl rfl (by kernel_rfl)  (opv_indexAddrS rfl rfl (by omega) (by omega) (by assumption) rfl) ?_
 refine th_take_g rfl rfl rfl rfl rfl (by kernel_rfl)  (opv_fieldAddrE rfl (by assumption) (by omega) rfl) ?_
 refine th_take_g rfl rfl rfl rfl rfl (by kernel_rfl)  (opv_loadE1 rfl (by assumption) rfl (by omega) rfl rfl) ?_
 refine th_take_g rfl rfl rfl rfl rfl (by kernel_rfl)  (opv_fieldAddr rfl rfl) ?_
 refine th_take_g rfl rfl rfl rfl rfl (by kernel_rfl)  (opv_load1 rfl rfl rfl) ?_
 refine th_take_g rfl rfl rfl rfl rfl (by kernel_rfl)  (opv_sub rfl rfl (w64 (by omega) (by omega))) ?_
 refine th_take_g rfl rfl rfl rfl rfl (by kernel_rfl)  (opv_neq rfl rfl) ?_
 refine th_take rfl rfl (by kernel_rfl)  (opv_pick_f rfl rfl) ?_
 refine yD (tT ?_)
 have b3 := hm.at h3a h3b
 refine tri_cond_dec rfl (fun h3c => ?_) (fun h3c => ?_)
 ·refine tS (tR (tA rfl rfl (tN (tT (tri_ret (tri_then_ret (tri_inBlock_ret ?_)))))))
  refine tri_then_ret (tri_then_ret (tri_inBlock_ret (tri_then_ret ?_)))
  refine tri_end A Suf.h rfl (.cons (rv_tmp rfl) .nil) ⟨congrArg Value.bool (decide_eq_false fun hf => ?_).symm, rfl, rfl⟩
  exact h3c hf.2.2.2.1.2.2
 have l3 : (ns.getD (ns.getD n default).k3.toNat default).lv = (ns.getD n default).lv - 1 := Decidable.not_not.1 h3c
 refine tri_skip (tT ?_)
 refine tri_draw [0, 1, 2, 3, 4, 5, 6, 7, 8, 9, 10, 11, 12] rfl [] rfl mixed ?_
 refine yM rfl rfl (yf rfl rfl ?_)
 refine yl rfl rfl rfl ?_
 refine yM rfl rfl (yf rfl rfl ?_)
 refine th_take rfl rfl (by kernel_rfl)  (opv_indexAddrA rfl rfl (by decide) (by decide)) ?_
 refine yl rfl rfl rfl ?_
 refine th_take rfl rfl (by kernel_rfl)  (opv_indexAddrS rfl rfl (by omega) (by omega) (by assumption) rfl) ?_
 refine th_take rfl rfl (by kernel_rfl)  (opv_fieldAddrE rfl (by assumption) (by omega) rfl) ?_
 refine th_take rfl rfl (by kernel_rfl)  (opv_loadE1 rfl (by assumption) rfl (by omega) rfl rfl) ?_
 refine th_take rfl rfl (by kernel_rfl)  (opv_add rfl rfl (w64 (by omega) (by omega))) ?_
 refine th_take rfl rfl (by kernel_rfl)  (opv_min2 rfl rfl) ?_
 refine yA rfl rfl (yD (tri_inBlock (tT (tR (tM rfl rfl ?_)))))
 refine yU rfl rfl ?_
 refine tA rfl rfl (tN (tT (tri_round (tS (tS (tR (tM rfl rfl ?_)))))))
 refine yC rfl rfl (tN (tT ?_))
 refine tri_cond_not rfl (by decide) ?_
 refine tri_exit ?_
 refine tri_then_exit (tri_then_exit ?_)
 refine tri_inBlock_hit rfl ?_
 refine tT (tS (tR (yF rfl ?_)))
 refine yL rfl rfl ?_
 refine tri_v (opv_geq rfl rfl) rfl ?_
 refine tM rfl rfl ?_
 have k0 : R6.kidOk ns n (ns.getD n default).k0 (ns.getD n default).lv := ⟨by omega, by omega, l0⟩
 have k1 : R6.kidOk ns n (ns.getD n default).k1 (ns.getD n default).lv := ⟨by omega, by omega, l1⟩
 have k2 : R6.kidOk ns n (ns.getD n default).k2 (ns.getD n default).lv := ⟨by omega, by omega, l2⟩
 have k3 : R6.kidOk ns n (ns.getD n default).k3 (ns.getD n default).lv := ⟨by omega, by omega, l3⟩
 refine tri_split rfl rfl (fun g1 => ?_) (fun g1 => ?_)
 ·refine yR rfl rfl (yF rfl (yR rfl rfl ?_))
  refine yL rfl rfl ?_
  refine yR rfl rfl ?_
  refine tri_v (opv_leq rfl rfl) rfl ?_
  refine tri_v (opv_pick_t rfl rfl) rfl ?_
  refine tM rfl rfl ?_
  refine tri_split rfl rfl (fun g2 => ?_) (fun g2 => ?_)
  ·refine yR rfl rfl (yF rfl (yR rfl rfl ?_))
   refine yL rfl rfl ?_
   refine yR rfl rfl (tM rfl rfl (yR rfl rfl ?_))
   refine tri_v (opv_eql rfl rfl) rfl ?_
   refine tri_v (opv_pick_t rfl rfl) rfl ?_
   refine tM rfl rfl ?_
   refine tri_split rfl rfl (fun g3 => ?_) (fun g3 => ?_)
   ·refine yR rfl rfl ?_
    refine yB rfl rfl ?_
    refine yR rfl rfl (yF rfl (yR rfl rfl ?_))
    refine yB rfl rfl ?_
    refine yR rfl rfl ?_
    refine tri_g (opg_call (xs := [_, _]) rfl (ref06_at hs hn)) rfl ?_
    rintro _ _ _ ⟨rfl, rfl, rfl⟩
    refine yR rfl rfl (tM rfl rfl (yR rfl rfl ?_))
    refine tri_v (opv_eql rfl rfl) rfl ?_
    refine tri_v (opv_pick_t rfl rfl) rfl ?_
    refine tA rfl rfl (tN (tT (tri_ret ?_)))
    refine tri_end A Suf.h rfl (.cons (rv_tmp rfl) .nil) ⟨congrArg Value.bool (decide_eq_decide.2 ?_), rfl, rfl⟩
    exact ⟨fun h => ⟨k0, k1, k2, k3, g1, g2, g3, h⟩, fun h => h.2.2.2.2.2.2.2⟩
   ·refine tri_guard_skip rfl rfl rfl rfl (tri_guard_skip rfl rfl rfl rfl (tri_guard_skip rfl rfl rfl rfl (tri_guard_skip rfl rfl rfl rfl (tri_guard_skip rfl rfl rfl rfl (tri_guard_skip rfl rfl rfl rfl ?_)))))
    refine tri_v (opv_pick_f rfl rfl) rfl ?_
    refine tA rfl rfl (tN (tT (tri_ret ?_)))
    refine tri_end A Suf.h rfl (.cons (rv_tmp rfl) .nil) ⟨congrArg Value.bool (decide_eq_false fun hf => ?_).symm, rfl, rfl⟩
    exact g3 hf.2.2.2.2.2.2.1
  ·refine tri_guard_skip rfl rfl rfl rfl (tri_guard_skip rfl rfl rfl rfl (tri_guard_skip rfl rfl rfl rfl (tri_guard_skip rfl rfl rfl rfl ?_)))
   refine tri_v (opv_pick_f rfl rfl) rfl ?_
   refine tM rfl rfl (tri_guard_skip rfl rfl rfl rfl (tri_guard_skip rfl rfl rfl rfl (tri_guard_skip rfl rfl rfl rfl (tri_guard_skip rfl rfl rfl rfl (tri_guard_skip rfl rfl rfl rfl (tri_guard_skip rfl rfl rfl rfl ?_))))))
   refine tri_v (opv_pick_f rfl rfl) rfl ?_
   refine tA rfl rfl (tN (tT (tri_ret ?_)))
   refine tri_end A Suf.h rfl (.cons (rv_tmp rfl) .nil) ⟨congrArg Value.bool (decide_eq_false fun hf => ?_).symm, rfl, rfl⟩
   exact g2 hf.2.2.2.2.2.1
 ·refine tri_guard_skip rfl rfl rfl rfl (tri_guard_skip rfl rfl rfl rfl (tri_guard_skip rfl rfl rfl rfl ?_))
  refine tri_v (opv_pick_f rfl rfl) rfl ?_
  refine tM rfl rfl (tri_guard_skip rfl rfl rfl rfl (tri_guard_skip rfl rfl rfl rfl (tri_guard_skip rfl rfl rfl rfl (tri_guard_skip rfl rfl rfl rfl ?_))))
  refine tri_v (opv_pick_f rfl rfl) rfl ?_
  refine tM rfl rfl (tri_guard_skip rfl rfl rfl rfl (tri_guard_skip rfl rfl rfl rfl (tri_guard_skip rfl rfl rfl rfl (tri_guard_skip rfl rfl rfl rfl (tri_guard_skip rfl rfl rfl rfl (tri_guard_skip rfl rfl rfl rfl ?_))))))
  refine tri_v (opv_pick_f rfl rfl) rfl ?_
  refine tA rfl rfl (tN (tT (tri_ret ?_)))
  refine tri_end A Suf.h rfl (.cons (rv_tmp rfl) .nil) ⟨congrArg Value.bool (decide_eq_false fun hf => ?_).symm, rfl, rfl⟩
  exact g1 hf.2.2.2.2.1
end Go.GL


namespace Go.GL
abbrev cellV (c : Cell) : Value := .agg [.int .i64 c.x, .int .i64 c.y].toArray
theorem Cell.ext_iff' {a b : Cell} : a = b ↔ [a.x, a.y] = [b.x, b.y] := by
 cases a; cases b; simp
theorem Cell.ne_iff' {a b : Cell} : a ≠ b ↔ [a.x, a.y] ≠ [b.x, b.y] := by rw [Ne, Cell.ext_iff']
/-! ### Layer 1, as the document has it -/
namespace R1
def inB (c : Cell) : Prop := -1099511627776 ≤ c.x ∧ c.x ≤ 1099511627776 ∧ -1099511627776 ≤ c.y ∧ c.y ≤ 1099511627776
instance (c : Cell) : Decidable (inB c) := inferInstanceAs (Decidable (_ ∧ _))
def less (a b : Cell) : Prop := a.y < b.y ∨ a.y = b.y ∧ a.x < b.x
instance (a b : Cell) : Decidable (less a b) := inferInstanceAs (Decidable (_ ∨ _))
def g (l : List Cell) (i : Nat) : Cell := l.getD i default
def okAt (l : List Cell) (i : Nat) : Prop := inB (g l i) ∧ (0 < i → less (g l (i - 1)) (g l i))
instance (l : List Cell) (i : Nat) : Decidable (okAt l i) := inferInstanceAs (Decidable (_ ∧ _))
def right (l : List Cell) : Prop := (∀ i, i < l.length → okAt l i) ∧ l.length ≤ 2000
instance (l : List Cell) : Decidable (right l) := inferInstanceAs (Decidable (_ ∧ _))
def putF (c : Cell) : Bool → List Cell → List Cell
 | done, [] => if done = true then [] else [c]
 | done, a :: l => if done = false ∧ (a = c ∨ less c a) then (if a ≠ c then c :: a :: putF c true l else c :: putF c true l) else (if a ≠ c then a :: putF c done l else putF c done l)
def put (l : List Cell) (c : Cell) : List Cell := putF c false l
/-- What 'Of' makes of a list: its cells put one by one. -/
def puts (l : List Cell) : List Cell := l.foldl put []
def of (l : List Cell) : List Cell × Int :=
 if ∀ i, i < l.length → inB (g l i) then (if 2000 < (puts l).length then ([], 3) else (puts l, 0)) else ([], 2)
theorem putF_len (c : Cell) : ∀ (l : List Cell) (d : Bool), (putF c d l).length ≤ l.length + 1
 | [], d => by simp only [putF]; split <;> simp
 | a :: l, d => by
  have h1 := putF_len c l true
  have h2 := putF_len c l d
  have h3 := putF_lenT c l
  simp only [putF]
  split <;> split <;> simp only [List.length_cons] <;> omega
 where putF_lenT (c : Cell) : ∀ (l : List Cell), (putF c true l).length ≤ l.length
 | [] => by simp [putF]
 | a :: l => by
  have := putF_lenT c l
  simp only [putF]
  split <;> split <;> simp_all only [List.length_cons] <;> first | omega | simp_all
theorem put_len (l : List Cell) (c : Cell) : (put l c).length ≤ l.length + 1 := putF_len c l false
end R1
end Go.GL


namespace Go.GL
/-! ### Layer 2, as the document has it -/
namespace R2
def lives (alive : Bool) (n : Int) : Bool := decide (n = 3) || alive && decide (n = 2)
def near (c d : Cell) : Prop := -1 ≤ d.x - c.x ∧ d.x - c.x ≤ 1 ∧ -1 ≤ d.y - c.y ∧ d.y - c.y ≤ 1 ∧ d ≠ c
instance (c d : Cell) : Decidable (near c d) := inferInstanceAs (Decidable (_ ∧ _))
def around (l : List Cell) (c : Cell) : Int := ((l.filter fun d => decide (near c d)).length : Nat)
def nb (c : Cell) (k : Nat) : Cell := ⟨c.x + (k : Int) % 3 - 1, c.y + (k : Int) / 3 - 1⟩
def livesAt (l : List Cell) (c : Cell) : Bool := lives (decide (c ∈ l)) (around l c)
/-- What is live of the nine about the cell, from k on. -/
def about (l : List Cell) (c : Cell) : List Cell := ((List.range 9).map (nb c)).filter (livesAt l)
def cands (l : List Cell) : List Cell := l.flatMap (about l)
def next (l : List Cell) : List Cell × Int := if R1.right l then R1.of (cands l) else ([], 1)
theorem about_len (l : List Cell) (c : Cell) : (about l c).length ≤ 9 := by
 have := List.length_filter_le (livesAt l) ((List.range 9).map (nb c))
 simpa [about] using this
theorem cands_len (l m : List Cell) : (m.flatMap (about l)).length ≤ 9 * m.length := by
 induction m with
 | nil => simp
 | cons a m ih =>
  have := about_len l a
  simp only [List.flatMap_cons, List.length_append, List.length_cons]
  omega
def bd (c : Cell) : Prop := -2199023255552 ≤ c.x ∧ c.x ≤ 2199023255552 ∧ -2199023255552 ≤ c.y ∧ c.y ≤ 2199023255552
end R2
end Go.GL


namespace Go.GL
/-- What a function that tells a store, a node and an error comes to. -/
def StoreR (r : List Node × Int × Int) (room : Int) (A : List Asrt) (I : List Chunk) : Value → List Asrt → List Chunk → Prop :=
 fun v A' I' => ∃ a' cap', v = .tuple [storeV a' r.1.length cap' room, .int .i64 r.2.1, .int .i64 r.2.2].toArray ∧ StA I' a' cap' r.1 ∧ A = A' ∧ I ⊆ I'
namespace R6
def new (room : Int) : List Node × Int := if room < 2 ∨ 100000 < room then ([], 0) else ([n0, n1], room)
def intern (ns : List Node) (room : Int) (q0 q1 q2 q3 : Int) : List Node × Int × Int := if R6.right ns room then R6.put ns room q0 q1 q2 q3 else (ns, 0, 1)
/-- What a store keeps to while nodes are put. -/
structure Good (ns : List Node) (room : Int) : Prop where
 mod : Mod ns
 len : ns.length ≤ 1000000000
 room : room ≤ 1000000000
theorem mod_ModTo {ns : List Node} (h : Mod ns) : ModTo ns ns.length := by
 intro j hj
 exact h.at (k := j) (by omega) (by omega)
theorem Mod.snoc {ns : List Node} (h : Mod ns) {x : Node} (hx : 0 ≤ x.lv ∧ x.lv ≤ 42 ∧ 0 ≤ x.pop ∧ x.pop ≤ cap62) : Mod (ns ++ [x]) := by
 intro y hy
 rcases List.mem_append.1 hy with hy | hy
 ·exact h y hy
 ·rcases List.mem_singleton.1 hy with rfl
  exact hx
theorem fit4_pop {ns : List Node} (h : Mod ns) {q0 q1 q2 q3 : Int} (hf : fit4 ns q0 q1 q2 q3) : 0 ≤ pop4 ns q0 q1 q2 q3 ∧ pop4 ns q0 q1 q2 q3 ≤ 4611686018427387903 := by
 obtain ⟨a, ⟨b, _⟩, ⟨c, _⟩, ⟨d, _⟩, _⟩ := hf
 exact pop4_bd (mod_ModTo h) d a b c
theorem Good.put {ns : List Node} {room : Int} (h : Good ns room) (q0 q1 q2 q3 : Int) : Good (put ns room q0 q1 q2 q3).1 room := by
 unfold R6.put
 split
 ·rename_i hf
  split
  ·exact h
  ·split
   ·exact h
   ·rename_i h2
    have hp := fit4_pop h.mod hf
    have hl := h.mod.nd hf.1
    refine ⟨h.mod.snoc ⟨?_, hf.2.2.2.2, hp⟩, ?_, h.room⟩
    ·show 0 ≤ (nd ns q0).lv + 1
     omega
    ·have := h.room
     simp only [List.length_append, List.length_singleton]
     omega
 ·exact h
theorem right.good {ns : List Node} {room : Int} (h : right ns room) {r2 : Int} (hr : r2 ≤ 1000000000) : Good ns r2 := by
 have h1 := h.1.2.1
 have h2 := h.1.2.2.2.1
 exact ⟨h.modTo.mod, by omega, hr⟩
end R6
/-! ### Layer 7, as the document has it -/
namespace R7
def side (lv : Int) : Int := 2 ^ (lv - 1).toNat
def inL (lv : Int) (c : Cell) : Prop := -side lv ≤ c.x ∧ c.x < side lv ∧ -side lv ≤ c.y ∧ c.y < side lv
instance (lv : Int) (c : Cell) : Decidable (inL lv c) := inferInstanceAs (Decidable (_ ∧ _))
theorem side_bd {lv : Int} (h2 : lv ≤ 42) : 0 < side lv ∧ side lv ≤ 2199023255552 := by
 unfold side
 have h : (lv - 1).toNat ≤ 41 := by omega
 have h3 : (2:Nat) ^ (lv - 1).toNat ≤ 2 ^ 41 := Nat.pow_le_pow_right (by omega) h
 have h4 : (2:Int) ^ (lv - 1).toNat = ((2 ^ (lv - 1).toNat : Nat) : Int) := by simp
 have h5 : 0 < (2:Nat) ^ (lv - 1).toNat := Nat.pow_pos (by omega)
 rw [h4]
 generalize (2:Nat) ^ (lv - 1).toNat = k at h3 h5
 omega
/-- Where a cell of a square lies: its quarter, and its place there. -/
def qx (half : Int) (c : Cell) : Nat := (if half ≤ c.x then 1 else 0) + (if half ≤ c.y then 2 else 0)
def qc (half : Int) (c : Cell) : Cell := ⟨if half ≤ c.x then c.x - half else c.x, if half ≤ c.y then c.y - half else c.y⟩
def part (half : Int) (k : Nat) (l : List Cell) : List Cell := (l.filter fun c => qx half c == k).map (qc half)
def emptyF (room : Int) : Nat → List Node → Int → List Node × Int × Int
 | 0, ns, n => (ns, n, 0)
 | k + 1, ns, n => if (R6.put ns room n n n n).2.2 ≠ 0 then (ns, 0, (R6.put ns room n n n n).2.2) else emptyF room k (R6.put ns room n n n n).1 (R6.put ns room n n n n).2.1
def empty (ns : List Node) (room : Int) (lv : Nat) : List Node × Int × Int := emptyF room lv ns 0
def build (room : Int) : Nat → List Node → List Cell → List Node × Int × Int
 | lv, ns, [] => empty ns room lv
 | 0, ns, _ :: _ => (ns, 1, 0)
 | lv + 1, ns, c :: l =>
  let r0 := build room lv ns (part (2 ^ lv) 0 (c :: l))
  if r0.2.2 ≠ 0 then (ns, 0, r0.2.2) else
  let r1 := build room lv r0.1 (part (2 ^ lv) 1 (c :: l))
  if r1.2.2 ≠ 0 then (r0.1, 0, r1.2.2) else
  let r2 := build room lv r1.1 (part (2 ^ lv) 2 (c :: l))
  if r2.2.2 ≠ 0 then (r1.1, 0, r2.2.2) else
  let r3 := build room lv r2.1 (part (2 ^ lv) 3 (c :: l))
  if r3.2.2 ≠ 0 then (r2.1, 0, r3.2.2) else
  R6.put r3.1 room r0.2.1 r1.2.1 r2.2.1 r3.2.1
def corner (s : Int) (l : List Cell) : List Cell := l.map fun c => ⟨c.x + s, c.y + s⟩
def make (ns : List Node) (room : Int) (l : List Cell) (lv : Int) : List Node × Int × Int :=
 if R6.right ns room ∧ 1 ≤ lv ∧ lv ≤ 42 ∧ R1.right l then
  if ∀ i, i < l.length → inL lv (R1.g l i) then
   let r := build room lv.toNat ns (corner (side lv) l)
   if r.2.2 ≠ 0 then (ns, 0, r.2.2) else r
  else (ns, 0, 2)
 else (ns, 0, 1)
def flat (ns : List Node) : Nat → Int → Cell → List Cell
 | lv, n, at_ => if (R6.nd ns n).pop = 0 then [] else match lv with
  | 0 => [at_]
  | lv + 1 => flat ns lv (R6.nd ns n).k0 at_ ++ flat ns lv (R6.nd ns n).k1 ⟨at_.x + 2 ^ lv, at_.y⟩ ++ flat ns lv (R6.nd ns n).k2 ⟨at_.x, at_.y + 2 ^ lv⟩ ++ flat ns lv (R6.nd ns n).k3 ⟨at_.x + 2 ^ lv, at_.y + 2 ^ lv⟩
def of (ns : List Node) (n : Int) : List Cell := flat ns (R6.nd ns n).lv.toNat n ⟨-side (R6.nd ns n).lv, -side (R6.nd ns n).lv⟩
end R7
end Go.GL


namespace Go.GL
open Go.Proofs
attribute [local irreducible] wpList Code.wp Exit.then Exit.inBlock Ends Tri TriH OpV OpG FnC epf wpAnyH
variable {A : List Asrt} {I : List Chunk}
set_option maxHeartbeats 1000000 in
set_option maxRecDepth 100000 in
theorem ref06_right {ns : List Node} {a : Option Addr} {cap : Nat} {room : Int} (hs : SlAt I a ns) (hn : ns.length ≤ 1000000000) (hr : R6.Rng ns) :
  FnC Try.prog 28 [storeV a ns.length cap room].toArray A I (fun v A' I' => v = .bool (decide (R6.right ns room)) ∧ A = A' ∧ I = I') := by
 refine fn_enter1 Try.func28 rfl Try.ntmps28 rfl fun w0 => ?_
 refine tS (tR ?_)
 refine tri_g (opg_box_agg rfl) rfl ?_
 rintro _ _ _ ⟨b, rfl, rfl, rfl⟩
 refine tA rfl rfl (tN (tT (tS (tS (tR (yF rfl ?_))))))
 refine yL rfl rfl ?_
 refine yC rfl rfl (tM rfl rfl ?_)
 refine tri_split rfl rfl (fun h1 => ?_) (fun h1 => ?_)
 ·refine tri_guard_skip rfl rfl rfl rfl (tri_guard_skip rfl rfl rfl rfl (tri_guard_skip rfl rfl rfl rfl ?_))
  refine tri_v (opv_pick_t rfl rfl) rfl ?_
  refine tM rfl rfl (tri_guard_skip rfl rfl rfl rfl (tri_guard_skip rfl rfl rfl rfl (tri_guard_skip rfl rfl rfl rfl (tri_guard_skip rfl rfl rfl rfl ?_))))
  refine tri_v (opv_pick_t rfl rfl) rfl ?_
  refine tM rfl rfl (tri_guard_skip rfl rfl rfl rfl (tri_guard_skip rfl rfl rfl rfl (tri_guard_skip rfl rfl rfl rfl (tri_guard_skip rfl rfl rfl rfl (tri_guard_skip rfl rfl rfl rfl (tri_guard_skip rfl rfl rfl rfl ?_))))))
  refine tri_v (opv_pick_t rfl rfl) rfl ?_
  refine tM rfl rfl (tri_guard_skip rfl rfl rfl rfl (tri_guard_skip rfl rfl rfl rfl (tri_guard_skip rfl rfl rfl rfl (tri_guard_skip rfl rfl rfl rfl (tri_guard_skip rfl rfl rfl rfl (tri_guard_skip rfl rfl rfl rfl ?_))))))
  refine tri_v (opv_pick_t rfl rfl) rfl ?_
  refine tM rfl rfl (tri_guard_skip rfl rfl rfl rfl (tri_guard_skip rfl rfl rfl rfl (tri_guard_skip rfl rfl rfl rfl (tri_guard_skip rfl rfl rfl rfl (tri_guard_skip rfl rfl rfl rfl (tri_guard_skip rfl rfl rfl rfl ?_))))))
  refine tri_v (opv_pick_t rfl rfl) rfl ?_
  refine tN (tT ?_)
  refine tri_cond_true rfl ?_
  refine tS (tR (tA rfl rfl (tN (tT (tri_ret (tri_then_ret ?_))))))
  refine tri_end A Suf.h rfl (.cons (rv_tmp rfl) .nil) ⟨congrArg Value.bool (decide_eq_false fun hf => ?_).symm, rfl, rfl⟩
  have := hf.1.1; omega
 refine yR rfl rfl (yF rfl (yR rfl rfl ?_))
 refine yL rfl rfl ?_
 refine yR rfl rfl ?_
 refine tri_v (opv_gtr rfl rfl) rfl ?_
 refine tri_v (opv_pick_f rfl rfl) rfl ?_
 refine tM rfl rfl ?_
 refine tri_split rfl rfl (fun h2 => ?_) (fun h2 => ?_)
 ·refine tri_guard_skip rfl rfl rfl rfl (tri_guard_skip rfl rfl rfl rfl (tri_guard_skip rfl rfl rfl rfl (tri_guard_skip rfl rfl rfl rfl ?_)))
  refine tri_v (opv_pick_t rfl rfl) rfl ?_
  refine tM rfl rfl (tri_guard_skip rfl rfl rfl rfl (tri_guard_skip rfl rfl rfl rfl (tri_guard_skip rfl rfl rfl rfl (tri_guard_skip rfl rfl rfl rfl (tri_guard_skip rfl rfl rfl rfl (tri_guard_skip rfl rfl rfl rfl ?_))))))
  refine tri_v (opv_pick_t rfl rfl) rfl ?_
  refine tM rfl rfl (tri_guard_skip rfl rfl rfl rfl (tri_guard_skip rfl rfl rfl rfl (tri_guard_skip rfl rfl rfl rfl (tri_guard_skip rfl rfl rfl rfl (tri_guard_skip rfl rfl rfl rfl (tri_guard_skip rfl rfl rfl rfl ?_))))))
  refine tri_v (opv_pick_t rfl rfl) rfl ?_
  refine tM rfl rfl (tri_guard_skip rfl rfl rfl rfl (tri_guard_skip rfl rfl rfl rfl (tri_guard_skip rfl rfl rfl rfl (tri_guard_skip rfl rfl rfl rfl (tri_guard_skip rfl rfl rfl rfl (tri_guard_skip rfl rfl rfl rfl ?_))))))
  refine tri_v (opv_pick_t rfl rfl) rfl ?_
  refine tN (tT ?_)
  refine tri_cond_true rfl ?_
  refine tS (tR (tA rfl rfl (tN (tT (tri_ret (tri_then_ret ?_))))))
  refine tri_end A Suf.h rfl (.cons (rv_tmp rfl) .nil) ⟨congrArg Value.bool (decide_eq_false fun hf => ?_).symm, rfl, rfl⟩
  have := hf.1.2.1; omega
 refine yR rfl rfl (yF rfl (yR rfl rfl ?_))
 refine yL rfl rfl ?_
 refine yR rfl rfl ?_
 refine tri_v (opv_len rfl) rfl ?_
 refine yR rfl rfl (yC rfl rfl ?_)
 refine tri_v (opv_pick_f rfl rfl) rfl ?_
 refine tM rfl rfl ?_
 refine tri_split rfl rfl (fun h3 => ?_) (fun h3 => ?_)
 ·refine tri_guard_skip rfl rfl rfl rfl (tri_guard_skip rfl rfl rfl rfl (tri_guard_skip rfl rfl rfl rfl (tri_guard_skip rfl rfl rfl rfl (tri_guard_skip rfl rfl rfl rfl (tri_guard_skip rfl rfl rfl rfl ?_)))))
  refine tri_v (opv_pick_t rfl rfl) rfl ?_
  refine tM rfl rfl (tri_guard_skip rfl rfl rfl rfl (tri_guard_skip rfl rfl rfl rfl (tri_guard_skip rfl rfl rfl rfl (tri_guard_skip rfl rfl rfl rfl (tri_guard_skip rfl rfl rfl rfl (tri_guard_skip rfl rfl rfl rfl ?_))))))
  refine tri_v (opv_pick_t rfl rfl) rfl ?_
  refine tM rfl rfl (tri_guard_skip rfl rfl rfl rfl (tri_guard_skip rfl rfl rfl rfl (tri_guard_skip rfl rfl rfl rfl (tri_guard_skip rfl rfl rfl rfl (tri_guard_skip rfl rfl rfl rfl (tri_guard_skip rfl rfl rfl rfl ?_))))))
  refine tri_v (opv_pick_t rfl rfl) rfl ?_
  refine tN (tT ?_)
  refine tri_cond_true rfl ?_
  refine tS (tR (tA rfl rfl (tN (tT (tri_ret (tri_then_ret ?_))))))
  refine tri_end A Suf.h rfl (.cons (rv_tmp rfl) .nil) ⟨congrArg Value.bool (decide_eq_false fun hf => ?_).symm, rfl, rfl⟩
  have := hf.1.2.2.1; omega
 refine yR rfl rfl (yF rfl (yR rfl rfl ?_))
 refine yL rfl rfl ?_
 refine yR rfl rfl ?_
 refine tri_v (opv_len rfl) rfl ?_
 refine yR rfl rfl (yF rfl (yR rfl rfl ?_))
 refine yL rfl rfl ?_
 refine yR rfl rfl ?_
 refine tri_v (opv_gtr rfl rfl) rfl ?_
 refine tri_v (opv_pick_f rfl rfl) rfl ?_
 refine tM rfl rfl ?_
 refine tri_split rfl rfl (fun h4 => ?_) (fun h4 => ?_)
 ·refine tri_guard_skip rfl rfl rfl rfl (tri_guard_skip rfl rfl rfl rfl (tri_guard_skip rfl rfl rfl rfl (tri_guard_skip rfl rfl rfl rfl (tri_guard_skip rfl rfl rfl rfl (tri_guard_skip rfl rfl rfl rfl ?_)))))
  refine tri_v (opv_pick_t rfl rfl) rfl ?_
  refine tM rfl rfl (tri_guard_skip rfl rfl rfl rfl (tri_guard_skip rfl rfl rfl rfl (tri_guard_skip rfl rfl rfl rfl (tri_guard_skip rfl rfl rfl rfl (tri_guard_skip rfl rfl rfl rfl (tri_guard_skip rfl rfl rfl rfl ?_))))))
  refine tri_v (opv_pick_t rfl rfl) rfl ?_
  refine tN (tT ?_)
  refine tri_cond_true rfl ?_
  refine tS (tR (tA rfl rfl (tN (tT (tri_ret (tri_then_ret ?_))))))
  refine tri_end A Suf.h rfl (.cons (rv_tmp rfl) .nil) ⟨congrArg Value.bool (decide_eq_false fun hf => ?_).symm, rfl, rfl⟩
  have := hf.1.2.2.2.1; omega
 refine yR rfl rfl (yF rfl (yR rfl rfl ?_))
 refine yL rfl rfl ?_
 refine yR rfl rfl ?_
 refine tri_v (opv_indexAddrS rfl rfl (by omega) (by omega) (by assumption) rfl) rfl ?_
 refine yR rfl rfl ?_
 refine tri_v (opv_loadEA rfl (by assumption) rfl (by omega) rfl rfl) rfl ?_
 refine yR rfl rfl ?_
 refine tri_v (opv_buildS rfl rfl) rfl ?_
 refine yR rfl rfl ?_
 refine tri_v (opv_neqI rfl rfl rfl rfl rfl rfl) rfl ?_
 refine tri_v (opv_pick_f rfl rfl) rfl ?_
 refine tM rfl rfl ?_
 refine tri_split rfl rfl (fun h5 => ?_) (fun h5 => ?_)
 ·refine tri_guard_skip rfl rfl rfl rfl (tri_guard_skip rfl rfl rfl rfl (tri_guard_skip rfl rfl rfl rfl (tri_guard_skip rfl rfl rfl rfl (tri_guard_skip rfl rfl rfl rfl (tri_guard_skip rfl rfl rfl rfl ?_)))))
  refine tri_v (opv_pick_t rfl rfl) rfl ?_
  refine tN (tT ?_)
  refine tri_cond_true rfl ?_
  refine tS (tR (tA rfl rfl (tN (tT (tri_ret (tri_then_ret ?_))))))
  refine tri_end A Suf.h rfl (.cons (rv_tmp rfl) .nil) ⟨congrArg Value.bool (decide_eq_false fun hf => ?_).symm, rfl, rfl⟩
  exact Node.ne_iff'.2 h5 hf.1.2.2.2.2.1
 refine yR rfl rfl (yF rfl (yR rfl rfl ?_))
 refine yL rfl rfl ?_
 refine yR rfl rfl ?_
 refine tri_v (opv_indexAddrS rfl rfl (by omega) (by omega) (by assumption) rfl) rfl ?_
 refine yR rfl rfl ?_
 refine tri_v (opv_loadEA rfl (by assumption) rfl (by omega) rfl rfl) rfl ?_
 refine yR rfl rfl ?_
 refine tri_v (opv_buildS rfl rfl) rfl ?_
 refine yR rfl rfl ?_
 refine tri_v (opv_neqI rfl rfl rfl rfl rfl rfl) rfl ?_
 refine tri_v (opv_pick_f rfl rfl) rfl ?_
 refine tN (tT ?_)
 refine tri_cond_dec rfl (fun h6 => ?_) (fun h6 => ?_)
 ·refine tS (tR (tA rfl rfl (tN (tT (tri_ret (tri_then_ret ?_))))))
  refine tri_end A Suf.h rfl (.cons (rv_tmp rfl) .nil) ⟨congrArg Value.bool (decide_eq_false fun hf => ?_).symm, rfl, rfl⟩
  exact Node.ne_iff'.2 h6 hf.1.2.2.2.2.2
 refine tri_skip (tT (tS (tS (tR (tA rfl rfl (tN (tT ?_)))))))
 refine tri_block ?_
 have e0 : ns.getD 0 default = R6.n0 := Decidable.not_not.1 fun h => h5 (Node.ne_iff'.1 h)
 have e1 : ns.getD 1 default = R6.n1 := Decidable.not_not.1 fun h => h6 (Node.ne_iff'.1 h)
 refine tri_sub (F' := [(1, pt b 0), (3, .int .i64 (2 : Nat))]) ⟨rfl, rfl, trivial⟩ ?_
 refine loop_ind (G := Nat) (fun i => ns.length - i) (fun i => 2 ≤ i ∧ i ≤ ns.length ∧ (∀ j, j < i → 2 ≤ j → R6.fits ns j) ∧ R6.ModTo ns i) (fun i => [(1, pt b 0), (3, .int .i64 (i : Nat))]) (fun _ => _) (fun _ => _) ?_ 2 ⟨by omega, by omega, fun j h h' => absurd h (by omega), fun j hj => ?_⟩
 ·rintro i ⟨hi2, hi, hok, hmi⟩ K hK
  skip
  refine tS (tS (tR (tM rfl rfl (yF rfl ?_))))
  refine yL rfl rfl ?_
  refine tri_v (opv_len rfl) rfl ?_
  refine yC rfl rfl (tN (tT ?_))
  refine tri_cond_dec rfl (fun h => ?_) (fun h => ?_)
  ·refine tri_skip (tT (tS (tri_block (tS (tR ?_)))))
   refine yB rfl rfl ?_
   refine tM rfl rfl ?_
   refine tri_g (opg_call (xs := [_, _]) rfl (ref06_fits (n := i) hs hn hr hmi (by omega))) rfl ?_
   rintro _ _ _ ⟨rfl, rfl, rfl⟩
   refine tri_v (opv_notD rfl) rfl ?_
   refine tN (tT ?_)
   refine tri_cond_dec rfl (fun h7 => ?_) (fun h7 => ?_)
   ·refine tS (tR (tA rfl rfl (tN (tT (tri_ret (tri_inBlock_ret (tri_then_ret ?_)))))))
    refine tri_then_ret (tri_inBlock_ret (tri_then_ret ?_))
    refine tri_end A Suf.h rfl (.cons (rv_tmp rfl) .nil) ⟨congrArg Value.bool (decide_eq_false fun hf => ?_).symm, rfl, rfl⟩
    exact h7 (hf.2 i (by omega) hi2)
   ·refine tri_skip (tri_inBlock (tT (tR (tM rfl rfl ?_))))
    refine yU rfl rfl ?_
    refine tA rfl rfl (tN (tT ?_))
    have hfi : R6.fits ns i := Decidable.not_not.1 h7
    refine tri_sub ?_ (hK (i + 1) ⟨by omega, by omega, fun j hj hj2 => ?_, hmi.step hfi⟩ (by omega))
    ·exact ⟨rfl, rfl, trivial⟩
    ·by_cases e : j = i
     ·subst e; exact hfi
     ·exact hok j (by omega) hj2
  ·refine tri_exit ?_
   refine tri_then_exit (tri_then_exit ?_)
   refine tri_inBlock_hit rfl ?_
   refine tT (tS (tR (tA rfl rfl (tN (tT (tri_ret ?_))))))
   refine tri_end A Suf.h rfl (.cons (rv_tmp rfl) .nil) ⟨congrArg Value.bool (decide_eq_true ?_).symm, rfl, rfl⟩
   exact ⟨⟨by omega, by omega, by omega, by omega, e0, e1⟩, fun j hj hj2 => hok j (by omega) hj2⟩
 ·rcases (by omega : j = 0 ∨ j = 1) with rfl | rfl
  ·rw [e0]; decide
  ·rw [e1]; decide
end Go.GL


namespace Go.GL
open Go.Proofs
attribute [local irreducible] wpList Code.wp Exit.then Exit.inBlock Ends Tri TriH OpV OpG FnC epf wpAnyH
variable {A : List Asrt} {I : List Chunk}
set_option maxRecDepth 100000 in
theorem ref06_new {room : Int} : FnC Try.prog 31 [.int .i64 room].toArray A I (fun v A' I' => ∃ a' cap', v = storeV a' (R6.new room).1.length cap' (R6.new room).2 ∧ StA I' a' cap' (R6.new room).1 ∧ A = A' ∧ I ⊆ I') := by
 refine fn_enter1 Try.func31 rfl Try.ntmps31 rfl fun w0 => ?_
 refine tS (tR ?_)
 refine tri_g opg_alloc rfl ?_
 rintro _ _ _ ⟨b, rfl, rfl, rfl⟩
 refine tN (tT (tS (tS (tR (tM rfl rfl (yC rfl rfl (tM rfl rfl ?_)))))))
 refine tri_split rfl rfl (fun h1 => ?_) (fun h1 => ?_)
 ·refine tri_guard_skip rfl rfl rfl rfl (tri_guard_skip rfl rfl rfl rfl ?_)
  refine tri_v (opv_pick_t rfl rfl) rfl ?_
  refine tN (tT ?_)
  refine tri_cond_true rfl ?_
  refine tS (tR ?_)
  refine tri_v (opv_buildS rfl rfl) rfl ?_
  refine yG rfl rfl rfl rfl rfl rfl ?_
  rintro _ _ _ ⟨rfl, rfl⟩
  refine tN (tT (tri_ret (tri_then_ret ?_)))
  refine tri_end A Suf.h rfl (.cons (rv_cellA rfl rfl rfl) .nil) ?_
  rw [show R6.new room = ([], 0) from if_pos (.inl h1)]
  exact ⟨none, 0, rfl, StA.nil, rfl, fun _ h => h⟩
 ·refine yR rfl rfl (tM rfl rfl (yR rfl rfl ?_))
  refine tri_v (opv_gtr rfl rfl) rfl ?_
  refine tri_v (opv_pick_f rfl rfl) rfl ?_
  refine tN (tT ?_)
  refine tri_cond_dec rfl (fun h2 => ?_) (fun h2 => ?_)
  ·refine tS (tR ?_)
   refine tri_v (opv_buildS rfl rfl) rfl ?_
   refine yG rfl rfl rfl rfl rfl rfl ?_
   rintro _ _ _ ⟨rfl, rfl⟩
   refine tN (tT (tri_ret (tri_then_ret ?_)))
   refine tri_end A Suf.h rfl (.cons (rv_cellA rfl rfl rfl) .nil) ?_
   rw [show R6.new room = ([], 0) from if_pos (.inr h2)]
   exact ⟨none, 0, rfl, StA.nil, rfl, fun _ h => h⟩
  ·refine tri_skip (tT (tS (tR ?_)))
   refine tri_v (opv_buildS rfl rfl) rfl ?_
   refine tri_v (opv_buildS rfl rfl) rfl ?_
   refine tri_g (opg_buildSlice rfl rfl rfl rfl) rfl ?_
   rintro _ _ _ ⟨b, rfl, rfl, rfl⟩
   refine tM rfl rfl ?_
   refine tri_v (opv_buildS rfl rfl) rfl ?_
   refine yG rfl rfl rfl rfl rfl rfl ?_
   rintro _ _ _ ⟨rfl, rfl⟩
   refine tN (tT (tri_ret ?_))
   refine tri_freezeBoxS [R6.n0, R6.n1] rfl fun I' hI hs' => ?_
   refine tri_end A Suf.h rfl (.cons (rv_cellA rfl rfl rfl) .nil) ?_
   rw [show R6.new room = ([R6.n0, R6.n1], room) from if_neg (by omega)]
   exact ⟨_, 2, rfl, ⟨hs', Nat.le_refl 2⟩, rfl, hI⟩
end Go.GL


namespace Go.GL
open Go.Proofs
attribute [local irreducible] wpList Code.wp Exit.then Exit.inBlock Ends Tri TriH OpV OpG FnC epf wpAnyH
variable {A : List Asrt} {I : List Chunk}
set_option maxRecDepth 100000 in
theorem ref01_in {c : Cell} : FnC Try.prog 55 [cellV c].toArray A I (fun v A' I' => v = .bool (decide (R1.inB c)) ∧ A = A' ∧ I = I') := by
 refine fn_enter1 Try.func55 rfl Try.ntmps55 rfl fun w0 => ?_
 refine tS (tR ?_)
 refine tri_g (opg_box_agg rfl) rfl ?_
 rintro _ _ _ ⟨b, rfl, rfl, rfl⟩
 refine tA rfl rfl (tN (tT (tS (tR (yF rfl ?_)))))
 refine yL rfl rfl ?_
 refine tri_v (opv_geq rfl rfl) rfl ?_
 refine tM rfl rfl ?_
 refine tri_split rfl rfl (fun h1 => ?_) (fun h1 => ?_)
 ·refine yR rfl rfl (yF rfl (yR rfl rfl ?_))
  refine yL rfl rfl ?_
  refine yR rfl rfl ?_
  refine tri_v (opv_leq rfl rfl) rfl ?_
  refine tri_v (opv_pick_t rfl rfl) rfl ?_
  refine tM rfl rfl ?_
  refine tri_split rfl rfl (fun h2 => ?_) (fun h2 => ?_)
  ·refine yR rfl rfl (yF rfl (yR rfl rfl ?_))
   refine yL rfl rfl ?_
   refine yR rfl rfl ?_
   refine tri_v (opv_geq rfl rfl) rfl ?_
   refine tri_v (opv_pick_t rfl rfl) rfl ?_
   refine tM rfl rfl ?_
   refine tri_split rfl rfl (fun h3 => ?_) (fun h3 => ?_)
   ·refine yR rfl rfl (yF rfl (yR rfl rfl ?_))
    refine yL rfl rfl ?_
    refine yR rfl rfl ?_
    refine tri_v (opv_leq rfl rfl) rfl ?_
    refine tri_v (opv_pick_t rfl rfl) rfl ?_
    refine tA rfl rfl (tN (tT (tri_ret ?_)))
    refine tri_end A Suf.h rfl (.cons (rv_tmp rfl) .nil) ⟨congrArg Value.bool ?_, rfl, rfl⟩
    unfold R1.inB; simp [h1, h2, h3]
   ·refine tri_guard_skip rfl rfl rfl rfl (tri_guard_skip rfl rfl rfl rfl (tri_guard_skip rfl rfl rfl rfl ?_))
    refine tri_v (opv_pick_f rfl rfl) rfl ?_
    refine tA rfl rfl (tN (tT (tri_ret ?_)))
    refine tri_end A Suf.h rfl (.cons (rv_tmp rfl) .nil) ⟨congrArg Value.bool ?_, rfl, rfl⟩
    unfold R1.inB; simp [h1, h2, h3]
  ·refine tri_guard_skip rfl rfl rfl rfl (tri_guard_skip rfl rfl rfl rfl (tri_guard_skip rfl rfl rfl rfl ?_))
   refine tri_v (opv_pick_f rfl rfl) rfl ?_
   refine tM rfl rfl (tri_guard_skip rfl rfl rfl rfl (tri_guard_skip rfl rfl rfl rfl (tri_guard_skip rfl rfl rfl rfl ?_)))
   refine tri_v (opv_pick_f rfl rfl) rfl ?_
   refine tA rfl rfl (tN (tT (tri_ret ?_)))
   refine tri_end A Suf.h rfl (.cons (rv_tmp rfl) .nil) ⟨congrArg Value.bool ?_, rfl, rfl⟩
   unfold R1.inB; simp [h1, h2]
 ·refine tri_guard_skip rfl rfl rfl rfl (tri_guard_skip rfl rfl rfl rfl (tri_guard_skip rfl rfl rfl rfl ?_))
  refine tri_v (opv_pick_f rfl rfl) rfl ?_
  refine tM rfl rfl (tri_guard_skip rfl rfl rfl rfl (tri_guard_skip rfl rfl rfl rfl (tri_guard_skip rfl rfl rfl rfl ?_)))
  refine tri_v (opv_pick_f rfl rfl) rfl ?_
  refine tM rfl rfl (tri_guard_skip rfl rfl rfl rfl (tri_guard_skip rfl rfl rfl rfl (tri_guard_skip rfl rfl rfl rfl ?_)))
  refine tri_v (opv_pick_f rfl rfl) rfl ?_
  refine tA rfl rfl (tN (tT (tri_ret ?_)))
  refine tri_end A Suf.h rfl (.cons (rv_tmp rfl) .nil) ⟨congrArg Value.bool ?_, rfl, rfl⟩
  unfold R1.inB; simp [h1]
set_option maxRecDepth 100000 in
theorem ref01_less {a b : Cell} : FnC Try.prog 57 [cellV a, cellV b].toArray A I (fun v A' I' => v = .bool (decide (R1.less a b)) ∧ A = A' ∧ I = I') := by
 refine fn_enter2 Try.func57 rfl Try.ntmps57 rfl fun w0 => ?_
 refine tS (tR ?_)
 refine tri_g (opg_box_agg rfl) rfl ?_
 rintro _ _ _ ⟨b, rfl, rfl, rfl⟩
 refine tri_g (opg_box_agg rfl) rfl ?_
 rintro _ _ _ ⟨b, rfl, rfl, rfl⟩
 refine tA rfl rfl (tN (tT (tS (tR (yF rfl ?_)))))
 refine yL rfl rfl ?_
 refine yF rfl ?_
 refine yL rfl rfl ?_
 refine yC rfl rfl (tM rfl rfl ?_)
 refine tri_split rfl rfl (fun h1 => ?_) (fun h1 => ?_)
 ·refine tri_guard_skip rfl rfl rfl rfl (tri_guard_skip rfl rfl rfl rfl (tri_guard_skip rfl rfl rfl rfl (tri_guard_skip rfl rfl rfl rfl (tri_guard_skip rfl rfl rfl rfl (tri_guard_skip rfl rfl rfl rfl ?_)))))
  refine tri_guard_skip_u rfl rfl rfl ?_
  refine tri_guard_skip_u rfl rfl rfl ?_
  refine tri_guard_skip_u rfl rfl rfl ?_
  refine tri_guard_skip_u rfl rfl rfl ?_
  refine tri_guard_skip_u rfl rfl rfl ?_
  refine tri_guard_skip rfl rfl rfl rfl ?_
  refine tri_v (opv_pick_t rfl rfl) rfl ?_
  refine tA rfl rfl (tN (tT (tri_ret ?_)))
  refine tri_end A Suf.h rfl (.cons (rv_tmp rfl) .nil) ⟨congrArg Value.bool ?_, rfl, rfl⟩
  unfold R1.less; simp [h1]
 ·refine yR rfl rfl (yF rfl (yR rfl rfl ?_))
  refine yL rfl rfl ?_
  refine yR rfl rfl (yF rfl (yR rfl rfl ?_))
  refine yL rfl rfl ?_
  refine yR rfl rfl ?_
  refine tri_v (opv_eql rfl rfl) rfl ?_
  refine yR rfl rfl (tM rfl rfl ?_)
  refine tri_split rfl rfl (fun h2 => ?_) (fun h2 => ?_)
  ·refine yR rfl rfl (yF rfl (yR rfl rfl ?_))
   refine yL rfl rfl ?_
   refine yR rfl rfl (yF rfl (yR rfl rfl ?_))
   refine yL rfl rfl ?_
   refine yR rfl rfl (yC rfl rfl (yR rfl rfl ?_))
   refine tri_v (opv_pick_t rfl rfl) rfl ?_
   refine tri_v (opv_pick_f rfl rfl) rfl ?_
   refine tA rfl rfl (tN (tT (tri_ret ?_)))
   refine tri_end A Suf.h rfl (.cons (rv_tmp rfl) .nil) ⟨congrArg Value.bool ?_, rfl, rfl⟩
   unfold R1.less; simp [h2]
  ·refine tri_guard_skip rfl rfl rfl rfl (tri_guard_skip rfl rfl rfl rfl (tri_guard_skip rfl rfl rfl rfl (tri_guard_skip rfl rfl rfl rfl (tri_guard_skip rfl rfl rfl rfl (yR rfl rfl ?_)))))
   refine tri_v (opv_pick_f rfl rfl) rfl ?_
   refine tri_v (opv_pick_f rfl rfl) rfl ?_
   refine tA rfl rfl (tN (tT (tri_ret ?_)))
   refine tri_end A Suf.h rfl (.cons (rv_tmp rfl) .nil) ⟨congrArg Value.bool ?_, rfl, rfl⟩
   unfold R1.less; simp [h1, h2]
end Go.GL


namespace Go.GL
open Go.Proofs
attribute [local irreducible] wpList Code.wp Exit.then Exit.inBlock Ends Tri TriH OpV OpG FnC epf wpAnyH
variable {A : List Asrt} {I : List Chunk}
theorem toNat_pred (i : Nat) (h : 0 < i) : ((i : Int) - 1).toNat = i - 1 := by omega
set_option maxRecDepth 100000 in
theorem ref01_right {l : List Cell} {a : Option Addr} {cap : Nat} (hs : SlAt I a l) (hn : l.length ≤ 1000000000) :
  FnC Try.prog 58 [.slice a l.length cap].toArray A I (fun v A' I' => v = .bool (decide (R1.right l)) ∧ A = A' ∧ I = I') := by
 refine fn_enter1 Try.func58 rfl Try.ntmps58 rfl fun w0 => ?_
 refine tS (tR (tA rfl rfl (tN (tT (tS (tS (tR ?_)))))))
 refine tA rfl rfl (tN (tT (tri_block ?_)))
 refine tri_sub (F' := [(0, .slice a l.length cap), (3, .int .i64 (0 : Nat))]) ⟨rfl, rfl, trivial⟩ ?_
 refine loop_ind (G := Nat) (fun i => l.length - i) (fun i => i ≤ l.length ∧ ∀ j, j < i → R1.okAt l j) (fun i => [(0, .slice a l.length cap), (3, .int .i64 (i : Nat))]) (fun _ => _) (fun _ => _) ?_ 0 ⟨by omega, fun j h => absurd h (by omega)⟩
 rintro i ⟨hi, hok⟩ K hK
 skip
 refine tS (tS (tR (tM rfl rfl (tM rfl rfl ?_))))
 refine tri_v (opv_len rfl) rfl ?_
 refine yC rfl rfl (tN (tT ?_))
 refine tri_cond_dec rfl (fun h => ?_) (fun h => ?_)
 ·refine tri_skip (tT (tS (tri_block (tS ?_))))
  refine tri_draw [0, 1, 2, 3, 4, 5, 6, 7, 8, 9, 10, 11, 12, 13, 14, 15, 16, 17, 18, 19, 20, 21, 22] rfl [] rfl mixed ?_
  refine yM rfl rfl (yM rfl rfl ?_)
  refine th_take rfl rfl (by kernel_rfl)  (opv_indexAddrSN rfl rfl (by omega) (by assumption) rfl) ?_
  refine th_take rfl rfl (by kernel_rfl)  (opv_loadEA rfl (by assumption) rfl (by omega) rfl rfl) ?_
  have bad : ¬ R1.okAt l i → ¬ R1.right l := fun h2 h3 => h2 (h3.1 i (by omega))
  refine th_one (by kernel_rfl) (step_m rfl rfl (opg_call (xs := [_]) rfl (ref01_in (c := R1.g l i))) ?_)
  rintro _ _ _ ⟨rfl, rfl, rfl⟩
  refine ⟨Suf.h, (fun _ h => h), ?_⟩
  refine th_take rfl rfl (by kernel_rfl)  (opv_notD rfl) ?_
  refine yM rfl rfl ?_
  refine th_split rfl rfl rfl (fun h1 => ?_) (fun h1 => ?_)
  ·refine yS rfl rfl rfl (yS rfl rfl rfl (yS rfl rfl rfl ?_))
   refine th_skip_u rfl rfl rfl rfl (by kernel_rfl)  ?_
   refine th_skip_u rfl rfl rfl rfl (by kernel_rfl)  ?_
   refine th_skip_u rfl rfl rfl rfl (by kernel_rfl)  ?_
   refine th_skip_u rfl rfl rfl rfl (by kernel_rfl)  ?_
   refine th_skip_u rfl rfl rfl rfl (by kernel_rfl)  ?_
   refine th_skip_u rfl rfl rfl rfl (by kernel_rfl)  ?_
   refine th_skip_u rfl rfl rfl rfl (by kernel_rfl)  ?_
   refine th_skip_u rfl rfl rfl rfl (by kernel_rfl)  ?_
   refine th_skip_u rfl rfl rfl rfl (by kernel_rfl)  ?_
   refine th_one (by kernel_rfl) (step_skip_u rfl rfl rfl rfl ?_)
   refine th_skip_u rfl rfl rfl rfl (by kernel_rfl)  ?_
   refine yS rfl rfl rfl ?_
   refine th_take rfl rfl (by kernel_rfl)  (opv_pick_t rfl rfl) ?_
   refine yD (tT ?_)
   refine tri_cond_true rfl ?_
   refine tS (tR (tA rfl rfl (tN (tT (tri_ret (tri_inBlock_ret (tri_then_ret ?_)))))))
   refine tri_then_ret (tri_inBlock_ret (tri_then_ret ?_))
   refine tri_end A Suf.h rfl (.cons (rv_tmp rfl) .nil) ⟨congrArg Value.bool ?_, rfl, rfl⟩
   exact (decide_eq_false (bad fun h2 => h1 h2.1)).symm
  ·refine th_take_g rfl rfl rfl rfl rfl (by kernel_rfl)  (opv_move rfl) ?_
   refine th_take_g rfl rfl rfl rfl rfl (by kernel_rfl)  (opv_gtr rfl rfl) ?_
   refine th_take_g rfl rfl rfl rfl rfl (by kernel_rfl)  (opv_move rfl) ?_
   refine th_split rfl rfl rfl (fun h2 => ?_) (fun h2 => ?_)
   ·refine th_take_g rfl rfl rfl rfl rfl (by kernel_rfl)  (opv_move rfl) ?_
    refine th_take_g rfl rfl rfl rfl rfl (by kernel_rfl)  (opv_move rfl) ?_
    refine th_take_g rfl rfl rfl rfl rfl (by kernel_rfl)  (opv_sub rfl rfl (w64 (by omega) (by omega))) ?_
    refine th_take_g rfl rfl rfl rfl rfl (by kernel_rfl)  (opv_indexAddrS rfl rfl (by omega) (by omega) (by assumption) rfl) ?_
    refine th_take_g rfl rfl rfl rfl rfl (by kernel_rfl)  (opv_loadEA rfl (by assumption) rfl (by omega) rfl rfl) ?_
    refine th_take_g rfl rfl rfl rfl rfl (by kernel_rfl)  (opv_move rfl) ?_
    refine th_take_g rfl rfl rfl rfl rfl (by kernel_rfl)  (opv_move rfl) ?_
    refine th_take_g rfl rfl rfl rfl rfl (by kernel_rfl)  (opv_indexAddrSN rfl rfl (by omega) (by assumption) rfl) ?_
    refine th_take_g rfl rfl rfl rfl rfl (by kernel_rfl)  (opv_loadEA rfl (by assumption) rfl (by omega) rfl rfl) ?_
    refine th_one (by kernel_rfl) (step_mg rfl rfl rfl rfl rfl (opg_call (xs := [_, _]) rfl (ref01_less (a := R1.g l ((i:Int)-1).toNat) (b := R1.g l i))) ?_)
    rintro _ _ _ ⟨rfl, rfl, rfl⟩
    refine ⟨Suf.h, (fun _ h => h), ?_⟩
    refine th_take_g rfl rfl rfl rfl rfl (by kernel_rfl)  (opv_notD rfl) ?_
    refine th_take_g rfl rfl rfl rfl rfl (by kernel_rfl)  (opv_pick_t rfl rfl) ?_
    refine th_take rfl rfl (by kernel_rfl)  (opv_pick_f rfl rfl) ?_
    refine yD (tT ?_)
    refine tri_cond_dec rfl (fun h3 => ?_) (fun h3 => ?_)
    ·refine tS (tR (tA rfl rfl (tN (tT (tri_ret (tri_inBlock_ret (tri_then_ret ?_)))))))
     refine tri_then_ret (tri_inBlock_ret (tri_then_ret ?_))
     refine tri_end A Suf.h rfl (.cons (rv_tmp rfl) .nil) ⟨congrArg Value.bool ?_, rfl, rfl⟩
     refine (decide_eq_false (bad fun h4 => h3 ?_)).symm
     have := h4.2 (by omega)
     rw [toNat_pred i (by omega)]; exact this
    ·refine tri_skip (tri_inBlock (tT (tR (tM rfl rfl ?_))))
     refine yU rfl rfl ?_
     refine tA rfl rfl (tN (tT ?_))
     refine tri_sub ?_ (hK (i + 1) ⟨by omega, fun j hj => ?_⟩ (by omega))
     ·exact ⟨rfl, rfl, trivial⟩
     ·by_cases e : j = i
      ·subst e
       rw [toNat_pred j (by omega)] at h3
       exact ⟨Decidable.not_not.1 h1, fun _ => Decidable.not_not.1 h3⟩
      ·exact hok j (by omega)
   ·refine yS rfl rfl rfl (yS rfl rfl rfl (yS rfl rfl rfl (yS rfl rfl rfl (yS rfl rfl rfl (yS rfl rfl rfl (yS rfl rfl rfl (yS rfl rfl rfl ?_)))))))
    refine yS rfl rfl rfl ?_
    refine th_one (by kernel_rfl) (step_skip rfl rfl rfl rfl rfl ?_)
    refine yS rfl rfl rfl ?_
    refine th_take_g rfl rfl rfl rfl rfl (by kernel_rfl)  (opv_pick_f rfl rfl) ?_
    refine th_take rfl rfl (by kernel_rfl)  (opv_pick_f rfl rfl) ?_
    refine yD (tT ?_)
    refine tri_cond_false rfl ?_
    refine tri_skip (tri_inBlock (tT (tR (tM rfl rfl ?_))))
    refine yU rfl rfl ?_
    refine tA rfl rfl (tN (tT ?_))
    refine tri_sub ?_ (hK (i + 1) ⟨by omega, fun j hj => ?_⟩ (by omega))
    ·exact ⟨rfl, rfl, trivial⟩
    ·by_cases e : j = i
     ·subst e
      exact ⟨Decidable.not_not.1 h1, fun h => absurd h (by omega)⟩
     ·exact hok j (by omega)
 ·refine tri_exit ?_
  refine tri_then_exit (tri_then_exit ?_)
  refine tri_inBlock_hit rfl ?_
  refine tT (tS (tR (tM rfl rfl ?_)))
  refine tri_v (opv_len rfl) rfl ?_
  refine tri_v (opv_leq rfl rfl) rfl ?_
  refine tA rfl rfl (tN (tT (tri_ret ?_)))
  refine tri_end A Suf.h rfl (.cons (rv_tmp rfl) .nil) ⟨congrArg Value.bool (decide_eq_decide.2 ?_), rfl, rfl⟩
  unfold R1.right
  constructor
  ·intro h2; exact ⟨fun j hj => hok j (by omega), by omega⟩
  ·rintro ⟨_, h2⟩; omega
set_option maxRecDepth 100000 in
theorem ref01_same {l m : List Cell} {a b : Option Addr} {cap cap2 : Nat} (hs : SlAt I a l) (ht : SlAt I b m) (hn : l.length ≤ 1000000000) :
  FnC Try.prog 26 [.slice a l.length cap, .slice b m.length cap2].toArray A I (fun v A' I' => v = .bool (decide (l = m)) ∧ A = A' ∧ I = I') := by
 refine fn_enter2 Try.func26 rfl Try.ntmps26 rfl fun w0 => ?_
 refine tS (tR (tA rfl rfl (tN (tT (tS (tS (tR ?_)))))))
 refine tM rfl rfl ?_
 refine tri_v (opv_len rfl) rfl ?_
 refine tM rfl rfl ?_
 refine tri_v (opv_len rfl) rfl ?_
 refine tri_v (opv_neq rfl rfl) rfl ?_
 refine tN (tT ?_)
 refine tri_cond_dec rfl (fun h0 => ?_) (fun h0 => ?_)
 ·refine tS (tR (tA rfl rfl (tN (tT (tri_ret (tri_then_ret ?_))))))
  refine tri_end A Suf.h rfl (.cons (rv_tmp rfl) .nil) ⟨congrArg Value.bool ?_, rfl, rfl⟩
  exact (decide_eq_false fun h => h0 (by rw [h])).symm
 refine tri_skip (tT (tS (tS (tR (tA rfl rfl (tN (tT ?_)))))))
 refine tri_block ?_
 have hlen : l.length = m.length := by omega
 refine tri_sub (F' := [(0, .slice a l.length cap), (1, .slice b m.length cap2), (5, .int .i64 (0 : Nat))]) ⟨rfl, rfl, rfl, trivial⟩ ?_
 refine loop_ind (G := Nat) (fun i => l.length - i) (fun i => i ≤ l.length ∧ ∀ j, j < i → l.getD j default = m.getD j default) (fun i => [(0, .slice a l.length cap), (1, .slice b m.length cap2), (5, .int .i64 (i : Nat))]) (fun _ => _) (fun _ => _) ?_ 0 ⟨by omega, fun j h => absurd h (by omega)⟩
 rintro i ⟨hi, hok⟩ K hK
 skip
 refine tS (tS (tR (tM rfl rfl (tM rfl rfl ?_))))
 refine tri_v (opv_len rfl) rfl ?_
 refine yC rfl rfl (tN (tT ?_))
 refine tri_cond_dec rfl (fun h => ?_) (fun h => ?_)
 ·refine tri_skip (tT (tS (tri_block (tS ?_))))
  refine tri_draw [0, 1, 2, 3, 4, 5, 6, 7, 8] rfl [] rfl mixed ?_
  refine yM rfl rfl (yM rfl rfl ?_)
  refine th_take rfl rfl (by kernel_rfl)  (opv_indexAddrSN rfl rfl (by omega) (by assumption) rfl) ?_
  refine th_take rfl rfl (by kernel_rfl)  (opv_loadEA rfl (by assumption) rfl (by omega) rfl rfl) ?_
  refine yM rfl rfl (yM rfl rfl ?_)
  refine th_take rfl rfl (by kernel_rfl)  (opv_indexAddrSN rfl rfl (by omega) (by assumption) rfl) ?_
  refine th_take rfl rfl (by kernel_rfl)  (opv_loadEA rfl (by assumption) rfl (by omega) rfl rfl) ?_
  refine th_take rfl rfl (by kernel_rfl)  (opv_neqI rfl rfl rfl rfl rfl rfl) ?_
  refine yD (tT ?_)
  refine tri_cond_dec rfl (fun h1 => ?_) (fun h1 => ?_)
  ·refine tS (tR (tA rfl rfl (tN (tT (tri_ret (tri_inBlock_ret (tri_then_ret ?_)))))))
   refine tri_then_ret (tri_inBlock_ret (tri_then_ret ?_))
   refine tri_end A Suf.h rfl (.cons (rv_tmp rfl) .nil) ⟨congrArg Value.bool ?_, rfl, rfl⟩
   exact (decide_eq_false fun h => Cell.ne_iff'.2 h1 (by rw [h])).symm
  ·refine tri_skip (tri_inBlock (tT (tR (tM rfl rfl ?_))))
   refine yU rfl rfl ?_
   refine tA rfl rfl (tN (tT ?_))
   refine tri_sub ?_ (hK (i + 1) ⟨by omega, fun j hj => ?_⟩ (by omega))
   ·exact ⟨rfl, rfl, rfl, trivial⟩
   ·by_cases e : j = i
    ·subst e
     exact Decidable.not_not.1 fun h => h1 (Cell.ne_iff'.1 h)
    ·exact hok j (by omega)
 ·refine tri_exit ?_
  refine tri_then_exit (tri_then_exit ?_)
  refine tri_inBlock_hit rfl ?_
  refine tT (tS (tR (tA rfl rfl (tN (tT (tri_ret ?_))))))
  refine tri_end A Suf.h rfl (.cons (rv_tmp rfl) .nil) ⟨congrArg Value.bool ?_, rfl, rfl⟩
  refine (decide_eq_true (List.ext_getElem hlen fun j h1 h2 => ?_)).symm
  have := hok j (by omega)
  simpa [h1, h2] using this
end Go.GL


namespace Go.GL
open Go.Proofs
attribute [local irreducible] wpList Code.wp Exit.then Exit.inBlock Ends Tri TriH OpV OpG FnC epf wpAnyH
variable {A : List Asrt} {I : List Chunk}
set_option maxHeartbeats 1000000 in
set_option maxRecDepth 100000 in
theorem ref01_putA {l : List Cell} {a : Option Addr} {cap : Nat} {c : Cell} (hs : SlAt I a l) (hn : l.length ≤ 1000000000) :
  FnC Try.prog 24 [.slice a l.length cap, cellV c].toArray A I (fun v A' I' => ∃ a' cap', v = .slice a' (R1.put l c).length cap' ∧ StA I' a' cap' (R1.put l c) ∧ A = A' ∧ I ⊆ I') := by
 refine fn_enter2 Try.func24 rfl Try.ntmps24 rfl fun w0 => ?_
 refine tS (tR ?_)
 refine tri_g (opg_box_agg rfl) rfl ?_
 rintro _ _ _ ⟨b, rfl, rfl, rfl⟩
 refine tA rfl rfl (tN (tT (tS (tR (tA rfl rfl (tN (tT ?_)))))))
 refine tS (tR (tA rfl rfl (tN (tT (tS (tS (tR ?_)))))))
 refine tA rfl rfl (tN (tT (tri_block ?_)))
 refine tri_nilRow (E := 48) (sz := 2) ?_
 refine tri_sub (F' := [(0, .slice a l.length cap), (3, pt b 0), (5, .slice none 0 0), (6, .bool false), (7, .int .i64 (0 : Nat))]) ⟨rfl, rfl, rfl, rfl, rfl, trivial⟩ ?_
 refine loop_ind (G := Nat × List Cell × Bool × Option Addr × Nat) (fun g => l.length - g.1) (fun g => g.1 ≤ l.length ∧ g.2.1.length ≤ 2 * g.1 ∧ R1.put l c = g.2.1 ++ R1.putF c g.2.2.1 (l.drop g.1)) (fun g => [(0, .slice a l.length cap), (3, pt b 0), (5, .slice g.2.2.2.1 g.2.1.length g.2.2.2.2), (6, .bool g.2.2.1), (7, .int .i64 (g.1 : Nat))]) (fun g => Row g.2.2.2.1 g.2.2.2.2 g.2.1.length 48 2 (encs g.2.1) :: Box b [.int .i64 c.x, .int .i64 c.y] 48 :: A) (fun _ => I) ?_ (0, [], false, none, 0) ⟨by omega, by simp, rfl⟩
 rintro ⟨i, acc, dn, a1, cap1⟩ ⟨hi, hal, hp⟩ K hK
 simp only at hi hal hp hK ⊢
 skip
 refine tS (tS (tR (tM rfl rfl (tM rfl rfl ?_))))
 refine tri_v (opv_len rfl) rfl ?_
 refine yC rfl rfl (tN (tT ?_))
 refine tri_cond_dec rfl (fun h => ?_) (fun h => ?_)
 ·refine tri_skip (tT (tS (tri_block (tS (tS ?_)))))
  refine tri_draw [0, 1, 2, 3, 4, 5, 6, 7, 8, 9, 10, 11, 12, 13, 14, 15, 16, 17] rfl [] rfl mixed ?_
  refine yM rfl rfl ?_
  refine th_take rfl rfl (by kernel_rfl)  (opv_not rfl) ?_
  refine yM rfl rfl ?_
  have hlt : i < l.length := by omega
  have hd : l.drop i = l.getD i default :: l.drop (i + 1) := by rw [List.drop_eq_getElem_cons hlt]; simp [hlt]
  rw [hd] at hp
  refine th_bool 16 rfl (fun hd1 => ?_) (fun hd1 => ?_)
  ·have dn0 : dn = false := by simpa using hd1
   subst dn0
   refine th_take_g rfl rfl rfl rfl rfl (by kernel_rfl)  (opv_move rfl) ?_
   refine th_take_g rfl rfl rfl rfl rfl (by kernel_rfl)  (opv_move rfl) ?_
   refine th_take_g rfl rfl rfl rfl rfl (by kernel_rfl)  (opv_indexAddrSN rfl rfl (by omega) (by assumption) rfl) ?_
   refine th_take_g rfl rfl rfl rfl rfl (by kernel_rfl)  (opv_loadEA rfl (by assumption) rfl (by omega) rfl rfl) ?_
   refine th_take_g rfl rfl rfl rfl rfl (by kernel_rfl)  (opv_loadA rfl rfl rfl) ?_
   refine th_take_g rfl rfl rfl rfl rfl (by kernel_rfl)  (opv_eqlI rfl rfl rfl rfl rfl rfl) ?_
   refine th_take_g rfl rfl rfl rfl rfl (by kernel_rfl)  (opv_move rfl) ?_
   refine th_split rfl rfl rfl (fun h1 => ?_) (fun h1 => ?_)
   ·have e1 : l.getD i default = c := Cell.ext_iff'.2 h1
    refine yS rfl rfl rfl (yS rfl rfl rfl (yS rfl rfl rfl (yS rfl rfl rfl (yS rfl rfl rfl ?_))))
    refine th_one (by kernel_rfl) (step_skip rfl rfl rfl rfl rfl ?_)
    refine th_take_g rfl rfl rfl rfl rfl (by kernel_rfl)  (opv_pick_t rfl rfl) ?_
    refine th_take rfl rfl (by kernel_rfl)  (opv_pick_t rfl rfl) ?_
    refine yD (tT ?_)
    refine tri_cond_true rfl ?_
    refine tS (tR (tM rfl rfl ?_))
    refine yB rfl rfl ?_
    refine tri_g (opg_buildSlice rfl rfl rfl rfl) rfl ?_
    rintro _ _ _ ⟨b, rfl, rfl, rfl⟩
    refine tri_g (opg_appendB rfl rfl rfl rfl (by omega) rfl) rfl ?_
    rintro _ _ _ ⟨a2, cap2, rfl, rfl, rfl⟩
    refine tA rfl rfl (tN (tT (tR (tA rfl rfl (tN (tT (tS ?_)))))))
    refine tri_draw [0, 1, 2, 3, 4, 5] rfl [] rfl mixed ?_
    refine yM rfl rfl (yM rfl rfl ?_)
    refine th_take rfl rfl (by kernel_rfl)  (opv_indexAddrSN rfl rfl (by omega) (by assumption) rfl) ?_
    refine th_take rfl rfl (by kernel_rfl)  (opv_loadEA rfl (by assumption) rfl (by omega) rfl rfl) ?_
    refine th_take rfl rfl (by kernel_rfl)  (opv_loadA rfl rfl rfl) ?_
    refine th_take rfl rfl (by kernel_rfl)  (opv_neqI rfl rfl rfl rfl rfl rfl) ?_
    refine yD (tT ?_)
    refine tri_cond_not rfl (fun h2 => h2 h1) ?_
    refine tri_skip (tri_inBlock (tT (tR (tM rfl rfl ?_))))
    refine yU rfl rfl ?_
    refine tA rfl rfl (tN (tT ?_))
    refine tri_drop ?_
    refine tri_rowEq (len' := (acc ++ [c]).length) (cells' := encs (acc ++ [c])) (by simp) (by rw [encs_append]; rfl) ?_
    refine tri_sub ?_ (hK (i + 1, acc ++ [c], true, a2, cap2) ⟨by simp only; omega, by simp only [List.length_append, List.length_singleton]; omega, ?_⟩ (by simp only; omega))
    ·exact ⟨rfl, rfl, by rw [List.length_append]; rfl, rfl, rfl, trivial⟩
    ·simp only [R1.putF, e1] at hp
     simpa using hp
   ·have e1 : l.getD i default ≠ c := fun h => h1 (Cell.ext_iff'.1 h)
    refine th_take_g rfl rfl rfl rfl rfl (by kernel_rfl)  (opv_loadA rfl rfl rfl) ?_
    refine th_take_g rfl rfl rfl rfl rfl (by kernel_rfl)  (opv_move rfl) ?_
    refine th_take_g rfl rfl rfl rfl rfl (by kernel_rfl)  (opv_move rfl) ?_
    refine th_take_g rfl rfl rfl rfl rfl (by kernel_rfl)  (opv_indexAddrSN rfl rfl (by omega) (by assumption) rfl) ?_
    refine th_take_g rfl rfl rfl rfl rfl (by kernel_rfl)  (opv_loadEA rfl (by assumption) rfl (by omega) rfl rfl) ?_
    refine th_one (by kernel_rfl) (step_mg rfl rfl rfl rfl rfl (opg_call (xs := [_, _]) rfl (ref01_less (a := c) (b := R1.g l i))) ?_)
    rintro _ _ _ ⟨rfl, rfl, rfl⟩
    refine ⟨Suf.h, (fun _ h => h), ?_⟩
    refine th_take_g rfl rfl rfl rfl rfl (by kernel_rfl)  (opv_pick_f rfl rfl) ?_
    refine th_take rfl rfl (by kernel_rfl)  (opv_pick_t rfl rfl) ?_
    refine yD (tT ?_)
    refine tri_cond_dec rfl (fun h2 => ?_) (fun h2 => ?_)
    ·have h2' : R1.less c (l.getD i default) := h2
     refine tS (tR (tM rfl rfl ?_))
     refine yB rfl rfl ?_
     refine tri_g (opg_buildSlice rfl rfl rfl rfl) rfl ?_
     rintro _ _ _ ⟨b, rfl, rfl, rfl⟩
     refine tri_g (opg_appendB rfl rfl rfl rfl (by omega) rfl) rfl ?_
     rintro _ _ _ ⟨a2, cap2, rfl, rfl, rfl⟩
     refine tA rfl rfl (tN (tT (tR (tA rfl rfl (tN (tT (tS ?_)))))))
     refine tri_draw [0, 1, 2, 3, 4, 5] rfl [] rfl mixed ?_
     refine yM rfl rfl (yM rfl rfl ?_)
     refine th_take rfl rfl (by kernel_rfl)  (opv_indexAddrSN rfl rfl (by omega) (by assumption) rfl) ?_
     refine th_take rfl rfl (by kernel_rfl)  (opv_loadEA rfl (by assumption) rfl (by omega) rfl rfl) ?_
     refine th_take rfl rfl (by kernel_rfl)  (opv_loadA rfl rfl rfl) ?_
     refine th_take rfl rfl (by kernel_rfl)  (opv_neqI rfl rfl rfl rfl rfl rfl) ?_
     refine yD (tT ?_)
     refine tri_cond_is rfl (h1) ?_
     refine tR (tM rfl rfl (tM rfl rfl (tM rfl rfl ?_)))
     refine tri_v (opv_indexAddrSN rfl rfl (by omega) (by assumption) rfl) rfl ?_
     refine tri_v (opv_loadEA rfl (by assumption) rfl (by omega) rfl rfl) rfl ?_
     refine tri_g (opg_buildSlice rfl rfl rfl rfl) rfl ?_
     rintro _ _ _ ⟨b, rfl, rfl, rfl⟩
     refine tri_g (opg_appendB rfl rfl rfl rfl (by omega) rfl) rfl ?_
     rintro _ _ _ ⟨a3, cap3, rfl, rfl, rfl⟩
     refine tA rfl rfl (tN (tri_inBlock (tT (tR (tM rfl rfl ?_)))))
     refine yU rfl rfl ?_
     refine tA rfl rfl (tN (tT ?_))
     refine tri_drop ?_
     refine tri_drop ?_
     refine tri_rowEq (len' := (acc ++ [c, l.getD i default]).length) (cells' := encs (acc ++ [c, l.getD i default])) (by simp) (by rw [encs_append, List.append_assoc]; rfl) ?_
     refine tri_sub ?_ (hK (i + 1, acc ++ [c, l.getD i default], true, a3, cap3) ⟨by simp only; omega, by simp only [List.length_append, List.length_cons, List.length_nil]; omega, ?_⟩ (by simp only; omega))
     ·exact ⟨rfl, rfl, by rw [List.length_append]; rfl, rfl, rfl, trivial⟩
     ·simp only [R1.putF, e1, h2', or_true, and_self, if_true, ne_eq, not_false_eq_true] at hp
      simpa using hp
    ·have h2' : ¬ R1.less c (l.getD i default) := h2
     refine tri_skip (tT (tS ?_))
     refine tri_draw [0, 1, 2, 3, 4, 5] rfl [] rfl mixed ?_
     refine yM rfl rfl (yM rfl rfl ?_)
     refine th_take rfl rfl (by kernel_rfl)  (opv_indexAddrSN rfl rfl (by omega) (by assumption) rfl) ?_
     refine th_take rfl rfl (by kernel_rfl)  (opv_loadEA rfl (by assumption) rfl (by omega) rfl rfl) ?_
     refine th_take rfl rfl (by kernel_rfl)  (opv_loadA rfl rfl rfl) ?_
     refine th_take rfl rfl (by kernel_rfl)  (opv_neqI rfl rfl rfl rfl rfl rfl) ?_
     refine yD (tT ?_)
     refine tri_cond_is rfl (h1) ?_
     refine tR (tM rfl rfl (tM rfl rfl (tM rfl rfl ?_)))
     refine tri_v (opv_indexAddrSN rfl rfl (by omega) (by assumption) rfl) rfl ?_
     refine tri_v (opv_loadEA rfl (by assumption) rfl (by omega) rfl rfl) rfl ?_
     refine tri_g (opg_buildSlice rfl rfl rfl rfl) rfl ?_
     rintro _ _ _ ⟨b, rfl, rfl, rfl⟩
     refine tri_g (opg_appendB rfl rfl rfl rfl (by omega) rfl) rfl ?_
     rintro _ _ _ ⟨a3, cap3, rfl, rfl, rfl⟩
     refine tA rfl rfl (tN (tri_inBlock (tT (tR (tM rfl rfl ?_)))))
     refine yU rfl rfl ?_
     refine tA rfl rfl (tN (tT ?_))
     refine tri_drop ?_
     refine tri_rowEq (len' := (acc ++ [l.getD i default]).length) (cells' := encs (acc ++ [l.getD i default])) (by simp) (by rw [encs_append]; rfl) ?_
     refine tri_sub ?_ (hK (i + 1, acc ++ [l.getD i default], false, a3, cap3) ⟨by simp only; omega, by simp only [List.length_append, List.length_cons, List.length_nil]; omega, ?_⟩ (by simp only; omega))
     ·exact ⟨rfl, rfl, by rw [List.length_append]; rfl, rfl, rfl, trivial⟩
     ·simp only [R1.putF, e1, h2', or_false, and_false, if_false, ne_eq, not_false_eq_true, if_true] at hp
      simpa using hp
  ·have dn1 : dn = true := by simpa using hd1
   subst dn1
   refine yS rfl rfl rfl (yS rfl rfl rfl (yS rfl rfl rfl (yS rfl rfl rfl (yS rfl rfl rfl (yS rfl rfl rfl (yS rfl rfl rfl ?_))))))
   refine th_skip_u rfl rfl rfl rfl (by kernel_rfl)  ?_
   refine th_skip_u rfl rfl rfl rfl (by kernel_rfl)  ?_
   refine th_skip_u rfl rfl rfl rfl (by kernel_rfl)  ?_
   refine th_skip_u rfl rfl rfl rfl (by kernel_rfl)  ?_
   refine th_skip_u rfl rfl rfl rfl (by kernel_rfl)  ?_
   refine th_one (by kernel_rfl) (step_skip_u rfl rfl rfl rfl ?_)
   refine yS rfl rfl rfl ?_
   refine th_take rfl rfl (by kernel_rfl)  (opv_pick_f rfl rfl) ?_
   refine yD (tT ?_)
   refine tri_cond_false rfl ?_
   refine tri_skip (tT (tS ?_))
   refine tri_draw [0, 1, 2, 3, 4, 5] rfl [] rfl mixed ?_
   refine yM rfl rfl (yM rfl rfl ?_)
   refine th_take rfl rfl (by kernel_rfl)  (opv_indexAddrSN rfl rfl (by omega) (by assumption) rfl) ?_
   refine th_take rfl rfl (by kernel_rfl)  (opv_loadEA rfl (by assumption) rfl (by omega) rfl rfl) ?_
   refine th_take rfl rfl (by kernel_rfl)  (opv_loadA rfl rfl rfl) ?_
   refine th_take rfl rfl (by kernel_rfl)  (opv_neqI rfl rfl rfl rfl rfl rfl) ?_
   refine yD (tT ?_)
   refine tri_cond_dec rfl (fun h2 => ?_) (fun h2 => ?_)
   ·have e1 : l.getD i default ≠ c := Cell.ne_iff'.2 h2
    refine tR (tM rfl rfl (tM rfl rfl (tM rfl rfl ?_)))
    refine tri_v (opv_indexAddrSN rfl rfl (by omega) (by assumption) rfl) rfl ?_
    refine tri_v (opv_loadEA rfl (by assumption) rfl (by omega) rfl rfl) rfl ?_
    refine tri_g (opg_buildSlice rfl rfl rfl rfl) rfl ?_
    rintro _ _ _ ⟨b, rfl, rfl, rfl⟩
    refine tri_g (opg_appendB rfl rfl rfl rfl (by omega) rfl) rfl ?_
    rintro _ _ _ ⟨a3, cap3, rfl, rfl, rfl⟩
    refine tA rfl rfl (tN (tri_inBlock (tT (tR (tM rfl rfl ?_)))))
    refine yU rfl rfl ?_
    refine tA rfl rfl (tN (tT ?_))
    refine tri_drop ?_
    refine tri_rowEq (len' := (acc ++ [l.getD i default]).length) (cells' := encs (acc ++ [l.getD i default])) (by simp) (by rw [encs_append]; rfl) ?_
    refine tri_sub ?_ (hK (i + 1, acc ++ [l.getD i default], true, a3, cap3) ⟨by simp only; omega, by simp only [List.length_append, List.length_cons, List.length_nil]; omega, ?_⟩ (by simp only; omega))
    ·exact ⟨rfl, rfl, by rw [List.length_append]; rfl, rfl, rfl, trivial⟩
    ·simp only [R1.putF, e1, Bool.true_eq_false, false_and, if_false, ne_eq, not_false_eq_true, if_true] at hp
     simpa using hp
   ·have e1 : l.getD i default = c := Decidable.not_not.1 fun h => h2 (Cell.ne_iff'.1 h)
    refine tri_skip (tri_inBlock (tT (tR (tM rfl rfl ?_))))
    refine yU rfl rfl ?_
    refine tA rfl rfl (tN (tT ?_))
    refine tri_sub ?_ (hK (i + 1, acc, true, a1, cap1) ⟨by simp only; omega, by simp only; omega, ?_⟩ (by simp only; omega))
    ·exact ⟨rfl, rfl, rfl, rfl, rfl, trivial⟩
    ·simp only [R1.putF, e1, Bool.true_eq_false, false_and, if_false, ne_eq, not_true_eq_false] at hp
     simpa using hp
 ·refine tri_exit ?_
  refine tri_then_exit (tri_then_exit ?_)
  refine tri_inBlock_hit rfl ?_
  refine tT (tS (tS (tR (tM rfl rfl ?_))))
  refine tri_v (opv_not rfl) rfl ?_
  refine tN (tT ?_)
  have hd : l.drop i = [] := List.drop_of_length_le (by omega)
  rw [hd] at hp
  refine tri_cond rfl (fun hd1 => ?_) (fun hd1 => ?_)
  ·have dn0 : dn = false := by simpa using hd1
   subst dn0
   refine tR (tM rfl rfl ?_)
   refine yB rfl rfl ?_
   refine tri_g (opg_buildSlice rfl rfl rfl rfl) rfl ?_
   rintro _ _ _ ⟨b, rfl, rfl, rfl⟩
   refine tri_g (opg_appendB rfl rfl rfl rfl (by omega) rfl) rfl ?_
   rintro _ _ _ ⟨a3, cap3, rfl, rfl, rfl⟩
   refine tA rfl rfl (tN (tT (tS (tR (tM rfl rfl (tA rfl rfl (tN ?_)))))))
   refine tT (tri_ret ?_)
   have hp' : R1.put l c = acc ++ [c] := by simpa [R1.putF] using hp
   refine tri_drop ?_
   refine tri_rowEq (len' := (R1.put l c).length) (cells' := encs (R1.put l c)) (by rw [hp']; simp) (by rw [hp', encs_append]; rfl) ?_
   refine tri_freezeRowC rfl fun I' hI hs' => ?_
   refine tri_end A Suf.h rfl (.cons (rv_tmp rfl) .nil) ⟨a3, cap3, ?_, hs', rfl, hI⟩
   rw [hp', List.length_append]; rfl
  ·have dn1 : dn = true := by simpa using hd1
   subst dn1
   refine tri_skip (tT (tS (tR (tM rfl rfl (tA rfl rfl (tN (tT ?_)))))))
   refine tri_ret ?_
   have hp' : R1.put l c = acc := by simpa [R1.putF] using hp
   refine tri_rowEq (len' := (R1.put l c).length) (cells' := encs (R1.put l c)) (by rw [hp']) (by rw [hp']) ?_
   refine tri_freezeRowC rfl fun I' hI hs' => ?_
   refine tri_end A Suf.h rfl (.cons (rv_tmp rfl) .nil) ⟨a1, cap1, ?_, hs', rfl, hI⟩
   rw [hp']; rfl
theorem ref01_put {l : List Cell} {a : Option Addr} {cap : Nat} {c : Cell} (hs : SlAt I a l) (hn : l.length ≤ 1000000000) :
  FnC Try.prog 24 [.slice a l.length cap, cellV c].toArray A I (fun v A' I' => ∃ a' cap', v = .slice a' (R1.put l c).length cap' ∧ SlAt I' a' (R1.put l c) ∧ A = A' ∧ I ⊆ I') :=
 (ref01_putA hs hn).mono fun v A' I' ⟨a', c', h1, h2, h3, h4⟩ => ⟨a', c', h1, h2.sl, h3, h4⟩
end Go.GL


namespace Go.GL
open Go.Proofs
attribute [local irreducible] wpList Code.wp Exit.then Exit.inBlock Ends Tri TriH OpV OpG FnC epf wpAnyH
variable {A : List Asrt} {I : List Chunk}
theorem R1.puts_snoc (l : List Cell) (c : Cell) : R1.puts (l ++ [c]) = R1.put (R1.puts l) c := by simp [R1.puts]
theorem R1.puts_len (l : List Cell) : (R1.puts l).length ≤ l.length := by
 have key : ∀ (l acc : List Cell), (l.foldl R1.put acc).length ≤ acc.length + l.length := by
  intro l
  induction l with
  | nil => intro acc; simp
  | cons c l ih =>
   intro acc
   have h1 := ih (R1.put acc c)
   have h2 := R1.put_len acc c
   simp only [List.foldl_cons, List.length_cons]
   omega
 have := key l []
 simpa [R1.puts] using this
set_option maxRecDepth 100000 in
theorem ref01_of {l : List Cell} {a : Option Addr} {cap : Nat} (hs : SlAt I a l) (hn : l.length ≤ 1000000000) :
  FnC Try.prog 22 [.slice a l.length cap].toArray A I (fun v A' I' => ∃ a' cap', v = .tuple [.slice a' (R1.of l).1.length cap', .int .i64 (R1.of l).2].toArray ∧ SlAt I' a' (R1.of l).1 ∧ A = A' ∧ I ⊆ I') := by
 refine fn_enter1 Try.func22 rfl Try.ntmps22 rfl fun w0 => ?_
 refine tS (tR (tA rfl rfl (tA rfl rfl (tN (tT (tS (tS ?_)))))))
 refine tR (tA rfl rfl (tN (tT (tri_block ?_))))
 refine tri_sub (F' := [(0, .slice a l.length cap), (4, .int .i64 (0 : Nat))]) ⟨rfl, rfl, trivial⟩ ?_
 refine loop_ind (G := Nat) (fun i => l.length - i) (fun i => i ≤ l.length ∧ ∀ j, j < i → R1.inB (R1.g l j)) (fun i => [(0, .slice a l.length cap), (4, .int .i64 (i : Nat))]) (fun _ => _) (fun _ => _) ?_ 0 ⟨by omega, fun j h => absurd h (by omega)⟩
 rintro i ⟨hi, hok⟩ K hK
 skip
 refine tS (tS (tR (tM rfl rfl (tM rfl rfl ?_))))
 refine tri_v (opv_len rfl) rfl ?_
 refine yC rfl rfl (tN (tT ?_))
 refine tri_cond_dec rfl (fun h => ?_) (fun h => ?_)
 ·refine tri_skip (tT (tS (tri_block (tS (tR (tM rfl rfl (tM rfl rfl ?_)))))))
  refine tri_v (opv_indexAddrSN rfl rfl (by omega) (by assumption) rfl) rfl ?_
  refine tri_v (opv_loadEA rfl (by assumption) rfl (by omega) rfl rfl) rfl ?_
  refine tri_g (opg_call (xs := [_]) rfl (ref01_in (c := R1.g l i))) rfl ?_
  rintro _ _ _ ⟨rfl, rfl, rfl⟩
  refine tri_v (opv_notD rfl) rfl ?_
  refine tN (tT ?_)
  refine tri_cond_dec rfl (fun h1 => ?_) (fun h1 => ?_)
  ·refine tS (tR (tA rfl rfl (tA rfl rfl (tN (tT (tri_ret (tri_inBlock_ret ?_)))))))
   refine tri_then_ret (tri_then_ret (tri_inBlock_ret (tri_then_ret ?_)))
   refine tri_end A Suf.h rfl (.cons (rv_tmp rfl) (.cons (rv_tmp rfl) .nil)) ?_
   rw [show R1.of l = ([], 2) from if_neg fun h2 => h1 (h2 i (by omega))]
   exact ⟨none, 0, rfl, SlAt.nil, rfl, fun _ h => h⟩
  ·refine tri_skip (tri_inBlock (tT (tR (tM rfl rfl ?_))))
   refine yU rfl rfl ?_
   refine tA rfl rfl (tN (tT ?_))
   refine tri_sub ?_ (hK (i + 1) ⟨by omega, fun j hj => ?_⟩ (by omega))
   ·exact ⟨rfl, rfl, trivial⟩
   ·by_cases e : j = i
    ·subst e; exact Decidable.not_not.1 h1
    ·exact hok j (by omega)
 ·refine tri_exit ?_
  refine tri_then_exit (tri_then_exit ?_)
  refine tri_inBlock_hit rfl ?_
  refine tT (tS (tR (tA rfl rfl (tN (tT (tS (tS ?_)))))))
  refine tR (tA rfl rfl (tN (tT (tri_block ?_))))
  have hall : ∀ i, i < l.length → R1.inB (R1.g l i) := fun j hj => hok j (by omega)
  refine tri_sub (F' := [(0, .slice a l.length cap), (5, .slice none 0 0), (6, .int .i64 (0 : Nat))]) ⟨rfl, rfl, rfl, trivial⟩ ?_
  refine loop_ind (G := Nat × Option Addr × Nat × List Chunk) (fun g => l.length - g.1) (fun g => g.1 ≤ l.length ∧ SlAt g.2.2.2 g.2.1 (R1.puts (l.take g.1)) ∧ I ⊆ g.2.2.2) (fun g => [(0, .slice a l.length cap), (5, .slice g.2.1 (R1.puts (l.take g.1)).length g.2.2.1), (6, .int .i64 (g.1 : Nat))]) (fun _ => A) (fun g => g.2.2.2) ?_ (0, none, 0, I) ⟨by omega, SlAt.nil, fun _ h => h⟩
  rintro ⟨i, a1, cap1, I1⟩ ⟨hi, hs1, hI1⟩ K hK
  simp only at hi hs1 hI1 hK ⊢
  have hsm : SlAt I1 a l := hs.mono hI1
  skip
  refine tS (tS (tR (tM rfl rfl (tM rfl rfl ?_))))
  refine tri_v (opv_len rfl) rfl ?_
  refine yC rfl rfl (tN (tT ?_))
  refine tri_cond_dec rfl (fun h2 => ?_) (fun h2 => ?_)
  ·refine tri_skip (tT (tS (tri_block (tR (tM rfl rfl (tM rfl rfl (tM rfl rfl ?_)))))))
   refine tri_v (opv_indexAddrSN rfl rfl (by omega) (by assumption) rfl) rfl ?_
   refine tri_v (opv_loadEA rfl (by assumption) rfl (by omega) rfl rfl) rfl ?_
   have hlt : i < l.length := by omega
   have hl1 := R1.puts_len (l.take i)
   rw [List.length_take] at hl1
   refine tri_g (opg_call (xs := [_, _]) rfl (ref01_put (c := l.getD i default) hs1 (by omega))) rfl ?_
   rintro _ _ I2 ⟨a2, cap2, rfl, hs2, rfl, hI2⟩
   refine tA rfl rfl (tN (tri_inBlock (tT (tR (tM rfl rfl ?_)))))
   refine yU rfl rfl ?_
   refine tA rfl rfl (tN (tT ?_))
   have e : R1.puts (l.take (i + 1)) = R1.put (R1.puts (l.take i)) (l.getD i default) := by
    rw [← R1.puts_snoc, List.take_succ_eq_append_getElem hlt]
    simp [hlt]
   refine tri_sub ?_ (hK (i + 1, a2, cap2, I2) ⟨by simp only; omega, by simp only [e]; exact hs2, fun _ h => hI2 (hI1 h)⟩ (by simp only; omega))
   simp only [e]
   exact ⟨rfl, rfl, rfl, trivial⟩
  ·refine tri_exit ?_
   refine tri_then_exit (tri_then_exit ?_)
   refine tri_inBlock_hit rfl ?_
   refine tT (tS (tS (tR (tM rfl rfl ?_))))
   refine tri_v (opv_len rfl) rfl ?_
   refine tri_v (opv_gtr rfl rfl) rfl ?_
   refine tN (tT ?_)
   have e : l.take i = l := List.take_of_length_le (by omega)
   rw [e] at hs1
   have hl1 := R1.puts_len l
   have e2 : l.take i = l := e
   have ho : R1.of l = if 2000 < (R1.puts l).length then ([], 3) else (R1.puts l, 0) := if_pos hall
   refine tri_cond_dec rfl (fun h3 => ?_) (fun h3 => ?_)
   ·rw [e] at h3
    refine tS (tR (tA rfl rfl (tA rfl rfl (tN (tT (tri_ret (tri_then_ret ?_)))))))
    refine tri_end A Suf.h rfl (.cons (rv_tmp rfl) (.cons (rv_tmp rfl) .nil)) ?_
    rw [ho, if_pos (by omega)]
    exact ⟨none, 0, rfl, SlAt.nil, rfl, hI1⟩
   ·rw [e] at h3
    refine tri_skip (tT (tS (tR (tM rfl rfl (tA rfl rfl (tA rfl rfl (tN ?_)))))))
    refine tT (tri_ret ?_)
    refine tri_end A Suf.h rfl (.cons (rv_tmp rfl) (.cons (rv_tmp rfl) .nil)) ?_
    rw [ho, if_neg (by omega), e]
    exact ⟨a1, cap1, rfl, hs1, rfl, hI1⟩
end Go.GL


namespace Go.GL
/-! ### Sets of cells: sorted lists -/
namespace R1
theorem less_irrefl (a : Cell) : ¬ less a a := by unfold less; omega
theorem less_trans {a b c : Cell} (h : less a b) (k : less b c) : less a c := by unfold less at *; omega
theorem less_asymm {a b : Cell} (h : less a b) : ¬ less b a := by unfold less at *; omega
theorem less_total {a b : Cell} (h : a ≠ b) : less a b ∨ less b a := by
 unfold less
 rcases Int.lt_trichotomy a.y b.y with h1 | h1 | h1
 ·exact .inl (.inl h1)
 ·rcases Int.lt_trichotomy a.x b.x with h2 | h2 | h2
  ·exact .inl (.inr ⟨h1, h2⟩)
  ·exact absurd (by cases a; cases b; simp at h1 h2; simp [h1, h2]) h
  ·exact .inr (.inr ⟨h1.symm, h2⟩)
 ·exact .inr (.inl h1)
theorem less_ne {a b : Cell} (h : less a b) : a ≠ b := fun e => less_irrefl a (by rw [← e] at h; exact h)
def Srt (l : List Cell) : Prop := l.Pairwise less
theorem putF_true (c : Cell) : ∀ l : List Cell, putF c true l = l.filter fun a => decide (a ≠ c)
 | [] => rfl
 | a :: l => by
  simp only [putF, Bool.true_eq_false, false_and, if_false]
  rw [putF_true c l]
  by_cases h : a = c
  ·rw [if_neg (by simpa using h), List.filter_cons_of_neg (by simpa using h)]
  ·rw [if_pos h, List.filter_cons_of_pos (by simpa using h)]
theorem filter_gt {c : Cell} {l : List Cell} (h : ∀ d ∈ l, less c d) : (l.filter fun a => decide (a ≠ c)) = l :=
 List.filter_eq_self.2 fun d hd => by simpa using (less_ne (h d hd)).symm
theorem putF_srt (c : Cell) : ∀ (l : List Cell), Srt l → Srt (putF c false l) ∧ ∀ d, d ∈ putF c false l ↔ d = c ∨ d ∈ l
 | [], _ => by
  simp only [putF, Bool.false_eq_true, if_false]
  exact ⟨List.pairwise_singleton _ _, fun d => by simp⟩
 | a :: l, h => by
  obtain ⟨h1, h2⟩ := List.pairwise_cons.1 h
  simp only [putF]
  by_cases hc : a = c ∨ less c a
  ·rw [if_pos ⟨trivial, hc⟩]
   have hgt : ∀ d ∈ l, less c d := fun d hd => by
    rcases hc with rfl | hc
    ·exact h1 d hd
    ·exact less_trans hc (h1 d hd)
   rw [putF_true, filter_gt hgt]
   by_cases he : a = c
   ·rw [if_neg (by simpa using he)]
    subst he
    exact ⟨h, fun d => by simp⟩
   ·rw [if_pos he]
    have hca := hc.resolve_left he
    refine ⟨List.pairwise_cons.2 ⟨fun d hd => ?_, h⟩, fun d => by simp⟩
    rcases List.mem_cons.1 hd with rfl | hd
    ·exact hca
    ·exact hgt d hd
  ·rw [if_neg (by simpa using hc)]
   have hne : a ≠ c := fun e => hc (.inl e)
   have hac : less a c := (less_total hne).resolve_right fun k => hc (.inr k)
   rw [if_pos hne]
   obtain ⟨i1, i2⟩ := putF_srt c l h2
   refine ⟨List.pairwise_cons.2 ⟨fun d hd => ?_, i1⟩, fun d => ?_⟩
   ·rcases (i2 d).1 hd with rfl | hd
    ·exact hac
    ·exact h1 d hd
   ·simp only [List.mem_cons, i2]
    constructor
    ·rintro (h | h | h)
     ·exact .inr (.inl h)
     ·exact .inl h
     ·exact .inr (.inr h)
    ·rintro (h | h | h)
     ·exact .inr (.inl h)
     ·exact .inl h
     ·exact .inr (.inr h)
theorem put_srt {l : List Cell} (h : Srt l) (c : Cell) : Srt (put l c) := (putF_srt c l h).1
theorem mem_put {l : List Cell} (h : Srt l) {c d : Cell} : d ∈ put l c ↔ d = c ∨ d ∈ l := (putF_srt c l h).2 d
theorem foldl_put : ∀ (l acc : List Cell), Srt acc → Srt (l.foldl put acc) ∧ ∀ d, d ∈ l.foldl put acc ↔ d ∈ l ∨ d ∈ acc
 | [], acc, h => ⟨h, fun d => by simp⟩
 | c :: l, acc, h => by
  obtain ⟨i1, i2⟩ := foldl_put l (put acc c) (put_srt h c)
  refine ⟨i1, fun d => ?_⟩
  rw [List.foldl_cons, i2, mem_put h, List.mem_cons]
  constructor
  ·rintro (h | h | h)
   ·exact .inl (.inr h)
   ·exact .inl (.inl h)
   ·exact .inr h
  ·rintro ((h | h) | h)
   ·exact .inr (.inl h)
   ·exact .inl h
   ·exact .inr (.inr h)
theorem puts_srt (l : List Cell) : Srt (puts l) := (foldl_put l [] List.Pairwise.nil).1
theorem mem_puts {l : List Cell} {d : Cell} : d ∈ puts l ↔ d ∈ l := by
 rw [show puts l = l.foldl put [] from rfl, (foldl_put l [] List.Pairwise.nil).2]; simp
theorem srt_ext : ∀ {l m : List Cell}, Srt l → Srt m → (∀ d, d ∈ l ↔ d ∈ m) → l = m
 | [], [], _, _, _ => rfl
 | [], b :: m, _, _, h => absurd ((h b).2 List.mem_cons_self) (by simp)
 | a :: l, [], _, _, h => absurd ((h a).1 List.mem_cons_self) (by simp)
 | a :: l, b :: m, h1, h2, h => by
  obtain ⟨p1, p2⟩ := List.pairwise_cons.1 h1
  obtain ⟨q1, q2⟩ := List.pairwise_cons.1 h2
  have e : a = b := by
   rcases List.mem_cons.1 ((h a).1 List.mem_cons_self) with e | ha
   ·exact e
   ·rcases List.mem_cons.1 ((h b).2 List.mem_cons_self) with e | hb
    ·exact e.symm
    ·exact absurd (q1 a ha) (less_asymm (p1 b hb))
  subst e
  congr 1
  refine srt_ext p2 q2 fun d => ?_
  constructor
  ·intro hd
   rcases List.mem_cons.1 ((h d).1 (List.mem_cons_of_mem _ hd)) with rfl | k
   ·exact absurd (p1 d hd) (less_irrefl d)
   ·exact k
  ·intro hd
   rcases List.mem_cons.1 ((h d).2 (List.mem_cons_of_mem _ hd)) with rfl | k
   ·exact absurd (q1 d hd) (less_irrefl d)
   ·exact k
theorem srt_nodup {l : List Cell} (h : Srt l) : l.Nodup := h.imp fun k => less_ne k
theorem right_of {l : List Cell} (h : Srt l) (hb : ∀ c ∈ l, inB c) (hl : l.length ≤ 2000) : right l := by
 refine ⟨fun i hi => ⟨?_, fun h0 => ?_⟩, hl⟩
 ·have e : g l i = l[i] := by simp [g, hi]
  rw [e]; exact hb _ (List.getElem_mem hi)
 ·have e : g l i = l[i] := by simp [g, hi]
  have hi' : i - 1 < l.length := by omega
  have e' : g l (i - 1) = l[i - 1] := by simp [g, hi']
  rw [e, e']
  exact List.pairwise_iff_getElem.1 h (i - 1) i hi' hi (by omega)
theorem right_inB {l : List Cell} (h : right l) : ∀ c ∈ l, inB c := fun c hc => by
 obtain ⟨i, hi, rfl⟩ := List.getElem_of_mem hc
 have := (h.1 i hi).1
 simpa [g, hi] using this
theorem right_srt {l : List Cell} (h : right l) : Srt l := by
 have step : ∀ i, i + 1 < l.length → less (g l i) (g l (i + 1)) := fun i hi => (h.1 (i + 1) hi).2 (by omega)
 have far : ∀ d i, i + d + 1 < l.length → less (g l i) (g l (i + d + 1)) := by
  intro d
  induction d with
  | zero => intro i hi; exact step i hi
  | succ d ih => intro i hi; exact less_trans (ih i (by omega)) (step (i + d + 1) (by omega))
 refine List.pairwise_iff_getElem.2 fun i j hi hj hij => ?_
 have := far (j - i - 1) i (by omega)
 rw [show i + (j - i - 1) + 1 = j by omega] at this
 simpa [g, hi, hj] using this
theorem of_ok {l : List Cell} (hb : ∀ c ∈ l, inB c) (hl : (puts l).length ≤ 2000) : of l = (puts l, 0) := by
 unfold of
 rw [if_pos, if_neg (by omega)]
 intro i hi
 have e : g l i = l[i] := by simp [g, hi]
 rw [e]; exact hb _ (List.getElem_mem hi)
end R1
end Go.GL


namespace Go.GL
open Go.Proofs
attribute [local irreducible] wpList Code.wp Exit.then Exit.inBlock Ends Tri TriH OpV OpG FnC epf wpAnyH
variable {A : List Asrt} {I : List Chunk}
set_option maxRecDepth 100000 in
theorem ref07_in {lv : Int} {c : Cell} (h1 : 1 ≤ lv) (h2 : lv ≤ 42) : FnC Try.prog 35 [.int .i64 lv, cellV c].toArray A I (fun v A' I' => v = .bool (decide (R7.inL lv c)) ∧ A = A' ∧ I = I') := by
 have hsd := R7.side_bd h2
 unfold R7.side at hsd
 refine fn_enter2 Try.func35 rfl Try.ntmps35 rfl fun w0 => ?_
 refine tS (tR ?_)
 refine tri_g (opg_box_agg rfl) rfl ?_
 rintro _ _ _ ⟨b, rfl, rfl, rfl⟩
 refine tA rfl rfl (tN (tT (tS (tR (tM rfl rfl ?_)))))
 refine tri_v (opv_sub rfl rfl (w64 (by omega) (by omega))) rfl ?_
 refine tri_v (opv_shl1 rfl rfl (by omega) (by omega)) rfl ?_
 refine tA rfl rfl (tN (tT (tS (tR (yF rfl ?_)))))
 refine yL rfl rfl ?_
 refine tM rfl rfl ?_
 refine tri_v (opv_negE rfl (by omega) (by omega)) rfl ?_
 refine tri_v (opv_geq rfl rfl) rfl ?_
 refine tM rfl rfl ?_
 refine tri_split rfl rfl (fun g1 => ?_) (fun g1 => ?_)
 ·refine yR rfl rfl (yF rfl (yR rfl rfl ?_))
  refine yL rfl rfl ?_
  refine yR rfl rfl (tM rfl rfl (yR rfl rfl (yC rfl rfl ?_)))
  refine tri_v (opv_pick_t rfl rfl) rfl ?_
  refine tM rfl rfl ?_
  refine tri_split rfl rfl (fun g2 => ?_) (fun g2 => ?_)
  ·refine yR rfl rfl (yF rfl (yR rfl rfl ?_))
   refine yL rfl rfl ?_
   refine yR rfl rfl (tM rfl rfl (yR rfl rfl ?_))
   refine tri_v (opv_negE rfl (by omega) (by omega)) rfl ?_
   refine yR rfl rfl ?_
   refine tri_v (opv_geq rfl rfl) rfl ?_
   refine tri_v (opv_pick_t rfl rfl) rfl ?_
   refine tM rfl rfl ?_
   refine tri_split rfl rfl (fun g3 => ?_) (fun g3 => ?_)
   ·refine yR rfl rfl (yF rfl (yR rfl rfl ?_))
    refine yL rfl rfl ?_
    refine yR rfl rfl (tM rfl rfl (yR rfl rfl (yC rfl rfl ?_)))
    refine tri_v (opv_pick_t rfl rfl) rfl ?_
    refine tA rfl rfl (tN (tT (tri_ret ?_)))
    refine tri_end A Suf.h rfl (.cons (rv_tmp rfl) .nil) ⟨congrArg Value.bool (decide_eq_decide.2 ?_), rfl, rfl⟩
    exact ⟨fun h => ⟨g1, g2, g3, h⟩, fun h => h.2.2.2⟩
   ·refine tri_guard_skip rfl rfl rfl rfl (tri_guard_skip rfl rfl rfl rfl (tri_guard_skip rfl rfl rfl rfl (tri_guard_skip rfl rfl rfl rfl ?_)))
    refine tri_v (opv_pick_f rfl rfl) rfl ?_
    refine tA rfl rfl (tN (tT (tri_ret ?_)))
    refine tri_end A Suf.h rfl (.cons (rv_tmp rfl) .nil) ⟨congrArg Value.bool (decide_eq_false fun h => ?_).symm, rfl, rfl⟩
    exact g3 h.2.2.1
  ·refine tri_guard_skip rfl rfl rfl rfl (tri_guard_skip rfl rfl rfl rfl (tri_guard_skip rfl rfl rfl rfl (tri_guard_skip rfl rfl rfl rfl (tri_guard_skip rfl rfl rfl rfl ?_))))
   refine tri_v (opv_pick_f rfl rfl) rfl ?_
   refine tM rfl rfl (tri_guard_skip rfl rfl rfl rfl (tri_guard_skip rfl rfl rfl rfl (tri_guard_skip rfl rfl rfl rfl (tri_guard_skip rfl rfl rfl rfl ?_))))
   refine tri_v (opv_pick_f rfl rfl) rfl ?_
   refine tA rfl rfl (tN (tT (tri_ret ?_)))
   refine tri_end A Suf.h rfl (.cons (rv_tmp rfl) .nil) ⟨congrArg Value.bool (decide_eq_false fun h => ?_).symm, rfl, rfl⟩
   exact g2 h.2.1
 ·refine tri_guard_skip rfl rfl rfl rfl (tri_guard_skip rfl rfl rfl rfl (tri_guard_skip rfl rfl rfl rfl (tri_guard_skip rfl rfl rfl rfl ?_)))
  refine tri_v (opv_pick_f rfl rfl) rfl ?_
  refine tM rfl rfl (tri_guard_skip rfl rfl rfl rfl (tri_guard_skip rfl rfl rfl rfl (tri_guard_skip rfl rfl rfl rfl (tri_guard_skip rfl rfl rfl rfl (tri_guard_skip rfl rfl rfl rfl ?_)))))
  refine tri_v (opv_pick_f rfl rfl) rfl ?_
  refine tM rfl rfl (tri_guard_skip rfl rfl rfl rfl (tri_guard_skip rfl rfl rfl rfl (tri_guard_skip rfl rfl rfl rfl (tri_guard_skip rfl rfl rfl rfl ?_))))
  refine tri_v (opv_pick_f rfl rfl) rfl ?_
  refine tA rfl rfl (tN (tT (tri_ret ?_)))
  refine tri_end A Suf.h rfl (.cons (rv_tmp rfl) .nil) ⟨congrArg Value.bool (decide_eq_false fun h => ?_).symm, rfl, rfl⟩
  exact g1 h.1
set_option maxHeartbeats 1000000 in
set_option maxRecDepth 100000 in
theorem ref07_corner {l : List Cell} {a : Option Addr} {cap : Nat} {lv : Int} (hs : SlAt I a l) (hn : l.length ≤ 1000000000) (h1 : 1 ≤ lv) (h2 : lv ≤ 42) (hb : ∀ c ∈ l, R2.bd c) :
  FnC Try.prog 63 [.slice a l.length cap, .int .i64 lv].toArray A I (fun v A' I' => ∃ a' cap', v = .slice a' (R7.corner (R7.side lv) l).length cap' ∧ SlAt I' a' (R7.corner (R7.side lv) l) ∧ A = A' ∧ I ⊆ I') := by
 have hsd := R7.side_bd h2
 have hsd0 := hsd
 unfold R7.side at hsd
 have hlen : ∀ i, i ≤ l.length → (R7.corner (R7.side lv) (l.take i)).length = i := by intro i hi; simp [R7.corner]; omega
 refine fn_enter2 Try.func63 rfl Try.ntmps63 rfl fun w0 => ?_
 refine tS (tR (tA rfl rfl (tN (tT (tS (tR (tM rfl rfl ?_)))))))
 refine tri_v (opv_sub rfl rfl (w64 (by omega) (by omega))) rfl ?_
 refine tri_v (opv_shl1 rfl rfl (by omega) (by omega)) rfl ?_
 refine tA rfl rfl (tN (tT (tS (tR (tA rfl rfl (tN (tT ?_)))))))
 refine tS (tS (tR (tA rfl rfl (tN (tT (tri_block ?_))))))
 refine tri_nilRow (E := 48) (sz := 2) ?_
 refine tri_sub (F' := [(0, .slice a l.length cap), (5, .int .i64 (R7.side lv)), (6, .slice none 0 0), (7, .int .i64 (0 : Nat))]) ⟨rfl, rfl, rfl, rfl, trivial⟩ ?_
 refine loop_ind (G := Nat × Option Addr × Nat) (fun g => l.length - g.1) (fun g => g.1 ≤ l.length) (fun g => [(0, .slice a l.length cap), (5, .int .i64 (R7.side lv)), (6, .slice g.2.1 g.1 g.2.2), (7, .int .i64 (g.1 : Nat))]) (fun g => Row g.2.1 g.2.2 g.1 48 2 (encs (R7.corner (R7.side lv) (l.take g.1))) :: A) (fun _ => I) ?_ (0, none, 0) (by omega)
 rintro ⟨i, a1, cap1⟩ hi K hK
 simp only at hi hK ⊢
 skip
 refine tS (tS (tR (tM rfl rfl (tM rfl rfl ?_))))
 refine tri_v (opv_len rfl) rfl ?_
 refine yC rfl rfl (tN (tT ?_))
 refine tri_cond_dec rfl (fun h => ?_) (fun h => ?_)
 ·have hlt : i < l.length := by omega
  have hbi : R2.bd (l.getD i default) := hb _ (by simp [hlt])
  have hx := hbi.1
  have hx2 := hbi.2.1
  have hy := hbi.2.2.1
  have hy2 := hbi.2.2.2
  have e : R7.corner (R7.side lv) (l.take (i + 1)) = R7.corner (R7.side lv) (l.take i) ++ [⟨(l.getD i default).x + R7.side lv, (l.getD i default).y + R7.side lv⟩] := by
   have e0 : l.getD i default = l[i] := by simp [hlt]
   rw [e0, List.take_succ_eq_append_getElem hlt]; unfold R7.corner; rw [List.map_append]; rfl
  skip
  refine tri_skip (tT (tS (tri_block ?_)))
  refine tri_draw [0, 1, 2, 3, 4, 5, 6, 7, 8, 9, 10, 11, 12, 13, 14, 15, 16, 17, 18] rfl [_] rfl mixed ?_
  refine yM rfl rfl (yM rfl rfl (yM rfl rfl ?_))
  refine th_take rfl rfl (by kernel_rfl)  (opv_indexAddrSN rfl rfl (by omega) (by assumption) rfl) ?_
  refine th_take rfl rfl (by kernel_rfl)  (opv_fieldAddrE rfl (by assumption) (by omega) rfl) ?_
  refine th_take rfl rfl (by kernel_rfl)  (opv_loadE1 rfl (by assumption) rfl (by omega) rfl rfl) ?_
  refine yM rfl rfl ?_
  refine th_take rfl rfl (by kernel_rfl)  (opv_add rfl rfl (w64 (by omega) (by omega))) ?_
  refine yM rfl rfl (yM rfl rfl ?_)
  refine th_take rfl rfl (by kernel_rfl)  (opv_indexAddrSN rfl rfl (by omega) (by assumption) rfl) ?_
  refine th_take rfl rfl (by kernel_rfl)  (opv_fieldAddrE rfl (by assumption) (by omega) rfl) ?_
  refine th_take rfl rfl (by kernel_rfl)  (opv_loadE1 rfl (by assumption) rfl (by omega) rfl rfl) ?_
  refine yM rfl rfl ?_
  refine th_take rfl rfl (by kernel_rfl)  (opv_add rfl rfl (w64 (by omega) (by omega))) ?_
  refine th_take rfl rfl (by kernel_rfl)  (opv_buildS rfl rfl) ?_
  refine th_one (by kernel_rfl) (step_m rfl rfl (opg_buildSlice rfl rfl rfl rfl) ?_)
  rintro _ _ _ ⟨b, rfl, rfl, rfl⟩
  refine ⟨Suf.h, (fun _ h => h), ?_⟩
  refine th_one (by kernel_rfl) (step_m rfl rfl (opg_appendB rfl rfl rfl rfl (by omega) rfl) ?_)
  rintro _ _ _ ⟨a3, cap3, rfl, rfl, rfl⟩
  refine ⟨Suf.h, (fun _ h => h), ?_⟩
  refine yA rfl rfl (yD (tri_inBlock (tT (tR (tM rfl rfl ?_)))))
  refine yU rfl rfl ?_
  refine tA rfl rfl (tN (tT ?_))
  refine tri_drop ?_
  refine tri_rowEq (len' := i + 1) (cells' := encs (R7.corner (R7.side lv) (l.take (i + 1)))) rfl (by rw [e, encs_append]; rfl) ?_
  refine tri_sub ?_ (hK (i + 1, a3, cap3) (by simp only; omega) (by simp only; omega))
  exact ⟨rfl, rfl, rfl, rfl, trivial⟩
 ·have hi' : i = l.length := by omega
  have hl := hlen i hi
  rw [List.take_of_length_le (by omega)] at hl
  refine tri_exit ?_
  refine tri_then_exit (tri_then_exit ?_)
  refine tri_inBlock_hit rfl ?_
  refine tT (tS (tR (tM rfl rfl (tA rfl rfl (tN (tT (tri_ret ?_)))))))
  refine tri_rowEq (len' := (R7.corner (R7.side lv) l).length) (cells' := encs (R7.corner (R7.side lv) l)) hl.symm (by rw [List.take_of_length_le (by omega)]) ?_
  refine tri_freezeRow rfl fun I' hI hs' => ?_
  refine tri_end A Suf.h rfl (.cons (rv_tmp rfl) .nil) ⟨a1, cap1, ?_, hs', rfl, hI⟩
  rw [hl]; rfl
end Go.GL


namespace Go.GL
open Go.Proofs
attribute [local irreducible] wpList Code.wp Exit.then Exit.inBlock Ends Tri TriH OpV OpG FnC epf wpAnyH
variable {A : List Asrt} {I : List Chunk}
theorem R7.part_snoc (h : Int) (k : Nat) (l : List Cell) (c : Cell) : R7.part h k (l ++ [c]) = R7.part h k l ++ if R7.qx h c = k then [R7.qc h c] else [] := by
 unfold R7.part
 rw [List.filter_append, List.map_append]
 by_cases e : R7.qx h c = k <;> simp [e]
theorem R7.part_len (h : Int) (k : Nat) (l : List Cell) : (R7.part h k l).length ≤ l.length := by
 unfold R7.part
 rw [List.length_map]
 exact List.length_filter_le ..
structure PG where
 i : Nat
 a0 : Option Addr
 a1 : Option Addr
 a2 : Option Addr
 a3 : Option Addr
 c0 : Nat
 c1 : Nat
 c2 : Nat
 c3 : Nat
set_option maxHeartbeats 1000000 in
set_option maxRecDepth 100000 in
theorem ref07_parts {l : List Cell} {a : Option Addr} {cap : Nat} {lv : Int} (hs : SlAt I a l) (hn : l.length ≤ 1000000000) (h1 : 1 ≤ lv) (h2 : lv ≤ 42) (hb : ∀ c ∈ l, c.x ≤ 4398046511104 ∧ c.y ≤ 4398046511104) :
  FnC Try.prog 82 [.slice a l.length cap, .int .i64 lv].toArray A I (fun v A' I' => ∃ a0 c0 a1 c1 a2 c2 a3 c3, v = .agg [.slice a0 (R7.part (R7.side lv) 0 l).length c0, .slice a1 (R7.part (R7.side lv) 1 l).length c1, .slice a2 (R7.part (R7.side lv) 2 l).length c2, .slice a3 (R7.part (R7.side lv) 3 l).length c3].toArray ∧ SlAt I' a0 (R7.part (R7.side lv) 0 l) ∧ SlAt I' a1 (R7.part (R7.side lv) 1 l) ∧ SlAt I' a2 (R7.part (R7.side lv) 2 l) ∧ SlAt I' a3 (R7.part (R7.side lv) 3 l) ∧ A = A' ∧ I ⊆ I') := by
 have hsd := R7.side_bd h2
 have hsd0 := hsd
 unfold R7.side at hsd
 have hpl : ∀ i k, (R7.part (R7.side lv) k (l.take i)).length ≤ 1000000000 := fun i k => by
  have h1 := R7.part_len (R7.side lv) k (l.take i)
  rw [List.length_take] at h1
  omega
 refine fn_enter2 Try.func82 rfl Try.ntmps82 rfl fun w0 => ?_
 refine tS (tR ?_)
 refine tri_g opg_alloc rfl ?_
 rintro _ _ _ ⟨b, rfl, rfl, rfl⟩
 refine tN (tT (tS (tR (tM rfl rfl ?_))))
 refine tri_v (opv_sub rfl rfl (w64 (by omega) (by omega))) rfl ?_
 refine tri_v (opv_shl1 rfl rfl (by omega) (by omega)) rfl ?_
 refine tA rfl rfl (tN (tT (tS (tR ?_))))
 refine tri_g opg_alloc rfl ?_
 rintro _ _ _ ⟨b, rfl, rfl, rfl⟩
 refine tN (tT (tS (tS (tR (tA rfl rfl (tN (tT ?_)))))))
 refine tri_block ?_
 rename_i b4
 refine tri_nilRow (E := 48) (sz := 2) ?_
 refine tri_nilRow (E := 48) (sz := 2) ?_
 refine tri_nilRow (E := 48) (sz := 2) ?_
 refine tri_nilRow (E := 48) (sz := 2) ?_
 refine tri_perm (A := ?a1_0 :: ?a1_1 :: ?a1_2 :: ?a1_3 :: ?a1_4 :: ?T1) (B := ?a1_4 :: ?a1_0 :: ?a1_1 :: ?a1_2 :: ?a1_3 :: ?T1) (by exact permL [4, 0, 1, 2, 3] [?a1_0, ?a1_1, ?a1_2, ?a1_3, ?a1_4] ?T1 (by decide) rfl) ?_
 refine tri_sub (F' := [(0, .slice a l.length cap), (4, pt b4 0), (5, .int .i64 (R7.side lv)), (6, pt b 0), (7, .int .i64 (0 : Nat))]) ⟨rfl, rfl, rfl, rfl, rfl, trivial⟩ ?_
 refine loop_ind (G := PG) (fun g => l.length - g.i) (fun g => g.i ≤ l.length) (fun g => [(0, .slice a l.length cap), (4, pt b4 0), (5, .int .i64 (R7.side lv)), (6, pt b 0), (7, .int .i64 (g.i : Nat))])
  (fun g => Box b [.slice g.a0 (R7.part (R7.side lv) 0 (l.take g.i)).length g.c0, .slice g.a1 (R7.part (R7.side lv) 1 (l.take g.i)).length g.c1, .slice g.a2 (R7.part (R7.side lv) 2 (l.take g.i)).length g.c2, .slice g.a3 (R7.part (R7.side lv) 3 (l.take g.i)).length g.c3] 109 :: Row g.a0 g.c0 (R7.part (R7.side lv) 0 (l.take g.i)).length 48 2 (encs (R7.part (R7.side lv) 0 (l.take g.i))) :: Row g.a1 g.c1 (R7.part (R7.side lv) 1 (l.take g.i)).length 48 2 (encs (R7.part (R7.side lv) 1 (l.take g.i))) :: Row g.a2 g.c2 (R7.part (R7.side lv) 2 (l.take g.i)).length 48 2 (encs (R7.part (R7.side lv) 2 (l.take g.i))) :: Row g.a3 g.c3 (R7.part (R7.side lv) 3 (l.take g.i)).length 48 2 (encs (R7.part (R7.side lv) 3 (l.take g.i))) :: Box b4 [.slice none 0 0, .slice none 0 0, .slice none 0 0, .slice none 0 0] 109 :: A) (fun _ => I) ?_ ⟨0, none, none, none, none, 0, 0, 0, 0⟩ (by simp only; omega)
 rintro ⟨i, a0, a1, a2, a3, c0, c1, c2, c3⟩ hi K hK
 simp only at hi hK ⊢
 have hp0 := hpl i 0
 have hp1 := hpl i 1
 have hp2 := hpl i 2
 have hp3 := hpl i 3
 skip
 refine tS (tS (tR (tM rfl rfl (tM rfl rfl ?_))))
 refine tri_v (opv_len rfl) rfl ?_
 refine yC rfl rfl (tN (tT ?_))
 refine tri_cond_dec rfl (fun h => ?_) (fun h => ?_)
 ·have hlt : i < l.length := by omega
  have hbi := hb (l.getD i default) (by simp [hlt])
  have hbx := hbi.1
  have hby := hbi.2
  have et : l.take (i + 1) = l.take i ++ [l.getD i default] := by
   have e0 : l.getD i default = l[i] := by simp [hlt]
   rw [e0, List.take_succ_eq_append_getElem hlt]
  have en := fun k => R7.part_snoc (R7.side lv) k (l.take i) (l.getD i default)
  rw [← et] at en
  refine tri_skip (tT (tS (tri_block (tS (tR (tA rfl rfl (tN ?_)))))))
  refine tT (tS (tR (tM rfl rfl (tM rfl rfl ?_))))
  refine tri_v (opv_indexAddrSN rfl rfl (by omega) (by assumption) rfl) rfl ?_
  refine tri_v (opv_loadEA rfl (by assumption) rfl (by omega) rfl rfl) rfl ?_
  refine tri_g opg_alloc rfl ?_
  rintro _ _ _ ⟨b, rfl, rfl, rfl⟩
  refine yG rfl rfl rfl rfl rfl rfl ?_
  rintro _ _ _ ⟨rfl, rfl⟩
  refine tN (tT (tS (tS (tR (yF rfl ?_)))))
  refine yL rfl rfl ?_
  refine tM rfl rfl ?_
  refine tri_v (opv_geq rfl rfl) rfl ?_
  refine tN (tT ?_)
  refine tri_cond_dec rfl (fun gx => ?_) (fun gx => ?_)
  ·refine tS (tR (tA rfl rfl (tN (tT (tR (yF rfl ?_))))))
   refine yL rfl rfl ?_
   refine tM rfl rfl ?_
   refine tri_v (opv_sub rfl rfl (w64 (by omega) (by omega))) rfl ?_
   refine yF rfl ?_
   refine yG rfl rfl rfl rfl rfl rfl ?_
   rintro _ _ _ ⟨rfl, rfl⟩
   refine tN (tT (tS (tS (tR (yF rfl ?_)))))
   refine yL rfl rfl ?_
   refine tM rfl rfl ?_
   refine tri_v (opv_geq rfl rfl) rfl ?_
   refine tN (tT ?_)
   refine tri_cond_dec rfl (fun gy => ?_) (fun gy => ?_)
   ·have gx' : (R7.side lv ≤ (l.getD i default).x) := gx
    have gy' : (R7.side lv ≤ (l.getD i default).y) := gy
    have e0 : R7.part (R7.side lv) 0 (l.take (i + 1)) = R7.part (R7.side lv) 0 (l.take i) := by rw [en 0, if_neg (by unfold R7.qx; rw [if_pos gx', if_pos gy']; decide), List.append_nil]
    have e1 : R7.part (R7.side lv) 1 (l.take (i + 1)) = R7.part (R7.side lv) 1 (l.take i) := by rw [en 1, if_neg (by unfold R7.qx; rw [if_pos gx', if_pos gy']; decide), List.append_nil]
    have e2 : R7.part (R7.side lv) 2 (l.take (i + 1)) = R7.part (R7.side lv) 2 (l.take i) := by rw [en 2, if_neg (by unfold R7.qx; rw [if_pos gx', if_pos gy']; decide), List.append_nil]
    have e3 : R7.part (R7.side lv) 3 (l.take (i + 1)) = R7.part (R7.side lv) 3 (l.take i) ++ [⟨(l.getD i default).x - R7.side lv, (l.getD i default).y - R7.side lv⟩] := by rw [en 3, if_pos (by unfold R7.qx; rw [if_pos gx', if_pos gy'])]; unfold R7.qc; rw [if_pos gx', if_pos gy']
    refine tS ?_
    refine tri_perm (A := ?a2_0 :: ?a2_1 :: ?a2_2 :: ?a2_3 :: ?a2_4 :: ?a2_5 :: ?T2) (B := ?a2_1 :: ?a2_5 :: ?a2_0 :: ?a2_2 :: ?a2_3 :: ?a2_4 :: ?T2) (by exact permL [1, 5, 0, 2, 3, 4] [?a2_0, ?a2_1, ?a2_2, ?a2_3, ?a2_4, ?a2_5] ?T2 (by decide) rfl) ?_
    skip
    refine tR (tM rfl rfl ?_)
    refine yU rfl rfl ?_
    refine tA rfl rfl (tN (tT (tR (yF rfl ?_))))
    refine yL rfl rfl ?_
    refine tM rfl rfl ?_
    refine tri_v (opv_sub rfl rfl (w64 (by omega) (by omega))) rfl ?_
    refine yF rfl ?_
    refine yG rfl rfl rfl rfl rfl rfl ?_
    rintro _ _ _ ⟨rfl, rfl⟩
    refine tN (tT ?_)
    refine tri_draw [0, 1, 2, 4, 3, 5, 6, 7, 8] rfl [_, _] rfl mixed ?_
    refine yM rfl rfl (yM rfl rfl ?_)
    refine th_take rfl rfl (by kernel_rfl)  (opv_indexAddrA rfl rfl (by decide) (by decide)) ?_
    refine th_take rfl rfl (by kernel_rfl)  (opv_loadA rfl rfl rfl) ?_
    refine th_two (j := 5) [3, 6, 7, 8] (by kernel_rfl) rfl ?_ ?_
    ·refine (step_m rfl rfl (OpV.toG (opv_load1 rfl rfl rfl)) ?_)
     rintro _ _ _ ⟨rfl, rfl, rfl⟩
     refine ⟨Suf.h, (fun _ h => h), ?_⟩
     refine th_one (by kernel_rfl) (step_m rfl rfl (opg_buildSlice rfl rfl rfl rfl) ?_)
     rintro _ _ _ ⟨b, rfl, rfl, rfl⟩
     refine ⟨Suf.h, (fun _ h => h), ?_⟩
     refine th_one (by kernel_rfl) (step_m rfl rfl (opg_appendB rfl rfl rfl rfl (by omega) rfl) ?_)
     rintro _ _ _ ⟨aa, cc, rfl, rfl, rfl⟩
     refine ⟨Suf.h, (fun _ h => h), ?_⟩
     refine th_take rfl rfl (by kernel_rfl)  (opv_indexAddrA rfl rfl (by decide) (by decide)) ?_
     refine th_one (by kernel_rfl) (step_m rfl rfl (opg_store rfl rfl rfl rfl rfl rfl) ?_)
     rintro _ _ _ ⟨rfl, rfl⟩
     refine ⟨Suf.h, (fun _ h => h), ?_⟩
     refine yD (tri_inBlock (tT (tR (tM rfl rfl ?_))))
     refine yU rfl rfl ?_
     refine tA rfl rfl (tN (tT ?_))
     refine tri_perm (A := ?a3_0 :: ?a3_1 :: ?a3_2 :: ?a3_3 :: ?a3_4 :: ?a3_5 :: ?a3_6 :: ?T3) (B := ?a3_0 :: ?a3_3 :: ?a3_1 :: ?a3_4 :: ?a3_5 :: ?a3_6 :: ?a3_2 :: ?T3) (by exact permL [0, 3, 1, 4, 5, 6, 2] [?a3_0, ?a3_1, ?a3_2, ?a3_3, ?a3_4, ?a3_5, ?a3_6] ?T3 (by decide) rfl) ?_
     refine tri_drop ?_
     refine tri_drop ?_
     have hh := hK ⟨i + 1, a0, a1, a2, aa, c0, c1, c2, cc⟩ (by simp only; omega) (by simp only; omega)
     simp only [e0, e1, e2, e3, List.length_append, encs_append] at hh
     refine tri_sub ?_ hh
     exact ⟨rfl, rfl, rfl, rfl, rfl, trivial⟩
    ·refine (step_m rfl rfl (opg_buildSlice rfl rfl rfl rfl) ?_)
     rintro _ _ _ ⟨b, rfl, rfl, rfl⟩
     refine ⟨Suf.h, (fun _ h => h), ?_⟩
     refine th_one (by kernel_rfl) (step_m rfl rfl (OpV.toG (opv_load1 rfl rfl rfl)) ?_)
     rintro _ _ _ ⟨rfl, rfl, rfl⟩
     refine ⟨Suf.h, (fun _ h => h), ?_⟩
     refine th_one (by kernel_rfl) (step_m rfl rfl (opg_appendB rfl rfl rfl rfl (by omega) rfl) ?_)
     rintro _ _ _ ⟨aa, cc, rfl, rfl, rfl⟩
     refine ⟨Suf.h, (fun _ h => h), ?_⟩
     refine th_take rfl rfl (by kernel_rfl)  (opv_indexAddrA rfl rfl (by decide) (by decide)) ?_
     refine th_one (by kernel_rfl) (step_m rfl rfl (opg_store rfl rfl rfl rfl rfl rfl) ?_)
     rintro _ _ _ ⟨rfl, rfl⟩
     refine ⟨Suf.h, (fun _ h => h), ?_⟩
     refine yD (tri_inBlock (tT (tR (tM rfl rfl ?_))))
     refine yU rfl rfl ?_
     refine tA rfl rfl (tN (tT ?_))
     refine tri_perm (A := ?a4_0 :: ?a4_1 :: ?a4_2 :: ?a4_3 :: ?a4_4 :: ?a4_5 :: ?a4_6 :: ?T4) (B := ?a4_0 :: ?a4_3 :: ?a4_1 :: ?a4_4 :: ?a4_5 :: ?a4_6 :: ?a4_2 :: ?T4) (by exact permL [0, 3, 1, 4, 5, 6, 2] [?a4_0, ?a4_1, ?a4_2, ?a4_3, ?a4_4, ?a4_5, ?a4_6] ?T4 (by decide) rfl) ?_
     refine tri_drop ?_
     refine tri_drop ?_
     have hh := hK ⟨i + 1, a0, a1, a2, aa, c0, c1, c2, cc⟩ (by simp only; omega) (by simp only; omega)
     simp only [e0, e1, e2, e3, List.length_append, encs_append] at hh
     refine tri_sub ?_ hh
     exact ⟨rfl, rfl, rfl, rfl, rfl, trivial⟩
   ·have gx' : (R7.side lv ≤ (l.getD i default).x) := gx
    have gy' : ¬ (R7.side lv ≤ (l.getD i default).y) := gy
    have e0 : R7.part (R7.side lv) 0 (l.take (i + 1)) = R7.part (R7.side lv) 0 (l.take i) := by rw [en 0, if_neg (by unfold R7.qx; rw [if_pos gx', if_neg gy']; decide), List.append_nil]
    have e1 : R7.part (R7.side lv) 1 (l.take (i + 1)) = R7.part (R7.side lv) 1 (l.take i) ++ [⟨(l.getD i default).x - R7.side lv, (l.getD i default).y⟩] := by rw [en 1, if_pos (by unfold R7.qx; rw [if_pos gx', if_neg gy'])]; unfold R7.qc; rw [if_pos gx', if_neg gy']
    have e2 : R7.part (R7.side lv) 2 (l.take (i + 1)) = R7.part (R7.side lv) 2 (l.take i) := by rw [en 2, if_neg (by unfold R7.qx; rw [if_pos gx', if_neg gy']; decide), List.append_nil]
    have e3 : R7.part (R7.side lv) 3 (l.take (i + 1)) = R7.part (R7.side lv) 3 (l.take i) := by rw [en 3, if_neg (by unfold R7.qx; rw [if_pos gx', if_neg gy']; decide), List.append_nil]
    refine tri_skip (tT ?_)
    refine tri_perm (A := ?a5_0 :: ?a5_1 :: ?a5_2 :: ?a5_3 :: ?a5_4 :: ?a5_5 :: ?T5) (B := ?a5_1 :: ?a5_3 :: ?a5_0 :: ?a5_2 :: ?a5_4 :: ?a5_5 :: ?T5) (by exact permL [1, 3, 0, 2, 4, 5] [?a5_0, ?a5_1, ?a5_2, ?a5_3, ?a5_4, ?a5_5] ?T5 (by decide) rfl) ?_
    skip
    refine tri_draw [0, 1, 2, 4, 3, 5, 6, 7, 8] rfl [_, _] rfl mixed ?_
    refine yM rfl rfl (yM rfl rfl ?_)
    refine th_take rfl rfl (by kernel_rfl)  (opv_indexAddrA rfl rfl (by decide) (by decide)) ?_
    refine th_take rfl rfl (by kernel_rfl)  (opv_loadA rfl rfl rfl) ?_
    refine th_two (j := 5) [3, 6, 7, 8] (by kernel_rfl) rfl ?_ ?_
    ·refine (step_m rfl rfl (OpV.toG (opv_load1 rfl rfl rfl)) ?_)
     rintro _ _ _ ⟨rfl, rfl, rfl⟩
     refine ⟨Suf.h, (fun _ h => h), ?_⟩
     refine th_one (by kernel_rfl) (step_m rfl rfl (opg_buildSlice rfl rfl rfl rfl) ?_)
     rintro _ _ _ ⟨b, rfl, rfl, rfl⟩
     refine ⟨Suf.h, (fun _ h => h), ?_⟩
     refine th_one (by kernel_rfl) (step_m rfl rfl (opg_appendB rfl rfl rfl rfl (by omega) rfl) ?_)
     rintro _ _ _ ⟨aa, cc, rfl, rfl, rfl⟩
     refine ⟨Suf.h, (fun _ h => h), ?_⟩
     refine th_take rfl rfl (by kernel_rfl)  (opv_indexAddrA rfl rfl (by decide) (by decide)) ?_
     refine th_one (by kernel_rfl) (step_m rfl rfl (opg_store rfl rfl rfl rfl rfl rfl) ?_)
     rintro _ _ _ ⟨rfl, rfl⟩
     refine ⟨Suf.h, (fun _ h => h), ?_⟩
     refine yD (tri_inBlock (tT (tR (tM rfl rfl ?_))))
     refine yU rfl rfl ?_
     refine tA rfl rfl (tN (tT ?_))
     refine tri_perm (A := ?a6_0 :: ?a6_1 :: ?a6_2 :: ?a6_3 :: ?a6_4 :: ?a6_5 :: ?a6_6 :: ?T6) (B := ?a6_0 :: ?a6_3 :: ?a6_1 :: ?a6_4 :: ?a6_2 :: ?a6_5 :: ?a6_6 :: ?T6) (by exact permL [0, 3, 1, 4, 2, 5, 6] [?a6_0, ?a6_1, ?a6_2, ?a6_3, ?a6_4, ?a6_5, ?a6_6] ?T6 (by decide) rfl) ?_
     refine tri_drop ?_
     refine tri_drop ?_
     have hh := hK ⟨i + 1, a0, aa, a2, a3, c0, cc, c2, c3⟩ (by simp only; omega) (by simp only; omega)
     simp only [e0, e1, e2, e3, List.length_append, encs_append] at hh
     refine tri_sub ?_ hh
     exact ⟨rfl, rfl, rfl, rfl, rfl, trivial⟩
    ·refine (step_m rfl rfl (opg_buildSlice rfl rfl rfl rfl) ?_)
     rintro _ _ _ ⟨b, rfl, rfl, rfl⟩
     refine ⟨Suf.h, (fun _ h => h), ?_⟩
     refine th_one (by kernel_rfl) (step_m rfl rfl (OpV.toG (opv_load1 rfl rfl rfl)) ?_)
     rintro _ _ _ ⟨rfl, rfl, rfl⟩
     refine ⟨Suf.h, (fun _ h => h), ?_⟩
     refine th_one (by kernel_rfl) (step_m rfl rfl (opg_appendB rfl rfl rfl rfl (by omega) rfl) ?_)
     rintro _ _ _ ⟨aa, cc, rfl, rfl, rfl⟩
     refine ⟨Suf.h, (fun _ h => h), ?_⟩
     refine th_take rfl rfl (by kernel_rfl)  (opv_indexAddrA rfl rfl (by decide) (by decide)) ?_
     refine th_one (by kernel_rfl) (step_m rfl rfl (opg_store rfl rfl rfl rfl rfl rfl) ?_)
     rintro _ _ _ ⟨rfl, rfl⟩
     refine ⟨Suf.h, (fun _ h => h), ?_⟩
     refine yD (tri_inBlock (tT (tR (tM rfl rfl ?_))))
     refine yU rfl rfl ?_
     refine tA rfl rfl (tN (tT ?_))
     refine tri_perm (A := ?a7_0 :: ?a7_1 :: ?a7_2 :: ?a7_3 :: ?a7_4 :: ?a7_5 :: ?a7_6 :: ?T7) (B := ?a7_0 :: ?a7_3 :: ?a7_1 :: ?a7_4 :: ?a7_2 :: ?a7_5 :: ?a7_6 :: ?T7) (by exact permL [0, 3, 1, 4, 2, 5, 6] [?a7_0, ?a7_1, ?a7_2, ?a7_3, ?a7_4, ?a7_5, ?a7_6] ?T7 (by decide) rfl) ?_
     refine tri_drop ?_
     refine tri_drop ?_
     have hh := hK ⟨i + 1, a0, aa, a2, a3, c0, cc, c2, c3⟩ (by simp only; omega) (by simp only; omega)
     simp only [e0, e1, e2, e3, List.length_append, encs_append] at hh
     refine tri_sub ?_ hh
     exact ⟨rfl, rfl, rfl, rfl, rfl, trivial⟩
  ·refine tri_skip (tT (tS (tS (tR (yF rfl ?_)))))
   refine yL rfl rfl ?_
   refine tM rfl rfl ?_
   refine tri_v (opv_geq rfl rfl) rfl ?_
   refine tN (tT ?_)
   refine tri_cond_dec rfl (fun gy => ?_) (fun gy => ?_)
   ·have gx' : ¬ (R7.side lv ≤ (l.getD i default).x) := gx
    have gy' : (R7.side lv ≤ (l.getD i default).y) := gy
    have e0 : R7.part (R7.side lv) 0 (l.take (i + 1)) = R7.part (R7.side lv) 0 (l.take i) := by rw [en 0, if_neg (by unfold R7.qx; rw [if_neg gx', if_pos gy']; decide), List.append_nil]
    have e1 : R7.part (R7.side lv) 1 (l.take (i + 1)) = R7.part (R7.side lv) 1 (l.take i) := by rw [en 1, if_neg (by unfold R7.qx; rw [if_neg gx', if_pos gy']; decide), List.append_nil]
    have e2 : R7.part (R7.side lv) 2 (l.take (i + 1)) = R7.part (R7.side lv) 2 (l.take i) ++ [⟨(l.getD i default).x, (l.getD i default).y - R7.side lv⟩] := by rw [en 2, if_pos (by unfold R7.qx; rw [if_neg gx', if_pos gy'])]; unfold R7.qc; rw [if_neg gx', if_pos gy']
    have e3 : R7.part (R7.side lv) 3 (l.take (i + 1)) = R7.part (R7.side lv) 3 (l.take i) := by rw [en 3, if_neg (by unfold R7.qx; rw [if_neg gx', if_pos gy']; decide), List.append_nil]
    refine tS ?_
    refine tri_perm (A := ?a8_0 :: ?a8_1 :: ?a8_2 :: ?a8_3 :: ?a8_4 :: ?a8_5 :: ?T8) (B := ?a8_1 :: ?a8_4 :: ?a8_0 :: ?a8_2 :: ?a8_3 :: ?a8_5 :: ?T8) (by exact permL [1, 4, 0, 2, 3, 5] [?a8_0, ?a8_1, ?a8_2, ?a8_3, ?a8_4, ?a8_5] ?T8 (by decide) rfl) ?_
    skip
    refine tR (tM rfl rfl ?_)
    refine yU rfl rfl ?_
    refine tA rfl rfl (tN (tT (tR (yF rfl ?_))))
    refine yL rfl rfl ?_
    refine tM rfl rfl ?_
    refine tri_v (opv_sub rfl rfl (w64 (by omega) (by omega))) rfl ?_
    refine yF rfl ?_
    refine yG rfl rfl rfl rfl rfl rfl ?_
    rintro _ _ _ ⟨rfl, rfl⟩
    refine tN (tT ?_)
    refine tri_draw [0, 1, 2, 4, 3, 5, 6, 7, 8] rfl [_, _] rfl mixed ?_
    refine yM rfl rfl (yM rfl rfl ?_)
    refine th_take rfl rfl (by kernel_rfl)  (opv_indexAddrA rfl rfl (by decide) (by decide)) ?_
    refine th_take rfl rfl (by kernel_rfl)  (opv_loadA rfl rfl rfl) ?_
    refine th_two (j := 5) [3, 6, 7, 8] (by kernel_rfl) rfl ?_ ?_
    ·refine (step_m rfl rfl (OpV.toG (opv_load1 rfl rfl rfl)) ?_)
     rintro _ _ _ ⟨rfl, rfl, rfl⟩
     refine ⟨Suf.h, (fun _ h => h), ?_⟩
     refine th_one (by kernel_rfl) (step_m rfl rfl (opg_buildSlice rfl rfl rfl rfl) ?_)
     rintro _ _ _ ⟨b, rfl, rfl, rfl⟩
     refine ⟨Suf.h, (fun _ h => h), ?_⟩
     refine th_one (by kernel_rfl) (step_m rfl rfl (opg_appendB rfl rfl rfl rfl (by omega) rfl) ?_)
     rintro _ _ _ ⟨aa, cc, rfl, rfl, rfl⟩
     refine ⟨Suf.h, (fun _ h => h), ?_⟩
     refine th_take rfl rfl (by kernel_rfl)  (opv_indexAddrA rfl rfl (by decide) (by decide)) ?_
     refine th_one (by kernel_rfl) (step_m rfl rfl (opg_store rfl rfl rfl rfl rfl rfl) ?_)
     rintro _ _ _ ⟨rfl, rfl⟩
     refine ⟨Suf.h, (fun _ h => h), ?_⟩
     refine yD (tri_inBlock (tT (tR (tM rfl rfl ?_))))
     refine yU rfl rfl ?_
     refine tA rfl rfl (tN (tT ?_))
     refine tri_perm (A := ?a9_0 :: ?a9_1 :: ?a9_2 :: ?a9_3 :: ?a9_4 :: ?a9_5 :: ?a9_6 :: ?T9) (B := ?a9_0 :: ?a9_3 :: ?a9_1 :: ?a9_4 :: ?a9_5 :: ?a9_2 :: ?a9_6 :: ?T9) (by exact permL [0, 3, 1, 4, 5, 2, 6] [?a9_0, ?a9_1, ?a9_2, ?a9_3, ?a9_4, ?a9_5, ?a9_6] ?T9 (by decide) rfl) ?_
     refine tri_drop ?_
     refine tri_drop ?_
     have hh := hK ⟨i + 1, a0, a1, aa, a3, c0, c1, cc, c3⟩ (by simp only; omega) (by simp only; omega)
     simp only [e0, e1, e2, e3, List.length_append, encs_append] at hh
     refine tri_sub ?_ hh
     exact ⟨rfl, rfl, rfl, rfl, rfl, trivial⟩
    ·refine (step_m rfl rfl (opg_buildSlice rfl rfl rfl rfl) ?_)
     rintro _ _ _ ⟨b, rfl, rfl, rfl⟩
     refine ⟨Suf.h, (fun _ h => h), ?_⟩
     refine th_one (by kernel_rfl) (step_m rfl rfl (OpV.toG (opv_load1 rfl rfl rfl)) ?_)
     rintro _ _ _ ⟨rfl, rfl, rfl⟩
     refine ⟨Suf.h, (fun _ h => h), ?_⟩
     refine th_one (by kernel_rfl) (step_m rfl rfl (opg_appendB rfl rfl rfl rfl (by omega) rfl) ?_)
     rintro _ _ _ ⟨aa, cc, rfl, rfl, rfl⟩
     refine ⟨Suf.h, (fun _ h => h), ?_⟩
     refine th_take rfl rfl (by kernel_rfl)  (opv_indexAddrA rfl rfl (by decide) (by decide)) ?_
     refine th_one (by kernel_rfl) (step_m rfl rfl (opg_store rfl rfl rfl rfl rfl rfl) ?_)
     rintro _ _ _ ⟨rfl, rfl⟩
     refine ⟨Suf.h, (fun _ h => h), ?_⟩
     refine yD (tri_inBlock (tT (tR (tM rfl rfl ?_))))
     refine yU rfl rfl ?_
     refine tA rfl rfl (tN (tT ?_))
     refine tri_perm (A := ?a10_0 :: ?a10_1 :: ?a10_2 :: ?a10_3 :: ?a10_4 :: ?a10_5 :: ?a10_6 :: ?T10) (B := ?a10_0 :: ?a10_3 :: ?a10_1 :: ?a10_4 :: ?a10_5 :: ?a10_2 :: ?a10_6 :: ?T10) (by exact permL [0, 3, 1, 4, 5, 2, 6] [?a10_0, ?a10_1, ?a10_2, ?a10_3, ?a10_4, ?a10_5, ?a10_6] ?T10 (by decide) rfl) ?_
     refine tri_drop ?_
     refine tri_drop ?_
     have hh := hK ⟨i + 1, a0, a1, aa, a3, c0, c1, cc, c3⟩ (by simp only; omega) (by simp only; omega)
     simp only [e0, e1, e2, e3, List.length_append, encs_append] at hh
     refine tri_sub ?_ hh
     exact ⟨rfl, rfl, rfl, rfl, rfl, trivial⟩
   ·have gx' : ¬ (R7.side lv ≤ (l.getD i default).x) := gx
    have gy' : ¬ (R7.side lv ≤ (l.getD i default).y) := gy
    have e0 : R7.part (R7.side lv) 0 (l.take (i + 1)) = R7.part (R7.side lv) 0 (l.take i) ++ [⟨(l.getD i default).x, (l.getD i default).y⟩] := by rw [en 0, if_pos (by unfold R7.qx; rw [if_neg gx', if_neg gy'])]; unfold R7.qc; rw [if_neg gx', if_neg gy']
    have e1 : R7.part (R7.side lv) 1 (l.take (i + 1)) = R7.part (R7.side lv) 1 (l.take i) := by rw [en 1, if_neg (by unfold R7.qx; rw [if_neg gx', if_neg gy']; decide), List.append_nil]
    have e2 : R7.part (R7.side lv) 2 (l.take (i + 1)) = R7.part (R7.side lv) 2 (l.take i) := by rw [en 2, if_neg (by unfold R7.qx; rw [if_neg gx', if_neg gy']; decide), List.append_nil]
    have e3 : R7.part (R7.side lv) 3 (l.take (i + 1)) = R7.part (R7.side lv) 3 (l.take i) := by rw [en 3, if_neg (by unfold R7.qx; rw [if_neg gx', if_neg gy']; decide), List.append_nil]
    refine tri_skip (tT ?_)
    refine tri_perm (A := ?a11_0 :: ?a11_1 :: ?a11_2 :: ?a11_3 :: ?a11_4 :: ?a11_5 :: ?T11) (B := ?a11_1 :: ?a11_2 :: ?a11_0 :: ?a11_3 :: ?a11_4 :: ?a11_5 :: ?T11) (by exact permL [1, 2, 0, 3, 4, 5] [?a11_0, ?a11_1, ?a11_2, ?a11_3, ?a11_4, ?a11_5] ?T11 (by decide) rfl) ?_
    skip
    refine tri_draw [0, 1, 2, 4, 3, 5, 6, 7, 8] rfl [_, _] rfl mixed ?_
    refine yM rfl rfl (yM rfl rfl ?_)
    refine th_take rfl rfl (by kernel_rfl)  (opv_indexAddrA rfl rfl (by decide) (by decide)) ?_
    refine th_take rfl rfl (by kernel_rfl)  (opv_loadA rfl rfl rfl) ?_
    refine th_two (j := 5) [3, 6, 7, 8] (by kernel_rfl) rfl ?_ ?_
    ·refine (step_m rfl rfl (OpV.toG (opv_load1 rfl rfl rfl)) ?_)
     rintro _ _ _ ⟨rfl, rfl, rfl⟩
     refine ⟨Suf.h, (fun _ h => h), ?_⟩
     refine th_one (by kernel_rfl) (step_m rfl rfl (opg_buildSlice rfl rfl rfl rfl) ?_)
     rintro _ _ _ ⟨b, rfl, rfl, rfl⟩
     refine ⟨Suf.h, (fun _ h => h), ?_⟩
     refine th_one (by kernel_rfl) (step_m rfl rfl (opg_appendB rfl rfl rfl rfl (by omega) rfl) ?_)
     rintro _ _ _ ⟨aa, cc, rfl, rfl, rfl⟩
     refine ⟨Suf.h, (fun _ h => h), ?_⟩
     refine th_take rfl rfl (by kernel_rfl)  (opv_indexAddrA rfl rfl (by decide) (by decide)) ?_
     refine th_one (by kernel_rfl) (step_m rfl rfl (opg_store rfl rfl rfl rfl rfl rfl) ?_)
     rintro _ _ _ ⟨rfl, rfl⟩
     refine ⟨Suf.h, (fun _ h => h), ?_⟩
     refine yD (tri_inBlock (tT (tR (tM rfl rfl ?_))))
     refine yU rfl rfl ?_
     refine tA rfl rfl (tN (tT ?_))
     refine tri_perm (A := ?a12_0 :: ?a12_1 :: ?a12_2 :: ?a12_3 :: ?a12_4 :: ?a12_5 :: ?a12_6 :: ?T12) (B := ?a12_0 :: ?a12_3 :: ?a12_1 :: ?a12_2 :: ?a12_4 :: ?a12_5 :: ?a12_6 :: ?T12) (by exact permL [0, 3, 1, 2, 4, 5, 6] [?a12_0, ?a12_1, ?a12_2, ?a12_3, ?a12_4, ?a12_5, ?a12_6] ?T12 (by decide) rfl) ?_
     refine tri_drop ?_
     refine tri_drop ?_
     have hh := hK ⟨i + 1, aa, a1, a2, a3, cc, c1, c2, c3⟩ (by simp only; omega) (by simp only; omega)
     simp only [e0, e1, e2, e3, List.length_append, encs_append] at hh
     refine tri_sub ?_ hh
     exact ⟨rfl, rfl, rfl, rfl, rfl, trivial⟩
    ·refine (step_m rfl rfl (opg_buildSlice rfl rfl rfl rfl) ?_)
     rintro _ _ _ ⟨b, rfl, rfl, rfl⟩
     refine ⟨Suf.h, (fun _ h => h), ?_⟩
     refine th_one (by kernel_rfl) (step_m rfl rfl (OpV.toG (opv_load1 rfl rfl rfl)) ?_)
     rintro _ _ _ ⟨rfl, rfl, rfl⟩
     refine ⟨Suf.h, (fun _ h => h), ?_⟩
     refine th_one (by kernel_rfl) (step_m rfl rfl (opg_appendB rfl rfl rfl rfl (by omega) rfl) ?_)
     rintro _ _ _ ⟨aa, cc, rfl, rfl, rfl⟩
     refine ⟨Suf.h, (fun _ h => h), ?_⟩
     refine th_take rfl rfl (by kernel_rfl)  (opv_indexAddrA rfl rfl (by decide) (by decide)) ?_
     refine th_one (by kernel_rfl) (step_m rfl rfl (opg_store rfl rfl rfl rfl rfl rfl) ?_)
     rintro _ _ _ ⟨rfl, rfl⟩
     refine ⟨Suf.h, (fun _ h => h), ?_⟩
     refine yD (tri_inBlock (tT (tR (tM rfl rfl ?_))))
     refine yU rfl rfl ?_
     refine tA rfl rfl (tN (tT ?_))
     refine tri_perm (A := ?a13_0 :: ?a13_1 :: ?a13_2 :: ?a13_3 :: ?a13_4 :: ?a13_5 :: ?a13_6 :: ?T13) (B := ?a13_0 :: ?a13_3 :: ?a13_1 :: ?a13_2 :: ?a13_4 :: ?a13_5 :: ?a13_6 :: ?T13) (by exact permL [0, 3, 1, 2, 4, 5, 6] [?a13_0, ?a13_1, ?a13_2, ?a13_3, ?a13_4, ?a13_5, ?a13_6] ?T13 (by decide) rfl) ?_
     refine tri_drop ?_
     refine tri_drop ?_
     have hh := hK ⟨i + 1, aa, a1, a2, a3, cc, c1, c2, c3⟩ (by simp only; omega) (by simp only; omega)
     simp only [e0, e1, e2, e3, List.length_append, encs_append] at hh
     refine tri_sub ?_ hh
     exact ⟨rfl, rfl, rfl, rfl, rfl, trivial⟩
 ·have e : l.take i = l := List.take_of_length_le (by omega)
  rw [e]
  refine tri_exit ?_
  refine tri_then_exit (tri_then_exit ?_)
  refine tri_inBlock_hit rfl ?_
  refine tT (tS (tR ?_))
  refine yB rfl rfl ?_
  refine yG rfl rfl rfl rfl rfl rfl ?_
  rintro _ _ _ ⟨rfl, rfl⟩
  refine tN (tT (tri_ret ?_))
  refine tri_perm (A := ?a14_0 :: ?a14_1 :: ?a14_2 :: ?a14_3 :: ?a14_4 :: ?T14) (B := ?a14_1 :: ?a14_2 :: ?a14_3 :: ?a14_4 :: ?a14_0 :: ?T14) (by exact permL [1, 2, 3, 4, 0] [?a14_0, ?a14_1, ?a14_2, ?a14_3, ?a14_4] ?T14 (by decide) rfl) ?_
  refine tri_freezeRow rfl fun I0 hI0 hs0 => ?_
  refine tri_freezeRow rfl fun I1 hI1 hs1 => ?_
  refine tri_freezeRow rfl fun I2 hI2 hs2 => ?_
  refine tri_freezeRow rfl fun I3 hI3 hs3 => ?_
  refine tri_end A Suf.h rfl (.cons (rv_cellA rfl rfl rfl) .nil) ?_
  exact ⟨a0, c0, a1, c1, a2, c2, a3, c3, rfl, hs0.mono fun _ h => hI3 (hI2 (hI1 h)), hs1.mono fun _ h => hI3 (hI2 h), hs2.mono fun _ h => hI3 h, hs3, rfl, fun _ h => hI3 (hI2 (hI1 (hI0 h)))⟩
end Go.GL


namespace Go.GL
open Go.Proofs
attribute [local irreducible] wpList Code.wp Exit.then Exit.inBlock Ends Tri TriH OpV OpG FnC epf wpAnyH
variable {A : List Asrt} {I : List Chunk}
set_option maxHeartbeats 1000000 in
set_option maxRecDepth 100000 in
theorem ref07_empty {ns : List Node} {a : Option Addr} {cap lv : Nat} {room : Int} (hs : StA I a cap ns) (hg : R6.Good ns room) (hlv : lv ≤ 1000) :
  FnC Try.prog 81 [storeV a ns.length cap room, .int .i64 (lv : Nat)].toArray A I (StoreR (R7.empty ns room lv) room A I) := by
 refine fn_enter2 Try.func81 rfl Try.ntmps81 rfl fun w0 => ?_
 refine tS (tR ?_)
 refine tri_g (opg_box_agg rfl) rfl ?_
 rintro _ _ _ ⟨b, rfl, rfl, rfl⟩
 refine tri_g opg_alloc rfl ?_
 rintro _ _ _ ⟨b, rfl, rfl, rfl⟩
 refine tA rfl rfl (tA rfl rfl (tN (tT (tS (tR (tA rfl rfl (tN ?_)))))))
 refine tT (tS (tS (tR (tA rfl rfl (tN (tT (tri_block ?_)))))))
 rename_i b2
 revert b; intro b4
 refine tri_sub (F' := [(1, .int .i64 (lv : Nat)), (2, pt b2 0), (4, pt b4 0), (7, .int .i64 (0 : Int)), (8, .int .i64 (0 : Nat))]) ⟨rfl, rfl, rfl, rfl, rfl, trivial⟩ ?_
 refine loop_ind (G := Nat × List Node × Int × Option Addr × Nat × List Chunk) (fun g => lv - g.1) (fun g => g.1 ≤ lv ∧ StA g.2.2.2.2.2 g.2.2.2.1 g.2.2.2.2.1 g.2.1 ∧ I ⊆ g.2.2.2.2.2 ∧ R6.Good g.2.1 room ∧ R7.empty ns room lv = R7.emptyF room (lv - g.1) g.2.1 g.2.2.1) (fun g => [(1, .int .i64 (lv : Nat)), (2, pt b2 0), (4, pt b4 0), (7, .int .i64 g.2.2.1), (8, .int .i64 (g.1 : Nat))]) (fun g => Box b4 [.slice none 0 0, .int .i64 0] 26 :: Box b2 [.slice g.2.2.2.1 g.2.1.length g.2.2.2.2.1, .int .i64 room] 26 :: A) (fun g => g.2.2.2.2.2) ?_ (0, ns, 0, a, cap, I) ⟨by simp, hs, fun _ h => h, hg, rfl⟩
 rintro ⟨i, ms, n, a1, cap1, I1⟩ ⟨hi, hs1, hI1, hg1, he⟩ K hK
 simp only at hi hs1 hI1 hg1 he hK ⊢
 skip
 refine tS (tS (tR (tM rfl rfl (tM rfl rfl (yC rfl rfl (tN (tT ?_)))))))
 refine tri_cond_dec rfl (fun h => ?_) (fun h => ?_)
 ·have hk : lv - i = (lv - (i + 1)) + 1 := by omega
  rw [hk] at he
  unfold R7.emptyF at he
  have hg2 := hg1.put n n n n
  refine tri_skip (tT (tS (tri_block (tS (tR ?_)))))
  refine yB rfl rfl ?_
  refine tM rfl rfl (tM rfl rfl (tM rfl rfl (tM rfl rfl ?_)))
  refine tri_v (opv_buildA rfl rfl) rfl ?_
  refine tri_g (opg_call (xs := [_, _]) rfl (ref06_put hs1 hg1.len hg1.mod)) rfl ?_
  rintro _ _ I2 ⟨a2, cap2, rfl, hs2, rfl, hI2⟩
  refine tM rfl rfl ?_
  refine tri_v (opv_extract rfl rfl) rfl ?_
  refine tri_v (opv_extract rfl rfl) rfl ?_
  refine tri_v (opv_extract rfl rfl) rfl ?_
  refine tri_g opg_alloc rfl ?_
  rintro _ _ _ ⟨b, rfl, rfl, rfl⟩
  refine yG rfl rfl rfl rfl rfl rfl ?_
  rintro _ _ _ ⟨rfl, rfl⟩
  refine tA rfl rfl (tA rfl rfl (tN (tT (tS (tS (tR (tM rfl rfl ?_)))))))
  refine tri_v (opv_neq rfl rfl) rfl ?_
  refine tN (tT ?_)
  refine tri_cond_dec rfl (fun h2 => ?_) (fun h2 => ?_)
  ·rw [if_pos h2] at he
   refine tS (tR ?_)
   refine yB rfl rfl ?_
   refine tM rfl rfl ?_
   refine yG rfl rfl rfl rfl rfl rfl ?_
   rintro _ _ _ ⟨rfl, rfl⟩
   refine tA rfl rfl (tA rfl rfl (tN (tT (tri_ret (tri_then_ret (tri_inBlock_ret (tri_then_ret ?_)))))))
   refine tri_then_ret (tri_inBlock_ret (tri_then_ret ?_))
   refine tri_end A Suf.h rfl (.cons (rv_cellA rfl rfl rfl) (.cons (rv_tmp rfl) (.cons (rv_tmp rfl) .nil))) ?_
   rw [he]
   exact ⟨a1, cap1, rfl, hs1.mono hI2, rfl, fun _ h => hI2 (hI1 h)⟩
  ·rw [if_neg h2] at he
   refine tri_skip (tT (tS (tR ?_)))
   refine yB rfl rfl ?_
   refine yG rfl rfl rfl rfl rfl rfl ?_
   rintro _ _ _ ⟨rfl, rfl⟩
   refine tN (tT (tR (tM rfl rfl (tA rfl rfl (tN (tri_inBlock (tT ?_)))))))
   refine tR (tM rfl rfl ?_)
   refine yU rfl rfl ?_
   refine tA rfl rfl (tN (tT ?_))
   refine tri_drop ?_
   refine tri_sub ?_ (hK (i + 1, (R6.put ms room n n n n).1, (R6.put ms room n n n n).2.1, a2, cap2, I2) ⟨by simp only; omega, hs2, fun _ h => hI2 (hI1 h), hg2, he⟩ (by simp only; omega))
   exact ⟨rfl, rfl, rfl, rfl, rfl, trivial⟩
 ·have hk : lv - i = 0 := by omega
  rw [hk] at he
  unfold R7.emptyF at he
  refine tri_exit ?_
  refine tri_then_exit (tri_then_exit ?_)
  refine tri_inBlock_hit rfl ?_
  refine tT (tS (tR ?_))
  refine yB rfl rfl ?_
  refine tM rfl rfl ?_
  refine yG rfl rfl rfl rfl rfl rfl ?_
  rintro _ _ _ ⟨rfl, rfl⟩
  refine tA rfl rfl (tA rfl rfl (tN (tT (tri_ret ?_))))
  refine tri_end A Suf.h rfl (.cons (rv_cellA rfl rfl rfl) (.cons (rv_tmp rfl) (.cons (rv_tmp rfl) .nil))) ?_
  rw [he]
  exact ⟨a1, cap1, rfl, hs1, rfl, hI1⟩
end Go.GL


namespace Go.GL
open Go.Proofs
attribute [local irreducible] wpList Code.wp Exit.then Exit.inBlock Ends Tri TriH OpV OpG FnC epf wpAnyH
theorem R7.side_nat {z : Int} {m : Nat} (h : z = ((m + 1 : Nat) : Int)) : R7.side z = 2 ^ m := by
 unfold R7.side
 congr 1
 omega
theorem R7.build_nil (room : Int) (lv : Nat) (ns : List Node) : R7.build room lv ns [] = R7.empty ns room lv := by cases lv <;> rfl
theorem R7.build_zero (room : Int) (ns : List Node) {l : List Cell} (h : l ≠ []) : R7.build room 0 ns l = (ns, 1, 0) := by
 cases l with
 | nil => exact absurd rfl h
 | cons c l => rfl
theorem R7.build_succ (room : Int) (lv : Nat) (ns : List Node) {l : List Cell} (h : l ≠ []) {r0 r1 r2 r3 : List Node × Int × Int} (h0 : R7.build room lv ns (R7.part (2 ^ lv) 0 l) = r0) (h1 : R7.build room lv r0.1 (R7.part (2 ^ lv) 1 l) = r1) (h2 : R7.build room lv r1.1 (R7.part (2 ^ lv) 2 l) = r2) (h3 : R7.build room lv r2.1 (R7.part (2 ^ lv) 3 l) = r3) :
  R7.build room (lv + 1) ns l = if r0.2.2 ≠ 0 then (ns, 0, r0.2.2) else if r1.2.2 ≠ 0 then (r0.1, 0, r1.2.2) else if r2.2.2 ≠ 0 then (r1.1, 0, r2.2.2) else if r3.2.2 ≠ 0 then (r2.1, 0, r3.2.2) else R6.put r3.1 room r0.2.1 r1.2.1 r2.2.1 r3.2.1 := by
 subst h3; subst h2; subst h1; subst h0
 cases l with
 | nil => exact absurd rfl h
 | cons c l => rfl
theorem R7.emptyF_good (room : Int) : ∀ (k : Nat) (ns : List Node) (n : Int), R6.Good ns room → R6.Good (R7.emptyF room k ns n).1 room
 | 0, ns, n, h => h
 | k + 1, ns, n, h => by
  unfold R7.emptyF
  split
  ·exact h
  ·exact R7.emptyF_good room k _ _ (h.put n n n n)
theorem R7.build_good (room : Int) : ∀ (lv : Nat) (ns : List Node) (l : List Cell), R6.Good ns room → R6.Good (R7.build room lv ns l).1 room
 | lv, ns, [], h => by rw [R7.build_nil]; exact R7.emptyF_good room lv ns 0 h
 | 0, ns, c :: l, h => by rw [R7.build_zero _ _ (by simp)]; exact h
 | lv + 1, ns, c :: l, h => by
  have g0 := R7.build_good room lv ns (R7.part (2 ^ lv) 0 (c :: l)) h
  generalize h0 : R7.build room lv ns (R7.part (2 ^ lv) 0 (c :: l)) = r0 at g0
  have g1 := R7.build_good room lv r0.1 (R7.part (2 ^ lv) 1 (c :: l)) g0
  generalize h1 : R7.build room lv r0.1 (R7.part (2 ^ lv) 1 (c :: l)) = r1 at g1
  have g2 := R7.build_good room lv r1.1 (R7.part (2 ^ lv) 2 (c :: l)) g1
  generalize h2 : R7.build room lv r1.1 (R7.part (2 ^ lv) 2 (c :: l)) = r2 at g2
  have g3 := R7.build_good room lv r2.1 (R7.part (2 ^ lv) 3 (c :: l)) g2
  generalize h3 : R7.build room lv r2.1 (R7.part (2 ^ lv) 3 (c :: l)) = r3 at g3
  rw [R7.build_succ room lv ns (by simp) h0 h1 h2 h3]
  split
  ·exact h
  ·split
   ·exact g0
   ·split
    ·exact g1
    ·split
     ·exact g2
     ·exact g3.put ..
theorem R7.part_bd {hf : Int} (h0 : 0 ≤ hf) {k : Nat} {l : List Cell} {B : Int} (hb : ∀ c ∈ l, c.x ≤ B ∧ c.y ≤ B) : ∀ c ∈ R7.part hf k l, c.x ≤ B ∧ c.y ≤ B := by
 intro c hc
 unfold R7.part at hc
 obtain ⟨d, hd, rfl⟩ := List.mem_map.1 hc
 have := hb d (List.mem_filter.1 hd).1
 unfold R7.qc
 simp only
 constructor <;> split <;> omega
def BuildSpec (lv : Nat) : Prop := ∀ (z : Int) (A : List Asrt) (I : List Chunk) (ns : List Node) (a b : Option Addr) (cap cap2 : Nat) (room : Int) (l : List Cell) (r : List Node × Int × Int), z = lv → lv ≤ 42 → StA I a cap ns → R6.Good ns room → SlAt I b l → l.length ≤ 1000000000 → (∀ c ∈ l, c.x ≤ 4398046511104 ∧ c.y ≤ 4398046511104) → R7.build room lv ns l = r →
 FnC Try.prog 62 [storeV a ns.length cap room, .slice b l.length cap2, .int .i64 z].toArray A I (StoreR r room A I)
set_option maxHeartbeats 1000000 in
set_option maxRecDepth 100000 in
theorem ref07_build_step (lv : Nat) (ih : ∀ m, m < lv → BuildSpec m) : BuildSpec lv := by
 intro z A I ns a bb cap cap2 room l r hz hlv hs hg hsl hn hb hr
 skip
 refine fn_enter3 Try.func62 rfl Try.ntmps62 rfl fun w0 => ?_
 refine tS (tR ?_)
 refine tri_g (opg_box_agg rfl) rfl ?_
 rintro _ _ _ ⟨b3, rfl, rfl, rfl⟩
 refine tri_g opg_alloc rfl ?_
 rintro _ _ _ ⟨b6, rfl, rfl, rfl⟩
 refine tA rfl rfl (tA rfl rfl (tN (tT (tS (tS (tR (tM rfl rfl ?_)))))))
 refine tri_v (opv_len rfl) rfl ?_
 refine tri_v (opv_eql rfl rfl) rfl ?_
 refine tN (tT ?_)
 refine tri_cond_dec rfl (fun h0 => ?_) (fun h0 => ?_)
 ·have hl : l = [] := List.length_eq_zero_iff.1 (by omega)
  subst hl
  rw [R7.build_nil] at hr
  subst hr
  subst hz
  refine tS (tR ?_)
  refine yB rfl rfl ?_
  refine tM rfl rfl ?_
  refine tri_g (opg_call (xs := [_, _]) rfl (ref07_empty (lv := lv) hs hg (by omega))) rfl ?_
  rintro _ _ I2 ⟨a2, cap3, rfl, hs2, rfl, hI2⟩
  refine tri_v (opv_extract rfl rfl) rfl ?_
  refine tri_v (opv_extract rfl rfl) rfl ?_
  refine tri_v (opv_extract rfl rfl) rfl ?_
  refine yG rfl rfl rfl rfl rfl rfl ?_
  rintro _ _ _ ⟨rfl, rfl⟩
  refine tA rfl rfl (tA rfl rfl (tN (tT (tri_ret (tri_then_ret ?_)))))
  refine tri_end A Suf.h rfl (.cons (rv_cellA rfl rfl rfl) (.cons (rv_tmp rfl) (.cons (rv_tmp rfl) .nil))) ?_
  exact ⟨a2, cap3, rfl, hs2, rfl, hI2⟩
 have hne : l ≠ [] := fun h => h0 (by rw [h]; rfl)
 refine tri_skip (tT (tS (tS (tR (tM rfl rfl ?_)))))
 refine tri_v (opv_eql rfl rfl) rfl ?_
 refine tN (tT ?_)
 refine tri_cond_dec rfl (fun hz0 => ?_) (fun hz0 => ?_)
 ·have hl : lv = 0 := by omega
  subst hl
  rw [R7.build_zero _ _ hne] at hr
  subst hr
  refine tS (tR ?_)
  refine yB rfl rfl ?_
  refine yG rfl rfl rfl rfl rfl rfl ?_
  rintro _ _ _ ⟨rfl, rfl⟩
  refine tA rfl rfl (tA rfl rfl (tN (tT (tri_ret (tri_then_ret ?_)))))
  refine tri_end A Suf.h rfl (.cons (rv_cellA rfl rfl rfl) (.cons (rv_tmp rfl) (.cons (rv_tmp rfl) .nil))) ?_
  exact ⟨a, cap, rfl, hs, rfl, fun _ h => h⟩
 obtain ⟨m, rfl⟩ : ∃ m, lv = m + 1 := ⟨lv - 1, by omega⟩
 have hsd : R7.side z = 2 ^ m := R7.side_nat hz
 have hnn : 0 ≤ R7.side z := by have := (R7.side_bd (lv := z) (by omega)).1; omega
 obtain ⟨r0, hr0⟩ : ∃ r, R7.build room m ns (R7.part (R7.side z) 0 l) = r := ⟨_, rfl⟩
 obtain ⟨r1, hr1⟩ : ∃ r, R7.build room m r0.1 (R7.part (R7.side z) 1 l) = r := ⟨_, rfl⟩
 obtain ⟨r2, hr2⟩ : ∃ r, R7.build room m r1.1 (R7.part (R7.side z) 2 l) = r := ⟨_, rfl⟩
 obtain ⟨r3, hr3⟩ : ∃ r, R7.build room m r2.1 (R7.part (R7.side z) 3 l) = r := ⟨_, rfl⟩
 have hb' := R7.build_succ room m ns hne (hsd ▸ hr0) (hsd ▸ hr1) (hsd ▸ hr2) (hsd ▸ hr3)
 rw [hr] at hb'
 have g0 : R6.Good r0.1 room := hr0 ▸ R7.build_good room m ns _ hg
 have g1 : R6.Good r1.1 room := hr1 ▸ R7.build_good room m _ _ g0
 have g2 : R6.Good r2.1 room := hr2 ▸ R7.build_good room m _ _ g1
 have g3 : R6.Good r3.1 room := hr3 ▸ R7.build_good room m _ _ g2
 have pl := fun k => R7.part_len (R7.side z) k l
 refine tri_skip (tT (tS (tR (tM rfl rfl (tM rfl rfl ?_)))))
 refine tri_g (opg_call (xs := [_, _]) rfl (ref07_parts (lv := z) hsl hn (by omega) (by omega) hb)) rfl ?_
 rintro _ _ J0 ⟨a0, c0, a1, c1, a2, c2, a3, c3, rfl, hp0, hp1, hp2, hp3, rfl, hJ0⟩
 refine tri_g opg_alloc rfl ?_
 rintro _ _ _ ⟨b9, rfl, rfl, rfl⟩
 refine yG rfl rfl rfl rfl rfl rfl ?_
 rintro _ _ _ ⟨rfl, rfl⟩
 refine tN (tT (tS (tR ?_)))
 refine tri_g opg_alloc rfl ?_
 rintro _ _ _ ⟨b10, rfl, rfl, rfl⟩
 refine tN (tT (tS (tS (tR (tA rfl rfl (tN (tT ?_)))))))
 refine tri_block ?_
 refine tri_rounds 5 ?_
 refine tri_round (tS (tS (tR (tM rfl rfl (yC rfl rfl (tN (tT ?_)))))))
 refine tri_cond_is rfl (by decide) ?_
 refine tri_skip (tT (tS (tri_block (tS ?_))))
 refine tri_cut (fun F' A' J1 => ∃ b12 d0 e0, F' = [(1, .slice bb l.length cap2), (2, .int .i64 z), (3, pt b3 0), (6, pt b6 0), (9, pt b9 0), (10, pt b10 0), (11, .int .i64 0), (12, pt b12 0), (13, .int .i64 r0.2.1), (14, .int .i64 r0.2.2)] ∧ A' = Box b12 [.slice d0 r0.1.length e0, .int .i64 room] 26 :: Box b10 [.int .i64 0, .int .i64 0, .int .i64 0, .int .i64 0] 33 :: Box b9 [.slice a0 (R7.part (R7.side z) 0 l).length c0, .slice a1 (R7.part (R7.side z) 1 l).length c1, .slice a2 (R7.part (R7.side z) 2 l).length c2, .slice a3 (R7.part (R7.side z) 3 l).length c3] 109 :: Box b6 [.slice none 0 0, .int .i64 0] 26 :: Box b3 [.slice a ns.length cap, .int .i64 room] 26 :: A ∧ StA J1 d0 e0 r0.1 ∧ J0 ⊆ J1) ?_ ?_
 ·refine tri_draw [0, 1, 2, 3, 4, 5, 6, 7, 8, 9, 10, 11, 12, 13, 14] rfl [] rfl mixed ?_
  refine th_take rfl rfl (by kernel_rfl)  (opv_loadA rfl rfl rfl) ?_
  refine yM rfl rfl ?_
  refine th_take rfl rfl (by kernel_rfl)  (opv_indexAddrA rfl rfl (by decide) (by decide)) ?_
  refine yl rfl rfl rfl ?_
  refine yM rfl rfl ?_
  refine th_take rfl rfl (by kernel_rfl)  (opv_sub rfl rfl (w64 (by omega) (by omega))) ?_
  refine th_two (j := 11) [6, 7, 8, 9, 10, 12, 13, 14] (by kernel_rfl) rfl ?_ ?_
  ·refine (step_m rfl rfl (opg_call (xs := [_, _, _]) rfl (ih m (by omega) _ _ _ _ _ _ _ _ room _ r0 (by omega) (by omega) (hs.mono hJ0) hg hp0 (by have := pl 0; omega) (R7.part_bd hnn hb) hr0)) ?_)
   rintro _ _ J1 ⟨d0, e0, rfl, hq0, rfl, hJ1⟩
   refine ⟨Suf.h, hJ1, ?_⟩
   refine yM rfl rfl (yE rfl rfl rfl (yE rfl rfl rfl (yE rfl rfl rfl ?_)))
   refine th_one (by kernel_rfl) (step_m rfl rfl opg_alloc ?_)
   rintro _ _ _ ⟨b12, rfl, rfl, rfl⟩
   refine ⟨Suf.h, (by assumption), ?_⟩
   refine th_one (by kernel_rfl) (step_m rfl rfl (opg_store rfl rfl rfl rfl rfl rfl) ?_)
   rintro _ _ _ ⟨rfl, rfl⟩
   refine ⟨Suf.h, (by assumption), ?_⟩
   refine yA rfl rfl (yA rfl rfl (yD ?_))
   refine tri_cutEnd _ ⟨b12, d0, e0, rfl, rfl, hq0, hJ1⟩ ⟨rfl, rfl, rfl, rfl, rfl, rfl, rfl, rfl, rfl, rfl, trivial⟩
  ·refine (step_m rfl rfl opg_alloc ?_)
   rintro _ _ _ ⟨b12, rfl, rfl, rfl⟩
   refine ⟨Suf.h, (fun _ h => h), ?_⟩
   refine th_one (by kernel_rfl) (step_m rfl rfl (opg_call (xs := [_, _, _]) rfl (ih m (by omega) _ _ _ _ _ _ _ _ room _ r0 (by omega) (by omega) (hs.mono hJ0) hg hp0 (by have := pl 0; omega) (R7.part_bd hnn hb) hr0)) ?_)
   rintro _ _ J1 ⟨d0, e0, rfl, hq0, rfl, hJ1⟩
   refine ⟨Suf.h, hJ1, ?_⟩
   refine yM rfl rfl (yE rfl rfl rfl (yE rfl rfl rfl (yE rfl rfl rfl ?_)))
   refine th_one (by kernel_rfl) (step_m rfl rfl (opg_store rfl rfl rfl rfl rfl rfl) ?_)
   rintro _ _ _ ⟨rfl, rfl⟩
   refine ⟨Suf.h, (by assumption), ?_⟩
   refine yA rfl rfl (yA rfl rfl (yD ?_))
   refine tri_cutEnd _ ⟨b12, d0, e0, rfl, rfl, hq0, hJ1⟩ ⟨rfl, rfl, rfl, rfl, rfl, rfl, rfl, rfl, rfl, rfl, trivial⟩
 rintro _ _ J1 ⟨b12, d0, e0, rfl, rfl, hq0, hJ1⟩
 skip
 refine tT (tS (tS (tR (tM rfl rfl ?_))))
 refine tri_v (opv_neq rfl rfl) rfl ?_
 refine tN (tT ?_)
 refine tri_cond_dec rfl (fun x0 => ?_) (fun x0 => ?_)
 ·rw [if_pos x0] at hb'
  refine tS (tR ?_)
  refine yB rfl rfl ?_
  refine tM rfl rfl ?_
  refine yG rfl rfl rfl rfl rfl rfl ?_
  rintro _ _ _ ⟨rfl, rfl⟩
  refine tA rfl rfl (tA rfl rfl (tN (tT (tri_ret (tri_then_ret (tri_inBlock_ret (tri_then_ret ?_)))))))
  refine tri_then_ret (tri_inBlock_ret (tri_then_ret ?_))
  refine tri_end A Suf.h rfl (.cons (rv_cellA rfl rfl rfl) (.cons (rv_tmp rfl) (.cons (rv_tmp rfl) .nil))) ?_
  rw [hb']
  exact ⟨a, cap, rfl, hs.mono (fun _ h => hJ1 (hJ0 (h))), rfl, fun _ h => hJ1 (hJ0 (h))⟩
 skip
 refine tri_skip (tT (tS (tR ?_)))
 refine yB rfl rfl ?_
 refine yG rfl rfl rfl rfl rfl rfl ?_
 rintro _ _ _ ⟨rfl, rfl⟩
 refine tN (tT (tR (tM rfl rfl (tM rfl rfl ?_))))
 refine tri_v (opv_indexAddrA rfl rfl (by decide) (by decide)) rfl ?_
 refine yG rfl rfl rfl rfl rfl rfl ?_
 rintro _ _ _ ⟨rfl, rfl⟩
 refine tN (tri_inBlock (tT ?_))
 refine tri_drop ?_
 refine tR (tM rfl rfl ?_)
 refine yU rfl rfl ?_
 refine tA rfl rfl (tN (tT (tri_round (tS (tS (tR (tM rfl rfl ?_)))))))
 refine yC rfl rfl (tN (tT ?_))
 refine tri_cond_is rfl (by decide) ?_
 refine tri_skip (tT (tS (tri_block (tS ?_))))
 refine tri_cut (fun F' A' J2 => ∃ b12 d1 e1, F' = [(1, .slice bb l.length cap2), (2, .int .i64 z), (3, pt b3 0), (6, pt b6 0), (9, pt b9 0), (10, pt b10 0), (11, .int .i64 1), (12, pt b12 0), (13, .int .i64 r1.2.1), (14, .int .i64 r1.2.2)] ∧ A' = Box b12 [.slice d1 r1.1.length e1, .int .i64 room] 26 :: Box b10 [.int .i64 r0.2.1, .int .i64 0, .int .i64 0, .int .i64 0] 33 :: Box b9 [.slice a0 (R7.part (R7.side z) 0 l).length c0, .slice a1 (R7.part (R7.side z) 1 l).length c1, .slice a2 (R7.part (R7.side z) 2 l).length c2, .slice a3 (R7.part (R7.side z) 3 l).length c3] 109 :: Box b6 [.slice none 0 0, .int .i64 0] 26 :: Box b3 [.slice d0 r0.1.length e0, .int .i64 room] 26 :: A ∧ StA J2 d1 e1 r1.1 ∧ J1 ⊆ J2) ?_ ?_
 ·refine tri_draw [0, 1, 2, 3, 4, 5, 6, 7, 8, 9, 10, 11, 12, 13, 14] rfl [] rfl mixed ?_
  refine th_take rfl rfl (by kernel_rfl)  (opv_loadA rfl rfl rfl) ?_
  refine yM rfl rfl ?_
  refine th_take rfl rfl (by kernel_rfl)  (opv_indexAddrA rfl rfl (by decide) (by decide)) ?_
  refine yl rfl rfl rfl ?_
  refine yM rfl rfl ?_
  refine th_take rfl rfl (by kernel_rfl)  (opv_sub rfl rfl (w64 (by omega) (by omega))) ?_
  refine th_two (j := 11) [6, 7, 8, 9, 10, 12, 13, 14] (by kernel_rfl) rfl ?_ ?_
  ·refine (step_m rfl rfl (opg_call (xs := [_, _, _]) rfl (ih m (by omega) _ _ _ _ _ _ _ _ room _ r1 (by omega) (by omega) (hq0) g0 (hp1.mono (fun _ h => hJ1 (h))) (by have := pl 1; omega) (R7.part_bd hnn hb) hr1)) ?_)
   rintro _ _ J2 ⟨d1, e1, rfl, hq1, rfl, hJ2⟩
   refine ⟨Suf.h, hJ2, ?_⟩
   refine yM rfl rfl (yE rfl rfl rfl (yE rfl rfl rfl (yE rfl rfl rfl ?_)))
   refine th_one (by kernel_rfl) (step_m rfl rfl opg_alloc ?_)
   rintro _ _ _ ⟨b12, rfl, rfl, rfl⟩
   refine ⟨Suf.h, (by assumption), ?_⟩
   refine th_one (by kernel_rfl) (step_m rfl rfl (opg_store rfl rfl rfl rfl rfl rfl) ?_)
   rintro _ _ _ ⟨rfl, rfl⟩
   refine ⟨Suf.h, (by assumption), ?_⟩
   refine yA rfl rfl (yA rfl rfl (yD ?_))
   refine tri_cutEnd _ ⟨b12, d1, e1, rfl, rfl, hq1, hJ2⟩ ⟨rfl, rfl, rfl, rfl, rfl, rfl, rfl, rfl, rfl, rfl, trivial⟩
  ·refine (step_m rfl rfl opg_alloc ?_)
   rintro _ _ _ ⟨b12, rfl, rfl, rfl⟩
   refine ⟨Suf.h, (fun _ h => h), ?_⟩
   refine th_one (by kernel_rfl) (step_m rfl rfl (opg_call (xs := [_, _, _]) rfl (ih m (by omega) _ _ _ _ _ _ _ _ room _ r1 (by omega) (by omega) (hq0) g0 (hp1.mono (fun _ h => hJ1 (h))) (by have := pl 1; omega) (R7.part_bd hnn hb) hr1)) ?_)
   rintro _ _ J2 ⟨d1, e1, rfl, hq1, rfl, hJ2⟩
   refine ⟨Suf.h, hJ2, ?_⟩
   refine yM rfl rfl (yE rfl rfl rfl (yE rfl rfl rfl (yE rfl rfl rfl ?_)))
   refine th_one (by kernel_rfl) (step_m rfl rfl (opg_store rfl rfl rfl rfl rfl rfl) ?_)
   rintro _ _ _ ⟨rfl, rfl⟩
   refine ⟨Suf.h, (by assumption), ?_⟩
   refine yA rfl rfl (yA rfl rfl (yD ?_))
   refine tri_cutEnd _ ⟨b12, d1, e1, rfl, rfl, hq1, hJ2⟩ ⟨rfl, rfl, rfl, rfl, rfl, rfl, rfl, rfl, rfl, rfl, trivial⟩
 rintro _ _ J2 ⟨b12, d1, e1, rfl, rfl, hq1, hJ2⟩
 skip
 refine tT (tS (tS (tR (tM rfl rfl ?_))))
 refine tri_v (opv_neq rfl rfl) rfl ?_
 refine tN (tT ?_)
 refine tri_cond_dec rfl (fun x1 => ?_) (fun x1 => ?_)
 ·rw [if_neg x0, if_pos x1] at hb'
  refine tS (tR ?_)
  refine yB rfl rfl ?_
  refine tM rfl rfl ?_
  refine yG rfl rfl rfl rfl rfl rfl ?_
  rintro _ _ _ ⟨rfl, rfl⟩
  refine tA rfl rfl (tA rfl rfl (tN (tT (tri_ret (tri_then_ret (tri_inBlock_ret (tri_then_ret ?_)))))))
  refine tri_then_ret (tri_inBlock_ret (tri_then_ret ?_))
  refine tri_end A Suf.h rfl (.cons (rv_cellA rfl rfl rfl) (.cons (rv_tmp rfl) (.cons (rv_tmp rfl) .nil))) ?_
  rw [hb']
  exact ⟨d0, e0, rfl, hq0.mono hJ2, rfl, fun _ h => hJ2 (hJ1 (hJ0 (h)))⟩
 skip
 refine tri_skip (tT (tS (tR ?_)))
 refine yB rfl rfl ?_
 refine yG rfl rfl rfl rfl rfl rfl ?_
 rintro _ _ _ ⟨rfl, rfl⟩
 refine tN (tT (tR (tM rfl rfl (tM rfl rfl ?_))))
 refine tri_v (opv_indexAddrA rfl rfl (by decide) (by decide)) rfl ?_
 refine yG rfl rfl rfl rfl rfl rfl ?_
 rintro _ _ _ ⟨rfl, rfl⟩
 refine tN (tri_inBlock (tT ?_))
 refine tri_drop ?_
 refine tR (tM rfl rfl ?_)
 refine yU rfl rfl ?_
 refine tA rfl rfl (tN (tT (tri_round (tS (tS (tR (tM rfl rfl ?_)))))))
 refine yC rfl rfl (tN (tT ?_))
 refine tri_cond_is rfl (by decide) ?_
 refine tri_skip (tT (tS (tri_block (tS ?_))))
 refine tri_cut (fun F' A' J3 => ∃ b12 d2 e2, F' = [(1, .slice bb l.length cap2), (2, .int .i64 z), (3, pt b3 0), (6, pt b6 0), (9, pt b9 0), (10, pt b10 0), (11, .int .i64 2), (12, pt b12 0), (13, .int .i64 r2.2.1), (14, .int .i64 r2.2.2)] ∧ A' = Box b12 [.slice d2 r2.1.length e2, .int .i64 room] 26 :: Box b10 [.int .i64 r0.2.1, .int .i64 r1.2.1, .int .i64 0, .int .i64 0] 33 :: Box b9 [.slice a0 (R7.part (R7.side z) 0 l).length c0, .slice a1 (R7.part (R7.side z) 1 l).length c1, .slice a2 (R7.part (R7.side z) 2 l).length c2, .slice a3 (R7.part (R7.side z) 3 l).length c3] 109 :: Box b6 [.slice none 0 0, .int .i64 0] 26 :: Box b3 [.slice d1 r1.1.length e1, .int .i64 room] 26 :: A ∧ StA J3 d2 e2 r2.1 ∧ J2 ⊆ J3) ?_ ?_
 ·refine tri_draw [0, 1, 2, 3, 4, 5, 6, 7, 8, 9, 10, 11, 12, 13, 14] rfl [] rfl mixed ?_
  refine th_take rfl rfl (by kernel_rfl)  (opv_loadA rfl rfl rfl) ?_
  refine yM rfl rfl ?_
  refine th_take rfl rfl (by kernel_rfl)  (opv_indexAddrA rfl rfl (by decide) (by decide)) ?_
  refine yl rfl rfl rfl ?_
  refine yM rfl rfl ?_
  refine th_take rfl rfl (by kernel_rfl)  (opv_sub rfl rfl (w64 (by omega) (by omega))) ?_
  refine th_two (j := 11) [6, 7, 8, 9, 10, 12, 13, 14] (by kernel_rfl) rfl ?_ ?_
  ·refine (step_m rfl rfl (opg_call (xs := [_, _, _]) rfl (ih m (by omega) _ _ _ _ _ _ _ _ room _ r2 (by omega) (by omega) (hq1) g1 (hp2.mono (fun _ h => hJ2 (hJ1 (h)))) (by have := pl 2; omega) (R7.part_bd hnn hb) hr2)) ?_)
   rintro _ _ J3 ⟨d2, e2, rfl, hq2, rfl, hJ3⟩
   refine ⟨Suf.h, hJ3, ?_⟩
   refine yM rfl rfl (yE rfl rfl rfl (yE rfl rfl rfl (yE rfl rfl rfl ?_)))
   refine th_one (by kernel_rfl) (step_m rfl rfl opg_alloc ?_)
   rintro _ _ _ ⟨b12, rfl, rfl, rfl⟩
   refine ⟨Suf.h, (by assumption), ?_⟩
   refine th_one (by kernel_rfl) (step_m rfl rfl (opg_store rfl rfl rfl rfl rfl rfl) ?_)
   rintro _ _ _ ⟨rfl, rfl⟩
   refine ⟨Suf.h, (by assumption), ?_⟩
   refine yA rfl rfl (yA rfl rfl (yD ?_))
   refine tri_cutEnd _ ⟨b12, d2, e2, rfl, rfl, hq2, hJ3⟩ ⟨rfl, rfl, rfl, rfl, rfl, rfl, rfl, rfl, rfl, rfl, trivial⟩
  ·refine (step_m rfl rfl opg_alloc ?_)
   rintro _ _ _ ⟨b12, rfl, rfl, rfl⟩
   refine ⟨Suf.h, (fun _ h => h), ?_⟩
   refine th_one (by kernel_rfl) (step_m rfl rfl (opg_call (xs := [_, _, _]) rfl (ih m (by omega) _ _ _ _ _ _ _ _ room _ r2 (by omega) (by omega) (hq1) g1 (hp2.mono (fun _ h => hJ2 (hJ1 (h)))) (by have := pl 2; omega) (R7.part_bd hnn hb) hr2)) ?_)
   rintro _ _ J3 ⟨d2, e2, rfl, hq2, rfl, hJ3⟩
   refine ⟨Suf.h, hJ3, ?_⟩
   refine yM rfl rfl (yE rfl rfl rfl (yE rfl rfl rfl (yE rfl rfl rfl ?_)))
   refine th_one (by kernel_rfl) (step_m rfl rfl (opg_store rfl rfl rfl rfl rfl rfl) ?_)
   rintro _ _ _ ⟨rfl, rfl⟩
   refine ⟨Suf.h, (by assumption), ?_⟩
   refine yA rfl rfl (yA rfl rfl (yD ?_))
   refine tri_cutEnd _ ⟨b12, d2, e2, rfl, rfl, hq2, hJ3⟩ ⟨rfl, rfl, rfl, rfl, rfl, rfl, rfl, rfl, rfl, rfl, trivial⟩
 rintro _ _ J3 ⟨b12, d2, e2, rfl, rfl, hq2, hJ3⟩
 skip
 refine tT (tS (tS (tR (tM rfl rfl ?_))))
 refine tri_v (opv_neq rfl rfl) rfl ?_
 refine tN (tT ?_)
 refine tri_cond_dec rfl (fun x2 => ?_) (fun x2 => ?_)
 ·rw [if_neg x0, if_neg x1, if_pos x2] at hb'
  refine tS (tR ?_)
  refine yB rfl rfl ?_
  refine tM rfl rfl ?_
  refine yG rfl rfl rfl rfl rfl rfl ?_
  rintro _ _ _ ⟨rfl, rfl⟩
  refine tA rfl rfl (tA rfl rfl (tN (tT (tri_ret (tri_then_ret (tri_inBlock_ret (tri_then_ret ?_)))))))
  refine tri_then_ret (tri_inBlock_ret (tri_then_ret ?_))
  refine tri_end A Suf.h rfl (.cons (rv_cellA rfl rfl rfl) (.cons (rv_tmp rfl) (.cons (rv_tmp rfl) .nil))) ?_
  rw [hb']
  exact ⟨d1, e1, rfl, hq1.mono hJ3, rfl, fun _ h => hJ3 (hJ2 (hJ1 (hJ0 (h))))⟩
 skip
 refine tri_skip (tT (tS (tR ?_)))
 refine yB rfl rfl ?_
 refine yG rfl rfl rfl rfl rfl rfl ?_
 rintro _ _ _ ⟨rfl, rfl⟩
 refine tN (tT (tR (tM rfl rfl (tM rfl rfl ?_))))
 refine tri_v (opv_indexAddrA rfl rfl (by decide) (by decide)) rfl ?_
 refine yG rfl rfl rfl rfl rfl rfl ?_
 rintro _ _ _ ⟨rfl, rfl⟩
 refine tN (tri_inBlock (tT ?_))
 refine tri_drop ?_
 refine tR (tM rfl rfl ?_)
 refine yU rfl rfl ?_
 refine tA rfl rfl (tN (tT (tri_round (tS (tS (tR (tM rfl rfl ?_)))))))
 refine yC rfl rfl (tN (tT ?_))
 refine tri_cond_is rfl (by decide) ?_
 refine tri_skip (tT (tS (tri_block (tS ?_))))
 refine tri_cut (fun F' A' J4 => ∃ b12 d3 e3, F' = [(1, .slice bb l.length cap2), (2, .int .i64 z), (3, pt b3 0), (6, pt b6 0), (9, pt b9 0), (10, pt b10 0), (11, .int .i64 3), (12, pt b12 0), (13, .int .i64 r3.2.1), (14, .int .i64 r3.2.2)] ∧ A' = Box b12 [.slice d3 r3.1.length e3, .int .i64 room] 26 :: Box b10 [.int .i64 r0.2.1, .int .i64 r1.2.1, .int .i64 r2.2.1, .int .i64 0] 33 :: Box b9 [.slice a0 (R7.part (R7.side z) 0 l).length c0, .slice a1 (R7.part (R7.side z) 1 l).length c1, .slice a2 (R7.part (R7.side z) 2 l).length c2, .slice a3 (R7.part (R7.side z) 3 l).length c3] 109 :: Box b6 [.slice none 0 0, .int .i64 0] 26 :: Box b3 [.slice d2 r2.1.length e2, .int .i64 room] 26 :: A ∧ StA J4 d3 e3 r3.1 ∧ J3 ⊆ J4) ?_ ?_
 ·refine tri_draw [0, 1, 2, 3, 4, 5, 6, 7, 8, 9, 10, 11, 12, 13, 14] rfl [] rfl mixed ?_
  refine th_take rfl rfl (by kernel_rfl)  (opv_loadA rfl rfl rfl) ?_
  refine yM rfl rfl ?_
  refine th_take rfl rfl (by kernel_rfl)  (opv_indexAddrA rfl rfl (by decide) (by decide)) ?_
  refine yl rfl rfl rfl ?_
  refine yM rfl rfl ?_
  refine th_take rfl rfl (by kernel_rfl)  (opv_sub rfl rfl (w64 (by omega) (by omega))) ?_
  refine th_two (j := 11) [6, 7, 8, 9, 10, 12, 13, 14] (by kernel_rfl) rfl ?_ ?_
  ·refine (step_m rfl rfl (opg_call (xs := [_, _, _]) rfl (ih m (by omega) _ _ _ _ _ _ _ _ room _ r3 (by omega) (by omega) (hq2) g2 (hp3.mono (fun _ h => hJ3 (hJ2 (hJ1 (h))))) (by have := pl 3; omega) (R7.part_bd hnn hb) hr3)) ?_)
   rintro _ _ J4 ⟨d3, e3, rfl, hq3, rfl, hJ4⟩
   refine ⟨Suf.h, hJ4, ?_⟩
   refine yM rfl rfl (yE rfl rfl rfl (yE rfl rfl rfl (yE rfl rfl rfl ?_)))
   refine th_one (by kernel_rfl) (step_m rfl rfl opg_alloc ?_)
   rintro _ _ _ ⟨b12, rfl, rfl, rfl⟩
   refine ⟨Suf.h, (by assumption), ?_⟩
   refine th_one (by kernel_rfl) (step_m rfl rfl (opg_store rfl rfl rfl rfl rfl rfl) ?_)
   rintro _ _ _ ⟨rfl, rfl⟩
   refine ⟨Suf.h, (by assumption), ?_⟩
   refine yA rfl rfl (yA rfl rfl (yD ?_))
   refine tri_cutEnd _ ⟨b12, d3, e3, rfl, rfl, hq3, hJ4⟩ ⟨rfl, rfl, rfl, rfl, rfl, rfl, rfl, rfl, rfl, rfl, trivial⟩
  ·refine (step_m rfl rfl opg_alloc ?_)
   rintro _ _ _ ⟨b12, rfl, rfl, rfl⟩
   refine ⟨Suf.h, (fun _ h => h), ?_⟩
   refine th_one (by kernel_rfl) (step_m rfl rfl (opg_call (xs := [_, _, _]) rfl (ih m (by omega) _ _ _ _ _ _ _ _ room _ r3 (by omega) (by omega) (hq2) g2 (hp3.mono (fun _ h => hJ3 (hJ2 (hJ1 (h))))) (by have := pl 3; omega) (R7.part_bd hnn hb) hr3)) ?_)
   rintro _ _ J4 ⟨d3, e3, rfl, hq3, rfl, hJ4⟩
   refine ⟨Suf.h, hJ4, ?_⟩
   refine yM rfl rfl (yE rfl rfl rfl (yE rfl rfl rfl (yE rfl rfl rfl ?_)))
   refine th_one (by kernel_rfl) (step_m rfl rfl (opg_store rfl rfl rfl rfl rfl rfl) ?_)
   rintro _ _ _ ⟨rfl, rfl⟩
   refine ⟨Suf.h, (by assumption), ?_⟩
   refine yA rfl rfl (yA rfl rfl (yD ?_))
   refine tri_cutEnd _ ⟨b12, d3, e3, rfl, rfl, hq3, hJ4⟩ ⟨rfl, rfl, rfl, rfl, rfl, rfl, rfl, rfl, rfl, rfl, trivial⟩
 rintro _ _ J4 ⟨b12, d3, e3, rfl, rfl, hq3, hJ4⟩
 skip
 refine tT (tS (tS (tR (tM rfl rfl ?_))))
 refine tri_v (opv_neq rfl rfl) rfl ?_
 refine tN (tT ?_)
 refine tri_cond_dec rfl (fun x3 => ?_) (fun x3 => ?_)
 ·rw [if_neg x0, if_neg x1, if_neg x2, if_pos x3] at hb'
  refine tS (tR ?_)
  refine yB rfl rfl ?_
  refine tM rfl rfl ?_
  refine yG rfl rfl rfl rfl rfl rfl ?_
  rintro _ _ _ ⟨rfl, rfl⟩
  refine tA rfl rfl (tA rfl rfl (tN (tT (tri_ret (tri_then_ret (tri_inBlock_ret (tri_then_ret ?_)))))))
  refine tri_then_ret (tri_inBlock_ret (tri_then_ret ?_))
  refine tri_end A Suf.h rfl (.cons (rv_cellA rfl rfl rfl) (.cons (rv_tmp rfl) (.cons (rv_tmp rfl) .nil))) ?_
  rw [hb']
  exact ⟨d2, e2, rfl, hq2.mono hJ4, rfl, fun _ h => hJ4 (hJ3 (hJ2 (hJ1 (hJ0 (h)))))⟩
 skip
 refine tri_skip (tT (tS (tR ?_)))
 refine yB rfl rfl ?_
 refine yG rfl rfl rfl rfl rfl rfl ?_
 rintro _ _ _ ⟨rfl, rfl⟩
 refine tN (tT (tR (tM rfl rfl (tM rfl rfl ?_))))
 refine tri_v (opv_indexAddrA rfl rfl (by decide) (by decide)) rfl ?_
 refine yG rfl rfl rfl rfl rfl rfl ?_
 rintro _ _ _ ⟨rfl, rfl⟩
 refine tN (tri_inBlock (tT ?_))
 refine tri_drop ?_
 rw [if_neg x0, if_neg x1, if_neg x2, if_neg x3] at hb'
 refine tR (tM rfl rfl ?_)
 refine yU rfl rfl ?_
 refine tA rfl rfl (tN (tT (tri_round (tS (tS (tR (tM rfl rfl ?_)))))))
 refine yC rfl rfl (tN (tT ?_))
 refine tri_cond_not rfl (by decide) ?_
 refine tri_exit ?_
 refine tri_then_exit (tri_then_exit ?_)
 refine tri_inBlock_hit rfl ?_
 refine tT (tS (tR ?_))
 refine yB rfl rfl ?_
 refine yB rfl rfl ?_
 refine tri_g (opg_call (xs := [_, _]) rfl (ref06_put hq3 g3.len g3.mod)) rfl ?_
 rintro _ _ J5 ⟨d4, e4, rfl, hq4, rfl, hJ5⟩
 refine tri_v (opv_extract rfl rfl) rfl ?_
 refine tri_v (opv_extract rfl rfl) rfl ?_
 refine tri_v (opv_extract rfl rfl) rfl ?_
 refine yG rfl rfl rfl rfl rfl rfl ?_
 rintro _ _ _ ⟨rfl, rfl⟩
 refine tA rfl rfl (tA rfl rfl (tN (tT (tri_ret ?_))))
 refine tri_end A Suf.h rfl (.cons (rv_cellA rfl rfl rfl) (.cons (rv_tmp rfl) (.cons (rv_tmp rfl) .nil))) ?_
 rw [hb']
 exact ⟨d4, e4, rfl, hq4, rfl, fun _ h => hJ5 (hJ4 (hJ3 (hJ2 (hJ1 (hJ0 h)))))⟩
theorem ref07_build (lv : Nat) : BuildSpec lv := by
 induction lv using Nat.strongRecOn with
 | ind lv ih => exact ref07_build_step lv ih
end Go.GL


namespace Go.GL
open Go.Proofs
attribute [local irreducible] wpList Code.wp Exit.then Exit.inBlock Ends Tri TriH OpV OpG FnC epf wpAnyH
variable {A : List Asrt} {I : List Chunk}
theorem R7.corner_bd {l : List Cell} {s : Int} (hb : ∀ c ∈ l, R2.bd c) (hs : s ≤ 2199023255552) : ∀ c ∈ R7.corner s l, c.x ≤ 4398046511104 ∧ c.y ≤ 4398046511104 := by
 intro c hc
 obtain ⟨d, hd, rfl⟩ := List.mem_map.1 hc
 have := hb d hd
 unfold R2.bd at this
 simp only
 omega
theorem R7.corner_len (l : List Cell) (s : Int) : (R7.corner s l).length = l.length := by simp [R7.corner]
set_option maxHeartbeats 1000000 in
set_option maxRecDepth 100000 in
theorem ref07_make {ns : List Node} {a bb : Option Addr} {cap cap2 : Nat} {room lv : Int} {l : List Cell} (hs : StA I a cap ns) (hn : ns.length ≤ 1000000000) (hr : R6.Rng ns) (hsl : SlAt I bb l) (hnl : l.length ≤ 1000000000) :
  FnC Try.prog 30 [storeV a ns.length cap room, .slice bb l.length cap2, .int .i64 lv].toArray A I (StoreR (R7.make ns room l lv) room A I) := by
 have bad : ¬ (R6.right ns room ∧ 1 ≤ lv ∧ lv ≤ 42 ∧ R1.right l) → R7.make ns room l lv = (ns, 0, 1) := fun h => if_neg h
 skip
 refine fn_enter3 Try.func30 rfl Try.ntmps30 rfl fun w0 => ?_
 refine tS (tR ?_)
 refine tri_g (opg_box_agg rfl) rfl ?_
 rintro _ _ _ ⟨b3, rfl, rfl, rfl⟩
 refine tri_g opg_alloc rfl ?_
 rintro _ _ _ ⟨b6, rfl, rfl, rfl⟩
 refine tA rfl rfl (tA rfl rfl (tN (tT (tS (tS (tR ?_))))))
 refine yB rfl rfl ?_
 refine tri_g (opg_call (xs := [_]) rfl (ref06_right hs.sl hn hr)) rfl ?_
 rintro _ _ _ ⟨rfl, rfl, rfl⟩
 refine tri_v (opv_notD rfl) rfl ?_
 refine tM rfl rfl ?_
 refine tri_split rfl rfl (fun h1 => ?_) (fun h1 => ?_)
 ·refine tri_guard_skip rfl rfl rfl rfl (tri_guard_skip rfl rfl rfl rfl ?_)
  refine tri_v (opv_pick_t rfl rfl) rfl ?_
  refine tM rfl rfl (tri_guard_skip rfl rfl rfl rfl (tri_guard_skip rfl rfl rfl rfl ?_))
  refine tri_v (opv_pick_t rfl rfl) rfl ?_
  refine tM rfl rfl (tri_guard_skip rfl rfl rfl rfl (tri_guard_skip rfl rfl rfl rfl (tri_guard_skip rfl rfl rfl rfl ?_)))
  refine tri_v (opv_pick_t rfl rfl) rfl ?_
  refine tN (tT ?_)
  refine tri_cond_true rfl ?_
  refine tS (tR ?_)
  refine yB rfl rfl ?_
  refine yG rfl rfl rfl rfl rfl rfl ?_
  rintro _ _ _ ⟨rfl, rfl⟩
  refine tA rfl rfl (tA rfl rfl (tN (tT (tri_ret (tri_then_ret ?_)))))
  refine tri_end A Suf.h rfl (.cons (rv_cellA rfl rfl rfl) (.cons (rv_tmp rfl) (.cons (rv_tmp rfl) .nil))) ?_
  rw [bad fun h => h1 h.1]
  exact ⟨a, cap, rfl, hs, rfl, fun _ h => h⟩
 refine yR rfl rfl (tM rfl rfl (yR rfl rfl (yC rfl rfl ?_)))
 refine tri_v (opv_pick_f rfl rfl) rfl ?_
 refine tM rfl rfl ?_
 refine tri_split rfl rfl (fun h2 => ?_) (fun h2 => ?_)
 ·refine tri_guard_skip rfl rfl rfl rfl (tri_guard_skip rfl rfl rfl rfl ?_)
  refine tri_v (opv_pick_t rfl rfl) rfl ?_
  refine tM rfl rfl (tri_guard_skip rfl rfl rfl rfl (tri_guard_skip rfl rfl rfl rfl (tri_guard_skip rfl rfl rfl rfl ?_)))
  refine tri_v (opv_pick_t rfl rfl) rfl ?_
  refine tN (tT ?_)
  refine tri_cond_true rfl ?_
  refine tS (tR ?_)
  refine yB rfl rfl ?_
  refine yG rfl rfl rfl rfl rfl rfl ?_
  rintro _ _ _ ⟨rfl, rfl⟩
  refine tA rfl rfl (tA rfl rfl (tN (tT (tri_ret (tri_then_ret ?_)))))
  refine tri_end A Suf.h rfl (.cons (rv_cellA rfl rfl rfl) (.cons (rv_tmp rfl) (.cons (rv_tmp rfl) .nil))) ?_
  rw [bad fun h => by omega]
  exact ⟨a, cap, rfl, hs, rfl, fun _ h => h⟩
 refine yR rfl rfl (tM rfl rfl (yR rfl rfl ?_))
 refine tri_v (opv_gtr rfl rfl) rfl ?_
 refine tri_v (opv_pick_f rfl rfl) rfl ?_
 refine tM rfl rfl ?_
 refine tri_split rfl rfl (fun h3 => ?_) (fun h3 => ?_)
 ·refine tri_guard_skip rfl rfl rfl rfl (tri_guard_skip rfl rfl rfl rfl (tri_guard_skip rfl rfl rfl rfl ?_))
  refine tri_v (opv_pick_t rfl rfl) rfl ?_
  refine tN (tT ?_)
  refine tri_cond_true rfl ?_
  refine tS (tR ?_)
  refine yB rfl rfl ?_
  refine yG rfl rfl rfl rfl rfl rfl ?_
  rintro _ _ _ ⟨rfl, rfl⟩
  refine tA rfl rfl (tA rfl rfl (tN (tT (tri_ret (tri_then_ret ?_)))))
  refine tri_end A Suf.h rfl (.cons (rv_cellA rfl rfl rfl) (.cons (rv_tmp rfl) (.cons (rv_tmp rfl) .nil))) ?_
  rw [bad fun h => by omega]
  exact ⟨a, cap, rfl, hs, rfl, fun _ h => h⟩
 refine yR rfl rfl (tM rfl rfl (yR rfl rfl ?_))
 refine tri_g (opg_call (xs := [_]) rfl (ref01_right hsl hnl)) rfl ?_
 rintro _ _ _ ⟨rfl, rfl, rfl⟩
 refine yR rfl rfl ?_
 refine tri_v (opv_notD rfl) rfl ?_
 refine tri_v (opv_pick_f rfl rfl) rfl ?_
 refine tN (tT ?_)
 refine tri_cond_dec rfl (fun h4 => ?_) (fun h4 => ?_)
 ·refine tS (tR ?_)
  refine yB rfl rfl ?_
  refine yG rfl rfl rfl rfl rfl rfl ?_
  rintro _ _ _ ⟨rfl, rfl⟩
  refine tA rfl rfl (tA rfl rfl (tN (tT (tri_ret (tri_then_ret ?_)))))
  refine tri_end A Suf.h rfl (.cons (rv_cellA rfl rfl rfl) (.cons (rv_tmp rfl) (.cons (rv_tmp rfl) .nil))) ?_
  rw [bad fun h => h4 h.2.2.2]
  exact ⟨a, cap, rfl, hs, rfl, fun _ h => h⟩
 refine tri_skip (tT (tS (tS (tR (tA rfl rfl (tN (tT ?_)))))))
 refine tri_block ?_
 have g1 : R6.right ns room := Decidable.not_not.1 h1
 have g4 : R1.right l := Decidable.not_not.1 h4
 have good : R7.make ns room l lv = if ∀ i, i < l.length → R7.inL lv (R1.g l i) then (if (R7.build room lv.toNat ns (R7.corner (R7.side lv) l)).2.2 ≠ 0 then (ns, 0, (R7.build room lv.toNat ns (R7.corner (R7.side lv) l)).2.2) else R7.build room lv.toNat ns (R7.corner (R7.side lv) l)) else (ns, 0, 2) :=
  if_pos ⟨g1, by omega, by omega, g4⟩
 refine tri_sub (F' := [(1, .slice bb l.length cap2), (2, .int .i64 lv), (3, pt b3 0), (6, pt b6 0), (9, .int .i64 (0 : Nat))]) ⟨rfl, rfl, rfl, rfl, rfl, trivial⟩ ?_
 refine loop_ind (G := Nat) (fun i => l.length - i) (fun i => i ≤ l.length ∧ ∀ j, j < i → R7.inL lv (R1.g l j)) (fun i => [(1, .slice bb l.length cap2), (2, .int .i64 lv), (3, pt b3 0), (6, pt b6 0), (9, .int .i64 (i : Nat))]) (fun _ => _) (fun _ => _) ?_ 0 ⟨by omega, fun j h => absurd h (by omega)⟩
 rintro i ⟨hi, hok⟩ K hK
 skip
 refine tS (tS (tR (tM rfl rfl (tM rfl rfl ?_))))
 refine tri_v (opv_len rfl) rfl ?_
 refine yC rfl rfl (tN (tT ?_))
 refine tri_cond_dec rfl (fun h => ?_) (fun h => ?_)
 ·refine tri_skip (tT (tS (tri_block (tS (tR (tM rfl rfl (tM rfl rfl ?_)))))))
  refine tM rfl rfl ?_
  refine tri_v (opv_indexAddrSN rfl rfl (by omega) (by assumption) rfl) rfl ?_
  refine tri_v (opv_loadEA rfl (by assumption) rfl (by omega) rfl rfl) rfl ?_
  refine tri_g (opg_call (xs := [_, _]) rfl (ref07_in (lv := lv) (c := R1.g l i) (by omega) (by omega))) rfl ?_
  rintro _ _ _ ⟨rfl, rfl, rfl⟩
  refine tri_v (opv_notD rfl) rfl ?_
  refine tN (tT ?_)
  refine tri_cond_dec rfl (fun h5 => ?_) (fun h5 => ?_)
  ·refine tS (tR ?_)
   refine yB rfl rfl ?_
   refine yG rfl rfl rfl rfl rfl rfl ?_
   rintro _ _ _ ⟨rfl, rfl⟩
   refine tA rfl rfl (tA rfl rfl (tN (tT (tri_ret (tri_inBlock_ret (tri_then_ret (tri_then_ret ?_)))))))
   refine tri_inBlock_ret (tri_then_ret ?_)
   refine tri_end A Suf.h rfl (.cons (rv_cellA rfl rfl rfl) (.cons (rv_tmp rfl) (.cons (rv_tmp rfl) .nil))) ?_
   rw [good, if_neg fun h => h5 (h i (by omega))]
   exact ⟨a, cap, rfl, hs, rfl, fun _ h => h⟩
  ·refine tri_skip (tri_inBlock (tT (tR (tM rfl rfl ?_))))
   refine yU rfl rfl ?_
   refine tA rfl rfl (tN (tT ?_))
   refine tri_sub ?_ (hK (i + 1) ⟨by omega, fun j hj => ?_⟩ (by omega))
   ·exact ⟨rfl, rfl, rfl, rfl, rfl, trivial⟩
   ·by_cases e : j = i
    ·subst e; exact Decidable.not_not.1 h5
    ·exact hok j (by omega)
 ·rw [if_pos fun j hj => hok j (by omega)] at good
  have hbd : ∀ d ∈ l, R2.bd d := fun d hd => by
   have := R1.right_inB g4 d hd
   unfold R1.inB at this
   unfold R2.bd
   omega
  have hcb := R7.corner_bd (s := R7.side lv) hbd (R7.side_bd (lv := lv) (by omega)).2
  have hcl : (R7.corner (R7.side lv) l).length ≤ 1000000000 := by rw [R7.corner_len]; exact hnl
  obtain ⟨r, hbr⟩ : ∃ r, R7.build room lv.toNat ns (R7.corner (R7.side lv) l) = r := ⟨_, rfl⟩
  rw [hbr] at good
  refine tri_exit ?_
  refine tri_then_exit (tri_then_exit ?_)
  refine tri_inBlock_hit rfl ?_
  refine tT (tS ?_)
  refine tri_cut (fun F' A' J => ∃ b10 d e, F' = [(3, pt b3 0), (6, pt b6 0), (10, pt b10 0), (11, .int .i64 r.2.1), (12, .int .i64 r.2.2)] ∧ A' = Box b10 [.slice d r.1.length e, .int .i64 room] 26 :: Box b6 [.slice none 0 0, .int .i64 0] 26 :: Box b3 [.slice a ns.length cap, .int .i64 room] 26 :: A ∧ StA J d e r.1 ∧ I ⊆ J) ?_ ?_
  ·refine tri_draw [0, 1, 2, 4, 3, 5, 6, 7, 8, 9, 10, 11, 12, 13] rfl [] rfl mixed ?_
   refine th_take rfl rfl (by kernel_rfl)  (opv_loadA rfl rfl rfl) ?_
   refine yM rfl rfl (yM rfl rfl (yM rfl rfl ?_))
   refine th_two (j := 10) [3, 5, 6, 7, 8, 9, 11, 12, 13] (by kernel_rfl) rfl ?_ ?_
   ·refine (step_m rfl rfl (opg_call (xs := [_, _]) rfl (ref07_corner hsl hnl (by omega) (by omega) hbd)) ?_)
    rintro _ _ J0 ⟨a0, c0, rfl, hc0, rfl, hJ0⟩
    refine ⟨Suf.h, hJ0, ?_⟩
    skip
    refine th_two (j := 10) [5, 6, 7, 8, 9, 11, 12, 13] (by kernel_rfl) rfl ?_ ?_
    ·refine (step_m rfl rfl (opg_call (xs := [_, _, _]) rfl (ref07_build lv.toNat lv _ _ _ _ _ _ _ room _ r (by omega) (by omega) (hs.mono hJ0) (g1.good (by have := g1.1.2.1; omega)) hc0 hcl hcb hbr)) ?_)
     rintro _ _ J1 ⟨d0, e0, rfl, hq0, rfl, hJ1⟩
     refine ⟨Suf.h, (fun _ h => hJ1 (hJ0 h)), ?_⟩
     have hJ2 : I ⊆ J1 := fun _ h => hJ1 (hJ0 h)
     refine yM rfl rfl (yE rfl rfl rfl (yE rfl rfl rfl (yE rfl rfl rfl ?_)))
     refine th_one (by kernel_rfl) (step_m rfl rfl opg_alloc ?_)
     rintro _ _ _ ⟨b10, rfl, rfl, rfl⟩
     refine ⟨Suf.h, (by assumption), ?_⟩
     refine th_one (by kernel_rfl) (step_m rfl rfl (opg_store rfl rfl rfl rfl rfl rfl) ?_)
     rintro _ _ _ ⟨rfl, rfl⟩
     refine ⟨Suf.h, (by assumption), ?_⟩
     refine yA rfl rfl (yA rfl rfl (yD ?_))
     exact tri_cutEnd _ ⟨b10, d0, e0, rfl, rfl, hq0, hJ2⟩ ⟨rfl, rfl, rfl, rfl, rfl, trivial⟩
    ·refine (step_m rfl rfl opg_alloc ?_)
     rintro _ _ _ ⟨b10, rfl, rfl, rfl⟩
     refine ⟨Suf.h, (by assumption), ?_⟩
     refine th_one (by kernel_rfl) (step_m rfl rfl (opg_call (xs := [_, _, _]) rfl (ref07_build lv.toNat lv _ _ _ _ _ _ _ room _ r (by omega) (by omega) (hs.mono hJ0) (g1.good (by have := g1.1.2.1; omega)) hc0 hcl hcb hbr)) ?_)
     rintro _ _ J1 ⟨d0, e0, rfl, hq0, rfl, hJ1⟩
     refine ⟨Suf.h, (fun _ h => hJ1 (hJ0 h)), ?_⟩
     have hJ2 : I ⊆ J1 := fun _ h => hJ1 (hJ0 h)
     refine yM rfl rfl (yE rfl rfl rfl (yE rfl rfl rfl (yE rfl rfl rfl ?_)))
     refine th_one (by kernel_rfl) (step_m rfl rfl (opg_store rfl rfl rfl rfl rfl rfl) ?_)
     rintro _ _ _ ⟨rfl, rfl⟩
     refine ⟨Suf.h, (by assumption), ?_⟩
     refine yA rfl rfl (yA rfl rfl (yD ?_))
     exact tri_cutEnd _ ⟨b10, d0, e0, rfl, rfl, hq0, hJ2⟩ ⟨rfl, rfl, rfl, rfl, rfl, trivial⟩
   ·refine (step_m rfl rfl opg_alloc ?_)
    rintro _ _ _ ⟨b10, rfl, rfl, rfl⟩
    refine ⟨Suf.h, (fun _ h => h), ?_⟩
    refine th_one (by kernel_rfl) (step_m rfl rfl (opg_call (xs := [_, _]) rfl (ref07_corner hsl hnl (by omega) (by omega) hbd)) ?_)
    rintro _ _ J0 ⟨a0, c0, rfl, hc0, rfl, hJ0⟩
    refine ⟨Suf.h, hJ0, ?_⟩
    skip
    refine th_one (by kernel_rfl) (step_m rfl rfl (opg_call (xs := [_, _, _]) rfl (ref07_build lv.toNat lv _ _ _ _ _ _ _ room _ r (by omega) (by omega) (hs.mono hJ0) (g1.good (by have := g1.1.2.1; omega)) hc0 hcl hcb hbr)) ?_)
    rintro _ _ J1 ⟨d0, e0, rfl, hq0, rfl, hJ1⟩
    refine ⟨Suf.h, (fun _ h => hJ1 (hJ0 h)), ?_⟩
    have hJ2 : I ⊆ J1 := fun _ h => hJ1 (hJ0 h)
    refine yM rfl rfl (yE rfl rfl rfl (yE rfl rfl rfl (yE rfl rfl rfl ?_)))
    refine th_one (by kernel_rfl) (step_m rfl rfl (opg_store rfl rfl rfl rfl rfl rfl) ?_)
    rintro _ _ _ ⟨rfl, rfl⟩
    refine ⟨Suf.h, (by assumption), ?_⟩
    refine yA rfl rfl (yA rfl rfl (yD ?_))
    exact tri_cutEnd _ ⟨b10, d0, e0, rfl, rfl, hq0, hJ2⟩ ⟨rfl, rfl, rfl, rfl, rfl, trivial⟩
  rintro _ _ J ⟨b10, d, e, rfl, rfl, hq, hJ⟩
  skip
  refine tT (tS (tS (tR (tM rfl rfl ?_))))
  refine tri_v (opv_neq rfl rfl) rfl ?_
  refine tN (tT ?_)
  refine tri_cond_dec rfl (fun h6 => ?_) (fun h6 => ?_)
  ·refine tS (tR ?_)
   refine yB rfl rfl ?_
   refine tM rfl rfl ?_
   refine yG rfl rfl rfl rfl rfl rfl ?_
   rintro _ _ _ ⟨rfl, rfl⟩
   refine tA rfl rfl (tA rfl rfl (tN (tT (tri_ret (tri_then_ret ?_)))))
   refine tri_end A Suf.h rfl (.cons (rv_cellA rfl rfl rfl) (.cons (rv_tmp rfl) (.cons (rv_tmp rfl) .nil))) ?_
   rw [good, if_pos h6]
   exact ⟨a, cap, rfl, hs.mono hJ, rfl, hJ⟩
  ·refine tri_skip (tT (tS (tR ?_)))
   refine yB rfl rfl ?_
   refine tM rfl rfl ?_
   refine yG rfl rfl rfl rfl rfl rfl ?_
   rintro _ _ _ ⟨rfl, rfl⟩
   refine tA rfl rfl (tA rfl rfl (tN (tT (tri_ret ?_))))
   refine tri_end A Suf.h rfl (.cons (rv_cellA rfl rfl rfl) (.cons (rv_tmp rfl) (.cons (rv_tmp rfl) .nil))) ?_
   rw [good, if_neg h6]
   have h7 : r.2.2 = 0 := Decidable.not_not.1 h6
   exact ⟨d, e, by rw [h7]; rfl, hq, rfl, hJ⟩
end Go.GL


namespace Go.GL
/-! ### Layer 8, as the document has it -/
namespace R8
def may (ns : List Node) (room n lv : Int) : Prop := R6.right ns room ∧ R6.inS ns n ∧ lv ≤ (R6.nd ns n).lv
instance (ns : List Node) (room n lv : Int) : Decidable (may ns room n lv) := inferInstanceAs (Decidable (_ ∧ _))
def s16 (ns : List Node) (n : Int) : List Int :=
 let a := R6.nd ns (R6.nd ns n).k0
 let b := R6.nd ns (R6.nd ns n).k1
 let c := R6.nd ns (R6.nd ns n).k2
 let d := R6.nd ns (R6.nd ns n).k3
 [a.k0, a.k1, b.k0, b.k1, a.k2, a.k3, b.k2, b.k3, c.k0, c.k1, d.k0, d.k1, c.k2, c.k3, d.k2, d.k3]
def g (l : List Int) (i : Int) : Int := l.getD i.toNat default
def putSq (ns : List Node) (room : Int) (l : List Int) (y x : Int) : List Node × Int × Int := R6.put ns room (g l (4 * y + x)) (g l (4 * y + x + 1)) (g l (4 * y + x + 4)) (g l (4 * y + x + 5))
/-- What tells a store, nine nodes and an error. -/
abbrev R9 := List Node × List Int × Int
def z9 : List Int := [0, 0, 0, 0, 0, 0, 0, 0, 0]
def all (ns : List Node) (room n : Int) : R9 :=
 let l := s16 ns n
 let p0 := putSq ns room l 0 0
 if p0.2.2 ≠ 0 then (ns, z9, p0.2.2) else
 let p1 := putSq p0.1 room l 0 1
 if p1.2.2 ≠ 0 then (ns, z9, p1.2.2) else
 let p2 := putSq p1.1 room l 0 2
 if p2.2.2 ≠ 0 then (ns, z9, p2.2.2) else
 let p3 := putSq p2.1 room l 1 0
 if p3.2.2 ≠ 0 then (ns, z9, p3.2.2) else
 let p4 := putSq p3.1 room l 1 1
 if p4.2.2 ≠ 0 then (ns, z9, p4.2.2) else
 let p5 := putSq p4.1 room l 1 2
 if p5.2.2 ≠ 0 then (ns, z9, p5.2.2) else
 let p6 := putSq p5.1 room l 2 0
 if p6.2.2 ≠ 0 then (ns, z9, p6.2.2) else
 let p7 := putSq p6.1 room l 2 1
 if p7.2.2 ≠ 0 then (ns, z9, p7.2.2) else
 let p8 := putSq p7.1 room l 2 2
 if p8.2.2 ≠ 0 then (ns, z9, p8.2.2) else
 (p8.1, [p0.2.1, p1.2.1, p2.2.1, p3.2.1, p4.2.1, p5.2.1, p6.2.1, p7.2.1, p8.2.1], 0)
def about (l : List Int) (y x : Int) : Nat → Int
 | 0 => 0
 | i + 1 => about l y x i + if i = 4 then 0 else g l (4 * (y + (i : Int) / 3 - 1) + x + (i : Int) % 3 - 1)
def bit (l : List Int) (y x : Int) : Int := if R2.lives (decide (g l (4 * y + x) = 1)) (about l y x 9) = true then 1 else 0
def one (ns : List Node) (room n : Int) : List Node × Int × Int := R6.put ns room (bit (s16 ns n) 1 1) (bit (s16 ns n) 1 2) (bit (s16 ns n) 2 1) (bit (s16 ns n) 2 2)
def centre (ns : List Node) (room n : Int) : List Node × Int × Int := if may ns room n 2 then putSq ns room (s16 ns n) 1 1 else (ns, 0, 1)
def nine (ns : List Node) (room n : Int) : R9 := if may ns room n 2 then all ns room n else (ns, z9, 1)
def step (ns : List Node) (room n : Int) : List Node × Int × Int := if may ns room n 2 ∧ (R6.nd ns n).lv = 2 then one ns room n else (ns, 0, 1)
end R8
def Nine (r : R8.R9) (room : Int) (A : List Asrt) (I : List Chunk) : Value → List Asrt → List Chunk → Prop :=
 fun v A' I' => ∃ a' cap' q0 q1 q2 q3 q4 q5 q6 q7 q8, r.2.1 = [q0, q1, q2, q3, q4, q5, q6, q7, q8] ∧ v = .tuple [storeV a' r.1.length cap' room, .agg [.int .i64 q0, .int .i64 q1, .int .i64 q2, .int .i64 q3, .int .i64 q4, .int .i64 q5, .int .i64 q6, .int .i64 q7, .int .i64 q8].toArray, .int .i64 r.2.2].toArray ∧ StA I' a' cap' r.1 ∧ A = A' ∧ I ⊆ I'
end Go.GL


set_option linter.unusedSimpArgs false
/-
 From a contract to a row: a world's blocks as what may be read; arguments opened; what a law leaves.
-/
namespace Go.GL
open Enc (enc)
open Go.WideShapes Go.ChangeShapes Go.RowKit Go.Deep
def I64 (c : Int) : Prop := -9223372036854775808 ≤ c ∧ c ≤ 9223372036854775807
theorem wf_I64 {n : Int} (h : (Lit.int .i64 n).wf = true) : I64 n := by
 simp [Lit.wf, IntKind.min, IntKind.max, IntKind.signed, IntKind.bits] at h
 exact ⟨by omega, by omega⟩
/-! ### 1. The world as it came -/
def worldI (w : World) : List Chunk := (List.range w.heap.size).filterMap fun b => w.heap[b]?.map fun o => (b, o)
theorem mem_worldI {w : World} {b : Nat} {o : Obj} : (b, o) ∈ worldI w ↔ w.heap[b]? = some o := by
 unfold worldI
 simp only [List.mem_filterMap, List.mem_range, Option.map_eq_some_iff, Prod.mk.injEq]
 constructor
 ·rintro ⟨b', _, o', h, rfl, rfl⟩; exact h
 ·intro h; exact ⟨b, (Array.getElem?_eq_some_iff.1 h).1, o, h, rfl, rfl⟩
theorem worldI_fst (w : World) : (worldI w).map (·.1) = List.range w.heap.size := by
 unfold worldI
 have key : ∀ n, n ≤ w.heap.size → ((List.range n).filterMap fun b => w.heap[b]?.map fun o => (b, o)).map (·.1) = List.range n := by
  intro n
  induction n with
  | zero => intro _; rfl
  | succ n ih =>
   intro hn
   have hlt : n < w.heap.size := hn
   rw [List.range_succ, List.filterMap_append, List.map_append, ih (by omega)]
   simp [hlt]
 exact key _ (Nat.le_refl _)
theorem st_world (w : World) : St w w [] (worldI w) := by
 refine ⟨[], .nil, ⟨rfl, rfl, rfl, Nat.le_refl _, ?_, ?_, Nat.le_refl _⟩⟩
 ·rw [List.nil_append, worldI_fst]; exact List.nodup_range
 ·rintro ⟨b, o⟩ hc
  exact mem_worldI.1 hc
theorem below_of_st {w w' : World} {A' : List Asrt} {I' : List Chunk} (h : St w w' A' I') (hI : worldI w ⊆ I') : Below w.heap.size w w' := by
 obtain ⟨cs, _, h⟩ := h
 refine ⟨h.os, h.tape, h.output, h.size, fun k hk => ?_⟩
 have h1 : w.heap[k]? = some w.heap[k] := Array.getElem?_eq_getElem hk
 rw [h1]
 exact h.has _ (List.mem_append_right _ (hI (mem_worldI.2 h1)))
/-- A law's contract, as the kit has it. -/
theorem calls_of_fnC {P : Program} {f : FuncId} {args : Array Value} {w : World} {v0 : Value} (h : FnC P f args [] (worldI w) fun v A' I' => v = v0 ∧ [] = A' ∧ worldI w ⊆ I') : Calls P f args w fun e w' => e = .returned v0 ∧ Below w.heap.size w w' :=
 (h w w (st_world w)).mono fun e w' ⟨v, A', I', he, ⟨hv, _, hI⟩, hS⟩ => ⟨hv ▸ he, below_of_st hS hI⟩
/-! ### 2. Values that are whole numbers alone -/
def segsOk : List (Nat × Nat) → Nat → Nat → Bool
 | [], off, tot => Nat.beq off tot
 | (o, k) :: r, off, tot => Nat.beq o off && segsOk r (off + k) tot
def IntsL (cs : List Value) (n : Nat) : Prop := ∃ xs : List Int, cs = ints xs ∧ xs.length = n ∧ ∀ z ∈ xs, I64 z
/-- A type whose cells are whole numbers alone. -/
def NumTy (P : Program) (t : TypeId) (n : Nat) : Prop := P.cellsOf t = n ∧ ∀ (H : Type) (enc : TypeId × Value → H) (w : World) (base : Nat) (spare : Nat → Bool) (held : Bool) (fuel : Nat) (cs : List Value) (x : DataW H × List MemPlace), DataW.trod enc P w base spare held fuel t cs = some x → IntsL cs n
theorem cellsOf_tyI {P : Program} {t : TypeId} {d : TypeDesc} {s b : Nat} {z : List Value} [h : TyI P t d s b z] : P.cellsOf t = s := by
 obtain ⟨i, v, h1, h2, _⟩ := h.info
 simp [Program.cellsOf, h1, h2]
section
variable {P : Program} {t e : TypeId} {s b : Nat} {z : List Value}
theorem NumTy.int [h : TyI P t (.int .i64) 1 b z] : NumTy P t 1 := by
 refine ⟨cellsOf_tyI, fun H enc w base spare held fuel cs x hx => ?_⟩
 obtain ⟨n, rfl, _, hw⟩ := DataW.trod_int h.und hx
 exact ⟨[n], rfl, rfl, fun z hz => by rw [List.mem_singleton.1 hz]; exact wf_I64 hw⟩
/-- The fields, one by one. -/
def AllTy (P : Program) : List Field → List Nat → Prop
 | [], [] => True
 | f :: fs, n :: ns => NumTy P f.type n ∧ AllTy P fs ns
 | _, _ => False
theorem AllTy.at : ∀ {fs : List Field} {ns : List Nat}, AllTy P fs ns → ∀ p ∈ (fs.map (·.offset)).zip ns, ∃ (i : Nat) (f : Field), fs[i]? = some f ∧ f.offset = p.1 ∧ NumTy P f.type p.2
 | [], [], _, p, hp => by simp at hp
 | f :: fs, n :: ns, h, p, hp => by
  simp only [List.map_cons, List.zip_cons_cons] at hp
  rcases List.mem_cons.1 hp with rfl | hp
  ·exact ⟨0, f, rfl, rfl, h.1⟩
  ·obtain ⟨i, g, h1, h2, h3⟩ := AllTy.at h.2 p hp
   exact ⟨i + 1, g, by simpa using h1, h2, h3⟩
 | [], _ :: _, h, _, _ => h.elim
 | _ :: _, [], h, _, _ => h.elim
/-! ### 3. Slices and stores opened -/
/-- How a thing of n numbers is read. -/
class Dec (α : Type) [Enc α] where
 dec : List Int → α
 enc_dec : ∀ xs : List Int, xs.length = Enc.sz α → enc (dec xs) = ints xs
instance : Dec Int := ⟨fun xs => xs.getD 0 0, fun xs h => by
 match xs, h with
 | [x], _ => rfl⟩
def DecOk {α : Type} [Enc α] [Dec α] (x : α) : Prop := ∃ zs : List Int, zs.length = Enc.sz α ∧ (∀ z ∈ zs, I64 z) ∧ x = Dec.dec zs
/-- How many are read. -/
def dlen {H : Type} : DataW H → Nat | .slice es _ => es.length | _ => 0
theorem open_i64 [h : TyI P t (.int .i64) s b z] {H : Type} {en : TypeId × Value → H} {w : World} {r : Reach} {b0 : Nat} {spare : Nat → Bool} {held : Bool} {v : Value} {d : DataW H} {ps : List MemPlace}
  (hval : Value.okWide P w r b0 t v) (hx : DataW.Trod en P w 0 spare held t v d ps) : ∃ n, v = .int .i64 n ∧ I64 n := by
 obtain ⟨n, rfl, _, _, hw⟩ := open_int h.und hval hx
 exact ⟨n, rfl, wf_I64 hw⟩
/-! ### 4. What a law leaves -/
theorem trodAll_stays {H : Type} {en : TypeId × Value → H} (hl : laidOutB P = true) {W W' : World} (hB : Below W.heap.size W W') : ∀ {ts : List TypeId} {vs : List Value} {ds : List (DataW H)} {ps : List MemPlace},
  (∀ t ∈ ts, P.readableRec t = true ∧ t < P.types.size) → DataW.TrodAll en P W 0 (fun _ => true) true ts vs ds ps → (∀ x ∈ ps, x.block < W.heap.size) → DataW.TrodAll en P W' 0 (fun b => decide (b < W.heap.size)) true ts vs ds ps
 | [], vs, ds, ps, _, h, _ => by
  obtain ⟨rfl, rfl, rfl⟩ := trodAll_nil h
  exact rfl
 | t :: ts, vs, ds, ps, hr, h, hlt => by
  obtain ⟨v, vs', d, ds', p, q, rfl, rfl, rfl, h1, h2⟩ := trodAll_cons h
  refine ⟨p, q, Below.trod hl (hr t List.mem_cons_self).1 (hr t List.mem_cons_self).2 h1 hB fun x hx => hlt x (List.mem_append_left _ hx), ?_, rfl⟩
  exact trodAll_stays hl hB (fun t' ht' => hr t' (List.mem_cons_of_mem _ ht')) h2 fun x hx => hlt x (List.mem_append_right _ hx)
theorem law_post {H : Type} {en : TypeId × Value → H} {f : Func} {sp : ChangeSpec} {apart fresh handsOn : Bool} {W W' : World} {args : Array Value} {ds gs : List (DataW H)} {before : List MemPlace} {tb : TypeId} [hb : TyI P tb .bool s b z]
  (hl : laidOutB P = true) (hts : ∀ t ∈ f.params.toList, P.readableRec t = true ∧ t < P.types.size) (hres : f.resultTypes = #[tb]) (hvars : sp.vars = [])
  (hW : DataW.Whole en P f.params.toList sp.vars apart W args.toList ds gs before) (hr : (sp.fn H (ds ++ gs)).results = [.lit (.bool true)]) (ha : (sp.fn H (ds ++ gs)).args = ds) (hv : (sp.fn H (ds ++ gs)).vars = [])
  (hB : Below W.heap.size W W') : sp.post en P f apart fresh handsOn false W args (.bool true) W' := by
 have hlt := hW.lt
 have hW2 := hW
 obtain ⟨p, q, h1, h2, e, h3, h4⟩ := hW2
 rw [hvars] at h2
 obtain ⟨_, rfl⟩ := trodVars_none h2
 rw [List.append_nil] at e
 subst e
 refine ⟨ds, gs, _, [], _, [], hW, ?_, ?_, ?_, World.keptBut_mono (fun x hx => ⟨hx, .inr (.inl hx)⟩) (hB.frame (· ∈ _)), fun h => by cases h⟩
 ·rw [hr, hres]
  exact ⟨[], [], ⟨1, by simp [DataW.trod, Value.cells, hb.und]⟩, rfl, rfl⟩
 ·rw [ha]
  exact trodAll_stays hl hB hts h1 hlt
 ·rw [hv, hvars]; rfl
end
end Go.GL


namespace Go.GL
/-- Five raw numbers. -/
structure Five where
 r0 : Int
 r1 : Int
 r2 : Int
 r3 : Int
 r4 : Int
 deriving DecidableEq, Inhabited
instance : Enc Five := ⟨fun x => [.int .i64 x.r0, .int .i64 x.r1, .int .i64 x.r2, .int .i64 x.r3, .int .i64 x.r4], 5, fun _ => rfl, fun _ => rfl⟩
abbrev int5V (x : Five) : Value := .agg [.int .i64 x.r0, .int .i64 x.r1, .int .i64 x.r2, .int .i64 x.r3, .int .i64 x.r4].toArray
instance : Dec Cell := ⟨fun xs => ⟨xs.getD 0 0, xs.getD 1 0⟩, fun xs h => by
 match xs, h with
 | [a, b], _ => rfl⟩
instance : Dec Node := ⟨fun xs => ⟨xs.getD 0 0, xs.getD 1 0, xs.getD 2 0, xs.getD 3 0, xs.getD 4 0, xs.getD 5 0⟩, fun xs h => by
 match xs, h with
 | [a, b, c, d, e, f], _ => rfl⟩
instance : Dec Five := ⟨fun xs => ⟨xs.getD 0 0, xs.getD 1 0, xs.getD 2 0, xs.getD 3 0, xs.getD 4 0⟩, fun xs h => by
 match xs, h with
 | [a, b, c, d, e], _ => rfl⟩
/-- Which of n things a raw number speaks of. -/
def pk (c n : Int) : Int := (if c < 0 then -(c + 1) else c) % n
theorem pk_bd {c n : Int} (hn : 0 < n) : 0 ≤ pk c n ∧ pk c n < n := ⟨Int.emod_nonneg _ (by omega), Int.emod_lt_of_pos _ hn⟩
/-! ### What the laws make of raw numbers -/
namespace RL
/-- Raw numbers that a machine can hold. -/
def Cs (l : List Cell) : Prop := ∀ i, i < l.length → I64 (l.getD i default).x ∧ I64 (l.getD i default).y
def Fs (l : List Five) : Prop := ∀ i, i < l.length → I64 (l.getD i default).r0 ∧ I64 (l.getD i default).r1 ∧ I64 (l.getD i default).r2 ∧ I64 (l.getD i default).r3 ∧ I64 (l.getD i default).r4
def cell16 (r : Cell) : Cell := ⟨pk r.x 16 - 8, pk r.y 16 - 8⟩
def set (raw : List Cell) : List Cell := R1.puts ((raw.take 60).map cell16)
def lev (ns : List Node) (r : Five) : Int := if 0 < ns.length then (R6.nd ns (pk r.r4 ns.length)).lv else 0
def sameFrom (lv : Int) : Nat → List Node → List Int
 | _, [] => []
 | i, x :: ns => if x.lv = lv then (i : Int) :: sameFrom lv (i + 1) ns else sameFrom lv (i + 1) ns
def same (ns : List Node) (r : Five) : List Int := sameFrom (lev ns r) 0 ns
def one (s : List Int) (c : Int) : Int := if 0 < s.length then s.getD (pk c s.length).toNat default else 0
def kids (ns : List Node) (r : Five) : Int × Int × Int × Int := (one (same ns r) r.r0, one (same ns r) r.r1, one (same ns r) r.r2, one (same ns r) r.r3)
def room (c : Int) : Int := 2 + pk c 60
def putRaw (rm : Int) (ns : List Node) (r : Five) : List Node := (R6.intern ns rm (kids ns r).1 (kids ns r).2.1 (kids ns r).2.2.1 (kids ns r).2.2.2).1
def store (rm : Int) (raw : List Five) : List Node := (raw.take 40).foldl (putRaw rm) [R6.n0, R6.n1]
def square (rm : Int) (nodes : List Five) (raw : List Cell) (level : Int) : List Node × Int × Int := R7.make (store (room rm) nodes) (room rm + 500) (set raw) (4 + pk level 4)
def cropIn (half : Int) (c : Cell) : Prop := (-half ≤ c.x ∧ c.x < half) ∧ -half ≤ c.y ∧ c.y < half
instance (half : Int) (c : Cell) : Decidable (cropIn half c) := inferInstanceAs (Decidable (_ ∧ _))
def crop (l : List Cell) (x y half : Int) : List Cell := R1.puts ((l.map fun c => (⟨c.x - x, c.y - y⟩ : Cell)).filter fun c => decide (cropIn half c))
end RL
end Go.GL


namespace Go.GL
namespace R6
theorem atFrom_snoc (k : List Int) (x : Node) : ∀ (ns : List Node) (i : Nat), atFrom k i (ns ++ [x]) = if 0 ≤ atFrom k i ns then atFrom k i ns else if x.kids = k then ((i + ns.length : Nat) : Int) else -1
 | [], i => by
  simp only [List.nil_append, atFrom, List.length_nil, Nat.add_zero]
  rw [if_neg (by decide : ¬ (0:Int) ≤ -1)]
 | y :: ns, i => by
  simp only [List.cons_append, atFrom]
  split
  ·rw [if_pos (by omega)]
  ·rw [atFrom_snoc k x ns (i + 1), List.length_cons, show i + 1 + ns.length = i + (ns.length + 1) by omega]
theorem at_snoc {ns : List Node} (h : 2 ≤ ns.length) (k : List Int) (x : Node) : at_ (ns ++ [x]) k = if 0 ≤ at_ ns k then at_ ns k else if x.kids = k then (ns.length : Int) else -1 := by
 unfold at_
 rw [List.drop_append_of_le_length h, atFrom_snoc, List.length_drop, show 2 + (ns.length - 2) = ns.length by omega]
theorem atFrom_ge (k : List Int) : ∀ (ns : List Node) (i : Nat), atFrom k i ns = -1 ∨ ((i : Int) ≤ atFrom k i ns ∧ atFrom k i ns < ((i + ns.length : Nat) : Int))
 | [], i => .inl rfl
 | y :: ns, i => by
  simp only [atFrom, List.length_cons]
  split
  ·right; omega
  ·rcases atFrom_ge k ns (i + 1) with h | h
   ·exact .inl h
   ·right; omega
theorem at_ge {ns : List Node} (h : 2 ≤ ns.length) (k : List Int) : at_ ns k = -1 ∨ (2 ≤ at_ ns k ∧ at_ ns k < ns.length) := by
 have := atFrom_ge k (ns.drop 2) 2
 rw [List.length_drop] at this
 unfold at_
 rcases this with h1 | h1
 ·exact .inl h1
 ·right; omega
end R6
namespace R6
theorem atFrom_append (k : List Int) (ys : List Node) : ∀ (xs : List Node) (i : Nat), atFrom k i (xs ++ ys) = if 0 ≤ atFrom k i xs then atFrom k i xs else atFrom k (i + xs.length) ys
 | [], i => by
  have h : atFrom k i [] = -1 := rfl
  rw [List.nil_append, if_neg (by rw [h]; decide), List.length_nil, Nat.add_zero]
 | x :: xs, i => by
  simp only [List.cons_append, atFrom]
  split
  ·rw [if_pos (by omega)]
  ·rw [atFrom_append k ys xs (i + 1), List.length_cons, show i + 1 + xs.length = i + (xs.length + 1) by omega]
theorem at_take {ns : List Node} {n : Nat} (h2 : 2 ≤ n) (hn : n < ns.length) : at_ ns (ns.getD n default).kids = if 0 ≤ at_ (ns.take n) (ns.getD n default).kids then at_ (ns.take n) (ns.getD n default).kids else n := by
 have e : ns.drop 2 = (ns.take n).drop 2 ++ ns.drop n := by
  rw [← List.drop_append_of_le_length (by rw [List.length_take]; omega), List.take_append_drop]
 unfold at_
 rw [e, atFrom_append]
 have hl : ((ns.take n).drop 2).length = n - 2 := by rw [List.length_drop, List.length_take]; omega
 rw [hl, show 2 + (n - 2) = n by omega, List.drop_eq_getElem_cons hn]
 simp only [atFrom]
 rw [show ns.getD n default = ns[n] by simp [hn], if_pos rfl]
theorem nd_take {ns : List Node} {n : Nat} {q : Int} (h : q < n) (h2 : 2 ≤ n) : nd (ns.take n) q = nd ns q := by
 unfold nd
 have hq : q.toNat < n := by omega
 rw [List.getD_eq_getElem?_getD, List.getD_eq_getElem?_getD, List.getElem?_take_of_lt hq]
theorem fits_iff {ns : List Node} {n : Nat} (h2 : 2 ≤ n) (hn : n < ns.length) (hm : ModTo ns n) : fits ns n ↔ ¬ 0 ≤ at_ (ns.take n) (ns.getD n default).kids ∧ fit4 (ns.take n) (ns.getD n default).k0 (ns.getD n default).k1 (ns.getD n default).k2 (ns.getD n default).k3 ∧ mk4 (ns.take n) (ns.getD n default).k0 (ns.getD n default).k1 (ns.getD n default).k2 (ns.getD n default).k3 = ns.getD n default := by
 have hat := at_take h2 hn
 have hge := at_ge (ns := ns.take n) (by rw [List.length_take]; omega) (ns.getD n default).kids
 have hl : (ns.take n).length = n := by rw [List.length_take]; omega
 unfold fits fitsX kidOk fit4 inS mk4
 rw [hl]
 rw [hl] at hge
 generalize hx : ns.getD n default = x at *
 have pop : x.k0 < n → x.k1 < n → x.k2 < n → x.k3 < n → pop4 (ns.take n) x.k0 x.k1 x.k2 x.k3 = pop4 ns x.k0 x.k1 x.k2 x.k3 := fun a b c d => by
  unfold pop4
  rw [nd_take a h2, nd_take b h2, nd_take c h2, nd_take d h2]
 constructor
 ·rintro ⟨⟨a0, a1, a2⟩, ⟨b0, b1, b2⟩, ⟨c0, c1, c2⟩, ⟨d0, d1, d2⟩, e1, e2, e3, e4⟩
  rw [e4] at hat
  rw [nd_take a1 h2, nd_take b1 h2, nd_take c1 h2, nd_take d1 h2, pop a1 b1 c1 d1]
  refine ⟨fun h => ?_, ⟨⟨a0, a1⟩, ⟨⟨b0, b1⟩, by omega⟩, ⟨⟨c0, c1⟩, by omega⟩, ⟨⟨d0, d1⟩, by omega⟩, by omega⟩, ?_⟩
  ·rw [if_pos h] at hat
   omega
  ·rw [← e3, a2]
   cases x
   simp
 ·rintro ⟨h1, ⟨⟨a0, a1⟩, ⟨⟨b0, b1⟩, b2⟩, ⟨⟨c0, c1⟩, c2⟩, ⟨⟨d0, d1⟩, d2⟩, e1⟩, e2⟩
  rw [if_neg h1] at hat
  rw [nd_take a1 h2, nd_take b1 h2] at b2
  rw [nd_take a1 h2, nd_take c1 h2] at c2
  rw [nd_take a1 h2, nd_take d1 h2] at d2
  rw [nd_take a1 h2] at e1 e2
  rw [pop a1 b1 c1 d1] at e2
  have f1 : (nd ns x.k0).lv + 1 = x.lv := congrArg Node.lv e2
  have f2 : pop4 ns x.k0 x.k1 x.k2 x.k3 = x.pop := congrArg Node.pop e2
  have f3 := (hm.at (k := x.k0) (by omega) (by omega)).1
  have f3' : 0 ≤ (nd ns x.k0).lv := f3
  exact ⟨⟨a0, a1, by omega⟩, ⟨b0, b1, by omega⟩, ⟨c0, c1, by omega⟩, ⟨d0, d1, by omega⟩, by omega, by omega, f2.symm, hat⟩
theorem ModTo.take {ns : List Node} {n : Nat} (h : ModTo ns n) : Mod (ns.take n) := by
 intro x hx
 obtain ⟨i, hi, rfl⟩ := List.getElem_of_mem hx
 rw [List.length_take] at hi
 have := h i (by omega)
 rw [List.getElem_take]
 have hi2 : i < ns.length := by omega
 simpa [hi2, cap62] using this
end R6
theorem mfind_mset (es : KVs) (k k' : List Int) (v : Value) : mfind (mset es k v) k' = if k = k' then some v else mfind es k' := by
 induction es with
 | nil => simp [mset, mfind]
 | cons p es ih =>
  simp only [mset]
  by_cases h : p.1 = k
  ·rw [if_pos h]
   simp only [mfind]
   by_cases h2 : k = k'
   ·simp [h2]
   ·rw [if_neg h2, if_neg h2, if_neg (by rw [h]; exact h2)]
  ·rw [if_neg h]
   simp only [mfind, ih]
   by_cases h2 : k = k'
   ·subst h2; simp [h]
   ·simp [h2]
/-- The map tells each node's place by its kids. -/
def Idx (ns : List Node) (es : KVs) : Prop := ∀ k, mfind es k = if 0 ≤ R6.at_ ns k then some (.int .i64 (R6.at_ ns k)) else none
theorem Idx.snoc {ns : List Node} {es : KVs} (h : Idx ns es) (h2 : 2 ≤ ns.length) (x : Node) (hx : ¬ 0 ≤ R6.at_ ns x.kids) : Idx (ns ++ [x]) (mset es x.kids (.int .i64 ns.length)) := by
 intro k
 rw [mfind_mset, h k, R6.at_snoc h2]
 by_cases e : x.kids = k
 ·subst e
  have h0 : (0:Int) ≤ (ns.length : Int) := Int.natCast_nonneg _
  rw [if_pos rfl, if_neg hx, if_pos rfl, if_pos h0]
 ·rw [if_neg e, if_neg e]
  split
  ·rfl
  ·rename_i h3; rw [if_neg (by decide : ¬ (0:Int) ≤ -1)]
theorem Idx.start : Idx [R6.n0, R6.n1] [] := by
 intro k
 rfl
/-- An index as the program holds it. -/
def IdxA (P : Program) (kt E : TypeId) (T : TypeId) (bx : Nat) (ns : List Node) (room : Int) (A : List Asrt) : List Asrt → Prop := fun L => ∃ a cap mb es, L = Box bx [.slice a ns.length cap, .int .i64 room, .map (some mb)] T :: Row a cap ns.length E 6 (encs ns) :: MapA P kt mb es :: A ∧ Idx ns es
end Go.GL


namespace Go.GL
/-! ### Stores in which all is right -/
namespace R6
structure Wf (ns : List Node) : Prop where
 len : 2 ≤ ns.length
 z : ns.getD 0 default = n0
 o : ns.getD 1 default = n1
 ok : ∀ i, i < ns.length → 2 ≤ i → fits ns i
theorem right_iff {ns : List Node} {room : Int} : right ns room ↔ (2 ≤ room ∧ room ≤ 100000 ∧ (ns.length : Int) ≤ room) ∧ Wf ns :=
 ⟨fun h => ⟨⟨h.1.1, h.1.2.1, h.1.2.2.2.1⟩, ⟨by have := h.1.2.2.1; omega, h.1.2.2.2.2.1, h.1.2.2.2.2.2, h.2⟩⟩,
  fun ⟨⟨a, b, c⟩, h⟩ => ⟨⟨a, b, by have := h.len; omega, c, h.z, h.o⟩, h.ok⟩⟩
theorem Wf.modTo {ns : List Node} (h : Wf ns) : ModTo ns ns.length := by
 have key : ∀ n, n ≤ ns.length → ModTo ns n := by
  intro n
  induction n with
  | zero => intro _ j hj; omega
  | succ n ih =>
   intro hn
   have hm := ih (by omega)
   by_cases h2 : 2 ≤ n
   ·exact hm.step (h.ok n (by omega) h2)
   ·intro j hj
    rcases (by omega : j = 0 ∨ j = 1) with rfl | rfl
    ·rw [h.z]; decide
    ·rw [h.o]; decide
 exact key _ (Nat.le_refl _)
theorem Wf.mod {ns : List Node} (h : Wf ns) : Mod ns := h.modTo.mod
theorem Wf.lvb {ns : List Node} (h : Wf ns) {n : Int} (hn : inS ns n) : 0 ≤ (nd ns n).lv ∧ (nd ns n).lv ≤ 42 := ⟨(h.mod.nd hn).1, (h.mod.nd hn).2.1⟩
theorem Wf.nd0 {ns : List Node} (h : Wf ns) : nd ns 0 = n0 := h.z
theorem Wf.nd1 {ns : List Node} (h : Wf ns) : nd ns 1 = n1 := h.o
theorem Wf.in0 {ns : List Node} (h : Wf ns) : inS ns 0 := ⟨by omega, by have := h.len; omega⟩
theorem Wf.in1 {ns : List Node} (h : Wf ns) : inS ns 1 := ⟨by omega, by have := h.len; omega⟩
theorem Wf.two {ns : List Node} (h : Wf ns) {n : Int} (hn : inS ns n) (hl : (nd ns n).lv ≠ 0) : 2 ≤ n := by
 rcases Int.lt_or_le n 2 with h2 | h2
 ·exfalso
  have hn0 := hn.1
  rcases (by omega : n = 0 ∨ n = 1) with rfl | rfl
  ·exact hl (by rw [h.nd0]; rfl)
  ·exact hl (by rw [h.nd1]; rfl)
 ·exact h2
theorem Wf.fits {ns : List Node} (h : Wf ns) {n : Int} (hn : inS ns n) (h2 : 2 ≤ n) : fitsX ns n.toNat (nd ns n) := h.ok n.toNat (by have := hn.2; omega) (by omega)
theorem Wf.lv0 {ns : List Node} (h : Wf ns) {n : Int} (hn : inS ns n) (hl : (nd ns n).lv = 0) : n = 0 ∨ n = 1 := by
 rcases Int.lt_or_le n 2 with h2 | h2
 ·have := hn.1; omega
 ·have := (h.fits hn h2).2.2.2.2.1
  omega
theorem Wf.kid {ns : List Node} (h : Wf ns) {n : Int} (hn : inS ns n) (hl : (nd ns n).lv ≠ 0) {q : Int} (hq : q ∈ (nd ns n).kids) : inS ns q ∧ q < n ∧ (nd ns q).lv = (nd ns n).lv - 1 := by
 have h2 := h.two hn hl
 have hn1 := hn.2
 obtain ⟨k0, k1, k2, k3, _⟩ := h.fits hn h2
 have key : kidOk ns n.toNat q (nd ns n).lv := by
  unfold Node.kids at hq
  simp only [List.mem_cons, List.not_mem_nil, or_false] at hq
  rcases hq with rfl | rfl | rfl | rfl
  ·exact k0
  ·exact k1
  ·exact k2
  ·exact k3
 obtain ⟨g1, g2, g3⟩ := key
 exact ⟨⟨g1, by omega⟩, by omega, by omega⟩
theorem Wf.pop {ns : List Node} (h : Wf ns) {n : Int} (hn : inS ns n) (hl : (nd ns n).lv ≠ 0) : (nd ns n).pop = pop4 ns (nd ns n).k0 (nd ns n).k1 (nd ns n).k2 (nd ns n).k3 := (h.fits hn (h.two hn hl)).2.2.2.2.2.2.1
theorem Wf.at_ {ns : List Node} (h : Wf ns) {n : Int} (hn : inS ns n) (hl : (nd ns n).lv ≠ 0) : at_ ns (nd ns n).kids = n := by
 have := (h.fits hn (h.two hn hl)).2.2.2.2.2.2.2
 have := hn.1
 omega
theorem Wf.uniq {ns : List Node} (h : Wf ns) {n m : Int} (hn : inS ns n) (hm : inS ns m) (hl : (nd ns n).lv ≠ 0) (hl2 : (nd ns m).lv ≠ 0) (e : (nd ns n).kids = (nd ns m).kids) : n = m := by
 rw [← h.at_ hn hl, e, h.at_ hm hl2]
/-! #### what is put -/
theorem inS_pre {ns ms : List Node} (h : ns <+: ms) {n : Int} (hn : inS ns n) : inS ms n := ⟨hn.1, by have := h.length_le; have := hn.2; omega⟩
theorem nd_pre {ns ms : List Node} (h : ns <+: ms) {n : Int} (hn : inS ns n) : nd ms n = nd ns n := by
 obtain ⟨t, rfl⟩ := h
 unfold nd
 have : n.toNat < ns.length := by have := hn.1; have := hn.2; omega
 rw [List.getD_eq_getElem?_getD, List.getD_eq_getElem?_getD, List.getElem?_append_left this]
theorem atFrom_found (k : List Int) : ∀ (ns : List Node) (i : Nat), 0 ≤ atFrom k i ns → ∃ j, j < ns.length ∧ atFrom k i ns = ((i + j : Nat) : Int) ∧ (ns.getD j default).kids = k
 | [], i, h => by simp only [atFrom] at h; omega
 | x :: ns, i, h => by
  simp only [atFrom] at h ⊢
  split at h
  ·rename_i hx
   rw [if_pos hx]
   exact ⟨0, by simp, by simp, by simpa using hx⟩
  ·rename_i hx
   rw [if_neg hx]
   obtain ⟨j, h1, h2, h3⟩ := atFrom_found k ns (i + 1) h
   exact ⟨j + 1, by simp only [List.length_cons]; omega, by rw [h2]; omega, by simpa using h3⟩
theorem at_found {ns : List Node} {k : List Int} (h : 0 ≤ R6.at_ ns k) : 2 ≤ R6.at_ ns k ∧ inS ns (R6.at_ ns k) ∧ (nd ns (R6.at_ ns k)).kids = k := by
 unfold R6.at_ at h ⊢
 obtain ⟨j, h1, h2, h3⟩ := atFrom_found k _ 2 h
 rw [List.length_drop] at h1
 rw [h2]
 refine ⟨by omega, ⟨by omega, by omega⟩, ?_⟩
 unfold nd
 have : ((2 + j : Nat) : Int).toNat = 2 + j := by omega
 rw [this]
 simpa [List.getD_eq_getElem?_getD] using h3
theorem at_pre {ns ms : List Node} (h2 : 2 ≤ ns.length) (h : ns <+: ms) {k : List Int} (hk : 0 ≤ R6.at_ ns k) : R6.at_ ms k = R6.at_ ns k := by
 obtain ⟨t, rfl⟩ := h
 unfold R6.at_ at hk ⊢
 rw [List.drop_append_of_le_length h2, atFrom_append, if_pos hk]
theorem pop4_pre {ns ms : List Node} (h : ns <+: ms) {q0 q1 q2 q3 : Int} (h0 : inS ns q0) (h1 : inS ns q1) (h2 : inS ns q2) (h3 : inS ns q3) : pop4 ms q0 q1 q2 q3 = pop4 ns q0 q1 q2 q3 := by
 unfold pop4; rw [nd_pre h h0, nd_pre h h1, nd_pre h h2, nd_pre h h3]
theorem Wf.snoc {ns : List Node} (h : Wf ns) {q0 q1 q2 q3 : Int} (hf : fit4 ns q0 q1 q2 q3) (hat : ¬ 0 ≤ R6.at_ ns [q0, q1, q2, q3]) : Wf (ns ++ [mk4 ns q0 q1 q2 q3]) := by
 have hpre : ns <+: ns ++ [mk4 ns q0 q1 q2 q3] := List.prefix_append _ _
 have hl := h.len
 refine ⟨by simp; omega, ?_, ?_, fun i hi hi2 => ?_⟩
 ·have := nd_pre hpre h.in0; exact this.trans h.z
 ·have := nd_pre hpre h.in1; exact this.trans h.o
 ·simp only [List.length_append, List.length_singleton] at hi
  unfold R6.fits fitsX kidOk
  by_cases e : i < ns.length
  ·have hin : inS ns (i : Int) := ⟨by omega, by omega⟩
   have e1 : (ns ++ [mk4 ns q0 q1 q2 q3]).getD i default = ns.getD i default := nd_pre hpre hin
   rw [e1]
   obtain ⟨⟨a0, a1, a2⟩, ⟨b0, b1, b2⟩, ⟨c0, c1, c2⟩, ⟨d0, d1, d2⟩, f1, f2, f3, f4⟩ := h.ok i e hi2
   have i0 : inS ns (ns.getD i default).k0 := ⟨a0, by omega⟩
   have i1 : inS ns (ns.getD i default).k1 := ⟨b0, by omega⟩
   have i2 : inS ns (ns.getD i default).k2 := ⟨c0, by omega⟩
   have i3 : inS ns (ns.getD i default).k3 := ⟨d0, by omega⟩
   rw [nd_pre hpre i0, nd_pre hpre i1, nd_pre hpre i2, nd_pre hpre i3, pop4_pre hpre i0 i1 i2 i3, at_pre hl hpre (by rw [f4]; omega)]
   exact ⟨⟨a0, a1, a2⟩, ⟨b0, b1, b2⟩, ⟨c0, c1, c2⟩, ⟨d0, d1, d2⟩, f1, f2, f3, f4⟩
  ·have ei : i = ns.length := by omega
   subst ei
   have e1 : (ns ++ [mk4 ns q0 q1 q2 q3]).getD ns.length default = mk4 ns q0 q1 q2 q3 := by simp
   rw [e1]
   obtain ⟨a, ⟨b, b'⟩, ⟨c, c'⟩, ⟨d, d'⟩, f⟩ := hf
   have hlv := h.lvb a
   have x0 : (mk4 ns q0 q1 q2 q3).k0 = q0 := rfl
   have x1 : (mk4 ns q0 q1 q2 q3).k1 = q1 := rfl
   have x2 : (mk4 ns q0 q1 q2 q3).k2 = q2 := rfl
   have x3 : (mk4 ns q0 q1 q2 q3).k3 = q3 := rfl
   have x4 : (mk4 ns q0 q1 q2 q3).lv = (nd ns q0).lv + 1 := rfl
   have x5 : (mk4 ns q0 q1 q2 q3).pop = pop4 ns q0 q1 q2 q3 := rfl
   rw [x0, x1, x2, x3, x4, x5, nd_pre hpre a, nd_pre hpre b, nd_pre hpre c, nd_pre hpre d, pop4_pre hpre a b c d]
   refine ⟨⟨a.1, a.2, by omega⟩, ⟨b.1, b.2, by omega⟩, ⟨c.1, c.2, by omega⟩, ⟨d.1, d.2, by omega⟩, by omega, f, rfl, ?_⟩
   have := at_snoc hl [q0, q1, q2, q3] (mk4 ns q0 q1 q2 q3)
   rw [if_neg hat, if_pos (by rfl)] at this
   exact this
/-- What a put comes to, if it has room. -/
structure PutOk (ns : List Node) (q0 q1 q2 q3 : Int) (ms : List Node) (m : Int) : Prop where
 wf : Wf ms
 pre : ns <+: ms
 mem : inS ms m
 nd : nd ms m = mk4 ns q0 q1 q2 q3
 len : ms.length ≤ ns.length + 1
theorem nd_of_found {ns : List Node} (h : Wf ns) {q0 q1 q2 q3 : Int} (hf : fit4 ns q0 q1 q2 q3) {m : Int} (hm : inS ns m) (hl : (R6.nd ns m).lv ≠ 0) (hk : (R6.nd ns m).kids = [q0, q1, q2, q3]) : R6.nd ns m = mk4 ns q0 q1 q2 q3 := by
 have h2 := h.two hm hl
 obtain ⟨⟨_, _, k⟩, _, _, _, f1, f2, f3, f4⟩ := h.fits hm h2
 unfold Node.kids at hk
 simp only [List.cons.injEq, and_true] at hk
 obtain ⟨e0, e1, e2, e3⟩ := hk
 unfold mk4
 rw [e0, e1, e2, e3] at f3
 rw [e0] at k
 generalize R6.nd ns m = x at *
 cases x
 simp_all
theorem put_ok {ns : List Node} (h : Wf ns) {room : Int} {q0 q1 q2 q3 : Int} (hf : fit4 ns q0 q1 q2 q3) (hr : 0 ≤ R6.at_ ns [q0, q1, q2, q3] ∨ (ns.length : Int) < room) : ∃ ms m, put ns room q0 q1 q2 q3 = (ms, m, 0) ∧ PutOk ns q0 q1 q2 q3 ms m := by
 unfold put
 rw [if_pos hf]
 by_cases hat : 0 ≤ R6.at_ ns [q0, q1, q2, q3]
 ·rw [if_pos hat]
  obtain ⟨h2, h3, h4⟩ := at_found hat
  have hl : (R6.nd ns (R6.at_ ns [q0, q1, q2, q3])).lv ≠ 0 := by have := (h.fits h3 h2).2.2.2.2.1; omega
  exact ⟨_, _, rfl, h, List.prefix_refl _, h3, nd_of_found h hf h3 hl h4, by omega⟩
 ·rw [if_neg hat, if_neg (by have := hr.resolve_left hat; omega)]
  refine ⟨_, _, rfl, h.snoc hf hat, List.prefix_append _ _, ⟨by omega, by simp; omega⟩, ?_, by simp⟩
  unfold R6.nd
  simp
/-- What is there already is found. -/
theorem put_again {ns : List Node} (h : Wf ns) {room : Int} {q0 q1 q2 q3 : Int} (hf : fit4 ns q0 q1 q2 q3) {m : Int} (hm : inS ns m) (hl : (R6.nd ns m).lv ≠ 0) (hk : (R6.nd ns m).kids = [q0, q1, q2, q3]) : put ns room q0 q1 q2 q3 = (ns, m, 0) := by
 have := h.at_ hm hl
 rw [hk] at this
 unfold put
 rw [if_pos hf, if_pos (by rw [this]; exact hm.1), this]
theorem PutOk.kids {ns ms : List Node} {q0 q1 q2 q3 m : Int} (h : PutOk ns q0 q1 q2 q3 ms m) : (R6.nd ms m).kids = [q0, q1, q2, q3] := by rw [h.nd]; rfl
theorem PutOk.lv {ns ms : List Node} {q0 q1 q2 q3 m : Int} (h : PutOk ns q0 q1 q2 q3 ms m) : (R6.nd ms m).lv = (R6.nd ns q0).lv + 1 := by rw [h.nd]; rfl
theorem put_wf {ns : List Node} (h : Wf ns) (room q0 q1 q2 q3 : Int) : Wf (put ns room q0 q1 q2 q3).1 ∧ ns <+: (put ns room q0 q1 q2 q3).1 := by
 unfold put
 split
 ·rename_i hf
  split
  ·exact ⟨h, List.prefix_refl _⟩
  ·rename_i hat
   split
   ·exact ⟨h, List.prefix_refl _⟩
   ·exact ⟨h.snoc hf hat, List.prefix_append _ _⟩
 ·exact ⟨h, List.prefix_refl _⟩
theorem put_room {ns : List Node} {room : Int} (hl : (ns.length : Int) ≤ room) (q0 q1 q2 q3 : Int) : ((put ns room q0 q1 q2 q3).1.length : Int) ≤ room := by
 unfold put
 split
 ·split
  ·exact hl
  ·split
   ·exact hl
   ·simp only [List.length_append, List.length_singleton]; omega
 ·exact hl
end R6
end Go.GL


namespace Go.GL
/-! ### What a node stands for -/
namespace R7
open R6
theorem p2s (m : Nat) : (2:Int) ^ (m + 1) = 2 ^ m * 2 := Int.pow_succ 2 m
theorem p2pos (m : Nat) : (0:Int) < 2 ^ m := Int.pow_pos (by omega)
def al (ns : List Node) : Nat → Int → Int → Int → Bool
 | 0, n, _, _ => decide (n = 1)
 | lv + 1, n, x, y =>
  if y < 2 ^ lv then (if x < 2 ^ lv then al ns lv (nd ns n).k0 x y else al ns lv (nd ns n).k1 (x - 2 ^ lv) y)
  else (if x < 2 ^ lv then al ns lv (nd ns n).k2 x (y - 2 ^ lv) else al ns lv (nd ns n).k3 (x - 2 ^ lv) (y - 2 ^ lv))
def inQ (lv : Nat) (x y : Int) : Prop := 0 ≤ x ∧ x < 2 ^ lv ∧ 0 ≤ y ∧ y < 2 ^ lv
/-- A node of a level. -/
def IsN (ns : List Node) (lv : Nat) (n : Int) : Prop := inS ns n ∧ (nd ns n).lv = lv
theorem kids4 {ns : List Node} (h : Wf ns) {lv : Nat} {n : Int} (hn : IsN ns (lv + 1) n) : IsN ns lv (nd ns n).k0 ∧ IsN ns lv (nd ns n).k1 ∧ IsN ns lv (nd ns n).k2 ∧ IsN ns lv (nd ns n).k3 := by
 have hl : (nd ns n).lv ≠ 0 := by rw [hn.2]; omega
 have key : ∀ q, q ∈ (nd ns n).kids → IsN ns lv q := fun q hq => by
  obtain ⟨a, _, b⟩ := h.kid hn.1 hl hq
  refine ⟨a, ?_⟩
  rw [b, hn.2]; omega
 exact ⟨key _ (by simp [Node.kids]), key _ (by simp [Node.kids]), key _ (by simp [Node.kids]), key _ (by simp [Node.kids])⟩
theorem IsN.pre {ns ms : List Node} (hp : ns <+: ms) {lv : Nat} {n : Int} (h : IsN ns lv n) : IsN ms lv n := ⟨inS_pre hp h.1, by rw [nd_pre hp h.1]; exact h.2⟩
theorem al_pre {ns ms : List Node} (h : Wf ns) (hp : ns <+: ms) : ∀ (lv : Nat) (n x y : Int), IsN ns lv n → al ms lv n x y = al ns lv n x y
 | 0, n, x, y, _ => rfl
 | lv + 1, n, x, y, hn => by
  obtain ⟨a, b, c, d⟩ := kids4 h hn
  simp only [al]
  rw [nd_pre hp hn.1, al_pre h hp lv _ _ _ a, al_pre h hp lv _ _ _ b, al_pre h hp lv _ _ _ c, al_pre h hp lv _ _ _ d]
theorem isN0 {ns : List Node} (h : Wf ns) {n : Int} (hn : IsN ns 0 n) : n = 0 ∨ n = 1 := h.lv0 hn.1 hn.2
theorem pop4_zero {ns : List Node} {q0 q1 q2 q3 : Int} (h0 : 0 ≤ (nd ns q0).pop) (h1 : 0 ≤ (nd ns q1).pop) (h2 : 0 ≤ (nd ns q2).pop) (h3 : 0 ≤ (nd ns q3).pop) : pop4 ns q0 q1 q2 q3 = 0 ↔ (nd ns q0).pop = 0 ∧ (nd ns q1).pop = 0 ∧ (nd ns q2).pop = 0 ∧ (nd ns q3).pop = 0 := by
 unfold pop4 mn cap62
 generalize (nd ns q0).pop = a at *
 generalize (nd ns q1).pop = b at *
 generalize (nd ns q2).pop = c at *
 generalize (nd ns q3).pop = d at *
 constructor
 ·intro h
  repeat' split at h
  all_goals omega
 ·rintro ⟨rfl, rfl, rfl, rfl⟩; rfl
theorem dead_kids {ns : List Node} (h : Wf ns) {lv : Nat} {n : Int} (hn : IsN ns (lv + 1) n) : (nd ns n).pop = 0 ↔ (nd ns (nd ns n).k0).pop = 0 ∧ (nd ns (nd ns n).k1).pop = 0 ∧ (nd ns (nd ns n).k2).pop = 0 ∧ (nd ns (nd ns n).k3).pop = 0 := by
 obtain ⟨a, b, c, d⟩ := kids4 h hn
 rw [h.pop hn.1 (by rw [hn.2]; omega)]
 exact pop4_zero (h.mod.nd a.1).2.2.1 (h.mod.nd b.1).2.2.1 (h.mod.nd c.1).2.2.1 (h.mod.nd d.1).2.2.1
theorem al_dead {ns : List Node} (h : Wf ns) : ∀ (lv : Nat) (n x y : Int), IsN ns lv n → (nd ns n).pop = 0 → al ns lv n x y = false
 | 0, n, x, y, hn, hp => by
  rcases isN0 h hn with rfl | rfl
  ·rfl
  ·rw [h.nd1] at hp; cases hp
 | lv + 1, n, x, y, hn, hp => by
  obtain ⟨a, b, c, d⟩ := kids4 h hn
  obtain ⟨a', b', c', d'⟩ := (dead_kids h hn).1 hp
  simp only [al]
  rw [al_dead h lv _ _ _ a a', al_dead h lv _ _ _ b b', al_dead h lv _ _ _ c c', al_dead h lv _ _ _ d d']
  simp
theorem inQ_succ {lv : Nat} {x y : Int} (h : inQ (lv + 1) x y) : (y < 2 ^ lv → x < 2 ^ lv → inQ lv x y) ∧ (y < 2 ^ lv → ¬ x < 2 ^ lv → inQ lv (x - 2 ^ lv) y) ∧ (¬ y < 2 ^ lv → x < 2 ^ lv → inQ lv x (y - 2 ^ lv)) ∧ (¬ y < 2 ^ lv → ¬ x < 2 ^ lv → inQ lv (x - 2 ^ lv) (y - 2 ^ lv)) := by
 unfold inQ at *
 rw [p2s] at h
 have := p2pos lv
 omega
/-- Two nodes of a level that stand for the same are one. -/
theorem al_inj {ns : List Node} (h : Wf ns) : ∀ (lv : Nat) (n m : Int), IsN ns lv n → IsN ns lv m → (∀ x y, inQ lv x y → al ns lv n x y = al ns lv m x y) → n = m
 | 0, n, m, hn, hm, he => by
  have := he 0 0 ⟨by omega, by decide, by omega, by decide⟩
  simp only [al] at this
  rcases isN0 h hn with rfl | rfl <;> rcases isN0 h hm with rfl | rfl <;> simp_all
 | lv + 1, n, m, hn, hm, he => by
  obtain ⟨a, b, c, d⟩ := kids4 h hn
  obtain ⟨a', b', c', d'⟩ := kids4 h hm
  have hp := p2pos lv
  have key : ∀ x y, inQ (lv + 1) x y → _ := he
  simp only [al] at key
  have e0 : (nd ns n).k0 = (nd ns m).k0 := al_inj h lv _ _ a a' fun x y hq => by
   unfold inQ at hq
   have := key x y (by unfold inQ; rw [p2s]; omega)
   rwa [if_pos hq.2.2.2, if_pos hq.2.1, if_pos hq.2.2.2, if_pos hq.2.1] at this
  have e1 : (nd ns n).k1 = (nd ns m).k1 := al_inj h lv _ _ b b' fun x y hq => by
   unfold inQ at hq
   have := key (x + 2 ^ lv) y (by unfold inQ; rw [p2s]; omega)
   rwa [if_pos hq.2.2.2, if_neg (by omega), if_pos hq.2.2.2, if_neg (by omega), show x + 2 ^ lv - 2 ^ lv = x by omega] at this
  have e2 : (nd ns n).k2 = (nd ns m).k2 := al_inj h lv _ _ c c' fun x y hq => by
   unfold inQ at hq
   have := key x (y + 2 ^ lv) (by unfold inQ; rw [p2s]; omega)
   rwa [if_neg (by omega), if_pos hq.2.1, if_neg (by omega), if_pos hq.2.1, show y + 2 ^ lv - 2 ^ lv = y by omega] at this
  have e3 : (nd ns n).k3 = (nd ns m).k3 := al_inj h lv _ _ d d' fun x y hq => by
   unfold inQ at hq
   have := key (x + 2 ^ lv) (y + 2 ^ lv) (by unfold inQ; rw [p2s]; omega)
   rwa [if_neg (by omega), if_neg (by omega), if_neg (by omega), if_neg (by omega), show x + 2 ^ lv - 2 ^ lv = x by omega, show y + 2 ^ lv - 2 ^ lv = y by omega] at this
  refine h.uniq hn.1 hm.1 (by rw [hn.2]; omega) (by rw [hm.2]; omega) ?_
  unfold Node.kids
  rw [e0, e1, e2, e3]
theorem dead_uniq {ns : List Node} (h : Wf ns) {lv : Nat} {n m : Int} (hn : IsN ns lv n) (hm : IsN ns lv m) (dn : (nd ns n).pop = 0) (dm : (nd ns m).pop = 0) : n = m :=
 al_inj h lv n m hn hm fun x y _ => by rw [al_dead h lv n x y hn dn, al_dead h lv m x y hm dm]
/-! #### what is flat -/
theorem mem_flat {ns : List Node} (h : Wf ns) : ∀ (lv : Nat) (n : Int) (o c : Cell), IsN ns lv n → (c ∈ flat ns lv n o ↔ inQ lv (c.x - o.x) (c.y - o.y) ∧ al ns lv n (c.x - o.x) (c.y - o.y) = true)
 | lv, n, o, c, hn => by
  by_cases hp : (nd ns n).pop = 0
  ·have e : flat ns lv n o = [] := by unfold flat; rw [if_pos hp]
   rw [e, al_dead h lv n _ _ hn hp]
   simp
  ·match lv, hn with
   | 0, hn =>
    have e : flat ns 0 n o = [o] := by unfold flat; rw [if_neg hp]
    rw [e, List.mem_singleton]
    have n1 : n = 1 := by
     rcases isN0 h hn with rfl | rfl
     ·exact absurd (by rw [h.nd0]; rfl) hp
     ·rfl
    subst n1
    simp only [al, inQ, Int.pow_zero, decide_true, and_true]
    constructor
    ·rintro rfl; omega
    ·intro hq
     cases c; cases o
     simp only [Cell.mk.injEq] at hq ⊢
     omega
   | lv + 1, hn =>
    obtain ⟨a, b, cc, d⟩ := kids4 h hn
    have e : flat ns (lv + 1) n o = flat ns lv (nd ns n).k0 o ++ flat ns lv (nd ns n).k1 ⟨o.x + 2 ^ lv, o.y⟩ ++ flat ns lv (nd ns n).k2 ⟨o.x, o.y + 2 ^ lv⟩ ++ flat ns lv (nd ns n).k3 ⟨o.x + 2 ^ lv, o.y + 2 ^ lv⟩ := by rw [flat]; rw [if_neg hp]
    rw [e, List.mem_append, List.mem_append, List.mem_append, mem_flat h lv _ _ _ a, mem_flat h lv _ _ _ b, mem_flat h lv _ _ _ cc, mem_flat h lv _ _ _ d]
    simp only [al]
    have hpos := p2pos lv
    rw [show c.x - (o.x + 2 ^ lv) = c.x - o.x - 2 ^ lv by omega, show c.y - (o.y + 2 ^ lv) = c.y - o.y - 2 ^ lv by omega]
    generalize c.x - o.x = x
    generalize c.y - o.y = y
    unfold inQ
    rw [p2s]
    have fw : ∀ {p q r s v : Prop}, (p → v) → (q → v) → (r → v) → (s → v) → ((p ∨ q) ∨ r) ∨ s → v := fun h1 h2 h3 h4 h => h.elim (fun h => h.elim (fun h => h.elim h1 h2) h3) h4
    by_cases hy : y < 2 ^ lv
    ·rw [if_pos hy]
     by_cases hx : x < 2 ^ lv
     ·rw [if_pos hx]
      exact ⟨fw (fun ⟨q, k⟩ => ⟨by omega, k⟩) (fun ⟨q, k⟩ => by exfalso; omega) (fun ⟨q, k⟩ => by exfalso; omega) (fun ⟨q, k⟩ => by exfalso; omega), fun ⟨q, k⟩ => .inl (.inl (.inl ⟨by omega, k⟩))⟩
     ·rw [if_neg hx]
      exact ⟨fw (fun ⟨q, k⟩ => by exfalso; omega) (fun ⟨q, k⟩ => ⟨by omega, k⟩) (fun ⟨q, k⟩ => by exfalso; omega) (fun ⟨q, k⟩ => by exfalso; omega), fun ⟨q, k⟩ => .inl (.inl (.inr ⟨by omega, k⟩))⟩
    ·rw [if_neg hy]
     by_cases hx : x < 2 ^ lv
     ·rw [if_pos hx]
      exact ⟨fw (fun ⟨q, k⟩ => by exfalso; omega) (fun ⟨q, k⟩ => by exfalso; omega) (fun ⟨q, k⟩ => ⟨by omega, k⟩) (fun ⟨q, k⟩ => by exfalso; omega), fun ⟨q, k⟩ => .inl (.inr ⟨by omega, k⟩)⟩
     ·rw [if_neg hx]
      exact ⟨fw (fun ⟨q, k⟩ => by exfalso; omega) (fun ⟨q, k⟩ => by exfalso; omega) (fun ⟨q, k⟩ => by exfalso; omega) (fun ⟨q, k⟩ => ⟨by omega, k⟩), fun ⟨q, k⟩ => .inr ⟨by omega, k⟩⟩
end R7
end Go.GL


namespace Go.GL
/-! ### Layer 9, as the document has it -/
namespace R9
/-- What was leapt: a node, an exponent, what it came to. -/
abbrev Memo := List (Int × Int × Int)
structure LS where
 ns : List Node
 mm : Memo
/-- A state, a node, an error. -/
abbrev L9 := LS × Int × Int
def look9 : Memo → Int → Int → Option Int
 | [], _, _ => none
 | p :: mm, n, j => if p.1 = n ∧ p.2.1 = j then some p.2.2 else look9 mm n j
def putS (room : Int) (s : LS) (q0 q1 q2 q3 : Int) : L9 := (⟨(R6.put s.ns room q0 q1 q2 q3).1, s.mm⟩, (R6.put s.ns room q0 q1 q2 q3).2.1, (R6.put s.ns room q0 q1 q2 q3).2.2)
def midS (room : Int) (s : LS) (n : Int) : L9 := putS room s (R8.g (R8.s16 s.ns n) 5) (R8.g (R8.s16 s.ns n) 6) (R8.g (R8.s16 s.ns n) 9) (R8.g (R8.s16 s.ns n) 10)
def oneS (room : Int) (s : LS) (n : Int) : L9 := (⟨(R8.one s.ns room n).1, s.mm⟩, (R8.one s.ns room n).2.1, (R8.one s.ns room n).2.2)
def mapS (f : LS → Int → L9) : LS → List Int → LS × List Int × Int
 | s, [] => (s, [], 0)
 | s, q :: qs => if (f s q).2.2 ≠ 0 then ((f s q).1, [], (f s q).2.2) else ((mapS f (f s q).1 qs).1, (f s q).2.1 :: (mapS f (f s q).1 qs).2.1, (mapS f (f s q).1 qs).2.2)
def fourP (room : Int) (l : List Int) (s : LS) (k : Int) : L9 := putS room s (R8.g l k) (R8.g l (k + 1)) (R8.g l (k + 3)) (R8.g l (k + 4))
def fourE : List Int := [0, 1, 3, 4]
def halfF (lp : LS → Int → Int → L9) (room : Int) (full : Bool) (j : Int) : LS → Int → L9 := fun s q => if full = true then lp s q (j - 1) else midS room s q
/-- The nine squares of a node, each behind half of a leap, or where it stands. -/
def half (lp : LS → Int → Int → L9) (room : Int) (full : Bool) (s : LS) (n j : Int) : LS × List Int × Int :=
 if (R8.all s.ns room n).2.2 ≠ 0 then (s, [], (R8.all s.ns room n).2.2) else mapS (halfF lp room full j) ⟨(R8.all s.ns room n).1, s.mm⟩ (R8.all s.ns room n).2.1
def bindM (r : LS × List Int × Int) (f : LS → List Int → L9) : L9 := if r.2.2 ≠ 0 then (r.1, 0, r.2.2) else f r.1 r.2.1
def put4 (room : Int) (s : LS) (l : List Int) : L9 := putS room s (R8.g l 0) (R8.g l 1) (R8.g l 2) (R8.g l 3)
def lastF (lp : LS → Int → Int → L9) (j : Int) : LS → Int → L9 := fun s q => lp s q j
def far (lp : LS → Int → Int → L9) (room : Int) (full : Bool) (s : LS) (n j : Int) : L9 :=
 bindM (half lp room full s n j) fun t l => bindM (mapS (fourP room l) t fourE) fun t l => bindM (mapS (lastF lp (if full = true then j - 1 else j)) t l) (put4 room)
theorem bindM_err {r : LS × List Int × Int} {f : LS → List Int → L9} (h : r.2.2 ≠ 0) : bindM r f = (r.1, 0, r.2.2) := if_pos h
theorem bindM_ok {r : LS × List Int × Int} {f : LS → List Int → L9} (h : r.2.2 = 0) : bindM r f = f r.1 r.2.1 := if_neg (by simpa using h)
/-- What was leapt is kept. -/
def keep (n j : Int) (r : L9) : L9 := if r.2.2 ≠ 0 then (r.1, 0, r.2.2) else (⟨r.1.ns, r.1.mm ++ [(n, j, r.2.1)]⟩, r.2.1, 0)
/-- A leap of a node of the level k + 2. -/
def leap (room : Int) : Nat → LS → Int → Int → L9
 | 0, s, n, j => match look9 s.mm n j with
  | some to => (s, to, 0)
  | none => keep n j (oneS room s n)
 | k + 1, s, n, j => match look9 s.mm n j with
  | some to => (s, to, 0)
  | none => keep n j (far (leap room k) room (decide (j = k + 1)) s n j)
/-- Is one of the sixteen, but the four in the middle, not dead? -/
def edged (ns : List Node) (n : Int) : Bool := [0, 1, 2, 3, 4, 7, 8, 11, 12, 13, 14, 15].any fun i => decide ((R6.nd ns (R8.g (R8.s16 ns n) i)).pop ≠ 0)
/-- Of a node of the level k + 2. -/
def trim (room : Int) : Nat → LS → Int → L9
 | 0, s, n => (s, n, 0)
 | k + 1, s, n => if edged s.ns n = true then (s, n, 0) else if (midS room s n).2.2 ≠ 0 then ((midS room s n).1, 0, (midS room s n).2.2) else trim room k (midS room s n).1 (midS room s n).2.1
/-- A kid of the larger node. -/
def bigK (dead : Int) (k : Nat) (kid : Int) (i : Nat) : Int := if i + k = 3 then kid else dead
def grow (room : Int) (s : LS) (n : Int) : L9 :=
 let x := R6.nd s.ns n
 if 42 ≤ x.lv then (s, 0, 2) else
 let d := R7.empty s.ns room (x.lv - 1).toNat
 if d.2.2 ≠ 0 then (s, 0, d.2.2) else
 let r := mapS (fun s k => putS room s (bigK d.2.1 k.toNat (x.kids.getD k.toNat default) 0) (bigK d.2.1 k.toNat (x.kids.getD k.toNat default) 1) (bigK d.2.1 k.toNat (x.kids.getD k.toNat default) 2) (bigK d.2.1 k.toNat (x.kids.getD k.toNat default) 3)) ⟨d.1, s.mm⟩ [0, 1, 2, 3]
 if r.2.2 ≠ 0 then (r.1, 0, r.2.2) else
 putS room r.1 (R8.g r.2.1 0) (R8.g r.2.1 1) (R8.g r.2.1 2) (R8.g r.2.1 3)
def bindS (r : L9) (f : LS → Int → L9) : L9 := if r.2.2 ≠ 0 then (r.1, 0, r.2.2) else f r.1 r.2.1
def lvS (s : LS) (n : Int) : Nat := ((R6.nd s.ns n).lv - 2).toNat
def trimS (room : Int) (s : LS) (n : Int) : L9 := trim room (lvS s n) s n
/-- Grown while it is too small (at most so often). -/
def growTo (room : Int) (j : Int) : Nat → LS → Int → L9
 | 0, s, n => (s, n, 0)
 | i + 1, s, n => if (R6.nd s.ns n).lv < j + 3 then bindS (grow room s n) (growTo room j i) else (s, n, 0)
def power (room : Int) (s : LS) (n j : Int) : L9 :=
 bindS (bindS (bindS (bindS (trimS room s n) (grow room)) (grow room)) (growTo room j 64)) fun s m => leap room (lvS s m) s m j
def runL (room : Int) : List Int → LS → Int → L9
 | [], s, n => trimS room s n
 | j :: js, s, n => bindS (power room s n j) (runL room js)
def bits (c : Int) : List Int := ((List.range 62).filter fun i => decide (c / 2 ^ i % 2 = 1)).map fun i => ((i : Nat) : Int)
/-- A store behind what was made in it, or as it was. -/
def out (ns : List Node) (r : L9) : List Node × Int × Int := if r.2.2 ≠ 0 then (ns, 0, r.2.2) else (r.1.ns, r.2.1, 0)
def leapT (ns : List Node) (room n j : Int) : List Node × Int × Int := if R8.may ns room n 2 ∧ 0 ≤ j ∧ j ≤ (R6.nd ns n).lv - 2 then out ns (leap room (lvS ⟨ns, []⟩ n) ⟨ns, []⟩ n j) else (ns, 0, 1)
def trimT (ns : List Node) (room n : Int) : List Node × Int × Int := if R8.may ns room n 2 then out ns (trimS room ⟨ns, []⟩ n) else (ns, 0, 1)
def runT (ns : List Node) (room n c : Int) : List Node × Int × Int := if R8.may ns room n 2 ∧ 0 ≤ c ∧ c ≤ 4611686018427387903 then out ns (runL room (bits c) ⟨ns, []⟩ n) else (ns, 0, 1)
end R9
end Go.GL


namespace Go.GL
open R6 R7
/-! ### What leaps keep to -/
namespace R9
def MemOk (ns : List Node) (mm : Memo) : Prop := ∀ p ∈ mm, ∃ lv : Nat, IsN ns (lv + 2) p.1 ∧ IsN ns (lv + 1) p.2.2
theorem MemOk.pre {ns ms : List Node} (hp : ns <+: ms) {mm : Memo} (h : MemOk ns mm) : MemOk ms mm := fun p hm => by
 obtain ⟨lv, a, b⟩ := h p hm
 exact ⟨lv, a.pre hp, b.pre hp⟩
theorem look9_mem : ∀ {mm : Memo} {n j to : Int}, look9 mm n j = some to → (n, j, to) ∈ mm
 | [], _, _, _, h => by simp [look9] at h
 | p :: mm, n, j, to, h => by
  unfold look9 at h
  split at h
  ·rename_i hp
   obtain ⟨a, b, c⟩ := p
   simp only [Option.some.injEq] at h
   simp only at hp
   obtain ⟨rfl, rfl⟩ := hp
   subst h
   exact List.mem_cons_self
  ·exact List.mem_cons_of_mem _ (look9_mem h)
structure Lk (room : Int) (s : LS) : Prop where
 right : R6.right s.ns room
 mem : MemOk s.ns s.mm
theorem Lk.wf {room : Int} {s : LS} (h : Lk room s) : Wf s.ns := (right_iff.1 h.right).2
/-- What came of a state without an error. -/
structure Gd (room : Int) (s : LS) (r : L9) (lv : Nat) : Prop where
 lk : Lk room r.1
 pre : s.ns <+: r.1.ns
 is : IsN r.1.ns lv r.2.1
theorem put_gd {ns : List Node} (h : Wf ns) {room q0 q1 q2 q3 : Int} {lv : Nat} (hq : IsN ns lv q0) (he : (put ns room q0 q1 q2 q3).2.2 = 0) : IsN (put ns room q0 q1 q2 q3).1 (lv + 1) (put ns room q0 q1 q2 q3).2.1 := by
 have hf : fit4 ns q0 q1 q2 q3 := Decidable.byContradiction fun hf => by
  unfold put at he; rw [if_neg hf] at he; cases he
 have hr : 0 ≤ R6.at_ ns [q0, q1, q2, q3] ∨ (ns.length : Int) < room := Decidable.byContradiction fun hr => by
  unfold put at he
  rw [if_pos hf, if_neg (by omega), if_pos (by omega)] at he
  cases he
 obtain ⟨ms, m, e, ok⟩ := put_ok h hf hr
 rw [e]
 exact ⟨ok.mem, by rw [ok.lv, hq.2]; omega⟩
theorem right_put {ns : List Node} {room : Int} (h : R6.right ns room) (q0 q1 q2 q3 : Int) : R6.right (put ns room q0 q1 q2 q3).1 room ∧ ns <+: (put ns room q0 q1 q2 q3).1 := by
 obtain ⟨⟨a, b, c⟩, hw⟩ := right_iff.1 h
 obtain ⟨d, e⟩ := put_wf hw room q0 q1 q2 q3
 exact ⟨right_iff.2 ⟨⟨a, b, put_room c q0 q1 q2 q3⟩, d⟩, e⟩
theorem putS_gd {room : Int} {s : LS} (h : Lk room s) {q0 q1 q2 q3 : Int} {lv : Nat} (hq : IsN s.ns lv q0) (he : (putS room s q0 q1 q2 q3).2.2 = 0) : Gd room s (putS room s q0 q1 q2 q3) (lv + 1) := by
 obtain ⟨a, b⟩ := right_put h.right q0 q1 q2 q3
 exact ⟨⟨a, h.mem.pre b⟩, b, put_gd h.wf hq he⟩
theorem s16_isN {ns : List Node} (h : Wf ns) {lv : Nat} {n : Int} (hn : IsN ns (lv + 2) n) : ∀ i : Int, 0 ≤ i → i < 16 → IsN ns lv (R8.g (R8.s16 ns n) i) := by
 obtain ⟨a, b, c, d⟩ := kids4 h hn
 obtain ⟨a0, a1, a2, a3⟩ := kids4 h a
 obtain ⟨b0, b1, b2, b3⟩ := kids4 h b
 obtain ⟨c0, c1, c2, c3⟩ := kids4 h c
 obtain ⟨d0, d1, d2, d3⟩ := kids4 h d
 intro i h0 h16
 obtain ⟨k, rfl⟩ : ∃ k : Nat, i = k := ⟨i.toNat, by omega⟩
 have hk : k < 16 := by omega
 unfold R8.g R8.s16
 rw [Int.toNat_natCast]
 match k, hk with
 | 0, _ => exact a0
 | 1, _ => exact a1
 | 2, _ => exact b0
 | 3, _ => exact b1
 | 4, _ => exact a2
 | 5, _ => exact a3
 | 6, _ => exact b2
 | 7, _ => exact b3
 | 8, _ => exact c0
 | 9, _ => exact c1
 | 10, _ => exact d0
 | 11, _ => exact d1
 | 12, _ => exact c2
 | 13, _ => exact c3
 | 14, _ => exact d2
 | 15, _ => exact d3
theorem midS_gd {room : Int} {s : LS} (h : Lk room s) {lv : Nat} {n : Int} (hn : IsN s.ns (lv + 2) n) (he : (midS room s n).2.2 = 0) : Gd room s (midS room s n) (lv + 1) :=
 putS_gd h (s16_isN h.wf hn 5 (by omega) (by omega)) he
theorem bit_01 (l : List Int) (y x : Int) : R8.bit l y x = 0 ∨ R8.bit l y x = 1 := by unfold R8.bit; split <;> simp
theorem oneS_gd {room : Int} {s : LS} (h : Lk room s) {n : Int} (he : (oneS room s n).2.2 = 0) : Gd room s (oneS room s n) 1 := by
 have h0 : IsN s.ns 0 (R8.bit (R8.s16 s.ns n) 1 1) := by
  rcases bit_01 (R8.s16 s.ns n) 1 1 with e | e <;> rw [e]
  ·exact ⟨h.wf.in0, by rw [h.wf.nd0]; rfl⟩
  ·exact ⟨h.wf.in1, by rw [h.wf.nd1]; rfl⟩
 obtain ⟨a, b⟩ := right_put h.right (R8.bit (R8.s16 s.ns n) 1 1) (R8.bit (R8.s16 s.ns n) 1 2) (R8.bit (R8.s16 s.ns n) 2 1) (R8.bit (R8.s16 s.ns n) 2 2)
 exact ⟨⟨a, h.mem.pre b⟩, b, put_gd h.wf h0 he⟩
theorem mapS_gd {room : Int} {f : LS → Int → L9} {C : List Node → Int → Prop} {lv : Nat} (hC : ∀ ns ms q, ns <+: ms → C ns q → C ms q) (hf : ∀ s q, Lk room s → C s.ns q → (f s q).2.2 = 0 → Gd room s (f s q) lv) : ∀ (qs : List Int) (s : LS), Lk room s → (∀ q ∈ qs, C s.ns q) → (mapS f s qs).2.2 = 0 →
  Lk room (mapS f s qs).1 ∧ s.ns <+: (mapS f s qs).1.ns ∧ (mapS f s qs).2.1.length = qs.length ∧ ∀ q ∈ (mapS f s qs).2.1, IsN (mapS f s qs).1.ns lv q
 | [], s, h, _, _ => ⟨h, List.prefix_refl _, rfl, fun q hq => by simp [mapS] at hq⟩
 | q :: qs, s, h, hq, he => by
  unfold mapS at he ⊢
  by_cases h0 : (f s q).2.2 = 0
  ·rw [if_neg (by simpa using h0)] at he ⊢
   have g := hf s q h (hq q List.mem_cons_self) h0
   obtain ⟨a, b, c, d⟩ := mapS_gd hC hf qs (f s q).1 g.lk (fun x hx => hC _ _ _ g.pre (hq x (List.mem_cons_of_mem _ hx))) he
   refine ⟨a, g.pre.trans b, by simp [c], fun x hx => ?_⟩
   rcases List.mem_cons.1 hx with rfl | hx
   ·exact g.is.pre b
   ·exact d x hx
  ·rw [if_pos h0] at he
   exact absurd he h0
theorem putSq_gd {ns : List Node} {room : Int} (h : R6.right ns room) {lv : Nat} {l : List Int} (hi : ∀ i : Int, 0 ≤ i → i < 16 → IsN ns lv (R8.g l i)) {y x : Int} (hy : 0 ≤ y ∧ y ≤ 2) (hx : 0 ≤ x ∧ x ≤ 2) (he : (R8.putSq ns room l y x).2.2 = 0) :
  R6.right (R8.putSq ns room l y x).1 room ∧ ns <+: (R8.putSq ns room l y x).1 ∧ IsN (R8.putSq ns room l y x).1 (lv + 1) (R8.putSq ns room l y x).2.1 := by
 have hw := (right_iff.1 h).2
 obtain ⟨a, b⟩ := right_put h (R8.g l (4 * y + x)) (R8.g l (4 * y + x + 1)) (R8.g l (4 * y + x + 4)) (R8.g l (4 * y + x + 5))
 exact ⟨a, b, put_gd hw (hi _ (by omega) (by omega)) he⟩
theorem all_gd {ns : List Node} {room : Int} (h : R6.right ns room) {lv : Nat} {n : Int} (hn : IsN ns (lv + 2) n) (he : (R8.all ns room n).2.2 = 0) :
  R6.right (R8.all ns room n).1 room ∧ ns <+: (R8.all ns room n).1 ∧ (R8.all ns room n).2.1.length = 9 ∧ ∀ q ∈ (R8.all ns room n).2.1, IsN (R8.all ns room n).1 (lv + 1) q := by
 have hi := s16_isN (right_iff.1 h).2 hn
 unfold R8.all at he ⊢
 dsimp only at he ⊢
 generalize R8.s16 ns n = l at *
 have key := fun {ms : List Node} (hr : R6.right ms room) (hp : ns <+: ms) {y x : Int} (hy : 0 ≤ y ∧ y ≤ 2) (hx : 0 ≤ x ∧ x ≤ 2) (he : (R8.putSq ms room l y x).2.2 = 0) => putSq_gd hr (fun i a b => (hi i a b).pre hp) hy hx he
 by_cases e0 : (R8.putSq ns room l 0 0).2.2 = 0
 case neg => rw [if_pos e0] at he; exact absurd he e0
 rw [if_neg (by simpa using e0)] at he ⊢
 obtain ⟨r0, p0, i0⟩ := key h (List.prefix_refl _) (by omega) (by omega) e0
 generalize R8.putSq ns room l 0 0 = P0 at *
 by_cases e1 : (R8.putSq P0.1 room l 0 1).2.2 = 0
 case neg => rw [if_pos e1] at he; exact absurd he e1
 rw [if_neg (by simpa using e1)] at he ⊢
 obtain ⟨r1, p1, i1⟩ := key r0 p0 (by omega) (by omega) e1
 generalize R8.putSq P0.1 room l 0 1 = P1 at *
 have t1 := p0.trans p1
 by_cases e2 : (R8.putSq P1.1 room l 0 2).2.2 = 0
 case neg => rw [if_pos e2] at he; exact absurd he e2
 rw [if_neg (by simpa using e2)] at he ⊢
 obtain ⟨r2, p2, i2⟩ := key r1 t1 (by omega) (by omega) e2
 generalize R8.putSq P1.1 room l 0 2 = P2 at *
 have t2 := t1.trans p2
 by_cases e3 : (R8.putSq P2.1 room l 1 0).2.2 = 0
 case neg => rw [if_pos e3] at he; exact absurd he e3
 rw [if_neg (by simpa using e3)] at he ⊢
 obtain ⟨r3, p3, i3⟩ := key r2 t2 (by omega) (by omega) e3
 generalize R8.putSq P2.1 room l 1 0 = P3 at *
 have t3 := t2.trans p3
 by_cases e4 : (R8.putSq P3.1 room l 1 1).2.2 = 0
 case neg => rw [if_pos e4] at he; exact absurd he e4
 rw [if_neg (by simpa using e4)] at he ⊢
 obtain ⟨r4, p4, i4⟩ := key r3 t3 (by omega) (by omega) e4
 generalize R8.putSq P3.1 room l 1 1 = P4 at *
 have t4 := t3.trans p4
 by_cases e5 : (R8.putSq P4.1 room l 1 2).2.2 = 0
 case neg => rw [if_pos e5] at he; exact absurd he e5
 rw [if_neg (by simpa using e5)] at he ⊢
 obtain ⟨r5, p5, i5⟩ := key r4 t4 (by omega) (by omega) e5
 generalize R8.putSq P4.1 room l 1 2 = P5 at *
 have t5 := t4.trans p5
 by_cases e6 : (R8.putSq P5.1 room l 2 0).2.2 = 0
 case neg => rw [if_pos e6] at he; exact absurd he e6
 rw [if_neg (by simpa using e6)] at he ⊢
 obtain ⟨r6, p6, i6⟩ := key r5 t5 (by omega) (by omega) e6
 generalize R8.putSq P5.1 room l 2 0 = P6 at *
 have t6 := t5.trans p6
 by_cases e7 : (R8.putSq P6.1 room l 2 1).2.2 = 0
 case neg => rw [if_pos e7] at he; exact absurd he e7
 rw [if_neg (by simpa using e7)] at he ⊢
 obtain ⟨r7, p7, i7⟩ := key r6 t6 (by omega) (by omega) e7
 generalize R8.putSq P6.1 room l 2 1 = P7 at *
 have t7 := t6.trans p7
 by_cases e8 : (R8.putSq P7.1 room l 2 2).2.2 = 0
 case neg => rw [if_pos e8] at he; exact absurd he e8
 rw [if_neg (by simpa using e8)] at he ⊢
 obtain ⟨r8, p8, i8⟩ := key r7 t7 (by omega) (by omega) e8
 generalize R8.putSq P7.1 room l 2 2 = P8 at *
 refine ⟨r8, t7.trans p8, rfl, fun q hq => ?_⟩
 simp only [List.mem_cons, List.not_mem_nil, or_false] at hq
 rcases hq with rfl | rfl | rfl | rfl | rfl | rfl | rfl | rfl | rfl
 ·exact i0.pre (((((((p1.trans p2).trans p3).trans p4).trans p5).trans p6).trans p7).trans p8)
 ·exact i1.pre ((((((p2.trans p3).trans p4).trans p5).trans p6).trans p7).trans p8)
 ·exact i2.pre (((((p3.trans p4).trans p5).trans p6).trans p7).trans p8)
 ·exact i3.pre ((((p4.trans p5).trans p6).trans p7).trans p8)
 ·exact i4.pre (((p5.trans p6).trans p7).trans p8)
 ·exact i5.pre ((p6.trans p7).trans p8)
 ·exact i6.pre (p7.trans p8)
 ·exact i7.pre p8
 ·exact i8
theorem g_mem {l : List Int} {i : Int} (h0 : 0 ≤ i) (h1 : i < l.length) : R8.g l i ∈ l := by
 unfold R8.g
 have : i.toNat < l.length := by omega
 rw [List.getD_eq_getElem?_getD, List.getElem?_eq_getElem this]
 exact List.getElem_mem this
theorem isN_mono {lv : Nat} : ∀ ns ms q, ns <+: ms → IsN ns lv q → IsN ms lv q := fun _ _ _ hp h => h.pre hp
theorem bindM_gd {r : LS × List Int × Int} {f : LS → List Int → L9} {P : L9 → Prop} (he : (bindM r f).2.2 = 0) (h : r.2.2 = 0 → (f r.1 r.2.1).2.2 = 0 → P (f r.1 r.2.1)) : P (bindM r f) := by
 by_cases e : r.2.2 = 0
 ·rw [bindM_ok e] at he ⊢; exact h e he
 ·rw [bindM_err e] at he; exact absurd he e
theorem half_gd {room : Int} {k : Nat} {lp : LS → Int → Int → L9} (hlp : ∀ s q j, Lk room s → IsN s.ns (k + 2) q → (lp s q j).2.2 = 0 → Gd room s (lp s q j) (k + 1)) {full : Bool} {s : LS} {n j : Int} {r1 : LS × List Int × Int} (h : Lk room s) (hn : IsN s.ns (k + 3) n) (h1 : half lp room full s n j = r1) (he : r1.2.2 = 0) :
  Lk room r1.1 ∧ s.ns <+: r1.1.ns ∧ r1.2.1.length = 9 ∧ ∀ q ∈ r1.2.1, IsN r1.1.ns (k + 1) q := by
 subst h1
 unfold half at he ⊢
 by_cases e0 : (R8.all s.ns room n).2.2 = 0
 case neg => rw [if_pos e0] at he; exact absurd he e0
 rw [if_neg (by simpa using e0)] at he ⊢
 obtain ⟨r0, p0, l0, i0⟩ := all_gd h.right hn e0
 have m1 := mapS_gd (room := room) (f := halfF lp room full j) (C := fun ns q => IsN ns (k + 2) q) (lv := k + 1) isN_mono (fun s q hs hq he => by
  unfold halfF at he ⊢
  cases full
  ·exact midS_gd hs hq he
  ·exact hlp s q (j - 1) hs hq he) (R8.all s.ns room n).2.1 ⟨(R8.all s.ns room n).1, s.mm⟩ ⟨r0, h.mem.pre p0⟩ i0 he
 exact ⟨m1.1, p0.trans m1.2.1, by rw [m1.2.2.1, l0], m1.2.2.2⟩
theorem four_gd {room : Int} {k : Nat} {t : LS} {l : List Int} (h : Lk room t) (hl : l.length = 9) (hi : ∀ q ∈ l, IsN t.ns (k + 1) q) (he : (mapS (fourP room l) t fourE).2.2 = 0) :
  Lk room (mapS (fourP room l) t fourE).1 ∧ t.ns <+: (mapS (fourP room l) t fourE).1.ns ∧ (mapS (fourP room l) t fourE).2.1.length = 4 ∧ ∀ q ∈ (mapS (fourP room l) t fourE).2.1, IsN (mapS (fourP room l) t fourE).1.ns (k + 2) q :=
 mapS_gd (room := room) (f := fourP room l) (C := fun ns k' => IsN ns (k + 1) (R8.g l k')) (lv := k + 2) (fun _ _ _ hp hq => hq.pre hp) (fun s q hs hq he => putS_gd hs hq he) fourE t h (fun q hq => by
  simp only [fourE, List.mem_cons, List.not_mem_nil, or_false] at hq
  exact hi _ (g_mem (by omega) (by rw [hl]; omega))) he
theorem last_gd {room : Int} {k : Nat} {lp : LS → Int → Int → L9} (hlp : ∀ s q j, Lk room s → IsN s.ns (k + 2) q → (lp s q j).2.2 = 0 → Gd room s (lp s q j) (k + 1)) {j : Int} {t : LS} {l : List Int} (h : Lk room t) (hi : ∀ q ∈ l, IsN t.ns (k + 2) q) (he : (mapS (lastF lp j) t l).2.2 = 0) :
  Lk room (mapS (lastF lp j) t l).1 ∧ t.ns <+: (mapS (lastF lp j) t l).1.ns ∧ (mapS (lastF lp j) t l).2.1.length = l.length ∧ ∀ q ∈ (mapS (lastF lp j) t l).2.1, IsN (mapS (lastF lp j) t l).1.ns (k + 1) q :=
 mapS_gd (room := room) (f := lastF lp j) (C := fun ns q => IsN ns (k + 2) q) (lv := k + 1) isN_mono (fun s q hs hq he => hlp s q j hs hq he) l t h hi he
theorem far_gd {room : Int} {k : Nat} {lp : LS → Int → Int → L9} (hlp : ∀ s q j, Lk room s → IsN s.ns (k + 2) q → (lp s q j).2.2 = 0 → Gd room s (lp s q j) (k + 1)) {full : Bool} {s : LS} {n j : Int} (h : Lk room s) (hn : IsN s.ns (k + 3) n) (he : (far lp room full s n j).2.2 = 0) : Gd room s (far lp room full s n j) (k + 2) := by
 unfold far at he ⊢
 refine bindM_gd (P := fun r => Gd room s r (k + 2)) he fun e1 he => ?_
 obtain ⟨r1, p1, l1, i1⟩ := half_gd hlp h hn rfl e1
 generalize half lp room full s n j = R1 at *
 refine bindM_gd (P := fun r => Gd room s r (k + 2)) he fun e2 he => ?_
 obtain ⟨r2, p2, l2, i2⟩ := four_gd r1 l1 i1 e2
 generalize mapS (fourP room R1.2.1) R1.1 fourE = R2 at *
 refine bindM_gd (P := fun r => Gd room s r (k + 2)) he fun e3 he => ?_
 obtain ⟨r3, p3, l3, i3⟩ := last_gd hlp (j := if full = true then j - 1 else j) r2 i2 e3
 generalize mapS (lastF lp (if full = true then j - 1 else j)) R2.1 R2.2.1 = R3 at *
 have g := putS_gd r3 (i3 _ (g_mem (i := 0) (by omega) (by rw [l3, l2]; omega))) he
 exact ⟨g.lk, ((p1.trans p2).trans p3).trans g.pre, g.is⟩
theorem keep_gd {room : Int} {s : LS} {n j : Int} {r : L9} {lv : Nat} (hn : IsN s.ns (lv + 2) n) (he : (keep n j r).2.2 = 0) (h : r.2.2 = 0 → Gd room s r (lv + 1)) : Gd room s (keep n j r) (lv + 1) := by
 unfold keep at he ⊢
 by_cases e : r.2.2 = 0
 case neg => rw [if_pos e] at he; exact absurd he e
 rw [if_neg (by simpa using e)]
 obtain ⟨a, b, c⟩ := h e
 refine ⟨⟨a.right, fun p hp => ?_⟩, b, c⟩
 rcases List.mem_append.1 hp with hp | hp
 ·exact a.mem p hp
 ·rw [List.mem_singleton.1 hp]
  exact ⟨lv, hn.pre b, c⟩
theorem leap_found {room : Int} {s : LS} (h : Lk room s) {lv : Nat} {n j to : Int} (hn : IsN s.ns (lv + 2) n) (hl : look9 s.mm n j = some to) : IsN s.ns (lv + 1) to := by
 obtain ⟨lv', a, b⟩ := h.mem _ (look9_mem hl)
 have e : lv' = lv := by
  have h1 := a.2
  have h2 := hn.2
  simp only at h1
  omega
 rw [← e]; exact b
theorem leap_gd {room : Int} : ∀ (k : Nat) (s : LS) (n j : Int), Lk room s → IsN s.ns (k + 2) n → (leap room k s n j).2.2 = 0 → Gd room s (leap room k s n j) (k + 1)
 | 0, s, n, j, h, hn, he => by
  unfold leap at he ⊢
  cases hl : look9 s.mm n j with
  | some to => exact ⟨h, List.prefix_refl _, leap_found h hn hl⟩
  | none =>
   rw [hl] at he
   exact keep_gd hn he fun e => oneS_gd h e
 | k + 1, s, n, j, h, hn, he => by
  unfold leap at he ⊢
  cases hl : look9 s.mm n j with
  | some to => exact ⟨h, List.prefix_refl _, leap_found h hn hl⟩
  | none =>
   rw [hl] at he
   exact keep_gd hn he fun e => far_gd (fun s q j hs hq he => leap_gd k s q j hs hq he) h hn e
/-! #### what is new of what was leapt -/
/-- What came to be kept is of nodes of the levels to K + 2. -/
def New (K : Nat) (mm mm' : Memo) (ns' : List Node) : Prop := ∃ add, mm' = mm ++ add ∧ ∀ p ∈ add, ∃ lv, lv ≤ K ∧ IsN ns' (lv + 2) p.1
theorem New.refl (K : Nat) (mm : Memo) (ns' : List Node) : New K mm mm ns' := ⟨[], by simp, by simp⟩
theorem New.trans {K : Nat} {a b c : Memo} {ns ms : List Node} (h : New K a b ns) (hp : ns <+: ms) (k : New K b c ms) : New K a c ms := by
 obtain ⟨x, rfl, hx⟩ := h
 obtain ⟨y, rfl, hy⟩ := k
 refine ⟨x ++ y, by rw [List.append_assoc], fun p hm => ?_⟩
 rcases List.mem_append.1 hm with hm | hm
 ·obtain ⟨lv, h1, h2⟩ := hx p hm
  exact ⟨lv, h1, h2.pre hp⟩
 ·exact hy p hm
theorem look9_app : ∀ {mm add : Memo} {n j : Int}, (∀ p ∈ add, p.1 ≠ n) → look9 (mm ++ add) n j = look9 mm n j
 | [], [], n, j, _ => rfl
 | [], p :: add, n, j, h => by
  have h1 := h p List.mem_cons_self
  have ih := look9_app (mm := []) (n := n) (j := j) fun q hq => h q (List.mem_cons_of_mem _ hq)
  simp only [List.nil_append] at ih ⊢
  unfold look9
  rw [if_neg (fun e => h1 e.1), ih]
  rfl
 | p :: mm, add, n, j, h => by
  simp only [List.cons_append]
  unfold look9
  split
  ·rfl
  ·exact look9_app h
theorem New.look {K : Nat} {mm mm' : Memo} {ns' : List Node} (h : New K mm mm' ns') {lv : Nat} {n j : Int} (hn : IsN ns' (lv + 2) n) (hlv : K < lv) (hl : look9 mm n j = none) : look9 mm' n j = none := by
 obtain ⟨add, rfl, ha⟩ := h
 rw [look9_app, hl]
 rintro p hp rfl
 obtain ⟨lv', h1, h2⟩ := ha p hp
 have e1 := h2.2
 have e2 := hn.2
 omega
theorem mapS_new {room : Int} {f : LS → Int → L9} {C : List Node → Int → Prop} {lv K : Nat} (hC : ∀ ns ms q, ns <+: ms → C ns q → C ms q) (hf : ∀ s q, Lk room s → C s.ns q → (f s q).2.2 = 0 → Gd room s (f s q) lv ∧ New K s.mm (f s q).1.mm (f s q).1.ns) : ∀ (qs : List Int) (s : LS), Lk room s → (∀ q ∈ qs, C s.ns q) → (mapS f s qs).2.2 = 0 → New K s.mm (mapS f s qs).1.mm (mapS f s qs).1.ns
 | [], s, h, _, _ => New.refl _ _ _
 | q :: qs, s, h, hq, he => by
  unfold mapS at he ⊢
  by_cases h0 : (f s q).2.2 = 0
  ·rw [if_neg (by simpa using h0)] at he ⊢
   obtain ⟨g, hn⟩ := hf s q h (hq q List.mem_cons_self) h0
   have hq' := fun x hx => hC _ _ _ g.pre (hq x (List.mem_cons_of_mem _ hx))
   have m := mapS_gd hC (fun s q a b c => (hf s q a b c).1) qs (f s q).1 g.lk hq' he
   exact hn.trans m.2.1 (mapS_new hC hf qs (f s q).1 g.lk hq' he)
  ·rw [if_pos h0] at he
   exact absurd he h0
theorem far_new {room : Int} {k : Nat} {lp : LS → Int → Int → L9} (hlp : ∀ s q j, Lk room s → IsN s.ns (k + 2) q → (lp s q j).2.2 = 0 → Gd room s (lp s q j) (k + 1)) (hln : ∀ s q j, Lk room s → IsN s.ns (k + 2) q → (lp s q j).2.2 = 0 → New k s.mm (lp s q j).1.mm (lp s q j).1.ns)
  {full : Bool} {s : LS} {n j : Int} (h : Lk room s) (hn : IsN s.ns (k + 3) n) (he : (far lp room full s n j).2.2 = 0) : New k s.mm (far lp room full s n j).1.mm (far lp room full s n j).1.ns := by
 unfold far at he ⊢
 refine bindM_gd (P := fun r => New k s.mm r.1.mm r.1.ns) he fun e1 he => ?_
 obtain ⟨r1, p1, l1, i1⟩ := half_gd hlp h hn rfl e1
 have n1 : New k s.mm (half lp room full s n j).1.mm (half lp room full s n j).1.ns := by
  unfold half at e1 ⊢
  by_cases e0 : (R8.all s.ns room n).2.2 = 0
  case neg => rw [if_pos e0] at e1; exact absurd e1 e0
  rw [if_neg (by simpa using e0)] at e1 ⊢
  obtain ⟨r0, p0, l0, i0⟩ := all_gd h.right hn e0
  exact mapS_new (room := room) (f := halfF lp room full j) (C := fun ns q => IsN ns (k + 2) q) (lv := k + 1) isN_mono (fun s q hs hq he => by
   unfold halfF at he ⊢
   cases full
   ·exact ⟨midS_gd hs hq he, New.refl _ _ _⟩
   ·exact ⟨hlp s q (j - 1) hs hq he, hln s q (j - 1) hs hq he⟩) (R8.all s.ns room n).2.1 ⟨(R8.all s.ns room n).1, s.mm⟩ ⟨r0, h.mem.pre p0⟩ i0 e1
 generalize half lp room full s n j = R1 at *
 refine bindM_gd (P := fun r => New k s.mm r.1.mm r.1.ns) he fun e2 he => ?_
 obtain ⟨r2, p2, l2, i2⟩ := four_gd r1 l1 i1 e2
 have n2 : New k R1.1.mm (mapS (fourP room R1.2.1) R1.1 fourE).1.mm (mapS (fourP room R1.2.1) R1.1 fourE).1.ns :=
  mapS_new (room := room) (f := fourP room R1.2.1) (C := fun ns k' => IsN ns (k + 1) (R8.g R1.2.1 k')) (lv := k + 2) (fun _ _ _ hp hq => hq.pre hp) (fun s q hs hq he => ⟨putS_gd hs hq he, New.refl _ _ _⟩) fourE R1.1 r1 (fun q hq => by
   simp only [fourE, List.mem_cons, List.not_mem_nil, or_false] at hq
   exact i1 _ (g_mem (by omega) (by rw [l1]; omega))) e2
 generalize mapS (fourP room R1.2.1) R1.1 fourE = R2 at *
 refine bindM_gd (P := fun r => New k s.mm r.1.mm r.1.ns) he fun e3 he => ?_
 obtain ⟨r3, p3, l3, i3⟩ := last_gd hlp (j := if full = true then j - 1 else j) r2 i2 e3
 have n3 : New k R2.1.mm (mapS (lastF lp (if full = true then j - 1 else j)) R2.1 R2.2.1).1.mm (mapS (lastF lp (if full = true then j - 1 else j)) R2.1 R2.2.1).1.ns :=
  mapS_new (room := room) (f := lastF lp (if full = true then j - 1 else j)) (C := fun ns q => IsN ns (k + 2) q) (lv := k + 1) isN_mono (fun s q hs hq he => ⟨hlp s q _ hs hq he, hln s q _ hs hq he⟩) R2.2.1 R2.1 r2 i2 e3
 generalize mapS (lastF lp (if full = true then j - 1 else j)) R2.1 R2.2.1 = R3 at *
 have g := putS_gd r3 (i3 _ (g_mem (i := 0) (by omega) (by rw [l3, l2]; omega))) he
 exact ((n1.trans p2 n2).trans p3 n3).trans g.pre (New.refl _ _ _)
theorem leap_new {room : Int} : ∀ (k : Nat) (s : LS) (n j : Int), Lk room s → IsN s.ns (k + 2) n → (leap room k s n j).2.2 = 0 → New k s.mm (leap room k s n j).1.mm (leap room k s n j).1.ns
 | 0, s, n, j, h, hn, he => by
  unfold leap at he ⊢
  cases hl : look9 s.mm n j with
  | some to => exact New.refl _ _ _
  | none =>
   rw [hl] at he
   simp only at he ⊢
   unfold keep at he ⊢
   by_cases e : (oneS room s n).2.2 = 0
   case neg => rw [if_pos e] at he; exact absurd he e
   rw [if_neg (by simpa using e)]
   have g := oneS_gd h e
   exact ⟨[(n, j, (oneS room s n).2.1)], rfl, fun p hp => by rw [List.mem_singleton.1 hp]; exact ⟨0, Nat.le_refl _, hn.pre g.pre⟩⟩
 | k + 1, s, n, j, h, hn, he => by
  unfold leap at he ⊢
  cases hl : look9 s.mm n j with
  | some to => exact New.refl _ _ _
  | none =>
   rw [hl] at he
   simp only at he ⊢
   unfold keep at he ⊢
   by_cases e : (far (leap room k) room (decide (j = k + 1)) s n j).2.2 = 0
   case neg => rw [if_pos e] at he; exact absurd he e
   rw [if_neg (by simpa using e)]
   have g := far_gd (fun s q j hs hq he => leap_gd k s q j hs hq he) h hn e
   have nw := far_new (fun s q j hs hq he => leap_gd k s q j hs hq he) (fun s q j hs hq he => leap_new k s q j hs hq he) h hn e
   obtain ⟨add, e2, ha⟩ := nw
   refine ⟨add ++ [(n, j, (far (leap room k) room (decide (j = k + 1)) s n j).2.1)], by simp only; rw [e2, List.append_assoc], fun p hp => ?_⟩
   rcases List.mem_append.1 hp with hp | hp
   ·obtain ⟨lv, h1, h2⟩ := ha p hp
    exact ⟨lv, by omega, h2⟩
   ·rw [List.mem_singleton.1 hp]
    exact ⟨k + 1, Nat.le_refl _, hn.pre g.pre⟩
end R9
end Go.GL


namespace Go.GL
open R6 R7
namespace R9
/-! #### empty, grow -/
theorem emptyF_gd {room : Int} : ∀ (k : Nat) (ns : List Node) (n : Int) (j : Nat), R6.right ns room → IsN ns j n → (emptyF room k ns n).2.2 = 0 → R6.right (emptyF room k ns n).1 room ∧ ns <+: (emptyF room k ns n).1 ∧ IsN (emptyF room k ns n).1 (j + k) (emptyF room k ns n).2.1
 | 0, ns, n, j, h, hn, _ => ⟨h, List.prefix_refl _, hn⟩
 | k + 1, ns, n, j, h, hn, he => by
  unfold emptyF at he ⊢
  by_cases e : (put ns room n n n n).2.2 = 0
  case neg => rw [if_pos e] at he; exact absurd he e
  rw [if_neg (by simpa using e)] at he ⊢
  obtain ⟨a, b⟩ := right_put h n n n n
  have c := put_gd (right_iff.1 h).2 hn e
  obtain ⟨d, f, g⟩ := emptyF_gd k _ _ (j + 1) a c he
  exact ⟨d, b.trans f, by rw [show j + (k + 1) = j + 1 + k by omega]; exact g⟩
theorem empty_gd {room : Int} {ns : List Node} (h : R6.right ns room) {lv : Nat} (he : (R7.empty ns room lv).2.2 = 0) : R6.right (R7.empty ns room lv).1 room ∧ ns <+: (R7.empty ns room lv).1 ∧ IsN (R7.empty ns room lv).1 lv (R7.empty ns room lv).2.1 := by
 have hw := (right_iff.1 h).2
 have := emptyF_gd lv ns 0 0 h ⟨hw.in0, by rw [hw.nd0]; rfl⟩ he
 rw [Nat.zero_add] at this
 exact this
def growF (room d : Int) (ks : List Int) : LS → Int → L9 := fun s k => putS room s (bigK d k.toNat (ks.getD k.toNat default) 0) (bigK d k.toNat (ks.getD k.toNat default) 1) (bigK d k.toNat (ks.getD k.toNat default) 2) (bigK d k.toNat (ks.getD k.toNat default) 3)
def k4 : List Int := [0, 1, 2, 3]
theorem grow_eq (room : Int) (s : LS) (n : Int) : grow room s n = if 42 ≤ (nd s.ns n).lv then (s, 0, 2) else if (R7.empty s.ns room ((nd s.ns n).lv - 1).toNat).2.2 ≠ 0 then (s, 0, (R7.empty s.ns room ((nd s.ns n).lv - 1).toNat).2.2) else
  bindM (mapS (growF room (R7.empty s.ns room ((nd s.ns n).lv - 1).toNat).2.1 (nd s.ns n).kids) ⟨(R7.empty s.ns room ((nd s.ns n).lv - 1).toNat).1, s.mm⟩ k4) (put4 room) := rfl
theorem bigK_isN {ns : List Node} {lv : Nat} {d kid : Int} (hd : IsN ns lv d) (hk : IsN ns lv kid) (k i : Nat) : IsN ns lv (bigK d k kid i) := by
 unfold bigK; split
 ·exact hk
 ·exact hd
theorem kids_getD {ns : List Node} (h : Wf ns) {lv : Nat} {n : Int} (hn : IsN ns (lv + 1) n) {k : Nat} (hk : k < 4) : IsN ns lv ((nd ns n).kids.getD k default) := by
 obtain ⟨a, b, c, d⟩ := kids4 h hn
 match k, hk with
 | 0, _ => exact a
 | 1, _ => exact b
 | 2, _ => exact c
 | 3, _ => exact d
theorem growF_gd {room : Int} {lv : Nat} {d : Int} {ks : List Int} {s : LS} {k : Int} (h : Lk room s) (hk : IsN s.ns lv d ∧ IsN s.ns lv (ks.getD k.toNat default)) (he : (growF room d ks s k).2.2 = 0) : Gd room s (growF room d ks s k) (lv + 1) :=
 putS_gd h (bigK_isN hk.1 hk.2 _ _) he
theorem growM_gd {room : Int} {lv : Nat} {d : Int} {ks : List Int} {s : LS} (h : Lk room s) (hd : IsN s.ns lv d) (hk : ∀ k : Nat, k < 4 → IsN s.ns lv (ks.getD k default)) (he : (mapS (growF room d ks) s k4).2.2 = 0) :
  Lk room (mapS (growF room d ks) s k4).1 ∧ s.ns <+: (mapS (growF room d ks) s k4).1.ns ∧ (mapS (growF room d ks) s k4).2.1.length = 4 ∧ ∀ q ∈ (mapS (growF room d ks) s k4).2.1, IsN (mapS (growF room d ks) s k4).1.ns (lv + 1) q :=
 mapS_gd (room := room) (f := growF room d ks) (C := fun ns k => IsN ns lv d ∧ IsN ns lv (ks.getD k.toNat default)) (lv := lv + 1) (fun _ _ _ hp hq => ⟨hq.1.pre hp, hq.2.pre hp⟩) (fun s q hs hq he => growF_gd hs hq he) k4 s h (fun q hq => by
  simp only [k4, List.mem_cons, List.not_mem_nil, or_false] at hq
  exact ⟨hd, hk q.toNat (by omega)⟩) he
theorem grow_gd {room : Int} {s : LS} (h : Lk room s) {k : Nat} {n : Int} (hn : IsN s.ns (k + 2) n) (he : (grow room s n).2.2 = 0) : Gd room s (grow room s n) (k + 3) := by
 have hlv : (nd s.ns n).lv = k + 2 := by rw [hn.2]; omega
 rw [grow_eq] at he ⊢
 rw [show ((nd s.ns n).lv - 1).toNat = k + 1 by omega] at he ⊢
 by_cases e0 : 42 ≤ (nd s.ns n).lv
 ·rw [if_pos e0] at he; cases he
 rw [if_neg e0] at he ⊢
 by_cases e1 : (R7.empty s.ns room (k + 1)).2.2 = 0
 case neg => rw [if_pos e1] at he; exact absurd he e1
 rw [if_neg (by simpa using e1)] at he ⊢
 obtain ⟨r1, p1, i1⟩ := empty_gd h.right e1
 have l1 : Lk room (⟨(R7.empty s.ns room (k + 1)).1, s.mm⟩ : LS) := ⟨r1, h.mem.pre p1⟩
 refine bindM_gd (P := fun r => Gd room s r (k + 3)) he fun e2 he => ?_
 obtain ⟨l2, p2, n2, i2⟩ := growM_gd l1 i1 (fun q hq => (kids_getD h.wf hn hq).pre p1) e2
 have g := putS_gd l2 (i2 _ (g_mem (i := 0) (by omega) (by rw [n2]; omega))) he
 exact ⟨g.lk, (p1.trans p2).trans g.pre, g.is⟩
/-! #### trim, power, run -/
/-- As Gd, of some level from 2 on. -/
structure Ge (room : Int) (s : LS) (r : L9) : Prop where
 lk : Lk room r.1
 pre : s.ns <+: r.1.ns
 is : ∃ k : Nat, IsN r.1.ns (k + 2) r.2.1
theorem Ge.trans {room : Int} {s t : LS} {r : L9} (h : Ge room t r) (hp : s.ns <+: t.ns) : Ge room s r := ⟨h.lk, hp.trans h.pre, h.is⟩
theorem trim_ge {room : Int} : ∀ (k : Nat) (s : LS) (n : Int), Lk room s → IsN s.ns (k + 2) n → (trim room k s n).2.2 = 0 → Ge room s (trim room k s n)
 | 0, s, n, h, hn, _ => ⟨h, List.prefix_refl _, 0, hn⟩
 | k + 1, s, n, h, hn, he => by
  unfold trim at he ⊢
  by_cases e : edged s.ns n = true
  ·rw [if_pos e]; exact ⟨h, List.prefix_refl _, k + 1, hn⟩
  rw [if_neg e] at he ⊢
  by_cases e1 : (midS room s n).2.2 = 0
  case neg => rw [if_pos e1] at he; exact absurd he e1
  rw [if_neg (by simpa using e1)] at he ⊢
  have g := midS_gd (lv := k + 1) h hn e1
  exact (trim_ge k _ _ g.lk g.is he).trans g.pre
theorem lvS_is {s : LS} {k : Nat} {n : Int} (hn : IsN s.ns (k + 2) n) : lvS s n = k := by
 unfold lvS; rw [hn.2]; omega
theorem bindS_err {r : L9} {f : LS → Int → L9} (h : r.2.2 ≠ 0) : bindS r f = (r.1, 0, r.2.2) := if_pos h
theorem bindS_ok {r : L9} {f : LS → Int → L9} (h : r.2.2 = 0) : bindS r f = f r.1 r.2.1 := if_neg (by simpa using h)
theorem bindS_assoc (r : L9) (f g : LS → Int → L9) : bindS (bindS r f) g = bindS r fun s n => bindS (f s n) g := by
 by_cases e : r.2.2 = 0
 ·rw [bindS_ok e, bindS_ok e]
 ·rw [bindS_err e, bindS_err e]
  exact if_pos e
/-- The loop of power: grown i times. -/
def more (room : Int) (j : Int) : Nat → LS → Int → L9
 | 0, s, n => bindS (bindS (grow room s n) (grow room)) (growTo room j 64)
 | 1, s, n => bindS (grow room s n) (growTo room j 64)
 | i + 2, s, n => growTo room j (64 - i) s n
theorem more_step {room j : Int} {i : Nat} {s : LS} {n : Int} (hi : i < 60) (h : i < 2 ∨ (nd s.ns n).lv < j + 3) : more room j i s n = bindS (grow room s n) (more room j (i + 1)) := by
 match i, hi, h with
 | 0, _, _ => exact bindS_assoc _ _ _
 | 1, _, _ => rfl
 | i + 2, hi, h =>
  show growTo room j (64 - i) s n = bindS (grow room s n) (more room j (i + 1 + 2))
  obtain ⟨f, hf⟩ : ∃ f, 64 - i = f + 1 := ⟨63 - i, by omega⟩
  have e : more room j (i + 1 + 2) = growTo room j f := by
   show growTo room j (64 - (i + 1)) = _
   rw [show 64 - (i + 1) = f by omega]
  rw [hf, e]
  exact if_pos (by omega)
theorem more_stop {room j : Int} {i : Nat} {s : LS} {n : Int} (hi : i < 60) (h : ¬ (i < 2 ∨ (nd s.ns n).lv < j + 3)) : more room j i s n = (s, n, 0) := by
 match i, hi, h with
 | 0, _, h => exact absurd (Or.inl (by omega)) h
 | 1, _, h => exact absurd (Or.inl (by omega)) h
 | i + 2, hi, h =>
  show growTo room j (64 - i) s n = _
  obtain ⟨f, hf⟩ : ∃ f, 64 - i = f + 1 := ⟨63 - i, by omega⟩
  rw [hf]
  exact if_neg (by omega)
/-- As Ge, of some level from k + 2 on. -/
def Gk (room : Int) (s : LS) (r : L9) (k : Nat) : Prop := Lk room r.1 ∧ s.ns <+: r.1.ns ∧ ∃ k' : Nat, k ≤ k' ∧ IsN r.1.ns (k' + 2) r.2.1
theorem bindS_gk {room : Int} {s : LS} {r : L9} {f : LS → Int → L9} {k k2 : Nat} (he : (bindS r f).2.2 = 0) (h : r.2.2 = 0 → Gk room s r k) (hf : ∀ (t : LS) (m : Int) (k' : Nat), k ≤ k' → Lk room t → s.ns <+: t.ns → IsN t.ns (k' + 2) m → (f t m).2.2 = 0 → Gk room t (f t m) k2) : Gk room s (bindS r f) k2 := by
 by_cases e : r.2.2 = 0
 ·rw [bindS_ok e] at he ⊢
  obtain ⟨lk, hp, k', hk, hi⟩ := h e
  obtain ⟨a, b, c⟩ := hf _ _ k' hk lk hp hi he
  exact ⟨a, hp.trans b, c⟩
 ·rw [bindS_err e] at he; exact absurd he e
theorem grow_gk {room : Int} {s : LS} (h : Lk room s) {k : Nat} {n : Int} (hn : IsN s.ns (k + 2) n) (he : (grow room s n).2.2 = 0) : Gk room s (grow room s n) (k + 1) := by
 have g := grow_gd h hn he
 exact ⟨g.lk, g.pre, k + 1, by omega, g.is⟩
theorem Gk.le {room : Int} {s : LS} {r : L9} {k k2 : Nat} (h : Gk room s r k) (hk : k2 ≤ k) : Gk room s r k2 := by
 obtain ⟨a, b, k', c, d⟩ := h
 exact ⟨a, b, k', by omega, d⟩
theorem growTo_gk {room j : Int} : ∀ (f : Nat) (s : LS) (n : Int) (k : Nat), Lk room s → IsN s.ns (k + 2) n → (growTo room j f s n).2.2 = 0 → Gk room s (growTo room j f s n) k
 | 0, s, n, k, h, hn, _ => ⟨h, List.prefix_refl _, k, by omega, hn⟩
 | f + 1, s, n, k, h, hn, he => by
  unfold growTo at he ⊢
  split at he
  ·rename_i hl
   rw [if_pos hl]
   exact bindS_gk (k := k + 1) he (fun e => grow_gk h hn e) fun t m k' hk ht _ hm e => (growTo_gk f t m k' ht hm e).le (by omega)
  ·rename_i hl
   rw [if_neg hl]
   exact ⟨h, List.prefix_refl _, k, by omega, hn⟩
theorem power_eq (room : Int) (s : LS) (n j : Int) : power room s n j = bindS (bindS (trimS room s n) (more room j 0)) fun s m => leap room (lvS s m) s m j := by
 unfold power
 rw [bindS_assoc (bindS (trimS room s n) (grow room)) (grow room) (growTo room j 64), bindS_assoc (trimS room s n) (grow room)]
 congr 1
 congr 1
 funext s n
 exact (bindS_assoc _ _ _).symm
theorem trimS_ge {room : Int} {s : LS} {k : Nat} {n : Int} (h : Lk room s) (hn : IsN s.ns (k + 2) n) (he : (trimS room s n).2.2 = 0) : Ge room s (trimS room s n) := by
 unfold trimS at he ⊢
 rw [lvS_is hn] at he ⊢
 exact trim_ge k s n h hn he
theorem more_gk {room j : Int} {s : LS} {k : Nat} {n : Int} (h : Lk room s) (hn : IsN s.ns (k + 2) n) (he : (more room j 0 s n).2.2 = 0) : Gk room s (more room j 0 s n) (k + 2) :=
 bindS_gk (k := k + 2) he (fun e => bindS_gk (k := k + 1) e (fun e => grow_gk h hn e) fun t m k' hk ht _ hm e => (grow_gk ht hm e).le (by omega)) fun t m k' hk ht _ hm e => (growTo_gk 64 t m k' ht hm e).le (by omega)
theorem power_ge {room j : Int} {s : LS} {k : Nat} {n : Int} (h : Lk room s) (hn : IsN s.ns (k + 2) n) (he : (power room s n j).2.2 = 0) : Ge room s (power room s n j) := by
 rw [power_eq] at he ⊢
 have e1 : (bindS (trimS room s n) (more room j 0)).2.2 = 0 := Decidable.byContradiction fun e => by rw [bindS_err e] at he; exact e he
 rw [bindS_ok e1] at he ⊢
 have g1 : Gk room s (bindS (trimS room s n) (more room j 0)) 2 := bindS_gk (k := 0) e1 (fun e => by
  obtain ⟨a, b, k', c⟩ := trimS_ge h hn e
  exact ⟨a, b, k', by omega, c⟩) fun t m k' _ ht _ hm e => (more_gk ht hm e).le (by omega)
 obtain ⟨a, b, k', hk', c⟩ := g1
 rw [lvS_is c] at he ⊢
 have g2 := leap_gd k' _ _ j a c he
 obtain ⟨k2, rfl⟩ : ∃ k2, k' = k2 + 1 := ⟨k' - 1, by omega⟩
 exact ⟨g2.lk, b.trans g2.pre, k2, g2.is⟩
end R9
end Go.GL


namespace Go.GL
open R6 R7
namespace R9
/-! #### how many things are kept -/
theorem nodup_len : ∀ (N : Nat) (l : List Nat), l.Nodup → (∀ x ∈ l, x < N) → l.length ≤ N
 | 0, l, _, hb => by
  cases l with
  | nil => exact Nat.le_refl _
  | cons x l => exact absurd (hb x List.mem_cons_self) (by omega)
 | N + 1, l, hn, hb => by
  have h1 := nodup_len N (l.erase N) (hn.erase N) fun x hx => by
   have := (hn.mem_erase_iff).1 hx
   have h2 := hb x this.2
   have h3 := this.1
   omega
  by_cases hm : N ∈ l
  ·have := List.length_erase_of_mem hm
   omega
  ·rw [List.erase_of_not_mem hm] at h1
   omega
/-- No two things that are kept are of the same node and exponent. -/
def Kn (mm : Memo) : Prop := (mm.map fun p => (p.1, p.2.1)).Nodup ∧ ∀ p ∈ mm, 0 ≤ p.2.1 ∧ p.2.1 ≤ 1000000
theorem nodup_map {α β γ : Type} (f : α → β) (g : β → γ) (P : β → Prop) (hg : ∀ a b, P a → P b → g a = g b → a = b) : ∀ l : List α, (∀ x ∈ l, P (f x)) → (l.map f).Nodup → (l.map fun x => g (f x)).Nodup
 | [], _, _ => List.nodup_nil
 | x :: l, hp, hn => by
  simp only [List.map_cons, List.nodup_cons] at hn ⊢
  refine ⟨fun hm => hn.1 ?_, nodup_map f g P hg l (fun y hy => hp y (List.mem_cons_of_mem _ hy)) hn.2⟩
  obtain ⟨y, hy, e⟩ := List.mem_map.1 hm
  rw [← hg _ _ (hp y (List.mem_cons_of_mem _ hy)) (hp x List.mem_cons_self) e]
  exact List.mem_map_of_mem hy
theorem Kn.len {ns : List Node} {mm : Memo} (hm : MemOk ns mm) (hk : Kn mm) (h : ns.length ≤ 100000) : mm.length ≤ 1000000000000 := by
 have h1 := nodup_map (fun p : Int × Int × Int => (p.1, p.2.1)) (fun q : Int × Int => q.1.toNat * 1000001 + q.2.toNat) (fun q => 0 ≤ q.1 ∧ 0 ≤ q.2 ∧ q.2 ≤ 1000000) (fun a b ha hb e => by
  obtain ⟨a1, a2⟩ := a
  obtain ⟨b1, b2⟩ := b
  simp only at ha hb e
  have e1 : a1 = b1 := by omega
  have e2 : a2 = b2 := by omega
  rw [e1, e2]) mm (fun p hp => by
   obtain ⟨lv, a, b⟩ := hm p hp
   exact ⟨a.1.1, hk.2 p hp⟩) hk.1
 have h2 := nodup_len 1000000000000 _ h1 fun x hx => by
  obtain ⟨p, hp, rfl⟩ := List.mem_map.1 hx
  obtain ⟨lv, a, b⟩ := hm p hp
  have h3 := a.1.2
  have h4 := hk.2 p hp
  simp only
  omega
 rw [List.length_map] at h2
 exact h2
theorem look9_none : ∀ {mm : Memo} {n j : Int}, look9 mm n j = none → ∀ p ∈ mm, (p.1, p.2.1) ≠ (n, j)
 | p :: mm, n, j, h, q, hq, e => by
  unfold look9 at h
  split at h
  ·cases h
  ·rename_i h1
   rcases List.mem_cons.1 hq with rfl | hq
   ·exact h1 (by simpa using e)
   ·exact look9_none h q hq e
theorem Kn.snoc {mm : Memo} (h : Kn mm) {n j to : Int} (hl : look9 mm n j = none) (hj : 0 ≤ j ∧ j ≤ 1000000) : Kn (mm ++ [(n, j, to)]) := by
 constructor
 ·rw [List.map_append, List.nodup_append]
  refine ⟨h.1, by simp, fun a ha b hb e => ?_⟩
  obtain ⟨p, hp, rfl⟩ := List.mem_map.1 ha
  simp only [List.map_cons, List.map_nil, List.mem_singleton] at hb
  exact look9_none hl p hp (e.trans hb)
 ·intro p hp
  rcases List.mem_append.1 hp with hp | hp
  ·exact h.2 p hp
  ·rw [List.mem_singleton.1 hp]; exact hj
theorem Kn.nil : Kn [] := ⟨List.nodup_nil, fun p hp => by cases hp⟩
end R9
end Go.GL


namespace Go.GL
/-! ### What the laws of chapter 9 make of raw numbers -/
namespace RL
def fcell (v : Int) (r : Cell) : Cell := ⟨pk r.x (2 * R7.side v) - R7.side v, pk r.y (2 * R7.side v) - R7.side v⟩
def fset (v : Int) (raw : List Cell) : List Cell := R1.puts ((raw.take 30).map (fcell v))
def putN (rm : Int) (ns : List Node) (r : Five) : List Node := (R6.intern ns rm (pk r.r0 2) (pk r.r1 2) (pk r.r2 2) (pk r.r3 2)).1
def fstore (rm : Int) (nodes : List Five) : List Node := (nodes.take 10).foldl (putN rm) [R6.n0, R6.n1]
def fv (level : Int) : Int := 3 + pk level 3
def field (c : Int) (nodes : List Five) (raw : List Cell) (level : Int) : List Node × Int × Int := R7.make (fstore (room c) nodes) (room c + 600) (fset (fv level) raw) (fv level)
end RL
namespace R9
end R9
end Go.GL


namespace Go.GL
open Go.Proofs
attribute [local irreducible] wpList Code.wp Exit.then Exit.inBlock Ends Tri TriH OpV OpG FnC epf wpAnyH
variable {A : List Asrt} {I : List Chunk}
set_option maxRecDepth 100000 in
theorem law09_pick {c n : Int} (h0 : -9223372036854775808 ≤ c) (h1 : c ≤ 9223372036854775807) (hn : 0 < n) : FnC Try.prog 14 [.int .i64 c, .int .i64 n].toArray A I (fun v A' I' => v = .int .i64 (pk c n) ∧ A = A' ∧ I = I') := by
 refine fn_enter2 Try.func14 rfl Try.ntmps14 rfl fun w0 => ?_
 refine tS (tR (tA rfl rfl (tN (tT (tS (tS (tR ?_)))))))
 refine tM rfl rfl (yC rfl rfl (tN (tT ?_)))
 refine tri_cond_dec rfl (fun h => ?_) (fun h => ?_)
 ·refine tR (tM rfl rfl ?_)
  refine yU rfl rfl ?_
  refine tri_v (opv_negE rfl (by omega) (by omega)) rfl ?_
  refine tA rfl rfl (tN (tT (tS (tR (tM rfl rfl (tM rfl rfl ?_))))))
  refine tri_v (opv_remE rfl rfl (by omega) (by omega)) rfl ?_
  refine tA rfl rfl (tN (tT (tri_ret ?_)))
  refine tri_end A Suf.h rfl (.cons (rv_tmp rfl) .nil) ⟨?_, rfl, rfl⟩
  rw [pk, if_pos h]; rfl
 ·refine tri_skip (tT (tS (tR (tM rfl rfl (tM rfl rfl ?_)))))
  refine tri_v (opv_remE rfl rfl (by omega) (by omega)) rfl ?_
  refine tA rfl rfl (tN (tT (tri_ret ?_)))
  refine tri_end A Suf.h rfl (.cons (rv_tmp rfl) .nil) ⟨?_, rfl, rfl⟩
  rw [pk, if_neg h]; rfl
end Go.GL


namespace Go.GL
open Go.Proofs
attribute [local irreducible] wpList Code.wp Exit.then Exit.inBlock Ends Tri TriH OpV OpG FnC epf wpAnyH
theorem R6.right.kidN {ns : List Node} {room : Int} (h : R6.right ns room) {n : Int} (hn : R6.inS ns n) {m : Nat} (hl : (R6.nd ns n).lv = ((m + 1 : Nat) : Int)) {q : Int} (hq : q ∈ (R6.nd ns n).kids) : R6.inS ns q ∧ q < n ∧ (R6.nd ns q).lv = m := by
 have h0 := h.1.2.2.2.2.1
 have h1 := h.1.2.2.2.2.2
 obtain ⟨hn0, hn1⟩ := hn
 have h2 : 2 ≤ n.toNat := by
  rcases Nat.lt_or_ge n.toNat 2 with h3 | h3
  ·exfalso
   rcases (by omega : n.toNat = 0 ∨ n.toNat = 1) with e | e
   ·unfold R6.nd at hl; rw [e, h0] at hl; simp [R6.n0] at hl; omega
   ·unfold R6.nd at hl; rw [e, h1] at hl; simp [R6.n1] at hl; omega
  ·exact h3
 obtain ⟨k0, k1, k2, k3, _⟩ := h.2 n.toNat (by omega) h2
 have key : R6.kidOk ns n.toNat q (R6.nd ns n).lv := by
  unfold Node.kids at hq
  simp only [List.mem_cons, List.not_mem_nil, or_false] at hq
  rcases hq with rfl | rfl | rfl | rfl
  ·exact k0
  ·exact k1
  ·exact k2
  ·exact k3
 obtain ⟨g1, g2, g3⟩ := key
 exact ⟨⟨g1, by omega⟩, by omega, by omega⟩
def FlatSpec (lv : Nat) : Prop := ∀ (A : List Asrt) (I : List Chunk) (ns : List Node) (a : Option Addr) (cap : Nat) (room n cx cy : Int) (c : Cell) (r : List Cell), cx = c.x → cy = c.y → R6.right ns room → SlAt I a ns → R6.inS ns n → (R6.nd ns n).lv = lv →
 -1152921504606846976 ≤ c.x ∧ c.x + 2 ^ lv ≤ 1152921504606846976 ∧ -1152921504606846976 ≤ c.y ∧ c.y + 2 ^ lv ≤ 1152921504606846976 → R7.flat ns lv n c = r → r.length ≤ 100000000 →
 FnC Try.prog 56 [storeV a ns.length cap room, .int .i64 n, .agg [.int .i64 cx, .int .i64 cy].toArray].toArray A I (fun v A' I' => ∃ a' cap', v = .slice a' r.length cap' ∧ SlAt I' a' r ∧ A = A' ∧ I ⊆ I')
theorem R7.flat_dead {ns : List Node} {lv : Nat} {n : Int} {c : Cell} (h : (R6.nd ns n).pop = 0) : R7.flat ns lv n c = [] := by unfold R7.flat; rw [if_pos h]
theorem R7.flat_zero {ns : List Node} {n : Int} {c : Cell} (h : ¬ (R6.nd ns n).pop = 0) : R7.flat ns 0 n c = [c] := by unfold R7.flat; rw [if_neg h]
theorem R7.flat_succ {ns : List Node} {m : Nat} {n : Int} {c : Cell} (h : ¬ (R6.nd ns n).pop = 0) : R7.flat ns (m + 1) n c = R7.flat ns m (R6.nd ns n).k0 c ++ R7.flat ns m (R6.nd ns n).k1 ⟨c.x + 2 ^ m, c.y⟩ ++ R7.flat ns m (R6.nd ns n).k2 ⟨c.x, c.y + 2 ^ m⟩ ++ R7.flat ns m (R6.nd ns n).k3 ⟨c.x + 2 ^ m, c.y + 2 ^ m⟩ := by rw [R7.flat]; rw [if_neg h]
set_option maxHeartbeats 1000000 in
set_option maxRecDepth 100000 in
theorem ref07_flat_step (lv : Nat) (ih : ∀ m, m < lv → FlatSpec m) : FlatSpec lv := by
 intro A I ns a cap room n cx cy c r hcx hcy hr hs hn hlv hc hfl hlen
 subst hcx; subst hcy
 obtain ⟨hn0, hn1⟩ := hn
 have hmod := hr.modTo.mod.nd ⟨hn0, hn1⟩
 have hmod' : 0 ≤ (ns.getD n.toNat default).lv ∧ (ns.getD n.toNat default).lv ≤ 42 := ⟨hmod.1, hmod.2.1⟩
 skip
 refine fn_enter3 Try.func56 rfl Try.ntmps56 rfl fun w0 => ?_
 refine tS (tR ?_)
 refine tri_g (opg_box_agg rfl) rfl ?_
 rintro _ _ _ ⟨b3, rfl, rfl, rfl⟩
 refine tri_g (opg_box_agg rfl) rfl ?_
 rintro _ _ _ ⟨b5, rfl, rfl, rfl⟩
 refine tA rfl rfl (tN (tT (tS (tR (yF rfl ?_)))))
 refine yL rfl rfl ?_
 refine tM rfl rfl ?_
 refine tri_v (opv_indexAddrS rfl rfl (by omega) (by omega) (by assumption) rfl) rfl ?_
 refine tri_v (opv_loadEA rfl (by assumption) rfl (by omega) rfl rfl) rfl ?_
 refine tri_g opg_alloc rfl ?_
 rintro _ _ _ ⟨b7, rfl, rfl, rfl⟩
 refine yG rfl rfl rfl rfl rfl rfl ?_
 rintro _ _ _ ⟨rfl, rfl⟩
 refine tN (tT (tS (tS (tR (yF rfl ?_)))))
 refine yL rfl rfl ?_
 refine tri_v (opv_eql rfl rfl) rfl ?_
 refine tN (tT ?_)
 refine tri_cond_dec rfl (fun h0 => ?_) (fun h0 => ?_)
 ·rw [R7.flat_dead h0] at hfl
  subst hfl
  refine tS (tR (tA rfl rfl (tN (tT (tri_ret (tri_then_ret ?_))))))
  refine tri_end A Suf.h rfl (.cons (rv_tmp rfl) .nil) ⟨none, 0, rfl, SlAt.nil, rfl, fun _ h => h⟩
 refine tri_skip (tT (tS (tS (tR (yF rfl ?_)))))
 refine yL rfl rfl ?_
 refine tri_v (opv_eql rfl rfl) rfl ?_
 refine tN (tT ?_)
 refine tri_cond_dec rfl (fun h1 => ?_) (fun h1 => ?_)
 ·have hl0 : lv = 0 := by
   have h2 : (R6.nd ns n).lv = 0 := h1
   omega
  subst hl0
  rw [R7.flat_zero h0] at hfl
  subst hfl
  refine tS (tR ?_)
  refine yB rfl rfl ?_
  refine tri_g (opg_buildSlice rfl rfl rfl rfl) rfl ?_
  rintro _ _ _ ⟨b23, rfl, rfl, rfl⟩
  refine tA rfl rfl (tN (tT (tri_ret (tri_then_ret ?_))))
  refine tri_freezeBoxS [c] rfl fun I' hI hs' => ?_
  refine tri_end A Suf.h rfl (.cons (rv_tmp rfl) .nil) ⟨_, 1, rfl, hs', rfl, hI⟩
 have hl0 : ¬ (R6.nd ns n).lv = 0 := h1
 obtain ⟨m, rfl⟩ : ∃ m, lv = m + 1 := ⟨lv - 1, by omega⟩
 rw [R7.flat_succ h0] at hfl
 have kid := fun q hq => hr.kidN ⟨hn0, hn1⟩ hlv (q := q) hq
 obtain ⟨r0, hr0⟩ : ∃ r, R7.flat ns m (R6.nd ns n).k0 c = r := ⟨_, rfl⟩
 obtain ⟨r1, hr1⟩ : ∃ r, R7.flat ns m (R6.nd ns n).k1 ⟨c.x + 2 ^ m, c.y⟩ = r := ⟨_, rfl⟩
 obtain ⟨r2, hr2⟩ : ∃ r, R7.flat ns m (R6.nd ns n).k2 ⟨c.x, c.y + 2 ^ m⟩ = r := ⟨_, rfl⟩
 obtain ⟨r3, hr3⟩ : ∃ r, R7.flat ns m (R6.nd ns n).k3 ⟨c.x + 2 ^ m, c.y + 2 ^ m⟩ = r := ⟨_, rfl⟩
 rw [hr0, hr1, hr2, hr3] at hfl
 subst hfl
 simp only [List.length_append] at hlen
 have hpow : (2:Int) ^ (m + 1) = 2 ^ m * 2 := Int.pow_succ 2 m
 have hpos : (0:Int) < 2 ^ m := Int.pow_pos (by omega)
 rw [hpow] at hc
 obtain ⟨hc1, hc2, hc3, hc4⟩ := hc
 have e8 : (2:Int) ^ ((R6.nd ns n).lv - 1).toNat = 2 ^ m := by congr 1; omega
 skip
 refine tri_skip (tT (tS (tR (yF rfl ?_))))
 refine yL rfl rfl ?_
 refine tri_v (opv_sub rfl rfl (w64 (by omega) (by omega))) rfl ?_
 refine tri_v (opv_shl1 rfl rfl (by omega) (by omega)) rfl ?_
 refine tA rfl rfl (tN (tT (tS (tR (tA rfl rfl (tN (tT ?_)))))))
 refine tS (tS (tR (tA rfl rfl (tN (tT (tri_block ?_))))))
 refine tri_sub (F' := [(3, pt b3 0), (5, pt b5 0), (7, pt b7 0), (8, .int .i64 (2 ^ m)), (9, .slice none 0 0), (10, .int .i64 (0 : Int))]) ⟨rfl, rfl, rfl, by rw [← e8]; rfl, rfl, rfl, trivial⟩ ?_
 refine tri_nilRow (E := 48) (sz := 2) ?_
 refine tri_rounds 5 ?_
 refine tri_round (tS (tS (tR (tM rfl rfl (yC rfl rfl (tN (tT ?_)))))))
 refine tri_cond_is rfl (by decide) ?_
 skip
 refine tri_skip (tT (tS (tri_block ?_)))
 refine tri_draw [0, 1, 2, 3, 4, 5, 6, 7, 8, 9, 10, 11, 12, 13, 14, 15, 16, 17, 18, 19, 20, 21, 22, 23] rfl [_] rfl mixed ?_
 refine yM rfl rfl ?_
 refine th_take rfl rfl (by kernel_rfl)  (opv_loadA rfl rfl rfl) ?_
 refine yM rfl rfl (yf rfl rfl ?_)
 refine th_take rfl rfl (by kernel_rfl)  (opv_indexAddrA rfl rfl (by decide) (by decide)) ?_
 refine yl rfl rfl rfl ?_
 refine yf rfl rfl ?_
 refine yl rfl rfl rfl ?_
 refine yM rfl rfl ?_
 refine th_take rfl rfl (by kernel_rfl)  (opv_remE rfl rfl (by omega) (by omega)) ?_
 refine yM rfl rfl ?_
 refine th_take rfl rfl (by kernel_rfl)  (opv_mul rfl rfl (w64 (by omega) (by omega))) ?_
 refine th_take rfl rfl (by kernel_rfl)  (opv_add rfl rfl (w64 (by omega) (by omega))) ?_
 refine yf rfl rfl ?_
 refine yl rfl rfl rfl ?_
 refine yM rfl rfl ?_
 refine th_take rfl rfl (by kernel_rfl)  (opv_quoE rfl rfl (by omega) (by omega) (by omega)) ?_
 refine yM rfl rfl ?_
 refine th_take rfl rfl (by kernel_rfl)  (opv_mul rfl rfl (w64 (by omega) (by omega))) ?_
 refine th_take rfl rfl (by kernel_rfl)  (opv_add rfl rfl (w64 (by omega) (by omega))) ?_
 refine th_take rfl rfl (by kernel_rfl)  (opv_buildS rfl rfl) ?_
 refine th_one (by kernel_rfl) (step_m rfl rfl (opg_call (xs := [_, _, _]) rfl (ih m (by omega) _ _ _ _ _ room _ _ _ ⟨c.x, c.y⟩ r0 (by simp only; omega) (by simp only; omega) hr (hs) (kid _ (by simp [Node.kids, R6.nd])).1 (kid _ (by simp [Node.kids, R6.nd])).2.2 (by simp only; omega) hr0 (by omega))) ?_)
 rintro _ _ J1 ⟨a0, c0, rfl, hq0, rfl, hJ1⟩
 refine ⟨Suf.h, (by assumption), ?_⟩
 skip
 refine th_one (by kernel_rfl) (step_m rfl rfl (opg_appendS rfl rfl hq0 rfl rfl (by omega) rfl) ?_)
 rintro _ _ _ ⟨d0, e0, rfl, rfl, rfl⟩
 refine ⟨Suf.h, (by assumption), ?_⟩
 refine yA rfl rfl (yD (tri_inBlock (tT (tR (tM rfl rfl ?_)))))
 refine yU rfl rfl ?_
 refine tA rfl rfl (tN (tT (tri_round (tS (tS (tR (tM rfl rfl ?_)))))))
 refine yC rfl rfl (tN (tT ?_))
 skip
 refine tri_cond_is rfl (by decide) ?_
 skip
 refine tri_skip (tT (tS (tri_block ?_)))
 refine tri_draw [0, 1, 2, 3, 4, 5, 6, 7, 8, 9, 10, 11, 12, 13, 14, 15, 16, 17, 18, 19, 20, 21, 22, 23] rfl [_] rfl mixed ?_
 refine yM rfl rfl ?_
 refine th_take rfl rfl (by kernel_rfl)  (opv_loadA rfl rfl rfl) ?_
 refine yM rfl rfl (yf rfl rfl ?_)
 refine th_take rfl rfl (by kernel_rfl)  (opv_indexAddrA rfl rfl (by decide) (by decide)) ?_
 refine yl rfl rfl rfl ?_
 refine yf rfl rfl ?_
 refine yl rfl rfl rfl ?_
 refine yM rfl rfl ?_
 refine th_take rfl rfl (by kernel_rfl)  (opv_remE rfl rfl (by omega) (by omega)) ?_
 refine yM rfl rfl ?_
 refine th_take rfl rfl (by kernel_rfl)  (opv_mul rfl rfl (w64 (by omega) (by omega))) ?_
 refine th_take rfl rfl (by kernel_rfl)  (opv_add rfl rfl (w64 (by omega) (by omega))) ?_
 refine yf rfl rfl ?_
 refine yl rfl rfl rfl ?_
 refine yM rfl rfl ?_
 refine th_take rfl rfl (by kernel_rfl)  (opv_quoE rfl rfl (by omega) (by omega) (by omega)) ?_
 refine yM rfl rfl ?_
 refine th_take rfl rfl (by kernel_rfl)  (opv_mul rfl rfl (w64 (by omega) (by omega))) ?_
 refine th_take rfl rfl (by kernel_rfl)  (opv_add rfl rfl (w64 (by omega) (by omega))) ?_
 refine th_take rfl rfl (by kernel_rfl)  (opv_buildS rfl rfl) ?_
 refine th_one (by kernel_rfl) (step_m rfl rfl (opg_call (xs := [_, _, _]) rfl (ih m (by omega) _ _ _ _ _ room _ _ _ ⟨c.x + 2 ^ m, c.y⟩ r1 (by simp only; omega) (by simp only; omega) hr (hs.mono hJ1) (kid _ (by simp [Node.kids, R6.nd])).1 (kid _ (by simp [Node.kids, R6.nd])).2.2 (by simp only; omega) hr1 (by omega))) ?_)
 rintro _ _ J2 ⟨a1, c1, rfl, hq1, rfl, hJ2⟩
 refine ⟨Suf.h, (by assumption), ?_⟩
 skip
 refine th_one (by kernel_rfl) (step_m rfl rfl (opg_appendS rfl rfl hq1 rfl rfl (by omega) rfl) ?_)
 rintro _ _ _ ⟨d1, e1, rfl, rfl, rfl⟩
 refine ⟨Suf.h, (by assumption), ?_⟩
 refine yA rfl rfl (yD (tri_inBlock (tT (tR (tM rfl rfl ?_)))))
 refine yU rfl rfl ?_
 refine tA rfl rfl (tN (tT (tri_round (tS (tS (tR (tM rfl rfl ?_)))))))
 refine yC rfl rfl (tN (tT ?_))
 skip
 refine tri_cond_is rfl (by decide) ?_
 skip
 refine tri_skip (tT (tS (tri_block ?_)))
 refine tri_draw [0, 1, 2, 3, 4, 5, 6, 7, 8, 9, 10, 11, 12, 13, 14, 15, 16, 17, 18, 19, 20, 21, 22, 23] rfl [_] rfl mixed ?_
 refine yM rfl rfl ?_
 refine th_take rfl rfl (by kernel_rfl)  (opv_loadA rfl rfl rfl) ?_
 refine yM rfl rfl (yf rfl rfl ?_)
 refine th_take rfl rfl (by kernel_rfl)  (opv_indexAddrA rfl rfl (by decide) (by decide)) ?_
 refine yl rfl rfl rfl ?_
 refine yf rfl rfl ?_
 refine yl rfl rfl rfl ?_
 refine yM rfl rfl ?_
 refine th_take rfl rfl (by kernel_rfl)  (opv_remE rfl rfl (by omega) (by omega)) ?_
 refine yM rfl rfl ?_
 refine th_take rfl rfl (by kernel_rfl)  (opv_mul rfl rfl (w64 (by omega) (by omega))) ?_
 refine th_take rfl rfl (by kernel_rfl)  (opv_add rfl rfl (w64 (by omega) (by omega))) ?_
 refine yf rfl rfl ?_
 refine yl rfl rfl rfl ?_
 refine yM rfl rfl ?_
 refine th_take rfl rfl (by kernel_rfl)  (opv_quoE rfl rfl (by omega) (by omega) (by omega)) ?_
 refine yM rfl rfl ?_
 refine th_take rfl rfl (by kernel_rfl)  (opv_mul rfl rfl (w64 (by omega) (by omega))) ?_
 refine th_take rfl rfl (by kernel_rfl)  (opv_add rfl rfl (w64 (by omega) (by omega))) ?_
 refine th_take rfl rfl (by kernel_rfl)  (opv_buildS rfl rfl) ?_
 refine th_one (by kernel_rfl) (step_m rfl rfl (opg_call (xs := [_, _, _]) rfl (ih m (by omega) _ _ _ _ _ room _ _ _ ⟨c.x, c.y + 2 ^ m⟩ r2 (by simp only; omega) (by simp only; omega) hr ((hs.mono hJ1).mono hJ2) (kid _ (by simp [Node.kids, R6.nd])).1 (kid _ (by simp [Node.kids, R6.nd])).2.2 (by simp only; omega) hr2 (by omega))) ?_)
 rintro _ _ J3 ⟨a2, c2, rfl, hq2, rfl, hJ3⟩
 refine ⟨Suf.h, (by assumption), ?_⟩
 skip
 refine th_one (by kernel_rfl) (step_m rfl rfl (opg_appendS rfl rfl hq2 rfl rfl (by omega) rfl) ?_)
 rintro _ _ _ ⟨d2, e2, rfl, rfl, rfl⟩
 refine ⟨Suf.h, (by assumption), ?_⟩
 refine yA rfl rfl (yD (tri_inBlock (tT (tR (tM rfl rfl ?_)))))
 refine yU rfl rfl ?_
 refine tA rfl rfl (tN (tT (tri_round (tS (tS (tR (tM rfl rfl ?_)))))))
 refine yC rfl rfl (tN (tT ?_))
 skip
 refine tri_cond_is rfl (by decide) ?_
 skip
 refine tri_skip (tT (tS (tri_block ?_)))
 refine tri_draw [0, 1, 2, 3, 4, 5, 6, 7, 8, 9, 10, 11, 12, 13, 14, 15, 16, 17, 18, 19, 20, 21, 22, 23] rfl [_] rfl mixed ?_
 refine yM rfl rfl ?_
 refine th_take rfl rfl (by kernel_rfl)  (opv_loadA rfl rfl rfl) ?_
 refine yM rfl rfl (yf rfl rfl ?_)
 refine th_take rfl rfl (by kernel_rfl)  (opv_indexAddrA rfl rfl (by decide) (by decide)) ?_
 refine yl rfl rfl rfl ?_
 refine yf rfl rfl ?_
 refine yl rfl rfl rfl ?_
 refine yM rfl rfl ?_
 refine th_take rfl rfl (by kernel_rfl)  (opv_remE rfl rfl (by omega) (by omega)) ?_
 refine yM rfl rfl ?_
 refine th_take rfl rfl (by kernel_rfl)  (opv_mul rfl rfl (w64 (by omega) (by omega))) ?_
 refine th_take rfl rfl (by kernel_rfl)  (opv_add rfl rfl (w64 (by omega) (by omega))) ?_
 refine yf rfl rfl ?_
 refine yl rfl rfl rfl ?_
 refine yM rfl rfl ?_
 refine th_take rfl rfl (by kernel_rfl)  (opv_quoE rfl rfl (by omega) (by omega) (by omega)) ?_
 refine yM rfl rfl ?_
 refine th_take rfl rfl (by kernel_rfl)  (opv_mul rfl rfl (w64 (by omega) (by omega))) ?_
 refine th_take rfl rfl (by kernel_rfl)  (opv_add rfl rfl (w64 (by omega) (by omega))) ?_
 refine th_take rfl rfl (by kernel_rfl)  (opv_buildS rfl rfl) ?_
 refine th_one (by kernel_rfl) (step_m rfl rfl (opg_call (xs := [_, _, _]) rfl (ih m (by omega) _ _ _ _ _ room _ _ _ ⟨c.x + 2 ^ m, c.y + 2 ^ m⟩ r3 (by simp only; omega) (by simp only; omega) hr (((hs.mono hJ1).mono hJ2).mono hJ3) (kid _ (by simp [Node.kids, R6.nd])).1 (kid _ (by simp [Node.kids, R6.nd])).2.2 (by simp only; omega) hr3 (by omega))) ?_)
 rintro _ _ J4 ⟨a3, c3, rfl, hq3, rfl, hJ4⟩
 refine ⟨Suf.h, (by assumption), ?_⟩
 skip
 refine th_one (by kernel_rfl) (step_m rfl rfl (opg_appendS rfl rfl hq3 rfl rfl (by omega) rfl) ?_)
 rintro _ _ _ ⟨d3, e3, rfl, rfl, rfl⟩
 refine ⟨Suf.h, (by assumption), ?_⟩
 refine yA rfl rfl (yD (tri_inBlock (tT (tR (tM rfl rfl ?_)))))
 refine yU rfl rfl ?_
 refine tA rfl rfl (tN (tT (tri_round (tS (tS (tR (tM rfl rfl ?_)))))))
 refine yC rfl rfl (tN (tT ?_))
 refine tri_cond_not rfl (by decide) ?_
 refine tri_exit ?_
 refine tri_then_exit (tri_then_exit ?_)
 refine tri_inBlock_hit rfl ?_
 refine tT (tS (tR (tM rfl rfl (tA rfl rfl (tN (tT (tri_ret ?_)))))))
 refine tri_rowEq (len' := (r0 ++ r1 ++ r2 ++ r3).length) (cells' := encs (r0 ++ r1 ++ r2 ++ r3)) (by simp only [List.length_append, Nat.zero_add]) (by rw [encs_append, encs_append, encs_append]; rfl) ?_
 refine tri_freezeRow rfl fun I' hI hs' => ?_
 refine tri_end A Suf.h rfl (.cons (rv_tmp rfl) .nil) ⟨d3, e3, ?_, hs', rfl, fun _ h => hI (hJ4 (hJ3 (hJ2 (hJ1 h))))⟩
 simp only [List.length_append, Nat.zero_add]; rfl
theorem ref07_flat (lv : Nat) : FlatSpec lv := by
 induction lv using Nat.strongRecOn with
 | ind lv ih => exact ref07_flat_step lv ih
set_option maxRecDepth 100000 in
theorem ref07_of {A : List Asrt} {I : List Chunk} {ns : List Node} {a : Option Addr} {cap : Nat} {room n : Int} (hr : R6.right ns room) (hs : SlAt I a ns) (hn : R6.inS ns n) (hl1 : 1 ≤ (R6.nd ns n).lv) (hlen : (R7.of ns n).length ≤ 100000000) :
  FnC Try.prog 23 [storeV a ns.length cap room, .int .i64 n].toArray A I (fun v A' I' => ∃ a' cap', v = .slice a' (R7.of ns n).length cap' ∧ SlAt I' a' (R7.of ns n) ∧ A = A' ∧ I ⊆ I') := by
 have hmod := hr.modTo.mod.nd hn
 have hmod' : 1 ≤ (ns.getD n.toNat default).lv ∧ (ns.getD n.toNat default).lv ≤ 42 := ⟨hl1, hmod.2.1⟩
 have hsd := R7.side_bd (lv := (ns.getD n.toNat default).lv) hmod'.2
 have hsd2 : (2:Int) ^ ((ns.getD n.toNat default).lv).toNat = 2 * R7.side (ns.getD n.toNat default).lv := by
  unfold R7.side
  obtain ⟨k, hk⟩ : ∃ k : Nat, (ns.getD n.toNat default).lv = k + 1 := ⟨((ns.getD n.toNat default).lv - 1).toNat, by omega⟩
  rw [hk]
  have e1 : ((k:Int) + 1).toNat = k + 1 := by omega
  have e2 : ((k:Int) + 1 - 1).toNat = k := by omega
  rw [e1, e2, Int.pow_succ]; omega
 have hn0 := hn.1
 have hn1 := hn.2
 have hsd' := hsd
 unfold R7.side at hsd'
 refine fn_enter2 Try.func23 rfl Try.ntmps23 rfl fun w0 => ?_
 refine tS (tR ?_)
 refine tri_g (opg_box_agg rfl) rfl ?_
 rintro _ _ _ ⟨b2, rfl, rfl, rfl⟩
 refine tA rfl rfl (tN (tT (tS (tR (yF rfl ?_)))))
 refine yL rfl rfl ?_
 refine tM rfl rfl ?_
 refine tri_v (opv_indexAddrS rfl rfl (by omega) (by omega) (by assumption) rfl) rfl ?_
 refine tri_v (opv_fieldAddrE rfl (by assumption) (by omega) rfl) rfl ?_
 refine tri_v (opv_loadE1 rfl (by assumption) rfl (by omega) rfl rfl) rfl ?_
 refine tri_v (opv_sub rfl rfl (w64 (by omega) (by omega))) rfl ?_
 refine tri_v (opv_shl1 rfl rfl (by omega) (by omega)) rfl ?_
 refine tA rfl rfl (tN (tT (tS (tR ?_))))
 refine yB rfl rfl ?_
 refine tM rfl rfl (tM rfl rfl ?_)
 refine tri_v (opv_negE rfl (by omega) (by omega)) rfl ?_
 refine tM rfl rfl ?_
 refine tri_v (opv_negE rfl (by omega) (by omega)) rfl ?_
 refine tri_v (opv_buildS rfl rfl) rfl ?_
 refine tri_g (opg_call (xs := [_, _, _]) rfl (ref07_flat (R6.nd ns n).lv.toNat _ _ _ _ _ room _ _ _ ⟨-R7.side (R6.nd ns n).lv, -R7.side (R6.nd ns n).lv⟩ (R7.of ns n) rfl rfl hr hs hn (by unfold R6.nd; omega) (by show _ ∧ -R7.side (ns.getD n.toNat default).lv + 2 ^ ((ns.getD n.toNat default).lv).toNat ≤ _ ∧ _ ∧ -R7.side (ns.getD n.toNat default).lv + 2 ^ ((ns.getD n.toNat default).lv).toNat ≤ _; rw [hsd2]; simp only [R6.nd]; omega) rfl hlen)) rfl ?_
 rintro _ _ J ⟨a1, c1, rfl, hq, rfl, hJ⟩
 refine tA rfl rfl (tN (tT (tri_ret ?_)))
 refine tri_end A Suf.h rfl (.cons (rv_tmp rfl) .nil) ⟨a1, c1, rfl, hq, rfl, hJ⟩
end Go.GL

