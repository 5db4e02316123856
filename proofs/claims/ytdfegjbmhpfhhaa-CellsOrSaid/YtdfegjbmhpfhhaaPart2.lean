/- Part 2: contracts of the functions that the law reaches: each answers as its model does. No condition beyond those that each theorem states. -/
import Derived.Test.YtdfegjbmhpfhhaaPart1
import Derived.Lib.Overlaps
import Derived.Laws.Externs
import Derived.Carry
import Derived.ProofKit
import Derived.OpenShut
import Derived.JoinedCond
import Derived.Deep.Slices
import Derived.ChangeSame
import Derived.Below
import Derived.Shelf.SlSortCmp.NoneTotal
set_option linter.unusedVariables false
namespace Go.GL
open Go.Proofs
attribute [local irreducible] wpList Code.wp Exit.then Exit.inBlock Ends Tri TriH OpV OpG FnC epf wpAnyH
variable {A : List Asrt} {I : List Chunk}
set_option maxHeartbeats 1000000 in
set_option maxRecDepth 100000 in
theorem cells_right {l : List Cell} {a : Option Addr} {cap : Nat} (hs : SlAt I a l) (hn : l.length ≤ 1000000000) :
  FnC Try.prog 14 [.slice a l.length cap].toArray A I (fun v A' I' => v = .bool (decide (R1.right l)) ∧ A = A' ∧ I ⊆ I') := by
 skip
 skip
 refine fn_enter1 Try.func14 rfl Try.ntmps14 rfl fun w0 => ?_
 refine tS (tR (tA rfl rfl (tN (tT (tS (tS (tR ?_)))))))
 refine tM rfl rfl ?_
 refine tri_v (opv_len rfl) rfl ?_
 refine tM rfl rfl (tN (tT (tri_block ?_)))
 refine tri_sub (F' := [(0, .slice a l.length cap), (5, .slice a l.length cap), (6, .int .i64 (l.length : Nat)), (7, .int .i64 (0 : Nat))]) ⟨rfl, rfl, rfl, rfl, trivial⟩ ?_
 refine loop_ind (G := Nat × List Chunk) (fun g => l.length - g.1) (fun g => g.1 ≤ l.length ∧ (∀ j, j < g.1 → R1.okAt l j) ∧ I ⊆ g.2) (fun g => [(0, .slice a l.length cap), (5, .slice a l.length cap), (6, .int .i64 (l.length : Nat)), (7, .int .i64 (g.1 : Nat))]) (fun _ => A) (fun g => g.2) ?_ (0, I) ⟨by simp only; omega, fun j h => absurd h (by simp only; omega), fun _ h => h⟩
 rintro ⟨i, J⟩ ⟨hi, hok, hJ⟩ K hK
 simp only at hi hok hJ hK ⊢
 have hsm : SlAt J a l := hs.mono hJ
 skip
 refine tS (tR ?_)
 refine tri_v (opv_lss rfl rfl) rfl ?_
 refine tN (tT (tS ?_))
 refine tri_cond_dec rfl (fun h => ?_) (fun h => ?_)
 ·have hlt : i < l.length := by omega
  have bad : ¬ R1.okAt l i → ¬ R1.right l := fun h2 h3 => h2 (h3.1 i (by omega))
  refine tri_skip (tT (tS (tri_block (tS (tR (tM rfl rfl ?_))))))
  refine tri_v (by first | exact opv_indexAddrA rfl rfl (by first | decide | omega) (by first | decide | omega) | exact opv_indexAddrSN rfl rfl (by omega) (by assumption) rfl | exact opv_indexAddrS rfl rfl (by omega) (by omega) (by assumption) rfl | exact opv_indexAddrE rfl (by assumption) (by omega) rfl (by first | decide | omega) (by first | decide | omega) | exact opv_indexAddrRN rfl rfl (by omega) | exact opv_indexAddrR rfl rfl (by omega) (by omega) | exact opv_indexAddrRA rfl (by omega) rfl (by first | decide | omega) (by first | decide | omega) | exact opv_indexAddrSP rfl rfl (by omega) (by omega) | exact opv_indexAddrSN rfl rfl (by omega) (by assumption) (by omega) | exact opv_indexAddrS rfl rfl (by omega) (by omega) (by assumption) (by omega)) rfl ?_
  refine tri_v (by first | exact opv_load1 rfl rfl rfl | exact opv_loadA rfl rfl rfl | exact opv_loadE1 rfl (by assumption) rfl (by omega) rfl rfl | exact opv_loadEA rfl (by assumption) rfl (by omega) rfl rfl | exact opv_loadRX1 rfl rfl (by omega) rfl rfl | exact opv_loadRXA rfl rfl (by omega) rfl rfl rfl | exact opv_loadIX rfl rfl (by omega) | exact opv_loadR1 rfl rfl rfl | exact opv_loadRA rfl rfl rfl rfl) rfl ?_
  refine tri_g opg_alloc rfl ?_
  rintro _ _ _ ⟨b4, rfl, rfl, rfl⟩
  refine tA rfl rfl ?_
  refine tri_g (opg_store rfl rfl rfl rfl rfl rfl) rfl ?_
  rintro _ _ _ ⟨rfl, rfl⟩
  refine tN (tT (tS ?_))
  refine tri_draw [0, 1, 2, 3, 4, 5, 6, 7, 8, 9, 10, 11, 12, 13, 14, 15, 16] rfl [] rfl mixed ?_
  refine th_take rfl rfl (by kernel_rfl)  (by first | exact opv_load1 rfl rfl rfl | exact opv_loadA rfl rfl rfl | exact opv_loadE1 rfl (by assumption) rfl (by omega) rfl rfl | exact opv_loadEA rfl (by assumption) rfl (by omega) rfl rfl | exact opv_loadRX1 rfl rfl (by omega) rfl rfl | exact opv_loadRXA rfl rfl (by omega) rfl rfl rfl | exact opv_loadIX rfl rfl (by omega) | exact opv_loadR1 rfl rfl rfl | exact opv_loadRA rfl rfl rfl rfl) ?_
  refine th_one (by kernel_rfl) (step_m rfl rfl (opg_call (xs := [_]) rfl (cells_in (c := R1.g l i))) ?_)
  rintro _ _ _ ⟨rfl, rfl, rfl⟩
  refine ⟨Suf.h, (by first | exact fun _ h => h | assumption | exact fun _ h => (by assumption : _ ⊆ _) ((by assumption : _ ⊆ _) h)), ?_⟩
  refine th_take rfl rfl (by kernel_rfl)  (by first | exact opv_notD rfl | exact opv_not rfl) ?_
  refine th_take rfl rfl (by kernel_rfl)  (opv_move rfl) ?_
  refine th_split rfl rfl rfl (fun h1 => ?_) (fun h1 => ?_)
  ·refine th_skip rfl rfl rfl rfl rfl (by kernel_rfl)  ?_
   refine th_skip rfl rfl rfl rfl rfl (by kernel_rfl)  ?_
   refine th_skip rfl rfl rfl rfl rfl (by kernel_rfl)  ?_
   refine th_skip_u rfl rfl rfl rfl (by kernel_rfl)  ?_
   refine th_skip_u rfl rfl rfl rfl (by kernel_rfl)  ?_
   refine th_skip_u rfl rfl rfl rfl (by kernel_rfl)  ?_
   refine th_skip_u rfl rfl rfl rfl (by kernel_rfl)  ?_
   refine th_skip_u rfl rfl rfl rfl (by kernel_rfl)  ?_
   refine th_skip_u rfl rfl rfl rfl (by kernel_rfl)  ?_
   refine th_one (by kernel_rfl) (step_skip_u rfl rfl rfl rfl ?_)
   refine th_skip_u rfl rfl rfl rfl (by kernel_rfl)  ?_
   refine th_skip rfl rfl rfl rfl rfl (by kernel_rfl)  ?_
   refine th_take rfl rfl (by kernel_rfl)  (by first | exact opv_pick_t rfl rfl | exact opv_pick_f rfl rfl | exact opv_pick_bool rfl rfl rfl | exact opv_pick rfl rfl rfl) ?_
   refine th_done (by kernel_rfl) ?_
   refine tT ?_
   refine tri_cond_true rfl ?_
   refine tS (tR (tA rfl rfl (tN (tT (tri_ret ?_)))))
   refine tri_inBlock_ret ?_
   refine tri_then_ret (tri_then_ret ?_)
   refine tri_inBlock_ret ?_
   refine tri_then_ret ?_
   refine tri_end A Suf.h rfl (.cons (rv_tmp rfl) .nil) ⟨congrArg Value.bool ?_, rfl, hJ⟩
   exact (decide_eq_false (bad fun h2 => h1 h2.1)).symm
  ·have h1 := Decidable.not_not.1 h1
   refine th_take_g rfl rfl rfl rfl rfl (by kernel_rfl)  (opv_move rfl) ?_
   refine th_take_g rfl rfl rfl rfl rfl (by kernel_rfl)  (opv_gtr rfl rfl) ?_
   refine th_take_g rfl rfl rfl rfl rfl (by kernel_rfl)  (opv_move rfl) ?_
   refine th_split rfl rfl rfl (fun h2 => ?_) (fun h2 => ?_)
   ·have h2 : 0 < i := by omega
    refine th_take_g rfl rfl rfl rfl rfl (by kernel_rfl)  (opv_move rfl) ?_
    refine th_take_g rfl rfl rfl rfl rfl (by kernel_rfl)  (opv_move rfl) ?_
    refine th_take_g rfl rfl rfl rfl rfl (by kernel_rfl)  (by first | exact opv_sub rfl rfl (w64 (by omega) (by omega)) | exact opv_sub rfl rfl rfl) ?_
    refine th_take_g rfl rfl rfl rfl rfl (by kernel_rfl)  (by first | exact opv_indexAddrA rfl rfl (by first | decide | omega) (by first | decide | omega) | exact opv_indexAddrSN rfl rfl (by omega) (by assumption) rfl | exact opv_indexAddrS rfl rfl (by omega) (by omega) (by assumption) rfl | exact opv_indexAddrE rfl (by assumption) (by omega) rfl (by first | decide | omega) (by first | decide | omega) | exact opv_indexAddrRN rfl rfl (by omega) | exact opv_indexAddrR rfl rfl (by omega) (by omega) | exact opv_indexAddrRA rfl (by omega) rfl (by first | decide | omega) (by first | decide | omega) | exact opv_indexAddrSP rfl rfl (by omega) (by omega) | exact opv_indexAddrSN rfl rfl (by omega) (by assumption) (by omega) | exact opv_indexAddrS rfl rfl (by omega) (by omega) (by assumption) (by omega)) ?_
    refine th_take_g rfl rfl rfl rfl rfl (by kernel_rfl)  (by first | exact opv_load1 rfl rfl rfl | exact opv_loadA rfl rfl rfl | exact opv_loadE1 rfl (by assumption) rfl (by omega) rfl rfl | exact opv_loadEA rfl (by assumption) rfl (by omega) rfl rfl | exact opv_loadRX1 rfl rfl (by omega) rfl rfl | exact opv_loadRXA rfl rfl (by omega) rfl rfl rfl | exact opv_loadIX rfl rfl (by omega) | exact opv_loadR1 rfl rfl rfl | exact opv_loadRA rfl rfl rfl rfl) ?_
    refine th_take_g rfl rfl rfl rfl rfl (by kernel_rfl)  (by first | exact opv_load1 rfl rfl rfl | exact opv_loadA rfl rfl rfl | exact opv_loadE1 rfl (by assumption) rfl (by omega) rfl rfl | exact opv_loadEA rfl (by assumption) rfl (by omega) rfl rfl | exact opv_loadRX1 rfl rfl (by omega) rfl rfl | exact opv_loadRXA rfl rfl (by omega) rfl rfl rfl | exact opv_loadIX rfl rfl (by omega) | exact opv_loadR1 rfl rfl rfl | exact opv_loadRA rfl rfl rfl rfl) ?_
    refine th_one (by kernel_rfl) (step_mg rfl rfl rfl rfl rfl (opg_call (xs := [_, _]) rfl (place_order (p := R1.g l ((i:Int)-1).toNat) (q := R1.g l i))) ?_)
    rintro _ _ J2 ⟨rfl, rfl, hJ2⟩
    refine ⟨Suf.h, hJ2, ?_⟩
    rw [show ((i : Int) - 1).toNat = i - 1 by omega]
    refine th_take_g rfl rfl rfl rfl rfl (by kernel_rfl)  (opv_geq rfl rfl) ?_
    refine th_take_g rfl rfl rfl rfl rfl (by kernel_rfl)  (by first | exact opv_pick_t rfl rfl | exact opv_pick_f rfl rfl | exact opv_pick_bool rfl rfl rfl | exact opv_pick rfl rfl rfl) ?_
    refine th_take rfl rfl (by kernel_rfl)  (by first | exact opv_pick_t rfl rfl | exact opv_pick_f rfl rfl | exact opv_pick_bool rfl rfl rfl | exact opv_pick rfl rfl rfl) ?_
    refine th_done (by kernel_rfl) ?_
    refine tT ?_
    refine tri_cond_dec rfl (fun h3 => ?_) (fun h3 => ?_)
    ·have h3 : ¬ R1.less (R1.g l (i - 1)) (R1.g l i) := R1.cmpC_ge.1 h3
     refine tS (tR (tA rfl rfl (tN (tT (tri_ret ?_)))))
     refine tri_inBlock_ret ?_
     refine tri_then_ret (tri_then_ret ?_)
     refine tri_inBlock_ret ?_
     refine tri_then_ret ?_
     refine tri_end A Suf.h rfl (.cons (rv_tmp rfl) .nil) ⟨congrArg Value.bool ?_, rfl, fun _ h => hJ2 (hJ h)⟩
     exact (decide_eq_false (bad fun h4 => h3 (h4.2 h2))).symm
    ·have h3 : R1.less (R1.g l (i - 1)) (R1.g l i) := Decidable.byContradiction fun e => h3 (R1.cmpC_ge.2 e)
     refine tri_skip ?_
     refine tri_inBlock ?_
     refine tT (tR ?_)
     refine tri_v (by first | exact opv_add rfl rfl (w64 (by omega) (by omega))) rfl ?_
     refine tM rfl rfl (tN (tT ?_))
     refine tri_drop ?_
     refine tri_sub ?_ (hK (i + 1, J2) ⟨by simp only; omega, fun j hj => ?_, fun _ h => hJ2 (hJ h)⟩ (by simp only; omega))
     ·exact ⟨rfl, rfl, rfl, rfl, trivial⟩
     ·by_cases e : j = i
      ·subst e
       exact ⟨h1, fun _ => h3⟩
      ·exact hok j (by simp only at hj; omega)
   ·refine th_skip rfl rfl rfl rfl rfl (by kernel_rfl)  ?_
    refine th_skip rfl rfl rfl rfl rfl (by kernel_rfl)  ?_
    refine th_skip rfl rfl rfl rfl rfl (by kernel_rfl)  ?_
    refine th_skip rfl rfl rfl rfl rfl (by kernel_rfl)  ?_
    refine th_skip rfl rfl rfl rfl rfl (by kernel_rfl)  ?_
    refine th_skip rfl rfl rfl rfl rfl (by kernel_rfl)  ?_
    refine th_one (by kernel_rfl) (step_skip rfl rfl rfl rfl rfl ?_)
    refine th_skip rfl rfl rfl rfl rfl (by kernel_rfl)  ?_
    refine th_take_g rfl rfl rfl rfl rfl (by kernel_rfl)  (by first | exact opv_pick_t rfl rfl | exact opv_pick_f rfl rfl | exact opv_pick_bool rfl rfl rfl | exact opv_pick rfl rfl rfl) ?_
    refine th_take rfl rfl (by kernel_rfl)  (by first | exact opv_pick_t rfl rfl | exact opv_pick_f rfl rfl | exact opv_pick_bool rfl rfl rfl | exact opv_pick rfl rfl rfl) ?_
    refine th_done (by kernel_rfl) ?_
    refine tT ?_
    refine tri_cond_false rfl ?_
    refine tri_skip ?_
    refine tri_inBlock ?_
    refine tT (tR ?_)
    refine tri_v (by first | exact opv_add rfl rfl (w64 (by omega) (by omega))) rfl ?_
    refine tM rfl rfl (tN (tT ?_))
    refine tri_drop ?_
    refine tri_sub ?_ (hK (i + 1, J) ⟨by simp only; omega, fun j hj => ?_, hJ⟩ (by simp only; omega))
    ·exact ⟨rfl, rfl, rfl, rfl, trivial⟩
    ·by_cases e : j = i
     ·subst e
      exact ⟨h1, fun h => absurd h (by omega)⟩
     ·exact hok j (by simp only at hj; omega)
 ·refine tri_exit ?_
  refine tri_then_exit ?_
  refine tri_then_exit ?_
  refine tri_inBlock_hit rfl ?_
  refine tT (tS (tR (tM rfl rfl ?_)))
  refine tri_v (opv_len rfl) rfl ?_
  refine tri_v (opv_leq rfl rfl) rfl ?_
  refine tA rfl rfl (tN (tT (tri_ret ?_)))
  refine tri_end A Suf.h rfl (.cons (rv_tmp rfl) .nil) ⟨congrArg Value.bool (decide_eq_decide.2 ?_), rfl, hJ⟩
  unfold R1.right
  constructor
  ·intro h2; exact ⟨fun j hj => hok j (by omega), by omega⟩
  ·rintro ⟨_, h2⟩; omega
end Go.GL


set_option linter.unusedVariables false
namespace Go.GL
open Go.Proofs
attribute [local irreducible] wpList Code.wp Exit.then Exit.inBlock Ends Tri TriH OpV OpG FnC epf wpAnyH
variable {A : List Asrt} {I : List Chunk}
set_option maxRecDepth 100000 in
theorem cells_index {l : List Cell} {a : Option Addr} {cap : Nat} {c : Cell} (hs : SlAt I a l) (hn : l.length ≤ 1000000000) :
  FnC Try.prog 49 [.slice a l.length cap, cellV c].toArray A I (fun v A' I' => (∃ i : Int, v = .int .i64 i ∧ (0 ≤ i ↔ c ∈ l)) ∧ A = A' ∧ I = I') := by
 skip
 skip
 refine fn_enter2 Try.func49 rfl Try.ntmps49 rfl fun w0 => ?_
 refine tS (tR ?_)
 first | refine tri_g (opg_box_agg rfl) rfl ?_ | refine tri_g (opg_box1 rfl rfl) rfl ?_
 rintro _ _ _ ⟨b3, rfl, rfl, rfl⟩
 refine tA rfl rfl (tN (tT (tS (tS (tR (tM rfl rfl ?_))))))
 refine tri_v (opv_len rfl) rfl ?_
 refine tM rfl rfl (tN (tT (tri_block ?_)))
 refine tri_sub (F' := [(0, .slice a l.length cap), (3, pt b3 0), (6, .slice a l.length cap), (7, .int .i64 (l.length : Nat)), (8, .int .i64 (0 : Nat))]) ⟨rfl, rfl, rfl, rfl, rfl, trivial⟩ ?_
 refine loop_ind (G := Nat) (fun i => l.length - i) (fun i => i ≤ l.length ∧ (c ∈ l ↔ c ∈ l.drop i)) (fun i => [(0, .slice a l.length cap), (3, pt b3 0), (6, .slice a l.length cap), (7, .int .i64 (l.length : Nat)), (8, .int .i64 (i : Nat))]) (fun _ => _) (fun _ => _) ?_ 0 ⟨by omega, by simp⟩
 rintro i ⟨hi, hok⟩ K hK
 skip
 refine tS (tR ?_)
 refine tri_v (opv_lss rfl rfl) rfl ?_
 refine tN (tT (tS ?_))
 refine tri_cond_dec rfl (fun h => ?_) (fun h => ?_)
 ·have hlt : i < l.length := by omega
  have e : l.getD i default = l[i] := by simp [hlt]
  refine tri_skip (tT (tS (tri_block (tS (tR (tM rfl rfl (tA rfl rfl ?_)))))))
  refine tN (tT (tS ?_))
  refine tri_draw [0, 1, 2, 3, 4, 5] rfl [] rfl mixed ?_
  refine th_take rfl rfl (by kernel_rfl)  (by first | exact opv_load1 rfl rfl rfl | exact opv_loadA rfl rfl rfl | exact opv_loadE1 rfl (by assumption) rfl (by omega) rfl rfl | exact opv_loadEA rfl (by assumption) rfl (by omega) rfl rfl | exact opv_loadRX1 rfl rfl (by omega) rfl rfl | exact opv_loadRXA rfl rfl (by omega) rfl rfl rfl | exact opv_loadIX rfl rfl (by omega) | exact opv_loadR1 rfl rfl rfl | exact opv_loadRA rfl rfl rfl rfl) ?_
  refine th_take rfl rfl (by kernel_rfl)  (opv_move rfl) ?_
  refine th_take rfl rfl (by kernel_rfl)  (opv_move rfl) ?_
  refine th_take rfl rfl (by kernel_rfl)  (by first | exact opv_indexAddrA rfl rfl (by first | decide | omega) (by first | decide | omega) | exact opv_indexAddrSN rfl rfl (by omega) (by assumption) rfl | exact opv_indexAddrS rfl rfl (by omega) (by omega) (by assumption) rfl | exact opv_indexAddrE rfl (by assumption) (by omega) rfl (by first | decide | omega) (by first | decide | omega) | exact opv_indexAddrRN rfl rfl (by omega) | exact opv_indexAddrR rfl rfl (by omega) (by omega) | exact opv_indexAddrRA rfl (by omega) rfl (by first | decide | omega) (by first | decide | omega) | exact opv_indexAddrSP rfl rfl (by omega) (by omega) | exact opv_indexAddrSN rfl rfl (by omega) (by assumption) (by omega) | exact opv_indexAddrS rfl rfl (by omega) (by omega) (by assumption) (by omega)) ?_
  refine th_take rfl rfl (by kernel_rfl)  (by first | exact opv_load1 rfl rfl rfl | exact opv_loadA rfl rfl rfl | exact opv_loadE1 rfl (by assumption) rfl (by omega) rfl rfl | exact opv_loadEA rfl (by assumption) rfl (by omega) rfl rfl | exact opv_loadRX1 rfl rfl (by omega) rfl rfl | exact opv_loadRXA rfl rfl (by omega) rfl rfl rfl | exact opv_loadIX rfl rfl (by omega) | exact opv_loadR1 rfl rfl rfl | exact opv_loadRA rfl rfl rfl rfl) ?_
  refine th_take rfl rfl (by kernel_rfl)  (by first | exact opv_eql rfl rfl | exact opv_eqlI rfl rfl rfl rfl rfl rfl | exact opv_eqlB rfl rfl | exact opv_eqlNil rfl rfl) ?_
  refine th_done (by kernel_rfl) ?_
  refine tT ?_
  refine tri_cond_dec rfl (fun h1 => ?_) (fun h1 => ?_)
  ·have h2 : c = l.getD i default := Cell.ext_iff'.2 h1
   refine tS (tR (tM rfl rfl (tA rfl rfl (tN (tT (tri_ret ?_))))))
   refine tri_inBlock_ret ?_
   refine tri_then_ret (tri_then_ret ?_)
   refine tri_inBlock_ret ?_
   refine tri_then_ret ?_
   refine tri_end A Suf.h rfl (.cons (rv_tmp rfl) .nil) ⟨⟨(i : Int), rfl, ?_⟩, rfl, rfl⟩
   rw [e] at h2
   exact ⟨fun _ => h2 ▸ List.getElem_mem hlt, fun _ => by omega⟩
  ·have h2 : c ≠ l.getD i default := fun h3 => h1 (Cell.ext_iff'.1 h3)
   refine tri_skip ?_
   refine tri_inBlock ?_
   refine tT (tR ?_)
   refine tri_v (by first | exact opv_add rfl rfl (w64 (by omega) (by omega))) rfl ?_
   refine tM rfl rfl (tN (tT ?_))
   refine tri_sub ?_ (hK (i + 1) ⟨by omega, ?_⟩ (by omega))
   ·exact ⟨rfl, rfl, rfl, rfl, rfl, trivial⟩
   ·rw [e] at h2
    refine hok.trans ?_
    have e2 : l.drop i = l[i] :: l.drop (i + 1) := List.drop_eq_getElem_cons hlt
    rw [e2, List.mem_cons]
    exact ⟨fun h => h.resolve_left h2, .inr⟩
 ·refine tri_exit ?_
  refine tri_then_exit ?_
  refine tri_then_exit ?_
  refine tri_inBlock_hit rfl ?_
  refine tT (tS (tR (tA rfl rfl (tN (tT (tri_ret ?_))))))
  refine tri_end A Suf.h rfl (.cons (rv_tmp rfl) .nil) ⟨⟨-1, rfl, ?_⟩, rfl, rfl⟩
  rw [List.drop_of_length_le (by omega)] at hok
  exact ⟨fun h => by omega, fun h => by have := hok.1 h; cases this⟩
set_option maxRecDepth 100000 in
theorem cells_contains {l : List Cell} {a : Option Addr} {cap : Nat} {c : Cell} (hs : SlAt I a l) (hn : l.length ≤ 1000000000) :
  FnC Try.prog 40 [.slice a l.length cap, cellV c].toArray A I (fun v A' I' => v = .bool (decide (c ∈ l)) ∧ A = A' ∧ I = I') := by
 skip
 skip
 refine fn_enter2 Try.func40 rfl Try.ntmps40 rfl fun w0 => ?_
 refine tS (tR ?_)
 first | refine tri_g (opg_box_agg rfl) rfl ?_ | refine tri_g (opg_box1 rfl rfl) rfl ?_
 rintro _ _ _ ⟨b3, rfl, rfl, rfl⟩
 refine tA rfl rfl (tN (tT (tS (tR (tM rfl rfl ?_)))))
 refine tri_v (by first | exact opv_load1 rfl rfl rfl | exact opv_loadA rfl rfl rfl | exact opv_loadE1 rfl (by assumption) rfl (by omega) rfl rfl | exact opv_loadEA rfl (by assumption) rfl (by omega) rfl rfl | exact opv_loadRX1 rfl rfl (by omega) rfl rfl | exact opv_loadRXA rfl rfl (by omega) rfl rfl rfl | exact opv_loadIX rfl rfl (by omega) | exact opv_loadR1 rfl rfl rfl | exact opv_loadRA rfl rfl rfl rfl) rfl ?_
 refine tri_g (opg_call (xs := [_, _]) rfl (cells_index (c := c) hs hn)) rfl ?_
 rintro _ _ _ ⟨⟨i, rfl, hi⟩, rfl, rfl⟩
 refine tri_v (opv_geq rfl rfl) rfl ?_
 refine tA rfl rfl (tN (tT (tri_ret ?_)))
 refine tri_end A Suf.h rfl (.cons (rv_tmp rfl) .nil) ⟨?_, rfl, rfl⟩
 exact congrArg Value.bool (decide_eq_decide.2 hi)
set_option maxRecDepth 100000 in
theorem cells_has {l : List Cell} {a : Option Addr} {cap : Nat} {c : Cell} (hs : SlAt I a l) (hn : l.length ≤ 1000000000) :
  FnC Try.prog 21 [.slice a l.length cap, cellV c].toArray A I (fun v A' I' => v = .bool (decide (c ∈ l)) ∧ A = A' ∧ I = I') := by
 skip
 skip
 refine fn_enter2 Try.func21 rfl Try.ntmps21 rfl fun w0 => ?_
 refine tS (tR ?_)
 first | refine tri_g (opg_box_agg rfl) rfl ?_ | refine tri_g (opg_box1 rfl rfl) rfl ?_
 rintro _ _ _ ⟨b3, rfl, rfl, rfl⟩
 refine tA rfl rfl (tN (tT (tS (tR (tM rfl rfl ?_)))))
 refine tri_v (by first | exact opv_load1 rfl rfl rfl | exact opv_loadA rfl rfl rfl | exact opv_loadE1 rfl (by assumption) rfl (by omega) rfl rfl | exact opv_loadEA rfl (by assumption) rfl (by omega) rfl rfl | exact opv_loadRX1 rfl rfl (by omega) rfl rfl | exact opv_loadRXA rfl rfl (by omega) rfl rfl rfl | exact opv_loadIX rfl rfl (by omega) | exact opv_loadR1 rfl rfl rfl | exact opv_loadRA rfl rfl rfl rfl) rfl ?_
 refine tri_g (opg_call (xs := [_, _]) rfl (cells_contains (c := c) hs hn)) rfl ?_
 rintro _ _ _ ⟨rfl, rfl, rfl⟩
 refine tA rfl rfl (tN (tT (tri_ret ?_)))
 refine tri_end A Suf.h rfl (.cons (rv_tmp rfl) .nil) ⟨rfl, rfl, rfl⟩
end Go.GL


set_option linter.unusedVariables false
namespace Go.GL
open Go.Proofs
attribute [local irreducible] wpList Code.wp Exit.then Exit.inBlock Ends Tri TriH OpV OpG FnC epf wpAnyH
variable {A : List Asrt} {I : List Chunk}
namespace R1
/-- Where a cell stands, or would stand. -/
structure Pos (l : List Cell) (c : Cell) (i : Nat) : Prop where
 le : i ≤ l.length
 lo : ∀ j, j < i → less (g l j) c
 hi : ∀ j, i ≤ j → j < l.length → ¬ less (g l j) c
theorem cmpC_zero {a b : Cell} : cmpC a b = 0 ↔ a = b := by
 cases a; cases b
 unfold cmpC cmpI
 simp only [Cell.mk.injEq]
 split <;> (repeat' split) <;> omega
theorem srt_lt {l : List Cell} (h : Srt l) {i j : Nat} (hij : i < j) (hj : j < l.length) : less (g l i) (g l j) := by
 have := List.pairwise_iff_getElem.1 h i j (by omega) hj hij
 unfold g
 simpa [hj, show i < l.length by omega] using this
theorem Pos.mem {l : List Cell} (hs : Srt l) {c : Cell} {i : Nat} (h : Pos l c i) : c ∈ l ↔ i < l.length ∧ g l i = c := by
 constructor
 ·intro hc
  obtain ⟨j, hj, e⟩ := List.getElem_of_mem hc
  have ej : g l j = c := by unfold g; simp [hj, e]
  have h1 : i ≤ j := Nat.le_of_not_lt fun k => less_irrefl c (by have := h.lo j k; rwa [ej] at this)
  by_cases hij : i = j
  ·subst hij; exact ⟨hj, ej⟩
  ·have h2 := srt_lt hs (i := i) (j := j) (by omega) hj
   rw [ej] at h2
   exact absurd h2 (h.hi i (Nat.le_refl _) (by omega))
 ·rintro ⟨h1, rfl⟩
  unfold g
  simp [h1]
theorem half_u (s : Nat) : ((s : Int)).fdiv (2 ^ (min (1 : Int).toNat IntKind.u64.bits)) = ((s / 2 : Nat) : Int) := by
 have : (2 : Int) ^ (min (1 : Int).toNat IntKind.u64.bits) = 2 := by decide
 rw [this, Int.fdiv_eq_ediv_of_nonneg _ (by omega)]
 omega
end R1
theorem cells_by1V {x y : Cell} {bo : Nat} {Tb : TypeId} {fz : Nat × Nat} (hI : (bo, Obj.cells #[.func (.func 32) #[] #[]] Tb fz) ∈ I) :
  FnC Try.prog 44 ([] ++ [cellV x, cellV y] ++ [pt bo 0]).toArray A I (fun v A' I' => v = .int .i64 (R1.cmpC x y) ∧ A = A' ∧ I ⊆ I') := cells_by1 hI
set_option maxHeartbeats 2000000 in
set_option maxRecDepth 100000 in
theorem cells_search {l : List Cell} {a : Option Addr} {cap bo : Nat} {c : Cell} {Tb : TypeId} {fz : Nat × Nat} (hs : SlAt I a l) (hn : l.length ≤ 1000000000) (hsrt : R1.Srt l) (hI : (bo, Obj.cells #[.func (.func 32) #[] #[]] Tb fz) ∈ I) :
  FnC Try.prog 37 [.slice a l.length cap, cellV c, .func (.func 44) #[] #[pt bo 0]].toArray A I (fun v A' I' => ∃ i : Nat, R1.Pos l c i ∧ v = .tuple [.int .i64 (i : Nat), .bool (decide (c ∈ l))].toArray ∧ A = A' ∧ I ⊆ I') := by
 skip
 skip
 refine fn_enter3 Try.func37 rfl Try.ntmps37 rfl fun w0 => ?_
 refine tS (tR ?_)
 first | refine tri_g (opg_box_agg rfl) rfl ?_ | refine tri_g (opg_box1 rfl rfl) rfl ?_
 rintro _ _ _ ⟨b4, rfl, rfl, rfl⟩
 refine tA rfl rfl (tA rfl rfl (tN (tT (tS (tR (tM rfl rfl ?_))))))
 refine tri_v (opv_len rfl) rfl ?_
 refine tA rfl rfl (tN (tT (tS (tR (tM rfl rfl (tA rfl rfl (tA rfl rfl ?_)))))))
 refine tN (tT (tS (tri_block ?_)))
 refine tri_sub (F' := [(0, .slice a l.length cap), (2, .func (.func 44) #[] #[pt bo 0]), (4, pt b4 0), (8, .int .i64 (l.length : Nat)), (9, .int .i64 (0 : Nat)), (10, .int .i64 (l.length : Nat))]) ⟨rfl, rfl, rfl, rfl, rfl, rfl, trivial⟩ ?_
 refine loop_ind (G := Nat × Nat × List Chunk) (fun g => g.2.1 - g.1) (fun g => g.1 ≤ g.2.1 ∧ g.2.1 ≤ l.length ∧ (∀ j, j < g.1 → R1.less (R1.g l j) c) ∧ (∀ j, g.2.1 ≤ j → j < l.length → ¬ R1.less (R1.g l j) c) ∧ I ⊆ g.2.2) (fun g => [(0, .slice a l.length cap), (2, .func (.func 44) #[] #[pt bo 0]), (4, pt b4 0), (8, .int .i64 (l.length : Nat)), (9, .int .i64 (g.1 : Nat)), (10, .int .i64 (g.2.1 : Nat))]) (fun _ => Box b4 [.int .i64 c.x, .int .i64 c.y] 25 :: A) (fun g => g.2.2) ?_ (0, l.length, I) ⟨by simp only; omega, by simp only; omega, fun j h => absurd h (by simp only; omega), fun j h h2 => absurd h (by simp only; omega), fun _ h => h⟩
 rintro ⟨lo, hi, J⟩ ⟨h1, h2, hlo, hhi, hJ⟩ K hK
 simp only at h1 h2 hlo hhi hJ hK ⊢
 have hsm := hs.mono hJ
 have hIm := hJ hI
 skip
 refine tS (tS (tR (tM rfl rfl (tM rfl rfl ?_))))
 refine tri_v (opv_lss rfl rfl) rfl ?_
 refine tN (tT ?_)
 refine tri_cond_dec rfl (fun h => ?_) (fun h => ?_)
 ·have hlt : lo < hi := by omega
  obtain ⟨mid, hm⟩ : ∃ mid, (lo + hi) / 2 = mid := ⟨_, rfl⟩
  have hmid : lo ≤ mid ∧ mid < hi := by omega
  refine tri_skip (tT (tri_block (tS (tR (tM rfl rfl (tM rfl rfl ?_))))))
  refine tri_v (by first | exact opv_add rfl rfl (w64 (by omega) (by omega))) rfl ?_
  refine tri_v (opv_convert rfl (wu64 (by omega) (by omega))) rfl ?_
  skip
  refine tri_v (opv_shr (z := (mid : Int)) rfl rfl (by decide) (by have := R1.half_u (lo + hi); rw [hm] at this; exact this)) rfl ?_
  skip
  refine tri_v (opv_convert rfl (w64 (by omega) (by omega))) rfl ?_
  refine tA rfl rfl (tN (tT (tS ?_)))
  refine tri_draw [0, 1, 2, 3, 4, 5, 6, 7] rfl [] rfl mixed ?_
  refine th_take rfl rfl (by kernel_rfl)  (opv_move rfl) ?_
  refine th_take rfl rfl (by kernel_rfl)  (opv_move rfl) ?_
  refine th_take rfl rfl (by kernel_rfl)  (opv_move rfl) ?_
  refine th_take rfl rfl (by kernel_rfl)  (by first | exact opv_indexAddrA rfl rfl (by first | decide | omega) (by first | decide | omega) | exact opv_indexAddrSN rfl rfl (by omega) (by assumption) rfl | exact opv_indexAddrS rfl rfl (by omega) (by omega) (by assumption) rfl | exact opv_indexAddrE rfl (by assumption) (by omega) rfl (by first | decide | omega) (by first | decide | omega) | exact opv_indexAddrRN rfl rfl (by omega) | exact opv_indexAddrR rfl rfl (by omega) (by omega) | exact opv_indexAddrRA rfl (by omega) rfl (by first | decide | omega) (by first | decide | omega) | exact opv_indexAddrSP rfl rfl (by omega) (by omega) | exact opv_indexAddrSN rfl rfl (by omega) (by assumption) (by omega) | exact opv_indexAddrS rfl rfl (by omega) (by omega) (by assumption) (by omega)) ?_
  refine th_take rfl rfl (by kernel_rfl)  (by first | exact opv_load1 rfl rfl rfl | exact opv_loadA rfl rfl rfl | exact opv_loadE1 rfl (by assumption) rfl (by omega) rfl rfl | exact opv_loadEA rfl (by assumption) rfl (by omega) rfl rfl | exact opv_loadRX1 rfl rfl (by omega) rfl rfl | exact opv_loadRXA rfl rfl (by omega) rfl rfl rfl | exact opv_loadIX rfl rfl (by omega) | exact opv_loadR1 rfl rfl rfl | exact opv_loadRA rfl rfl rfl rfl) ?_
  refine th_take rfl rfl (by kernel_rfl)  (by first | exact opv_load1 rfl rfl rfl | exact opv_loadA rfl rfl rfl | exact opv_loadE1 rfl (by assumption) rfl (by omega) rfl rfl | exact opv_loadEA rfl (by assumption) rfl (by omega) rfl rfl | exact opv_loadRX1 rfl rfl (by omega) rfl rfl | exact opv_loadRXA rfl rfl (by omega) rfl rfl rfl | exact opv_loadIX rfl rfl (by omega) | exact opv_loadR1 rfl rfl rfl | exact opv_loadRA rfl rfl rfl rfl) ?_
  refine th_one (by kernel_rfl) (step_m rfl rfl (opg_callv (xs := [_, _]) rfl rfl (cells_by1V (x := R1.g l mid) (y := c) hIm)) ?_)
  rintro _ _ J2 ⟨rfl, rfl, hJ2⟩
  refine ⟨Suf.h, hJ2, ?_⟩
  refine th_take rfl rfl (by kernel_rfl)  (opv_lss rfl rfl) ?_
  refine th_done (by kernel_rfl) ?_
  refine tT ?_
  refine tri_cond_dec rfl (fun h3 => ?_) (fun h3 => ?_)
  ·have h3 : R1.less (R1.g l mid) c := R1.cmpC_lt.1 h3
   refine tR (tM rfl rfl ?_)
   refine tri_v (by first | exact opv_add rfl rfl (w64 (by omega) (by omega))) rfl ?_
   refine tA rfl rfl (tN ?_)
   refine tri_inBlock ?_
   refine tT ?_
   refine tri_sub ?_ (hK (mid + 1, hi, J2) ⟨by simp only; omega, h2, fun j hj => ?_, hhi, fun _ h => hJ2 (hJ h)⟩ (by simp only; omega))
   ·exact ⟨rfl, rfl, rfl, rfl, rfl, rfl, trivial⟩
   ·simp only at hj
    by_cases e : j = mid
    ·subst e; exact h3
    ·exact R1.less_trans (R1.srt_lt hsrt (by omega) (by omega)) h3
  ·have h3 : ¬ R1.less (R1.g l mid) c := fun k => h3 (R1.cmpC_lt.2 k)
   refine tR (tM rfl rfl (tA rfl rfl (tN ?_)))
   refine tri_inBlock ?_
   refine tT ?_
   refine tri_sub ?_ (hK (lo, mid, J2) ⟨by simp only; omega, by simp only; omega, hlo, fun j hj hjl => ?_, fun _ h => hJ2 (hJ h)⟩ (by simp only; omega))
   ·exact ⟨rfl, rfl, rfl, rfl, rfl, rfl, trivial⟩
   ·simp only at hj
    by_cases e : mid = j
    ·subst e; exact h3
    ·exact fun k => h3 (R1.less_trans (R1.srt_lt hsrt (by omega) (by omega)) k)
 ·have e : lo = hi := by omega
  subst e
  have hpos : R1.Pos l c lo := ⟨h2, hlo, hhi⟩
  refine tri_exit ?_
  refine tri_then_exit ?_
  refine tri_then_exit ?_
  refine tri_inBlock_hit rfl ?_
  refine tT (tS ?_)
  refine tri_draw [0, 1, 2, 3, 4, 5, 6, 7, 8, 9, 10, 11, 12, 13, 14, 15] rfl [] rfl mixed ?_
  refine th_take rfl rfl (by kernel_rfl)  (opv_move rfl) ?_
  refine th_take rfl rfl (by kernel_rfl)  (opv_move rfl) ?_
  refine th_take rfl rfl (by kernel_rfl)  (opv_move rfl) ?_
  refine th_take rfl rfl (by kernel_rfl)  (opv_lss rfl rfl) ?_
  refine th_take rfl rfl (by kernel_rfl)  (opv_move rfl) ?_
  refine th_split rfl rfl rfl (fun h4 => ?_) (fun h4 => ?_)
  ·have h4 : lo < l.length := by omega
   refine th_take_g rfl rfl rfl rfl rfl (by kernel_rfl)  (opv_move rfl) ?_
   refine th_take_g rfl rfl rfl rfl rfl (by kernel_rfl)  (opv_move rfl) ?_
   refine th_take_g rfl rfl rfl rfl rfl (by kernel_rfl)  (opv_move rfl) ?_
   refine th_take_g rfl rfl rfl rfl rfl (by kernel_rfl)  (by first | exact opv_indexAddrA rfl rfl (by first | decide | omega) (by first | decide | omega) | exact opv_indexAddrSN rfl rfl (by omega) (by assumption) rfl | exact opv_indexAddrS rfl rfl (by omega) (by omega) (by assumption) rfl | exact opv_indexAddrE rfl (by assumption) (by omega) rfl (by first | decide | omega) (by first | decide | omega) | exact opv_indexAddrRN rfl rfl (by omega) | exact opv_indexAddrR rfl rfl (by omega) (by omega) | exact opv_indexAddrRA rfl (by omega) rfl (by first | decide | omega) (by first | decide | omega) | exact opv_indexAddrSP rfl rfl (by omega) (by omega) | exact opv_indexAddrSN rfl rfl (by omega) (by assumption) (by omega) | exact opv_indexAddrS rfl rfl (by omega) (by omega) (by assumption) (by omega)) ?_
   refine th_take_g rfl rfl rfl rfl rfl (by kernel_rfl)  (by first | exact opv_load1 rfl rfl rfl | exact opv_loadA rfl rfl rfl | exact opv_loadE1 rfl (by assumption) rfl (by omega) rfl rfl | exact opv_loadEA rfl (by assumption) rfl (by omega) rfl rfl | exact opv_loadRX1 rfl rfl (by omega) rfl rfl | exact opv_loadRXA rfl rfl (by omega) rfl rfl rfl | exact opv_loadIX rfl rfl (by omega) | exact opv_loadR1 rfl rfl rfl | exact opv_loadRA rfl rfl rfl rfl) ?_
   refine th_take_g rfl rfl rfl rfl rfl (by kernel_rfl)  (by first | exact opv_load1 rfl rfl rfl | exact opv_loadA rfl rfl rfl | exact opv_loadE1 rfl (by assumption) rfl (by omega) rfl rfl | exact opv_loadEA rfl (by assumption) rfl (by omega) rfl rfl | exact opv_loadRX1 rfl rfl (by omega) rfl rfl | exact opv_loadRXA rfl rfl (by omega) rfl rfl rfl | exact opv_loadIX rfl rfl (by omega) | exact opv_loadR1 rfl rfl rfl | exact opv_loadRA rfl rfl rfl rfl) ?_
   refine th_one (by kernel_rfl) (step_mg rfl rfl rfl rfl rfl (opg_callv (xs := [_, _]) rfl rfl (cells_by1V (x := R1.g l lo) (y := c) hIm)) ?_)
   rintro _ _ J2 ⟨rfl, rfl, hJ2⟩
   refine ⟨Suf.h, hJ2, ?_⟩
   refine th_take_g rfl rfl rfl rfl rfl (by kernel_rfl)  (by first | exact opv_eql rfl rfl | exact opv_eqlI rfl rfl rfl rfl rfl rfl | exact opv_eqlB rfl rfl | exact opv_eqlNil rfl rfl) ?_
   refine th_take rfl rfl (by kernel_rfl)  (by first | exact opv_pick_t rfl rfl | exact opv_pick_f rfl rfl | exact opv_pick_bool rfl rfl rfl | exact opv_pick rfl rfl rfl) ?_
   refine th_take rfl rfl (by kernel_rfl)  (opv_assign rfl) ?_
   refine th_take rfl rfl (by kernel_rfl)  (opv_assign rfl) ?_
   refine th_done (by kernel_rfl) ?_
   refine tT (tri_ret ?_)
   refine tri_end A Suf.h rfl (.cons (rv_tmp rfl) (.cons (rv_tmp rfl) .nil)) ⟨lo, hpos, ?_, rfl, fun _ h => hJ2 (hJ h)⟩
   have : decide (c ∈ l) = decide (R1.cmpC (R1.g l lo) c = 0) := by
    refine decide_eq_decide.2 ?_
    rw [R1.cmpC_zero, hpos.mem hsrt]
    exact ⟨fun h => h.2, fun h => ⟨h4, h⟩⟩
   rw [this]
   rfl
  ·refine th_skip rfl rfl rfl rfl rfl (by kernel_rfl)  ?_
   refine th_skip rfl rfl rfl rfl rfl (by kernel_rfl)  ?_
   refine th_skip rfl rfl rfl rfl rfl (by kernel_rfl)  ?_
   refine th_skip rfl rfl rfl rfl rfl (by kernel_rfl)  ?_
   refine th_skip rfl rfl rfl rfl rfl (by kernel_rfl)  ?_
   refine th_skip rfl rfl rfl rfl rfl (by kernel_rfl)  ?_
   refine th_one (by kernel_rfl) (step_skip rfl rfl rfl rfl rfl ?_)
   refine th_skip rfl rfl rfl rfl rfl (by kernel_rfl)  ?_
   refine th_take rfl rfl (by kernel_rfl)  (by first | exact opv_pick_t rfl rfl | exact opv_pick_f rfl rfl | exact opv_pick_bool rfl rfl rfl | exact opv_pick rfl rfl rfl) ?_
   refine th_take rfl rfl (by kernel_rfl)  (opv_assign rfl) ?_
   refine th_take rfl rfl (by kernel_rfl)  (opv_assign rfl) ?_
   refine th_done (by kernel_rfl) ?_
   refine tT (tri_ret ?_)
   refine tri_end A Suf.h rfl (.cons (rv_tmp rfl) (.cons (rv_tmp rfl) .nil)) ⟨lo, hpos, ?_, rfl, hJ⟩
   have : decide (c ∈ l) = false := decide_eq_false fun hm => by
    have := ((hpos.mem hsrt).1 hm).1
    omega
   rw [this]
   rfl
end Go.GL


set_option linter.unusedVariables false
set_option linter.unusedSimpArgs false
namespace Go.GL
/-! ### Slices moved within their own row; the kit's slices.overlaps -/
theorem encs_takeE {α : Type} [Enc α] (xs : List α) (l : Nat) : (encs xs).take (l * Enc.sz α) = encs (xs.take l) := by
 by_cases h : l ≤ xs.length
 ·have e : encs xs = encs (xs.take l) ++ encs (xs.drop l) := by rw [← encs_append, List.take_append_drop]
  rw [e, List.take_append_of_le_length (by rw [encs_length, List.length_take]; exact Nat.mul_le_mul_right _ (by omega)), List.take_of_length_le (by rw [encs_length, List.length_take]; exact Nat.mul_le_mul_right _ (by omega))]
 ·rw [List.take_of_length_le (l := xs) (by omega), List.take_of_length_le (by rw [encs_length]; exact Nat.mul_le_mul_right _ (by omega))]
theorem encs_dropE {α : Type} [Enc α] (xs : List α) (l : Nat) : (encs xs).drop (l * Enc.sz α) = encs (xs.drop l) := by
 by_cases h : l ≤ xs.length
 ·have e : encs xs = encs (xs.take l) ++ encs (xs.drop l) := by rw [← encs_append, List.take_append_drop]
  have e2 : (encs (xs.take l)).length = l * Enc.sz α := by rw [encs_length, List.length_take, Nat.min_eq_left h]
  rw [e, ← e2, List.drop_left]
 ·rw [List.drop_of_length_le (l := xs) (by omega), List.drop_of_length_le (by rw [encs_length]; exact Nat.mul_le_mul_right _ (by omega))]
  rfl
theorem reps_cell0 : ∀ n, reps n [.int .i64 0, .int .i64 0] = encs (List.replicate n (⟨0, 0⟩ : Cell))
 | 0 => rfl
 | n + 1 => by
  show [_, _] ++ reps n _ = _
  rw [reps_cell0 n, List.replicate_succ, encs_cons]
  rfl
section
variable {w0 : World} {n : Nat} {F : Frm} {A : List Asrt} {I : List Chunk} {P : Program} {dst : Option Tmp} {ty t : TypeId} {pos : String} {af : Array Edge} {gd : Option (Nat × Bool)} {x y ix : Operand} {d d' : TypeDesc} {s s' by_ by' : Nat} {z z' : List Value}
/-- 's[lo:hi:max]'. -/
theorem opv_slice3 {lo hi mx : Operand} {k k2 k3 : IntKind} {l h m : Int} {e : TypeId} {a : Option Addr} {len cap : Nat} [TyI P t (.slice e) s by_ z] [TyI P e d' s' by' z'] (hx : ev F x = some (.slice a len cap)) (hl : ev F lo = some (.int k l)) (hh : ev F hi = some (.int k2 h)) (hm : ev F mx = some (.int k3 m)) (h0 : 0 ≤ l) (h1 : l ≤ h) (h2 : h ≤ m) (h3 : m ≤ cap) :
  OpV P w0 n ⟨dst, .slice t x (some lo) (some hi) (some mx), ty, pos, af, gd⟩ F A I (.slice (if m.toNat = l.toNat then a else a.map fun q => q.add (l.toNat * s')) (h.toNat - l.toNat) (m.toNat - l.toNat)) := by
 intro tt w hf hst
 have e1 : 0 ≤ m ∧ m ≤ (cap : Int) := by omega
 have e2 : 0 ≤ h ∧ h ≤ ((m.toNat : Nat) : Int) := by omega
 have e3 : 0 ≤ l ∧ l ≤ ((h.toNat : Nat) : Int) := by omega
 have e4 : h ≤ max m 0 := by omega
 have e5 : l ≤ max h 0 := by omega
 have e6 : ¬ max m 0 < h := by omega
 have e7 : ¬ max h 0 < l := by omega
 simp [e4, e5, e6, e7, execOp, hf.eval hx, hf.eval hl, hf.eval hh, hf.eval hm, Instr.sliceAt, Instr.slice, run_und (P := P) (t := t), Instr.sliceBounds, Instr.sliceBound, asIntOf, e1, e2, e3, run_size (P := P) (t := e)]
/-- 's[lo:hi]'. -/
theorem opv_sliceLH {lo hi : Operand} {k k2 : IntKind} {l h : Int} {e : TypeId} {a : Option Addr} {len cap : Nat} [TyI P t (.slice e) s by_ z] [TyI P e d' s' by' z'] (hx : ev F x = some (.slice a len cap)) (hl : ev F lo = some (.int k l)) (hh : ev F hi = some (.int k2 h)) (h0 : 0 ≤ l) (h1 : l ≤ h) (h2 : h ≤ cap) :
  OpV P w0 n ⟨dst, .slice t x (some lo) (some hi) none, ty, pos, af, gd⟩ F A I (.slice (loA a cap l.toNat s') (h.toNat - l.toNat) (cap - l.toNat)) := by
 intro tt w hf hst
 have e2 : 0 ≤ h ∧ h ≤ (cap : Int) := by omega
 have e3 : 0 ≤ l ∧ l ≤ ((h.toNat : Nat) : Int) := by omega
 have e5 : l ≤ max h 0 := by omega
 have e7 : ¬ max h 0 < l := by omega
 simp [e5, e7, execOp, hf.eval hx, hf.eval hl, hf.eval hh, Instr.sliceAt, Instr.slice, run_und (P := P) (t := t), Instr.sliceBounds, Instr.sliceBound, asIntOf, e2, e3, run_size (P := P) (t := e), loA]
/-- A part of a row. -/
theorem row_cellsSub {E : TypeId} {sz b o m cap len : Nat} {cells : List Value} {u : Asrt → List Asrt} [SelR A (some ⟨b, 0, none⟩) cap len E sz cells u] {w : World} (hs : St w0 w A I) : CellsOf w (some ⟨b, o, none⟩) ((cells.drop o).take m) := by
 obtain ⟨hl, ⟨h, _⟩ | ⟨b', cur, hb', hb, hsz, hle, ht⟩⟩ := SelR.at (a := some ⟨b, 0, none⟩) hs
 ·cases h
 ·simp only [Option.some.injEq, Addr.mk.injEq, and_true] at hb'
  subst hb'
  refine .inr ⟨b, o, cur, E, (0, 0), rfl, hb, fun j hj => ?_⟩
  rw [List.length_take, List.length_drop] at hj
  rw [List.getElem?_take_of_lt (by omega), List.getElem?_drop, ← ht, List.getElem?_take_of_lt (by omega)]
  simp
theorem CellsOf.nil {w : World} {a : Option Addr} : CellsOf w a [] := .inl rfl
theorem splice_take (L vs : List Value) (o k n : Nat) (ho : o ≤ k) (hk : k ≤ L.length) (hn : n = max k (o + vs.length)) : (L.take o ++ vs ++ L.drop (o + vs.length)).take n = (L.take k).take o ++ vs ++ (L.take k).drop (o + vs.length) := by
 by_cases h : o + vs.length ≤ k
 ·rw [hn, Nat.max_eq_left h]
  exact take_splice L vs o vs.length k rfl h hk
 ·have e1 : (L.take o ++ vs).length = o + vs.length := by rw [List.length_append, List.length_take]; omega
  rw [hn, Nat.max_eq_right (by omega), List.take_append, List.take_of_length_le (by omega), e1, Nat.sub_self, List.take_zero, List.take_take, Nat.min_eq_left ho, List.drop_eq_nil_of_le (by rw [List.length_take]; omega)]
/-- 'copy' into a row, which may grow by it. -/
theorem opg_copyTo {b o dLen dCap sLen cap2 k n' cap len sz : Nat} {a2 : Option Addr} {e E t2 : TypeId} {cells cs : List Value} {u : Asrt → List Asrt} [SelR A (some ⟨b, 0, none⟩) cap len E sz cells u] [TyI P t (.slice e) s by_ z] [TyI P e d' sz by' z'] (hx : ev F x = some (.slice (some ⟨b, o, none⟩) dLen dCap)) (hy : ev F y = some (.slice a2 sLen cap2))
  (hk : k = if sLen ≤ dLen then sLen else dLen) (hcs : cs.length = k * sz) (h1 : cs.all (·.oneCell') = true) (hc : ∀ w, St w0 w A I → CellsOf w a2 cs) (ho : o ≤ len * sz) (hn : n' * sz = max (len * sz) (o + k * sz)) (hfit : n' ≤ cap) :
  OpG P w0 n ⟨dst, .call ⟨.builtin .copy, #[x, y], #[t, t2]⟩, ty, pos, af, gd⟩ F A I (fun v A' I' => v = .int .i64 (k : Nat) ∧ A' = u (Row (some ⟨b, 0, none⟩) cap n' E sz (cells.take o ++ cs ++ cells.drop (o + k * sz))) ∧ I = I') := by
 refine opg_run fun tt w hf hst => ?_
 obtain ⟨hl, ⟨h, _⟩ | ⟨b', cur, hb', hb, hsz, hle, ht⟩⟩ := SelR.at (a := some ⟨b, 0, none⟩) hst
 ·cases h
 ·simp only [Option.some.injEq, Addr.mk.injEq, and_true] at hb'
  subst hb'
  have hmin : Nat.min sLen dLen = k := by
   rw [hk]
   show min sLen dLen = _
   rw [Nat.min_def]
  have hcl : len * sz ≤ cap * sz := Nat.mul_le_mul_right sz hle
  have hcn : n' * sz ≤ cap * sz := Nat.mul_le_mul_right sz hfit
  have hfc : (Builtin.firstCells sz k (.slice a2 sLen cap2)).run P w = .ok cs.toArray w := by
   have := run_firstCells (P := P) (m := k) (sz := sz) (hc w hst) hcs cap2
   cases a2 with
   | none => exact this
   | some q => exact this
  obtain ⟨w', hr, ho', htp, hout, hdr, hsz', hb2, hne⟩ := run_storeCells_at' (P := P) o cs 0 cur w hb (by omega) (by simpa using h1)
  have hw : w' = { w with heap := w'.heap } := by cases w'; cases w; simp_all
  refine ⟨_, w', _, I, ?_, ⟨rfl, rfl, rfl⟩, ?_⟩
  ·simp [execOp, resolve, invoke, builtin, hf.eval hx, hf.eval hy, Builtin.copy_, run_und (P := P) (t := t), run_size (P := P) (t := e), Builtin.lenOf, hmin, hfc, hr, goInt]
  ·rw [hw]
   refine SelR.set hst n' _ rfl _ _ hsz' hb2 hne ?_ ?_ hfit ?_
   ·simp only [List.length_append, List.length_take, List.length_drop, hcs, hl]; omega
   ·simp only [List.size_toArray, List.length_append, List.length_take, List.length_drop, Array.length_toList, hcs]; omega
   ·simp only [Nat.add_zero]
    have := splice_take cur.toList cs o (len * sz) (n' * sz) ho (by simp; omega) (by rw [hn, hcs])
    rw [ht, hcs] at this
    rw [hcs]
    exact this
/-- 'append(s[:i], part of s...)': in place. -/
theorem opg_appendSelf {b i m cap2 cap len sz : Nat} {a2 : Option Addr} {e E : TypeId} {cells cs : List Value} {u : Asrt → List Asrt} [SelR A (some ⟨b, 0, none⟩) cap len E sz cells u] [TyI P t (.slice E) s by_ z] [TyI P ty (.slice e) s by_ z] [TyI P E d' sz by' z'] (hx : ev F x = some (.slice (some ⟨b, 0, none⟩) i cap)) (hy : ev F y = some (.slice a2 m cap2))
  (hcs : cs.length = m * sz) (h1 : cs.all (·.oneCell') = true) (hc : ∀ w, St w0 w A I → CellsOf w a2 cs) (hi : i ≤ len) (hfit : i + m ≤ cap) :
  OpG P w0 n ⟨dst, .call ⟨.builtin .append, #[x, y], #[t, ty]⟩, ty, pos, af, gd⟩ F A I (fun v A' I' => v = .slice (some ⟨b, 0, none⟩) (i + m) cap ∧ A' = u (Row (some ⟨b, 0, none⟩) cap (i + m) E sz (cells.take (i * sz) ++ cs)) ∧ I = I') := by
 refine opg_run fun tt w hf hst => ?_
 obtain ⟨hl, ⟨h, _⟩ | ⟨b', cur, hb', hb, hsz, hle, ht⟩⟩ := SelR.at (a := some ⟨b, 0, none⟩) hst
 ·cases h
 ·simp only [Option.some.injEq, Addr.mk.injEq, and_true] at hb'
  subst hb'
  have hcl : len * sz ≤ cap * sz := Nat.mul_le_mul_right sz hle
  have hil : i * sz ≤ len * sz := Nat.mul_le_mul_right sz hi
  have hcn : (i + m) * sz ≤ cap * sz := Nat.mul_le_mul_right sz hfit
  rw [Nat.add_mul] at hcn
  have hfc := run_firstCells (P := P) (hc w hst) hcs cap2
  obtain ⟨w', hr, ho', htp, hout, hdr, hsz', hb2, hne⟩ := run_storeCells_at' (P := P) (i * sz) cs 0 cur w hb (by omega) (by simpa using h1)
  have hw : w' = { w with heap := w'.heap } := by cases w'; cases w; simp_all
  refine ⟨_, w', _, I, ?_, ⟨rfl, rfl, rfl⟩, ?_⟩
  ·simp [execOp, resolve, invoke, builtin, hf.eval hx, hf.eval hy, Builtin.append_, run_und (P := P) (t := t), run_und (P := P) (t := ty), run_size (P := P) (t := E), Builtin.lenOf, hfc, hfit, add_pt, hr]
  ·rw [hw]
   refine SelR.set hst (i + m) _ rfl _ _ hsz' hb2 hne ?_ ?_ hfit ?_
   ·simp only [List.length_append, List.length_take, hcs, hl, Nat.add_mul]; omega
   ·simp only [List.size_toArray, List.length_append, List.length_take, List.length_drop, Array.length_toList, hcs]; omega
   ·simp only [Nat.add_zero]
    have e1 : (cur.toList.take (i * sz) ++ cs).length = (i + m) * sz := by rw [List.length_append, List.length_take, hcs, Nat.add_mul]; simp; omega
    rw [List.take_append_of_le_length (by omega), List.take_of_length_le (by omega), ← ht, List.take_take, Nat.min_eq_left hil]
/-- 'clear' behind what is in the row. -/
theorem opg_clearBehind {e E : TypeId} {b k m cap cap' sz : Nat} {cells : List Value} {u : Asrt → List Asrt} [SelR A (some ⟨b, 0, none⟩) cap k E sz cells u] [TyI P t (.slice e) s by_ z] [TyI P e d' sz by' z'] (hx : ev F x = some (.slice (loA (some ⟨b, 0, none⟩) cap k sz) m cap')) (hk : k < cap) (hm : k + m ≤ cap) (h1 : z'.all (·.oneCell') = true) :
  OpG P w0 n ⟨dst, .call ⟨.builtin .clear, #[x], #[t]⟩, ty, pos, af, gd⟩ F A I (fun v A' I' => A' = u (Row (some ⟨b, 0, none⟩) cap k E sz cells) ∧ I = I') := by
 refine opg_run fun tt w hf hst => ?_
 obtain ⟨hlen, ⟨h, _⟩ | ⟨b', cur, hb', hb, hsz, hle, ht⟩⟩ := SelR.at (a := some ⟨b, 0, none⟩) hst
 ·cases h
 ·simp only [Option.some.injEq, Addr.mk.injEq, and_true] at hb'
  subst hb'
  rw [loA_lt (by omega)] at hx
  obtain ⟨zv, hzv, hzc⟩ := run_zero (P := P) (t := e) w
  have hzl : z'.length = sz := Nat.eq_of_beq_eq_true (by simpa using TyI.zl (P := P) (t := e))
  have hzsz : zv.cells.size = sz := by rw [← hzl, ← hzc]; simp
  obtain ⟨vs, hvs⟩ : ∃ vs, (Builtin.zeroCells zv.cells m).toList = vs := ⟨_, rfl⟩
  have hvl : vs.length = m * sz := by rw [← hvs]; unfold Builtin.zeroCells; simp [hzsz]
  have hv1 : ∀ v ∈ vs, v.oneCell' = true := fun v hv => by
   rw [← hvs] at hv
   unfold Builtin.zeroCells at hv
   simp only [Array.toList_map, List.mem_map, Array.toList_range, List.mem_range] at hv
   obtain ⟨i, hi, rfl⟩ := hv
   have hp : 0 < zv.cells.size := Nat.pos_of_ne_zero fun h0 => by rw [h0] at hi; omega
   have hmod : i % zv.cells.size < zv.cells.size := Nat.mod_lt _ hp
   rw [getElem!_pos zv.cells _ hmod]
   exact List.all_eq_true.1 h1 _ (by rw [← hzc]; simp)
  have hkl : k * sz + m * sz ≤ cap * sz := by rw [← Nat.add_mul]; exact Nat.mul_le_mul_right _ (by omega)
  obtain ⟨w', hr, ho, htp, hout, hdr, hsz', hb2, hne⟩ := run_storeCells_at' (P := P) (k * sz) vs 0 cur w hb (by omega) hv1
  have hw : w' = { w with heap := w'.heap } := by cases w'; cases w; simp_all
  by_cases hm0 : m = 0
  ·subst hm0
   have hh := SelR.h (A := A) (a := some (⟨b, 0, none⟩ : Addr)) (cap := cap) (len := k) (E := E) (sz := sz) (cells := cells) (u := u)
   obtain ⟨pre, post, e1, e2⟩ := hh
   refine ⟨.tuple #[], w, _, I, ?_, ⟨rfl, rfl⟩, by rw [e2, ← e1]; exact hst⟩
   simp [execOp, resolve, invoke, builtin, hf.eval hx, Builtin.clear_, run_und (P := P) (t := t), hzv]
  ·refine ⟨.tuple #[], w', _, I, ?_, ⟨rfl, rfl⟩, ?_⟩
   ·simp [execOp, resolve, invoke, builtin, hf.eval hx, Builtin.clear_, run_und (P := P) (t := t), hzv, hm0]
    rw [hvs, hr]
    rfl
   ·rw [hw]
    refine SelR.set hst k _ rfl _ _ hsz' hb2 hne hlen ?_ hle ?_
    ·simp only [List.size_toArray, List.length_append, List.length_take, List.length_drop, Array.length_toList, hvl]; omega
    ·simp only [Nat.add_zero]
     rw [List.append_assoc, List.take_append_of_le_length (by simp; omega), List.take_take, Nat.min_self, ht]
/-- 'append(s[:i], make([]E, k)...)', where there is no room: a new row. -/
theorem opg_appendZeros {b i k cap len sz : Nat} {E : TypeId} {kd : IntKind} {cells : List Value} {u : Asrt → List Asrt} [SelR A (some ⟨b, 0, none⟩) cap len E sz cells u] {s2 by2 : Nat} {z2 : List Value} [TyI P t (.slice E) s by_ z] [TyI P ty (.int kd) s2 by2 z2] [TyI P E d' sz by' z'] (hx : ev F x = some (.slice (some ⟨b, 0, none⟩) i cap)) (hy : ev F y = some (.int .i64 (k : Int)))
  {ty0 : TypeId} (hi : i ≤ len) (hkz : k * sz ≠ 0) (hno : cap < i + k) (hb1 : i + k ≤ 1000000000) (hby : (2 * (i + k) + 768) * by' ≤ 281474976710656) (hb0 : Nat.beq by' 0 = false) :
  OpG P w0 n ⟨dst, .call ⟨.builtin .append, #[x, y], #[t, ty]⟩, ty0, pos, af, gd⟩ F A I (fun v A' I' => ∃ a' cap' zs, v = .slice (some ⟨a', 0, none⟩) (i + k) cap' ∧ zs.length = k * sz ∧ i + k ≤ cap' ∧ A' = Row (some ⟨a', 0, none⟩) cap' (i + k) E sz (cells.take (i * sz) ++ zs) :: A ∧ I = I') := by
 refine opg_run fun tt w hf hst => ?_
 obtain ⟨hl, ⟨h, _⟩ | ⟨b', cur, hb', hb, hsz, hle, ht⟩⟩ := SelR.at (a := some ⟨b, 0, none⟩) hst
 ·cases h
 ·simp only [Option.some.injEq, Addr.mk.injEq, and_true] at hb'
  subst hb'
  have hwk : IntKind.i64.wrap (k : Int) = k := w64 (by omega) (by omega)
  obtain ⟨inf, hinf, hbyt⟩ := run_bytes (P := P) (t := E) w
  obtain ⟨zv, hzv, hzc⟩ := run_zero (P := P) (t := E) w
  have hil : i * sz ≤ len * sz := Nat.mul_le_mul_right sz hi
  have hcs : CellsOf w (some ⟨b, 0, none⟩) (cells.take (i * sz)) := by
   have := row_cellsSub (A := A) (b := b) (o := 0) (m := i * sz) (E := E) (sz := sz) (cap := cap) (len := len) (cells := cells) hst
   rwa [List.drop_zero] at this
  have hcl : (cells.take (i * sz)).length = i * sz := by rw [List.length_take, hl]; omega
  have hnc := nextcap_le (i + k) cap hno
  have hnb : Builtin.nextslicecap (i + k) cap * by' ≤ 281474976710656 := Nat.le_trans (Nat.mul_le_mul_right by' hnc) hby
  have hk1 : ¬ (281474976710656 < Builtin.nextslicecap (i + k) cap * by') := by omega
  have hk2 : ¬ (281474976710656 < (k : Int) * (by' : Int)) := by
   have h3 : k * by' ≤ (2 * (i + k) + 768) * by' := Nat.mul_le_mul_right by' (by omega)
   have h4 : ((k * by' : Nat) : Int) = (k : Int) * (by' : Int) := by simp
   omega
  let q := Question.appendCap (i + k) cap E
  let nc := q.cut (w.tape w.drawn q)
  have hncge : i + k ≤ nc := by show i + k ≤ (i + k) + _; omega
  have hst1 : St w0 w.drew A I := hst.drew
  have hfo := run_firstCells (P := P) (w := w.drew) (a2 := some ⟨b, 0, none⟩) (cs := cells.take (i * sz)) (sz := sz) (m := i) hcs hcl cap
  obtain ⟨zv1, hzv1, hzc1⟩ := run_zero (P := P) (t := E) w.drew
  have hzl : zv1.cells.size = sz := by
   have h2 := TyI.zl (P := P) (t := E)
   rw [← h2, ← hzc1]; simp
  obtain ⟨zs, hzs⟩ : ∃ zs, (Builtin.zeroCells zv1.cells k) = zs := ⟨_, rfl⟩
  have hzsl : zs.size = k * sz := by rw [← hzs]; simp [Builtin.zeroCells, hzl]
  let rest := Builtin.zeroCells zv1.cells (nc - (i + k))
  have hrl : rest.size = (nc - (i + k)) * sz := by simp [rest, Builtin.zeroCells, hzl]
  let cur' : Array Value := (cells.take (i * sz)).toArray ++ zs ++ rest
  have hsize : cur'.size = nc * sz := by
   simp only [cur', Array.size_append, List.size_toArray, hcl, hzsl, hrl]
   rw [← Nat.add_mul, ← Nat.add_mul]
   congr 1
   omega
  refine ⟨.slice (some ⟨w.heap.size, 0, none⟩) (i + k) nc, w.drew.alloc (.cells cur' E), _, I, ?_, ⟨w.heap.size, nc, zs.toList, rfl, by simpa using hzsl, hncge, rfl, rfl⟩, ?_⟩
  ·have hb0' : by' ≠ 0 := Nat.ne_of_beq_eq_false hb0
   have hfd : (Question.appendCap (i + k) cap E).forced = false := rfl
   obtain ⟨inf1, hinf1, hbyt1⟩ := run_bytes (P := P) (t := E) w.drew
   have hroom : ¬ i + k ≤ cap := by omega
   have hmax : ¬ ((9223372036854775807 : Int) < (i : Int) + (k : Int)) := by omega
   have hk0 : ¬ ((k : Int) < 0) := by omega
   have hk3 : k ≠ 0 := fun e => hkz (by rw [e, Nat.zero_mul])
   have hsz0 : sz ≠ 0 := fun e => hkz (by rw [e, Nat.mul_zero])
   simp [execOp, resolve, invoke, builtin, hf.eval hx, hf.eval hy, Builtin.append_, run_und (P := P) (t := t), run_und (P := P) (t := ty), run_size (P := P) (t := E), hroom, hinf, hbyt, hk1, hk2, hb0', hfd, hinf1, hfo, hzv1, newRow, asInt, asIntOf, hwk, hmax, hk0, hkz, hk3, hsz0]
   refine ⟨rfl, ?_⟩
   simp only [cur', rest, ← hzs, Array.append_assoc]
   rfl
  ·exact (hst1.alloc (.cells cur' E)).weaken (by
    rintro c rfl
    refine ⟨by rw [List.length_append, hcl, Array.length_toList, hzsl, Nat.add_mul], .inr ⟨_, cur', rfl, rfl, hsize, hncge, ?_⟩⟩
    simp only [cur', Array.toList_append]
    rw [List.take_append_of_le_length (by simp [hcl, hzsl, Nat.add_mul]), List.take_of_length_le (by simp [hcl, hzsl, Nat.add_mul])])
/-- The kit's law of slices.overlaps: two rows are apart. -/
theorem opv_overlaps {f : FuncId} {fn : Func} {tS tR e T E : TypeId} {bv b la ca off lb cb cap len sz : Nat} {tys : Array TypeId} {cv cells : List Value} (hf0 : P.funcs[f]? = some fn) (h1 : (fn.name == "runtime.NumGoroutine") = false) (h2 : fn.body.isNone = true) (h3 : Extern.findNext fn = none) (h4 : Extern.find fn = some (Extern.SlicesOverlaps.overlaps #[tS, tS] #[tR])) [TyI P tS (.slice e) s by_ z] [TyI P e d' sz by' z']
  (hx : ev F x = some (.slice (some ⟨bv, 0, none⟩) la ca)) (hy : ev F y = some (.slice (some ⟨b, off, none⟩) lb cb)) (hcap : cap * sz ≠ 0) :
  OpV P w0 n ⟨dst, .call ⟨.value (.func f), #[x, y], tys⟩, ty, pos, af, gd⟩ F (Box bv cv T :: Row (some ⟨b, 0, none⟩) cap len E sz cells :: A) I (.bool false) := by
 intro tt w hf hst
 obtain ⟨cs, hq, hw⟩ := hst
 obtain ⟨c1, cs1, rfl, hb1, hr1⟩ := hq.cons_inv
 have hb1 : c1 = [(bv, .cells cv.toArray T (0, 0))] := hb1
 subst hb1
 obtain ⟨c2, cs2, rfl, ⟨hl, hrow⟩, hr2⟩ := hr1.cons_inv
 rcases hrow with ⟨h, _⟩ | ⟨b', cur, hb', rfl, hsz, hle, ht⟩
 ·cases h
 ·simp only [Option.some.injEq, Addr.mk.injEq, and_true] at hb'
  subst hb'
  have hA : w.heap[bv]? = some (.cells cv.toArray T (0, 0)) := hw.has (bv, _) (by simp)
  have hB : w.heap[b]? = some (.cells cur E (0, 0)) := hw.has (b, _) (by simp)
  have hne : bv ≠ b := by
   have := hw.nd
   simp only [List.cons_append, List.nil_append, List.map_cons, List.nodup_cons, List.mem_cons, not_or] at this
   exact this.1.1
  have hov := Lib.run_overlaps_apart (P := P) w tS tR e TyI.und sz (fun w => run_size (P := P) (t := e) w) ⟨bv, 0, none⟩ ⟨b, off, none⟩ la ca lb cb hne T E cv.toArray.size cur.size (by simp [World.shape?, hA]) (by simp [World.shape?, hB]) (by rw [hsz]; exact hcap) (by simp [World.frozen?, hA]) (by simp [World.frozen?, hA])
  have hcall := run_callFunc_extern (P := P) hf0 h1 h2 h3 h4 #[.slice (some ⟨bv, 0, none⟩) la ca, .slice (some ⟨b, off, none⟩) lb cb] w
  rw [hov] at hcall
  have hxs : (#[x, y] : Array Operand).map (Act.eval ⟨tt, []⟩) = #[.slice (some ⟨bv, 0, none⟩) la ca, .slice (some ⟨b, off, none⟩) lb cb] := by simp [hf.eval hx, hf.eval hy]
  have hev : Act.eval ⟨tt, []⟩ (.func f) = .func (.func f) #[] #[] := rfl
  simp only [execOp, resolve, hev, Deferred.ofValue, hxs, Sem.run_bind, Sem.run_pure, Result.andThen_ok, invoke, Array.append_empty, Array.empty_append, hcall]
theorem opv_cap {e : TypeId} {a : Option Addr} {len cap : Nat} [TyI P t (.slice e) s by_ z] (hx : ev F x = some (.slice a len cap)) : OpV P w0 n ⟨dst, .call ⟨.builtin .cap, #[x], #[t]⟩, ty, pos, af, gd⟩ F A I (.int .i64 (cap : Nat)) := by
 intro tt w hf hst
 simp [execOp, resolve, invoke, builtin, hf.eval hx, Builtin.cap_, run_und (P := P) (t := t), goInt]
theorem opv_sliceLoP {lo : Operand} {k : IntKind} {l : Int} {e : TypeId} {b len cap : Nat} (j : Nat) [TyI P t (.slice e) s by_ z] [TyI P e d' s' by' z'] (hx : ev F x = some (.slice (some ⟨b, 0, none⟩) len cap)) (hh : ev F lo = some (.int k l)) (hj : l = (j : Int)) (h1 : j ≤ len) (hne : cap ≠ j) :
  OpV P w0 n ⟨dst, .slice t x (some lo) none none, ty, pos, af, gd⟩ F A I (.slice (some ⟨b, j * s', none⟩) (len - j) (cap - j)) := by
 subst hj
 have := opv_sliceLoN (P := P) (w0 := w0) (n := n) (F := F) (A := A) (I := I) (dst := dst) (ty := ty) (pos := pos) (af := af) (gd := gd) (t := t) (e := e) hx hh (by omega) (by omega)
 rw [Int.toNat_natCast, loA_lt hne] at this
 exact this
def mx2 (a b : Int) : Int := if a < b then b else a
theorem opv_max5 {x1 x2 x3 x4 x5 : Operand} {ci : Array TypeId} {kd : IntKind} {a1 a2 a3 a4 a5 : Int} (h1 : ev F x1 = some (.int kd a1)) (h2 : ev F x2 = some (.int kd a2)) (h3 : ev F x3 = some (.int kd a3)) (h4 : ev F x4 = some (.int kd a4)) (h5 : ev F x5 = some (.int kd a5)) : OpV P w0 n ⟨dst, .call ⟨.builtin .max, #[x1, x2, x3, x4, x5], ci⟩, ty, pos, af, gd⟩ F A I (.int kd (mx2 (mx2 (mx2 (mx2 a1 a2) a3) a4) a5)) :=
 fun t w hf hs => by
  simp [execOp, resolve, invoke, builtin, hf.eval h1, hf.eval h2, hf.eval h3, hf.eval h4, hf.eval h5, Builtin.max_, Builtin.max2, mx2]
  rfl
end
end Go.GL


set_option linter.unusedVariables false
namespace Go.GL
open Go.Proofs
attribute [local irreducible] wpList Code.wp Exit.then Exit.inBlock Ends Tri TriH OpV OpG FnC epf wpAnyH
variable {A : List Asrt} {I : List Chunk}
def ins (l : List Cell) (i : Nat) (c : Cell) : List Cell := l.take i ++ [c] ++ l.drop i
theorem ins_len {l : List Cell} {i : Nat} {c : Cell} (h : i ≤ l.length) : (ins l i c).length = l.length + 1 := by
 unfold ins
 simp only [List.length_append, List.length_take, List.length_drop, List.length_singleton]
 omega
theorem eT (xs : List Cell) (k : Nat) : (encs xs).take (k * 2) = encs (xs.take k) := encs_takeE xs k
theorem eD (xs : List Cell) (k : Nat) : (encs xs).drop (k * 2) = encs (xs.drop k) := encs_dropE xs k
theorem eL (xs : List Cell) : (encs xs).length = xs.length * 2 := encs_length xs
/-- The tail moved up by one. -/
theorem up_cells {l : List Cell} {i : Nat} (h : i < l.length) : (encs l).take ((i + 1) * 2) ++ encs (l.drop i) ++ (encs l).drop ((i + 1) * 2 + (l.length - i) * 2) = encs (l.take (i + 1) ++ l.drop i) := by
 have e : (encs l).drop ((i + 1) * 2 + (l.length - i) * 2) = [] := List.drop_of_length_le (by rw [eL]; omega)
 rw [e, eT, encs_append, List.append_nil]
theorem in_cells {l : List Cell} {i : Nat} {c : Cell} (h : i < l.length) : (encs (l.take (i + 1) ++ l.drop i)).take (i * 2) ++ encs [c] ++ (encs (l.take (i + 1) ++ l.drop i)).drop (i * 2 + 1 * 2) = encs (ins l i c) := by
 rw [show i * 2 + 1 * 2 = (i + 1) * 2 by omega, eD, eT, ← encs_append, ← encs_append]
 congr 1
 unfold ins
 congr 1
 ·congr 1
  rw [List.take_append_of_le_length (by rw [List.length_take]; omega), List.take_take, Nat.min_eq_left (by omega)]
 ·rw [List.drop_append, List.drop_of_length_le (by rw [List.length_take]; omega), List.length_take, List.nil_append, Nat.min_eq_left (by omega), Nat.sub_self, List.drop_zero]
theorem gr1_cells {l : List Cell} {i : Nat} {c : Cell} {zs : List Value} (h : i < l.length) (hz : zs.length = (l.length + 1 - i) * 2) : ((encs l).take (i * 2) ++ zs).take (i * 2) ++ encs [c] ++ ((encs l).take (i * 2) ++ zs).drop (i * 2 + 1 * 2) = encs (l.take i ++ [c]) ++ zs.drop 2 := by
 have e : (encs (l.take i)).length = i * 2 := by rw [eL, List.length_take]; omega
 rw [eT, List.take_append_of_le_length (by omega), List.take_of_length_le (by omega), encs_append, List.drop_append, List.drop_of_length_le (by omega), e, List.nil_append]
 congr 2
 omega
theorem gr2_cells {l : List Cell} {i : Nat} {c : Cell} {zs : List Value} (h : i < l.length) (hz : zs.length = (l.length + 1 - i) * 2) : (encs (l.take i ++ [c]) ++ zs.drop 2).take ((i + 1) * 2) ++ encs (l.drop i) ++ (encs (l.take i ++ [c]) ++ zs.drop 2).drop ((i + 1) * 2 + (l.length - i) * 2) = encs (ins l i c) := by
 have e : (encs (l.take i ++ [c])).length = (i + 1) * 2 := by rw [eL, List.length_append, List.length_take]; simp; omega
 have e2 : (encs (l.take i ++ [c]) ++ zs.drop 2).drop ((i + 1) * 2 + (l.length - i) * 2) = [] := List.drop_of_length_le (by rw [List.length_append, e, List.length_drop, hz]; omega)
 rw [e2, List.take_append_of_le_length (by omega), List.take_of_length_le (by omega), List.append_nil, ← encs_append]
 rfl
set_option maxHeartbeats 2000000 in
set_option maxRecDepth 100000 in
theorem cells_insert {l : List Cell} {a : Option Addr} {cap bv cv i : Nat} {c : Cell} {T : TypeId} (hn : l.length ≤ 100000000) (hi : i ≤ l.length) :
  FnC Try.prog 38 [.slice a l.length cap, .int .i64 (i : Nat), .slice (some ⟨bv, 0, none⟩) 1 cv].toArray (Box bv [.int .i64 c.x, .int .i64 c.y] T :: Row a cap l.length 25 2 (encs l) :: A) I (fun v A' I' => ∃ a' cap', v = .slice a' (ins l i c).length cap' ∧ A' = Row a' cap' (ins l i c).length 25 2 (encs (ins l i c)) :: A ∧ I = I') := by
 have hil := ins_len (c := c) hi
 skip
 skip
 refine fn_enter3 Try.func38 rfl Try.ntmps38 rfl fun w0 => ?_
 refine tS (tR (tA rfl rfl (tN (tT (tS (tR (tM rfl rfl ?_)))))))
 refine tM rfl rfl ?_
 refine tri_v (opv_sliceLoN rfl rfl (by omega) (by omega)) rfl ?_
 refine tN (tT (tS (tR (tM rfl rfl ?_))))
 refine tri_v (opv_len rfl) rfl ?_
 refine tA rfl rfl (tN (tT (tS (tS (tR (tM rfl rfl ?_))))))
 refine tri_v (by first | exact opv_eql rfl rfl | exact opv_eqlI rfl rfl rfl rfl rfl rfl | exact opv_eqlB rfl rfl | exact opv_eqlNil rfl rfl) rfl ?_
 refine tN (tT ?_)
 refine tri_cond_not rfl ((by decide)) ?_
 refine tri_skip (tT (tS (tR (tM rfl rfl ?_))))
 refine tri_v (opv_len rfl) rfl ?_
 refine tA rfl rfl (tN (tT (tS (tS (tR (tM rfl rfl (tM rfl rfl ?_)))))))
 refine tri_v (by first | exact opv_eql rfl rfl | exact opv_eqlI rfl rfl rfl rfl rfl rfl | exact opv_eqlB rfl rfl | exact opv_eqlNil rfl rfl) rfl ?_
 refine tN (tT ?_)
 refine tri_cond_dec rfl (fun h1 => ?_) (fun h1 => ?_)
 ·have h1 : i = l.length := by omega
  subst h1
  refine tS (tR (tM rfl rfl (tM rfl rfl ?_)))
  refine tri_g (opg_appendB rfl rfl rfl rfl (by omega) rfl) rfl ?_
  rintro _ _ _ ⟨a2, cap2, rfl, rfl, rfl⟩
  refine tA rfl rfl (tN (tT (tri_ret (tri_then_ret ?_))))
  refine tri_drop ?_
  refine tri_rowEq (len' := (ins l l.length c).length) (cells' := encs (ins l l.length c)) (by omega) (by unfold ins; rw [List.take_length, List.drop_length, List.append_nil, encs_append]; rfl) ?_
  refine tri_end _ (by first | exact ⟨[], rfl⟩ | exact ⟨[_], rfl⟩ | exact ⟨[_, _], rfl⟩ | exact ⟨[_, _, _], rfl⟩ | exact ⟨[_, _, _, _], rfl⟩ | exact ⟨[_, _, _, _, _], rfl⟩ | exact ⟨[_, _, _, _, _, _], rfl⟩ | exact ⟨[_, _, _, _, _, _, _], rfl⟩ | exact ⟨[_, _, _, _, _, _, _, _], rfl⟩) rfl (.cons (rv_tmp rfl) .nil) ⟨a2, cap2, ?_, rfl, rfl⟩
  rw [hil]
  rfl
 ·have h1 : i < l.length := by omega
  refine tri_perm (A := ?a1_0 :: ?a1_1 :: ?T1) (B := ?a1_1 :: ?a1_0 :: ?T1) (by exact permL [1, 0] [?a1_0, ?a1_1] ?T1 (by decide) rfl) ?_
  refine tri_rowLe fun hcap => ?_
  refine tri_rowSome rfl fun hnone => ?_
  refine tri_rowPt (fun e => by have := hnone e; subst this; simp at h1) fun bb eb => ?_
  subst eb
  refine (show Tri _ _ _ (Row (some ⟨bb, 0, none⟩) cap l.length 25 2 (encs l) :: _) _ _ from ?_)
  refine tri_skip (tT (tS (tS (tR (tM rfl rfl (tM rfl rfl ?_))))))
  refine tri_v (by first | exact opv_add rfl rfl (w64 (by omega) (by omega))) rfl ?_
  refine tM rfl rfl ?_
  refine tri_v (opv_cap rfl) rfl ?_
  refine tri_v (opv_gtr rfl rfl) rfl ?_
  refine tN (tT ?_)
  skip
  refine tri_cond_dec rfl (fun h2 => ?_) (fun h2 => ?_)
  ·have hno : cap < i + (l.length + 1 - i) := by omega
   refine tS (tR (tM rfl rfl (tM rfl rfl ?_)))
   refine tri_v (opv_sliceHiN rfl rfl (by omega) (by omega)) rfl ?_
   refine tM rfl rfl (tM rfl rfl ?_)
   refine tri_v (by first | exact opv_add rfl rfl (w64 (by omega) (by omega))) rfl ?_
   refine tM rfl rfl ?_
   refine tri_v (opv_sub (z := ((l.length + 1 - i : Nat) : Int)) rfl rfl (by rw [w64 (by omega) (by omega)]; omega)) rfl ?_
   skip
   refine tri_g (opg_appendZeros (i := i) (k := l.length + 1 - i) (kd := .i64) rfl rfl (by omega) (by omega) hno (by omega) (by omega) rfl) rfl ?_
   rintro _ _ _ ⟨b9, cap9, zs, rfl, hzs, hc9, rfl, rfl⟩
   refine tA rfl rfl (tN (tT (tS (tR (tM rfl rfl (tM rfl rfl ?_))))))
   refine tri_v (opv_sliceLoP i rfl rfl rfl (by omega) (by omega)) rfl ?_
   refine tM rfl rfl ?_
   refine tri_g (opg_copyTo (o := i * 2) (k := 1) (n' := l.length + 1) (cs := encs [c]) rfl rfl (by rw [if_pos (by omega)]) rfl rfl (fun w hw => box_cellsOf hw) (by omega) (by omega) (by omega)) rfl ?_
   rintro _ _ _ ⟨rfl, rfl, rfl⟩
   refine tri_rowEq (len' := l.length + 1) (cells' := encs (l.take i ++ [c]) ++ zs.drop 2) rfl (gr1_cells h1 hzs) ?_
   refine tN (tT (tS ?_))
   skip
   refine tri_draw [0, 1, 2, 3, 4, 5, 6, 7, 8] rfl [_] rfl mixed ?_
   refine th_take rfl rfl (by kernel_rfl)  (opv_move rfl) ?_
   refine th_take rfl rfl (by kernel_rfl)  (opv_move rfl) ?_
   refine th_take rfl rfl (by kernel_rfl)  (opv_move rfl) ?_
   refine th_take rfl rfl (by kernel_rfl)  (by first | exact opv_add rfl rfl (w64 (by omega) (by omega))) ?_
   refine th_take rfl rfl (by kernel_rfl)  (opv_sliceLoP (i + 1) rfl rfl rfl (by omega) (by omega)) ?_
   refine th_take rfl rfl (by kernel_rfl)  (opv_move rfl) ?_
   refine th_take rfl rfl (by kernel_rfl)  (opv_move rfl) ?_
   refine th_take rfl rfl (by kernel_rfl)  (opv_sliceLoP i rfl rfl rfl (by omega) (by omega)) ?_
   skip
   refine th_one (by kernel_rfl) (step_m rfl rfl (opg_copyTo (o := (i + 1) * 2) (k := l.length - i) (n' := l.length + 1) (cs := encs (l.drop i)) rfl rfl (by split <;> omega) (by rw [eL, List.length_drop]) (encs_one _) (fun w hw => by have := row_cellsSub (b := bb) (o := i * 2) (m := (l.length - i) * 2) (cap := cap) (len := l.length) (E := 25) (sz := 2) (cells := encs l) hw; rwa [eD, List.take_of_length_le (by rw [eL, List.length_drop]; exact Nat.le_refl _)] at this) (by omega) (by omega) (by omega)) ?_)
   rintro _ _ _ ⟨rfl, rfl, rfl⟩
   refine ⟨Suf.h, (by first | exact fun _ h => h | assumption | exact fun _ h => (by assumption : _ ⊆ _) ((by assumption : _ ⊆ _) h)), ?_⟩
   refine th_done (by kernel_rfl) ?_
   refine tT (tS (tR (tM rfl rfl (tA rfl rfl (tN (tT (tri_ret ?_)))))))
   refine tri_then_ret ?_
   refine tri_rowEq (len' := (ins l i c).length) (cells' := encs (ins l i c)) (by omega) (gr2_cells h1 hzs) ?_
   refine tri_perm (A := ?a2_0 :: ?a2_1 :: ?T2) (B := ?a2_1 :: ?a2_0 :: ?T2) (by exact permL [1, 0] [?a2_0, ?a2_1] ?T2 (by decide) rfl) ?_
   refine tri_drop ?_
   refine tri_perm (A := ?a3_0 :: ?a3_1 :: ?T3) (B := ?a3_1 :: ?a3_0 :: ?T3) (by exact permL [1, 0] [?a3_0, ?a3_1] ?T3 (by decide) rfl) ?_
   refine tri_drop ?_
   refine tri_end _ (by first | exact ⟨[], rfl⟩ | exact ⟨[_], rfl⟩ | exact ⟨[_, _], rfl⟩ | exact ⟨[_, _, _], rfl⟩ | exact ⟨[_, _, _, _], rfl⟩ | exact ⟨[_, _, _, _, _], rfl⟩ | exact ⟨[_, _, _, _, _, _], rfl⟩ | exact ⟨[_, _, _, _, _, _, _], rfl⟩ | exact ⟨[_, _, _, _, _, _, _, _], rfl⟩) rfl (.cons (rv_tmp rfl) .nil) ⟨some ⟨b9, 0, none⟩, cap9, ?_, rfl, rfl⟩
   rw [hil, show i + (l.length + 1 - i) = l.length + 1 by omega]
   rfl
  ·refine tri_skip (tT (tS (tR (tM rfl rfl (tM rfl rfl (tM rfl rfl ?_))))))
   refine tri_v (by first | exact opv_add rfl rfl (w64 (by omega) (by omega))) rfl ?_
   refine tri_v (opv_sliceHiN rfl rfl (by omega) (by omega)) rfl ?_
   refine tA rfl rfl (tN (tT (tS (tS (tR (tM rfl rfl (tM rfl rfl ?_)))))))
   refine tM rfl rfl (tM rfl rfl ?_)
   refine tri_v (by first | exact opv_add rfl rfl (w64 (by omega) (by omega))) rfl ?_
   refine tri_v (opv_sliceLoP (i + 1) rfl rfl rfl (by omega) (by omega)) rfl ?_
   skip
   refine tri_perm (A := ?a4_0 :: ?a4_1 :: ?T4) (B := ?a4_1 :: ?a4_0 :: ?T4) (by exact permL [1, 0] [?a4_0, ?a4_1] ?T4 (by decide) rfl) ?_
   refine tri_v (opv_overlaps (fn := Try.f47) (tS := 23) (e := 25) (tR := 4) (T := T) (E := 25) (cv := [.int .i64 c.x, .int .i64 c.y]) (cells := encs l) (len := l.length) (sz := 2) Try.func47 (by kernel_rfl) (by kernel_rfl) (by kernel_rfl) (by kernel_rfl) rfl rfl (by omega)) rfl ?_
   refine tri_v (by first | exact opv_notD rfl | exact opv_not rfl) rfl ?_
   refine tN (tT ?_)
   refine tri_cond_true (by first | rfl | exact rfl) ?_
   refine tri_perm (A := ?a5_0 :: ?a5_1 :: ?T5) (B := ?a5_1 :: ?a5_0 :: ?T5) (by exact permL [1, 0] [?a5_0, ?a5_1] ?T5 (by decide) rfl) ?_
   skip
   refine tS ?_
   refine tri_draw [0, 1, 2, 3, 4, 5, 6, 7, 8] rfl [_] rfl mixed ?_
   refine th_take rfl rfl (by kernel_rfl)  (opv_move rfl) ?_
   refine th_take rfl rfl (by kernel_rfl)  (opv_move rfl) ?_
   refine th_take rfl rfl (by kernel_rfl)  (opv_move rfl) ?_
   refine th_take rfl rfl (by kernel_rfl)  (by first | exact opv_add rfl rfl (w64 (by omega) (by omega))) ?_
   refine th_take rfl rfl (by kernel_rfl)  (opv_sliceLoP (i + 1) rfl rfl rfl (by omega) (by omega)) ?_
   refine th_take rfl rfl (by kernel_rfl)  (opv_move rfl) ?_
   refine th_take rfl rfl (by kernel_rfl)  (opv_move rfl) ?_
   refine th_take rfl rfl (by kernel_rfl)  (opv_sliceLoP i rfl rfl rfl (by omega) (by omega)) ?_
   skip
   refine th_one (by kernel_rfl) (step_m rfl rfl (opg_copyTo (o := (i + 1) * 2) (k := l.length - i) (n' := l.length + 1) (cs := encs (l.drop i)) rfl rfl (by split <;> omega) (by rw [eL, List.length_drop]) (encs_one _) (fun w hw => by have := row_cellsSub (b := bb) (o := i * 2) (m := (l.length - i) * 2) (cap := cap) (len := l.length) (E := 25) (sz := 2) (cells := encs l) hw; rwa [eD, List.take_of_length_le (by rw [eL, List.length_drop]; exact Nat.le_refl _)] at this) (by omega) (by omega) (by omega)) ?_)
   rintro _ _ _ ⟨rfl, rfl, rfl⟩
   refine ⟨Suf.h, (by first | exact fun _ h => h | assumption | exact fun _ h => (by assumption : _ ⊆ _) ((by assumption : _ ⊆ _) h)), ?_⟩
   refine th_done (by kernel_rfl) ?_
   refine tT (tS ?_)
   refine tri_rowEq (len' := l.length + 1) (cells' := encs (l.take (i + 1) ++ l.drop i)) rfl (up_cells h1) ?_
   refine tR (tM rfl rfl (tM rfl rfl ?_))
   refine tri_v (opv_sliceLoP i rfl rfl rfl (by omega) (by omega)) rfl ?_
   refine tM rfl rfl ?_
   refine tri_g (opg_copyTo (o := i * 2) (k := 1) (n' := l.length + 1) (cs := encs [c]) rfl rfl (by rw [if_pos (by omega)]) rfl rfl (fun w hw => box_cellsOf hw) (by omega) (by omega) (by omega)) rfl ?_
   rintro _ _ _ ⟨rfl, rfl, rfl⟩
   refine tN (tT (tS (tR (tM rfl rfl (tA rfl rfl (tN (tT ?_)))))))
   refine tri_ret (tri_then_ret ?_)
   refine tri_rowEq (len' := (ins l i c).length) (cells' := encs (ins l i c)) (by omega) (in_cells h1) ?_
   refine tri_perm (A := ?a6_0 :: ?a6_1 :: ?T6) (B := ?a6_1 :: ?a6_0 :: ?T6) (by exact permL [1, 0] [?a6_0, ?a6_1] ?T6 (by decide) rfl) ?_
   refine tri_drop ?_
   refine tri_end _ (by first | exact ⟨[], rfl⟩ | exact ⟨[_], rfl⟩ | exact ⟨[_, _], rfl⟩ | exact ⟨[_, _, _], rfl⟩ | exact ⟨[_, _, _, _], rfl⟩ | exact ⟨[_, _, _, _, _], rfl⟩ | exact ⟨[_, _, _, _, _, _], rfl⟩ | exact ⟨[_, _, _, _, _, _, _], rfl⟩ | exact ⟨[_, _, _, _, _, _, _, _], rfl⟩) rfl (.cons (rv_tmp rfl) .nil) ⟨some ⟨bb, 0, none⟩, cap, ?_, rfl, rfl⟩
   rw [hil]
   rfl
end Go.GL


set_option linter.unusedVariables false
namespace Go.GL
open Go.Proofs
attribute [local irreducible] wpList Code.wp Exit.then Exit.inBlock Ends Tri TriH OpV OpG FnC epf wpAnyH
variable {A : List Asrt} {I : List Chunk}
def del (l : List Cell) (i : Nat) : List Cell := l.take i ++ l.drop (i + 1)
theorem del_len {l : List Cell} {i : Nat} (h : i < l.length) : (del l i).length = l.length - 1 := by
 unfold del
 simp only [List.length_append, List.length_take, List.length_drop]
 omega
set_option maxHeartbeats 2000000 in
set_option maxRecDepth 100000 in
theorem cells_delete {l : List Cell} {a : Option Addr} {cap i : Nat} (hn : l.length ≤ 100000000) (hi : i < l.length) :
  FnC Try.prog 39 [.slice a l.length cap, .int .i64 (i : Nat), .int .i64 ((i + 1 : Nat) : Int)].toArray (Row a cap l.length 25 2 (encs l) :: A) I (fun v A' I' => v = .slice a (del l i).length cap ∧ A' = Row a cap (del l i).length 25 2 (encs (del l i)) :: A ∧ I = I') := by
 have hdl := del_len hi
 skip
 skip
 refine fn_enter3 Try.func39 rfl Try.ntmps39 rfl fun w0 => ?_
 refine tri_rowLe fun hcap => ?_
 refine tri_rowSome rfl fun hnone => ?_
 refine tri_rowPt (fun e => by have := hnone e; subst this; simp at hi) fun bb eb => ?_
 subst eb
 refine (show Tri _ _ _ (Row (some ⟨bb, 0, none⟩) cap l.length 25 2 (encs l) :: _) _ _ from ?_)
 refine tS (tR (tA rfl rfl (tN (tT (tS (tR (tM rfl rfl ?_)))))))
 refine tM rfl rfl (tM rfl rfl (tM rfl rfl ?_))
 refine tri_v (opv_len rfl) rfl ?_
 refine tri_v (opv_slice3 rfl rfl rfl rfl (by omega) (by omega) (by omega) (by omega)) rfl ?_
 refine tN (tT (tS (tS (tR (tM rfl rfl (tM rfl rfl ?_))))))
 refine tri_v (by first | exact opv_eql rfl rfl | exact opv_eqlI rfl rfl rfl rfl rfl rfl | exact opv_eqlB rfl rfl | exact opv_eqlNil rfl rfl) rfl ?_
 refine tN (tT ?_)
 refine tri_cond_not rfl ((by omega)) ?_
 skip
 refine tri_skip (tT (tS (tR (tM rfl rfl ?_))))
 refine tri_v (opv_len rfl) rfl ?_
 refine tA rfl rfl (tN (tT (tS ?_)))
 refine tri_draw [0, 1, 2, 3, 4, 5, 6, 7] rfl [_] rfl mixed ?_
 refine th_take rfl rfl (by kernel_rfl)  (opv_move rfl) ?_
 refine th_take rfl rfl (by kernel_rfl)  (opv_move rfl) ?_
 refine th_take rfl rfl (by kernel_rfl)  (opv_sliceHiN rfl rfl (by omega) (by omega)) ?_
 refine th_take rfl rfl (by kernel_rfl)  (opv_move rfl) ?_
 refine th_take rfl rfl (by kernel_rfl)  (opv_move rfl) ?_
 refine th_take rfl rfl (by kernel_rfl)  (opv_sliceLoN rfl rfl (by omega) (by omega)) ?_
 skip
 refine th_one (by kernel_rfl) (step_m rfl rfl (opg_appendSelf (i := i) (m := l.length - (i + 1)) (cs := encs (l.drop (i + 1))) rfl rfl (by rw [eL, List.length_drop]) (encs_one _) (fun w hw => by by_cases h : cap = i + 1; exact .inl (by rw [List.drop_of_length_le (by omega)]; rfl); have := row_cellsSub (b := bb) (o := (i + 1) * 2) (m := (l.length - (i + 1)) * 2) (cap := cap) (len := l.length) (E := 25) (sz := 2) (cells := encs l) hw; rw [eD, List.take_of_length_le (by rw [eL, List.length_drop]; exact Nat.le_refl _)] at this; rw [Int.toNat_natCast, loA_lt h]; exact this) (by omega) (by omega)) ?_)
 rintro _ _ _ ⟨rfl, rfl, rfl⟩
 refine ⟨Suf.h, (by first | exact fun _ h => h | assumption | exact fun _ h => (by assumption : _ ⊆ _) ((by assumption : _ ⊆ _) h)), ?_⟩
 refine th_take rfl rfl (by kernel_rfl)  (opv_assign rfl) ?_
 refine th_done (by kernel_rfl) ?_
 refine tT (tS ?_)
 refine tri_rowEq (len' := (del l i).length) (cells' := encs (del l i)) (by omega) (by rw [eT, ← encs_append]; rfl) ?_
 rw [show i + (l.length - (i + 1)) = (del l i).length by omega]
 refine tR (tM rfl rfl (tM rfl rfl ?_))
 refine tri_v (opv_len rfl) rfl ?_
 refine tM rfl rfl ?_
 refine tri_v (opv_sliceLH rfl rfl rfl (by omega) (by omega) (by omega)) rfl ?_
 skip
 refine tri_g (opg_clearBehind (k := (del l i).length) rfl (by omega) (by omega) rfl) rfl ?_
 rintro _ _ _ ⟨rfl, rfl⟩
 refine tN (tT (tS (tR (tM rfl rfl (tA rfl rfl (tN (tT ?_)))))))
 refine tri_ret ?_
 refine tri_end _ (by first | exact ⟨[], rfl⟩ | exact ⟨[_], rfl⟩ | exact ⟨[_, _], rfl⟩ | exact ⟨[_, _, _], rfl⟩ | exact ⟨[_, _, _, _], rfl⟩ | exact ⟨[_, _, _, _, _], rfl⟩ | exact ⟨[_, _, _, _, _, _], rfl⟩ | exact ⟨[_, _, _, _, _, _, _], rfl⟩ | exact ⟨[_, _, _, _, _, _, _, _], rfl⟩) rfl (.cons (rv_tmp rfl) .nil) ⟨rfl, rfl, rfl⟩
end Go.GL


set_option linter.unusedVariables false
set_option linter.unusedSimpArgs false
/-
 From a contract to a row: a world's blocks as what may be read; arguments opened; what a law leaves.
-/
namespace Go.GL
open Enc (enc)
open Go.WideShapes Go.ChangeShapes Go.RowKit Go.Deep
def I64 (c : Int) : Prop := -9223372036854775808 ≤ c ∧ c ≤ 9223372036854775807
theorem wf_I64 {n : Int} (h : (Lit.int .i64 n).wf = true) : I64 n := by
 simp [Lit.wf, IntKind.min, IntKind.max, IntKind.signed, IntKind.bits] at h
 exact ⟨by omega, by omega⟩
/-! ### 1. The world as it came -/
def worldI (w : World) : List Chunk := (List.range w.heap.size).filterMap fun b => w.heap[b]?.map fun o => (b, o)
theorem mem_worldI {w : World} {b : Nat} {o : Obj} : (b, o) ∈ worldI w ↔ w.heap[b]? = some o := by
 unfold worldI
 simp only [List.mem_filterMap, List.mem_range, Option.map_eq_some_iff, Prod.mk.injEq]
 constructor
 ·rintro ⟨b', _, o', h, rfl, rfl⟩; exact h
 ·intro h; exact ⟨b, (Array.getElem?_eq_some_iff.1 h).1, o, h, rfl, rfl⟩
theorem worldI_fst (w : World) : (worldI w).map (·.1) = List.range w.heap.size := by
 unfold worldI
 have key : ∀ n, n ≤ w.heap.size → ((List.range n).filterMap fun b => w.heap[b]?.map fun o => (b, o)).map (·.1) = List.range n := by
  intro n
  induction n with
  | zero => intro _; rfl
  | succ n ih =>
   intro hn
   have hlt : n < w.heap.size := hn
   rw [List.range_succ, List.filterMap_append, List.map_append, ih (by omega)]
   simp [hlt]
 exact key _ (Nat.le_refl _)
theorem st_world (w : World) : St w w [] (worldI w) := by
 refine ⟨[], .nil, ⟨rfl, rfl, rfl, Nat.le_refl _, ?_, ?_, Nat.le_refl _⟩⟩
 ·rw [List.nil_append, worldI_fst]; exact List.nodup_range
 ·rintro ⟨b, o⟩ hc
  exact mem_worldI.1 hc
theorem below_of_st {w w' : World} {A' : List Asrt} {I' : List Chunk} (h : St w w' A' I') (hI : worldI w ⊆ I') : Below w.heap.size w w' := by
 obtain ⟨cs, _, h⟩ := h
 refine ⟨h.os, h.tape, h.output, h.size, fun k hk => ?_⟩
 have h1 : w.heap[k]? = some w.heap[k] := Array.getElem?_eq_getElem hk
 rw [h1]
 exact h.has _ (List.mem_append_right _ (hI (mem_worldI.2 h1)))
/-- A law's contract, as the kit has it. -/
theorem calls_of_fnC {P : Program} {f : FuncId} {args : Array Value} {w : World} {v0 : Value} (h : FnC P f args [] (worldI w) fun v A' I' => v = v0 ∧ [] = A' ∧ worldI w ⊆ I') : Calls P f args w fun e w' => e = .returned v0 ∧ Below w.heap.size w w' :=
 (h w w (st_world w)).mono fun e w' ⟨v, A', I', he, ⟨hv, _, hI⟩, hS⟩ => ⟨hv ▸ he, below_of_st hS hI⟩
/-! ### 2. Values that are whole numbers alone -/
def segsOk : List (Nat × Nat) → Nat → Nat → Bool
 | [], off, tot => Nat.beq off tot
 | (o, k) :: r, off, tot => Nat.beq o off && segsOk r (off + k) tot
def IntsL (cs : List Value) (n : Nat) : Prop := ∃ xs : List Int, cs = ints xs ∧ xs.length = n ∧ ∀ z ∈ xs, I64 z
theorem ints_of_segs {cs : List Value} {tot : Nat} : ∀ (segs : List (Nat × Nat)) (off : Nat), (∀ p ∈ segs, IntsL ((cs.drop p.1).take p.2) p.2) → segsOk segs off tot = true → cs.length = tot → IntsL (cs.drop off) (tot - off)
 | [], off, _, hs, hl => by
  have : off = tot := Nat.eq_of_beq_eq_true hs
  refine ⟨[], ?_, by simp; omega, by simp⟩
  rw [List.drop_of_length_le (by omega)]; rfl
 | (o, k) :: r, off, h, hs, hl => by
  simp only [segsOk, Bool.and_eq_true] at hs
  have ho : o = off := Nat.eq_of_beq_eq_true hs.1
  subst ho
  obtain ⟨ys, e1, l1, b1⟩ := h (o, k) List.mem_cons_self
  obtain ⟨zs, e2, l2, b2⟩ := ints_of_segs r (o + k) (fun p hp => h p (List.mem_cons_of_mem _ hp)) hs.2 hl
  have e : cs.drop o = (cs.drop o).take k ++ cs.drop (o + k) := by rw [← List.drop_drop, List.take_append_drop]
  refine ⟨ys ++ zs, ?_, ?_, ?_⟩
  ·rw [e, e1, e2]; simp [ints]
  ·have hk : ((cs.drop o).take k).length = k := by rw [e1]; simp [ints, l1]
   rw [List.length_take, List.length_drop] at hk
   rw [List.length_append, l1, l2]
   by_cases h0 : k = 0
   ·omega
   ·omega
  ·intro z hz
   rcases List.mem_append.1 hz with hz | hz
   ·exact b1 z hz
   ·exact b2 z hz
/-- A type whose cells are whole numbers alone. -/
def NumTy (P : Program) (t : TypeId) (n : Nat) : Prop := P.cellsOf t = n ∧ ∀ (H : Type) (enc : TypeId × Value → H) (w : World) (base : Nat) (spare : Nat → Bool) (held : Bool) (fuel : Nat) (cs : List Value) (x : DataW H × List MemPlace), DataW.trod enc P w base spare held fuel t cs = some x → IntsL cs n
theorem cellsOf_tyI {P : Program} {t : TypeId} {d : TypeDesc} {s b : Nat} {z : List Value} [h : TyI P t d s b z] : P.cellsOf t = s := by
 obtain ⟨i, v, h1, h2, _⟩ := h.info
 simp [Program.cellsOf, h1, h2]
section
variable {P : Program} {t e : TypeId} {s b : Nat} {z : List Value}
theorem NumTy.int [h : TyI P t (.int .i64) 1 b z] : NumTy P t 1 := by
 refine ⟨cellsOf_tyI, fun H enc w base spare held fuel cs x hx => ?_⟩
 obtain ⟨n, rfl, _, hw⟩ := DataW.trod_int h.und hx
 exact ⟨[n], rfl, rfl, fun z hz => by rw [List.mem_singleton.1 hz]; exact wf_I64 hw⟩
theorem NumTy.arr {n m : Nat} [h : TyI P t (.array n e) s b z] (he : NumTy P e m) (hs : segsOk ((List.range n).map fun i => (i * m, m)) 0 s = true) : NumTy P t s := by
 refine ⟨cellsOf_tyI, fun H enc w base spare held fuel cs x hx => ?_⟩
 obtain ⟨xs, k, _, _, hl, hlen, hf⟩ := DataW.trod_array h.und hx
 rw [cellsOf_tyI] at hl
 have := ints_of_segs (cs := cs) (tot := s) _ 0 (fun p hp => ?_) hs hl
 ·simpa using this
 ·obtain ⟨i, hi, rfl⟩ := List.mem_map.1 hp
  have hi' := List.mem_range.1 hi
  have := hf i hi'
  rw [he.1, List.getElem?_eq_getElem (by omega)] at this
  exact he.2 _ _ _ _ _ _ _ _ _ this
/-- The fields, one by one. -/
def AllTy (P : Program) : List Field → List Nat → Prop
 | [], [] => True
 | f :: fs, n :: ns => NumTy P f.type n ∧ AllTy P fs ns
 | _, _ => False
theorem AllTy.at : ∀ {fs : List Field} {ns : List Nat}, AllTy P fs ns → ∀ p ∈ (fs.map (·.offset)).zip ns, ∃ (i : Nat) (f : Field), fs[i]? = some f ∧ f.offset = p.1 ∧ NumTy P f.type p.2
 | [], [], _, p, hp => by simp at hp
 | f :: fs, n :: ns, h, p, hp => by
  simp only [List.map_cons, List.zip_cons_cons] at hp
  rcases List.mem_cons.1 hp with rfl | hp
  ·exact ⟨0, f, rfl, rfl, h.1⟩
  ·obtain ⟨i, g, h1, h2, h3⟩ := AllTy.at h.2 p hp
   exact ⟨i + 1, g, by simpa using h1, h2, h3⟩
 | [], _ :: _, h, _, _ => h.elim
 | _ :: _, [], h, _, _ => h.elim
/-! ### 3. Slices and stores opened -/
/-- How a thing of n numbers is read. -/
class Dec (α : Type) [Enc α] where
 dec : List Int → α
 enc_dec : ∀ xs : List Int, xs.length = Enc.sz α → enc (dec xs) = ints xs
instance : Dec Int := ⟨fun xs => xs.getD 0 0, fun xs h => by
 match xs, h with
 | [x], _ => rfl⟩
def DecOk {α : Type} [Enc α] [Dec α] (x : α) : Prop := ∃ zs : List Int, zs.length = Enc.sz α ∧ (∀ z ∈ zs, I64 z) ∧ x = Dec.dec zs
/-- How many are read. -/
def dlen {H : Type} : DataW H → Nat | .slice es _ => es.length | _ => 0
theorem open_sl_cs {α : Type} [Enc α] [Dec α] [Inhabited α] [h : TyI P t (.slice e) s b z] (he : NumTy P e (Enc.sz α)) (hpos : 0 < Enc.sz α) {H : Type} {en : TypeId × Value → H} {w : World} {fuel : Nat} {cs : List Value} {x : DataW H × List MemPlace} {spare : Nat → Bool} {held : Bool}
  (hx : DataW.trod en P w 0 spare held fuel t cs = some x) : ∃ (a : Option Addr) (cap : Nat) (xs : List α), cs = [.slice a xs.length cap] ∧ StA (worldI w) a cap xs ∧ (∀ y ∈ xs, DecOk y) ∧ xs.length ≤ 9223372036854775807 ∧ xs.length = dlen x.1 := by
 rcases open_slice h.und hx with ⟨rfl, rfl⟩ | ⟨a, len, cap, m, n, D, Pl, rfl, _, hl, hm, hmm, rfl, hi⟩
 ·exact ⟨none, 0, [], rfl, ⟨SlAt.nil, Nat.le_refl _⟩, by simp, by simp, rfl⟩
 ·have hlm : len ≤ m := by rw [hmm]; split <;> omega
  have hcap : cap ≤ 9223372036854775807 := hm
  have each : ∀ i, i < len → ∃ y : α, DecOk y ∧ ∀ j, j < Enc.sz α → w.cell? ((a.add (i * Enc.sz α)).add j) = (enc y)[j]? := fun i hi' => by
   obtain ⟨cs', h1, h2⟩ := hi i (by omega)
   rw [he.1] at h1
   obtain ⟨_, h3, h4⟩ := World.cells?_some h1
   obtain ⟨zs, rfl, h5, h6⟩ := he.2 _ _ _ _ _ _ _ _ _ h2
   exact ⟨Dec.dec zs, ⟨zs, h5, h6, rfl⟩, fun j hj => by rw [h4 j hj, Dec.enc_dec zs h5]⟩
  obtain ⟨f, hf⟩ := choose_lt each
  refine ⟨some a, cap, (List.range len).map f, by simp, ⟨?_, by simpa using hl⟩, ?_, by simp; omega, by simp [dlen]⟩
  ·by_cases h0 : len = 0
   ·subst h0; exact .inl rfl
   ·obtain ⟨bk, off, sp⟩ := a
    have h00 := (hf 0 (by omega)).2 0 hpos
    simp only [Nat.zero_mul, Addr.add, if_true] at h00
    have hz : (enc (f 0))[0]? = some ((enc (f 0))[0]'(by rw [Enc.hlen]; exact hpos)) := List.getElem?_eq_getElem _
    rw [hz] at h00
    unfold World.cell? at h00
    simp only at h00
    cases hb : w.heap[bk]? with
    | none => rw [hb] at h00; simp at h00
    | some o =>
     rw [hb] at h00
     cases o with
     | cells c T fz =>
      simp only at h00
      cases sp with
      | some q => simp at h00
      | none =>
       refine .inr ⟨bk, off, rfl, c, T, fz, mem_worldI.2 hb, fun j v hj => ?_⟩
       have hj2 : j < len * Enc.sz α := by
        have := (List.getElem?_eq_some_iff.1 hj).1
        rw [encs_length] at this
        simpa using this
       have hq : j / Enc.sz α < len := (Nat.div_lt_iff_lt_mul hpos).2 hj2
       have hr : j % Enc.sz α < Enc.sz α := Nat.mod_lt _ hpos
       have ej : j / Enc.sz α * Enc.sz α + j % Enc.sz α = j := by rw [Nat.mul_comm]; exact Nat.div_add_mod j (Enc.sz α)
       rw [← ej, encs_get _ _ _ (by simpa using hq) hr] at hj
       have hg : ((List.range len).map f).getD (j / Enc.sz α) default = f (j / Enc.sz α) := by simp [hq]
       rw [hg] at hj
       have h5 := (hf _ hq).2 _ hr
       rw [hj, Go.Deep.add_add, ej] at h5
       unfold World.cell? at h5
       have hblk : (({ block := bk, off := off, spot := none } : Addr).add j) = ⟨bk, off + j, none⟩ := by
        unfold Addr.add; split
        ·rename_i h; subst h; rfl
        ·rfl
       rw [hblk] at h5
       simpa [hb] using h5
     | _ => simp at h00
  ·intro y hy
   obtain ⟨i, hi', rfl⟩ := List.mem_map.1 hy
   exact (hf i (List.mem_range.1 hi')).1
theorem open_slv {α : Type} [Enc α] [Dec α] [Inhabited α] [h : TyI P t (.slice e) s b z] (he : NumTy P e (Enc.sz α)) (hpos : 0 < Enc.sz α) {H : Type} {en : TypeId × Value → H} {w : World} {r : Reach} {b0 : Nat} {spare : Nat → Bool} {held : Bool} {v : Value} {d : DataW H} {ps : List MemPlace}
  (hval : Value.okWide P w r b0 t v) (hx : DataW.Trod en P w 0 spare held t v d ps) : ∃ (a : Option Addr) (cap : Nat) (xs : List α), v = .slice a xs.length cap ∧ StA (worldI w) a cap xs ∧ (∀ y ∈ xs, DecOk y) ∧ xs.length ≤ 9223372036854775807 ∧ xs.length = dlen d := by
 obtain ⟨a, len, cap, rfl⟩ := okWide_slice h.und hval
 obtain ⟨fuel, hf⟩ := hx
 obtain ⟨a', cap', xs, h1, h2⟩ := open_sl_cs he hpos hf
 simp only [Value.cells, List.cons.injEq, and_true] at h1
 exact ⟨a', cap', xs, h1, h2⟩
theorem open_i64 [h : TyI P t (.int .i64) s b z] {H : Type} {en : TypeId × Value → H} {w : World} {r : Reach} {b0 : Nat} {spare : Nat → Bool} {held : Bool} {v : Value} {d : DataW H} {ps : List MemPlace}
  (hval : Value.okWide P w r b0 t v) (hx : DataW.Trod en P w 0 spare held t v d ps) : ∃ n, v = .int .i64 n ∧ I64 n := by
 obtain ⟨n, rfl, _, _, hw⟩ := open_int h.und hval hx
 exact ⟨n, rfl, wf_I64 hw⟩
/-! ### 4. What a law leaves -/
theorem trodAll_stays {H : Type} {en : TypeId × Value → H} (hl : laidOutB P = true) {W W' : World} (hB : Below W.heap.size W W') : ∀ {ts : List TypeId} {vs : List Value} {ds : List (DataW H)} {ps : List MemPlace},
  (∀ t ∈ ts, P.readableRec t = true ∧ t < P.types.size) → DataW.TrodAll en P W 0 (fun _ => true) true ts vs ds ps → (∀ x ∈ ps, x.block < W.heap.size) → DataW.TrodAll en P W' 0 (fun b => decide (b < W.heap.size)) true ts vs ds ps
 | [], vs, ds, ps, _, h, _ => by
  obtain ⟨rfl, rfl, rfl⟩ := trodAll_nil h
  exact rfl
 | t :: ts, vs, ds, ps, hr, h, hlt => by
  obtain ⟨v, vs', d, ds', p, q, rfl, rfl, rfl, h1, h2⟩ := trodAll_cons h
  refine ⟨p, q, Below.trod hl (hr t List.mem_cons_self).1 (hr t List.mem_cons_self).2 h1 hB fun x hx => hlt x (List.mem_append_left _ hx), ?_, rfl⟩
  exact trodAll_stays hl hB (fun t' ht' => hr t' (List.mem_cons_of_mem _ ht')) h2 fun x hx => hlt x (List.mem_append_right _ hx)
theorem law_post {H : Type} {en : TypeId × Value → H} {f : Func} {sp : ChangeSpec} {apart fresh handsOn : Bool} {W W' : World} {args : Array Value} {ds gs : List (DataW H)} {before : List MemPlace} {tb : TypeId} [hb : TyI P tb .bool s b z]
  (hl : laidOutB P = true) (hts : ∀ t ∈ f.params.toList, P.readableRec t = true ∧ t < P.types.size) (hres : f.resultTypes = #[tb]) (hvars : sp.vars = [])
  (hW : DataW.Whole en P f.params.toList sp.vars apart W args.toList ds gs before) (hr : (sp.fn H (ds ++ gs)).results = [.lit (.bool true)]) (ha : (sp.fn H (ds ++ gs)).args = ds) (hv : (sp.fn H (ds ++ gs)).vars = [])
  (hB : Below W.heap.size W W') : sp.post en P f apart fresh handsOn false W args (.bool true) W' := by
 have hlt := hW.lt
 have hW2 := hW
 obtain ⟨p, q, h1, h2, e, h3, h4⟩ := hW2
 rw [hvars] at h2
 obtain ⟨_, rfl⟩ := trodVars_none h2
 rw [List.append_nil] at e
 subst e
 refine ⟨ds, gs, _, [], _, [], hW, ?_, ?_, ?_, World.keptBut_mono (fun x hx => ⟨hx, .inr (.inl hx)⟩) (hB.frame (· ∈ _)), fun h => by cases h⟩
 ·rw [hr, hres]
  exact ⟨[], [], ⟨1, by simp [DataW.trod, Value.cells, hb.und]⟩, rfl, rfl⟩
 ·rw [ha]
  exact trodAll_stays hl hB hts h1 hlt
 ·rw [hv, hvars]; rfl
end
end Go.GL


set_option linter.unusedVariables false
namespace Go.GL
open Go.Proofs Go.Shelf Go.RowKit Go.Lib Go.Sort
/-! ### The kit's contract of slices.SortFunc, in this logic -/
theorem grow_of_st {W w' : World} {A' : List Asrt} {I' : List Chunk} (h : St W w' A' I') (hI : worldI W ⊆ I') : ∃ q os', w' = grow (W.drewN q) os' := by
 obtain ⟨cs, _, hw⟩ := h
 have hh : w'.heap = W.heap ++ w'.heap.extract W.heap.size w'.heap.size := by
  apply Array.ext_getElem?
  intro k
  rw [Array.getElem?_append]
  by_cases hk : k < W.heap.size
  ·rw [if_pos hk]
   have h1 : W.heap[k]? = some W.heap[k] := Array.getElem?_eq_getElem hk
   rw [h1]
   exact hw.has (k, _) (List.mem_append_right _ (hI (mem_worldI.2 h1)))
  ·rw [if_neg hk, Array.getElem?_extract]
   have := hw.size
   by_cases h2 : k < w'.heap.size
   ·rw [if_pos (by omega), show W.heap.size + (k - W.heap.size) = k by omega]
   ·rw [if_neg (by omega), Array.getElem?_eq_none (by omega)]
 have h1 := hw.os
 have h2 := hw.tape
 have h3 := hw.output
 have h4 := hw.dr
 refine ⟨w'.drawn - W.drawn, w'.heap.extract W.heap.size w'.heap.size, ?_⟩
 obtain ⟨hp, tp, dr, o, out⟩ := w'
 simp only at h1 h2 h3 h4 hh ⊢
 unfold grow World.drewN
 simp only [World.mk.injEq]
 exact ⟨hh, h2, by omega, h1, h3⟩
theorem Wd.grow {w0 w : World} {L : List Chunk} (h : Wd w0 w L) (os : Array Obj) : Wd w0 (Go.Sort.grow w os) L :=
 ⟨h.os, h.tape, h.output, by have := h.size; unfold Go.Sort.grow; rw [Array.size_append]; omega, h.nd, fun c hc => by
  have h1 := h.lt hc
  show (w.heap ++ os)[c.1]? = some c.2
  rw [Array.getElem?_append_left h1]
  exact h.has c hc, h.dr⟩
theorem swo_cells : SWO (ltOf R1.cmpC) := by
 have key : ∀ x y, ltOf R1.cmpC x y = decide (R1.less x y) := fun x y => decide_eq_decide.2 R1.cmpC_lt
 refine ⟨fun x => ?_, fun x y z h1 h2 => ?_, fun x y z h1 h2 => ?_⟩
 ·rw [key]; exact decide_eq_false (R1.less_irrefl x)
 ·rw [key] at *
  exact decide_eq_true (R1.less_trans (of_decide_eq_true h1) (of_decide_eq_true h2))
 ·rw [key] at *
  have a := of_decide_eq_false h1
  have b := of_decide_eq_false h2
  refine decide_eq_false ?_
  unfold R1.less at *
  omega
theorem enters_of {P : Program} {f : FuncId} [h : FnI P f] (args : Array Value) (w : World) : (callFunc f args).run P w = .ok (.enter f args) w := by
 obtain ⟨fn, h1, h2, h3⟩ := h.fn
 simp only [callFunc, Sem.run_bind, run_program, Result.andThen_ok, h1, h2, h3]
 rfl
section
variable {P : Program} {ρ : Ren} {A : List Asrt} {I : List Chunk}
theorem flat_cells (l : List Cell) (j : Nat) (hj : j < l.length * 2) : (flatK (Enc.enc (α := Cell)) 2 l.toArray)[j]! = ((encs l)[j]?).getD default := by
 rw [get_flatK _ _ _ _ (by simpa using hj)]
 have h := encs_get l (j / 2) (j % 2) (by omega) (by show j % 2 < 2; omega)
 rw [show Enc.sz Cell = 2 from rfl, show j / 2 * 2 + j % 2 = j by omega] at h
 rw [h]
 have e1 : l.toArray[j / 2]! = l.getD (j / 2) default := by
  rw [getElem!_def]
  simp [List.getD_eq_getElem?_getD]
  cases l[j / 2]? <;> rfl
 rw [e1, getElem!_def]
 cases (Enc.enc (l.getD (j / 2) default))[j % 2]? <;> rfl
/-- Sorted by 'by(place.order)': the closure's one captured variable is the box b. -/
theorem fnc_sort (L : SlLaysF0.n6 P ρ) (aE : ∀ w, (isAgg (ρ.t 24)).run P w = .ok true w) (zE : ∀ w, (Go.sizeOf (ρ.t 24)).run P w = .ok 2 w) {g b : Nat} {fv : Value} {Tb E : TypeId} {l : List Cell} {a : Option Addr} {cap : Nat} (eg : ∀ args w, (callFunc g args).run P w = .ok (.enter g args) w)
  (hc : ∀ (J : List Chunk), (b, Obj.cells #[fv] Tb (0, 0)) ∈ J → ∀ x y : Cell, FnC P g #[cellV x, cellV y, pt b 0] [] J (fun v A' I' => v = .int .i64 (R1.cmpC x y) ∧ [] = A' ∧ J ⊆ I')) (hn : l.length ≤ 1000000000) :
  FnC P (ρ.f 6) #[.slice a l.length cap, .func (.func g) #[] #[pt b 0]] (Row a cap l.length E 2 (encs l) :: Box b [fv] Tb :: A) I (fun v A' I' => ∃ m, v = .tuple #[] ∧ m.Perm l ∧ m.Pairwise (fun x y => ¬ R1.less y x) ∧ A' = Row a cap m.length E 2 (encs m) :: Box b [fv] Tb :: A ∧ I = I') := by
 intro w0 w hs
 cases l with
 | nil => exact (AnyF.slices_SortFunc_none L a cap _ w).mono fun e w' ⟨he, hw⟩ => ⟨_, _, _, he, ⟨[], rfl, .refl _, .nil, rfl, rfl⟩, hw ▸ hs⟩
 | cons l0 lr =>
  generalize hl : l0 :: lr = l at *
  have hne : 0 < l.length := by rw [← hl]; simp
  clear hl
  obtain ⟨cs, h1, h2⟩ := hs
  obtain ⟨c, cs', rfl, ⟨hlen, hrow⟩, hr⟩ := h1.cons_inv
  obtain ⟨c2, cs2, rfl, hbox, hr2⟩ := hr.cons_inv
  have hbox : c2 = [(b, .cells #[fv] Tb (0, 0))] := hbox
  subst hbox
  rcases hrow with ⟨_, _, h0, _⟩ | ⟨blk, cur, rfl, rfl, hsz, hle, htk⟩
  ·omega
  have hblk : w.heap[blk]? = some (.cells cur E (0, 0)) := h2.has (blk, _) (by simp)
  have hbb : w.heap[b]? = some (.cells #[fv] Tb (0, 0)) := h2.has (b, _) (by simp)
  have hlt : blk < w.heap.size := (Array.getElem?_eq_some_iff.1 hblk).1
  have hltb : b < w.heap.size := (Array.getElem?_eq_some_iff.1 hbb).1
  have hbne : b ≠ blk := by
   have := h2.nd
   simp only [List.cons_append, List.nil_append, List.map_cons, List.nodup_cons, List.mem_cons, not_or] at this
   exact fun e => this.1.1 e.symm
  have hcur : l.length * 2 ≤ cur.size := by rw [hsz]; omega
  have hget : ∀ j, j < l.length * 2 → cur[j]? = some (((encs l)[j]?).getD default) := fun j hj => by
   have e : (encs l)[j]? = cur[j]? := by
    rw [← htk, List.getElem?_take_of_lt hj]
    simp
   have : j < cur.size := by omega
   rw [e, Array.getElem?_eq_getElem this]
   rfl
  have hother : ∀ (m : Nat) (dk : Array Cell) (os : Array Obj) (k : Nat) (o : Obj), k ≠ blk → w.heap[k]? = some o → (sortWorldK (Enc.enc (α := Cell)) 2 w blk 0 m dk os).heap[k]? = some o := fun m dk os k o hk hko => by
   have hk1 : k < w.heap.size := (Array.getElem?_eq_some_iff.1 hko).1
   show ((w.heap.modify blk _) ++ os)[k]? = some o
   rw [Array.getElem?_append_left (by simpa using hk1), Array.getElem?_modify, if_neg (fun e => hk e.symm)]
   exact hko
  have hcmp : CmpLays P g #[pt b 0] (Enc.enc (α := Cell)) 2 R1.cmpC blk 0 l.toArray.size w := fun m os dk _ x y => by
   have hm : (b, Obj.cells #[fv] Tb (0, 0)) ∈ worldI (sortWorldK (Enc.enc (α := Cell)) 2 w blk 0 m dk os) := mem_worldI.2 (hother m dk os b _ hbne hbb)
   exact (hc _ hm x y _ _ (st_world _)).mono fun e w' ⟨v, A', I', he, ⟨hv, _, hI⟩, hS⟩ => ⟨hv ▸ he, grow_of_st hS hI⟩
  have hH : HoldsK (Enc.enc (α := Cell)) 2 w blk 0 l.toArray := fun j hj => by
   have hj2 : j < l.length * 2 := by simpa using hj
   rw [flat_cells l j hj2, Nat.zero_add]
   refine ⟨?_, ?_⟩
   ·rw [cell_at hblk]; exact hget j hj2
   ·simp [World.frozen?, hblk]
  refine (AnyQ.slices_SortFunc_total L 2 aE zE (Enc.enc (α := Cell)) (fun _ => rfl) (fun x v hv => by have := Enc.one x; exact List.all_eq_true.1 this v hv) R1.cmpC swo_cells g #[pt b 0] blk 0 cap l.toArray w eg hcmp hH hlt (by simp; omega) (fun x y h1 h2 => ?_)).mono ?_
  ·have a := of_decide_eq_false h1
   have b := of_decide_eq_false h2
   rw [R1.cmpC_lt] at a b
   exact Decidable.byContradiction fun e => (R1.less_total e).elim a b
  rintro e w' ⟨rfl, n, os, rfl⟩
  obtain ⟨m, hm⟩ : ∃ m, l.toArray.toList.mergeSort (fun x y => !(ltOf R1.cmpC) y x) = m := ⟨_, rfl⟩
  rw [hm]
  have hperm : m.Perm l := by rw [← hm]; exact List.mergeSort_perm _ _
  have hml : m.length = l.length := hperm.length_eq
  have hsrt : m.Pairwise (fun x y => ¬ R1.less y x) := by
   have hle : ∀ x y : Cell, (!(ltOf R1.cmpC) y x) = true ↔ ¬ R1.less y x := fun x y => by
    unfold ltOf
    rw [Bool.not_eq_true', decide_eq_false_iff_not, R1.cmpC_lt]
   have := List.pairwise_mergeSort (le := fun x y => !(ltOf R1.cmpC) y x) (fun x y z h1 h2 => by
    rw [hle] at *
    unfold R1.less at *
    omega) (fun x y => by
    rw [Bool.or_eq_true, hle, hle]
    unfold R1.less
    omega) l.toArray.toList
   rw [hm] at this
   exact this.imp fun h => (hle _ _).1 h
  refine ⟨_, _, _, rfl, ⟨m, rfl, hperm, hsrt, rfl, rfl⟩, ?_⟩
  -- the world behind the sort
  obtain ⟨cur', hcur'⟩ : ∃ cur', putCells id 0 (flatK (Enc.enc (α := Cell)) 2 m.toArray) cur = cur' := ⟨_, rfl⟩
  have hsz' : cur'.size = cur.size := by rw [← hcur']; simp [putCells]
  have htk' : cur'.toList.take (m.length * 2) = encs m := by
   apply List.ext_getElem?
   intro j
   by_cases hj : j < m.length * 2
   ·rw [List.getElem?_take_of_lt hj, ← hcur']
    have hj2 : j < cur.size := by omega
    simp only [Array.getElem?_toList]
    unfold putCells
    rw [Array.getElem?_mapIdx, Array.getElem?_eq_getElem hj2, Option.map_some, if_pos ⟨Nat.zero_le _, by simp; omega⟩, Nat.sub_zero, flat_cells m j hj]
    have hlt2 : j < (encs m).length := by rw [encs_length]; exact hj
    rw [List.getElem?_eq_getElem hlt2]
    rfl
   ·rw [List.getElem?_eq_none (by rw [List.length_take]; omega), List.getElem?_eq_none (by rw [encs_length]; exact Nat.le_of_not_lt hj)]
  have hw := Wd.setObj (by simpa using h2) (.cells cur' E (0, 0)) (w.heap.modify blk (onCells (putCells id 0 (flatK (Enc.enc (α := Cell)) 2 m.toArray)))) (by simp) (by
   rw [Array.getElem?_modify, if_pos rfl, hblk]
   show some (Obj.cells (putCells id 0 _ cur) E (0, 0)) = _
   rw [hcur']) (fun k hk => by rw [Array.getElem?_modify, if_neg (fun e => hk e.symm)])
  have hw2 := (hw.drawn (w.drawn + n) (Nat.le_add_right _ _)).grow os
  have hw3 : Wd w0 (sortWorldK (Enc.enc (α := Cell)) 2 w blk 0 n m.toArray os) _ := hw2
  exact ⟨[(blk, .cells cur' E (0, 0))] ++ ([(b, .cells #[fv] Tb (0, 0))] ++ cs2), .cons ⟨by rw [encs_length]; rfl, .inr ⟨blk, cur', rfl, rfl, by rw [hsz', hsz], by omega, htk'⟩⟩ hr, by simpa using hw3⟩
end
end Go.GL


set_option linter.unusedVariables false
namespace Go.GL
open Go.Proofs Go.Shelf
/-! ### slices.SortFunc at cells: the kit's laying (lay-plain.mjs wrote it) -/
def lays40_ren : Go.Shelf.Ren := ⟨fun | 6 => 30 | 15 => 43 | 14 => 42 | 28 => 58 | 29 => 59 | 20 => 50 | 21 => 51 | 22 => 52 | 23 => 53 | 24 => 54 | 25 => 55 | 26 => 56 | 27 => 57 | 46 => 62 | 47 => 63 | 48 => 64 | 49 => 65 | 50 => 66 | 57 => 68 | n => n, fun | 22 => 23 | 24 => 25 | 25 => 56 | 3 => 3 | 39 => 69 | 0 => 0 | 53 => 81 | 55 => 83 | 4 => 4 | 46 => 75 | 45 => 74 | 50 => 62 | 5 => 5 | 9 => 9 | 66 => 86 | 70 => 90 | 76 => 93 | 77 => 94 | n => n, fun | n => n⟩
theorem lays40 : Go.Proofs.SlLaysF0.n6 Try.prog lays40_ren := {
 mixed := by kernel_rfl
 f6 := ⟨Try.f30.name, by decide, Try.func30.trans (congrArg some (by kernel_rfl))⟩
 f14 := ⟨Try.f42.name, by decide, Try.func42.trans (congrArg some (by kernel_rfl))⟩
 f15 := Try.func43.trans (congrArg some (by kernel_rfl))
 f20 := ⟨Try.f50.name, by decide, Try.func50.trans (congrArg some (by kernel_rfl))⟩
 f21 := ⟨Try.f51.name, by decide, Try.func51.trans (congrArg some (by kernel_rfl))⟩
 f22 := ⟨Try.f52.name, by decide, Try.func52.trans (congrArg some (by kernel_rfl))⟩
 f23 := ⟨Try.f53.name, by decide, Try.func53.trans (congrArg some (by kernel_rfl))⟩
 f24 := ⟨Try.f54.name, by decide, Try.func54.trans (congrArg some (by kernel_rfl))⟩
 f25 := ⟨Try.f55.name, by decide, Try.func55.trans (congrArg some (by kernel_rfl))⟩
 f26 := ⟨Try.f56.name, by decide, Try.func56.trans (congrArg some (by kernel_rfl))⟩
 f27 := ⟨Try.f57.name, by decide, Try.func57.trans (congrArg some (by kernel_rfl))⟩
 f28 := Try.func58.trans (congrArg some (by kernel_rfl))
 f29 := Try.func59.trans (congrArg some (by kernel_rfl))
 f46 := ⟨Try.f62.name, by decide, Try.func62.trans (congrArg some (by kernel_rfl))⟩
 f47 := Try.func63.trans (congrArg some (by kernel_rfl))
 f48 := Try.func64.trans (congrArg some (by kernel_rfl))
 f49 := ⟨Try.f65.name, by decide, Try.func65.trans (congrArg some (by kernel_rfl))⟩
 f50 := ⟨Try.f66.name, by decide, Try.func66.trans (congrArg some (by kernel_rfl))⟩
 f57 := ⟨Try.f68.name, by decide, Try.func68.trans (congrArg some (by kernel_rfl))⟩
 t0 := Try.underlying0
 a0 := Try.isAgg0
 z0 := Try.sizeOf0
 v0 := Try.zeroValue0
 t3 := Try.underlying3
 a3 := Try.isAgg3
 z3 := Try.sizeOf3
 v3 := Try.zeroValue3
 t4 := Try.underlying4
 a4 := Try.isAgg4
 z4 := Try.sizeOf4
 v4 := Try.zeroValue4
 t5 := Try.underlying5
 a5 := Try.isAgg5
 z5 := Try.sizeOf5
 v5 := Try.zeroValue5
 t9 := Try.underlying9
 a9 := Try.isAgg9
 z9 := Try.sizeOf9
 v9 := Try.zeroValue9
 t22 := Try.underlying23
 a22 := Try.isAgg23
 z22 := Try.sizeOf23
 v22 := Try.zeroValue23
 t25 := Try.underlying56
 a25 := Try.isAgg56
 z25 := Try.sizeOf56
 v25 := Try.zeroValue56
 t39 := Try.underlying69
 a39 := Try.isAgg69
 z39 := Try.sizeOf69
 v39 := Try.zeroValue69
 t45 := Try.underlying74
 a45 := Try.isAgg74
 z45 := Try.sizeOf74
 v45 := Try.zeroValue74
 t46 := Try.underlying75
 a46 := Try.isAgg75
 z46 := Try.sizeOf75
 v46 := Try.zeroValue75
 t50 := Try.underlying62
 a50 := Try.isAgg62
 z50 := Try.sizeOf62
 v50 := Try.zeroValue62
 t53 := Try.underlying81
 a53 := Try.isAgg81
 z53 := Try.sizeOf81
 v53 := Try.zeroValue81
 t55 := Try.underlying83
 a55 := Try.isAgg83
 z55 := Try.sizeOf83
 v55 := Try.zeroValue83
 t66 := Try.underlying86
 a66 := Try.isAgg86
 z66 := Try.sizeOf86
 v66 := Try.zeroValue86
 t70 := Try.underlying90
 a70 := Try.isAgg90
 z70 := Try.sizeOf90
 v70 := Try.zeroValue90
 t76 := Try.underlying93
 a76 := Try.isAgg93
 z76 := Try.sizeOf93
 v76 := Try.zeroValue93
 t77 := Try.underlying94
 a77 := Try.isAgg94
 z77 := Try.sizeOf94
 v77 := Try.zeroValue94 }
end Go.GL


set_option linter.unusedVariables false
namespace Go.GL
open Go.Proofs
attribute [local irreducible] wpList Code.wp Exit.then Exit.inBlock Ends Tri TriH OpV OpG FnC epf wpAnyH
variable {A : List Asrt} {I : List Chunk}
theorem cells_sort {l : List Cell} {a : Option Addr} {cap b : Nat} {Tb : TypeId} (hn : l.length ≤ 1000000000) :
  FnC Try.prog 30 #[.slice a l.length cap, .func (.func 44) #[] #[pt b 0]] (Row a cap l.length 25 2 (encs l) :: Box b [.func (.func 32) #[] #[]] Tb :: A) I (fun v A' I' => ∃ m, v = .tuple #[] ∧ m.Perm l ∧ m.Pairwise (fun x y => ¬ R1.less y x) ∧ A' = Row a cap m.length 25 2 (encs m) :: Box b [.func (.func 32) #[] #[]] Tb :: A ∧ I = I') :=
 fnc_sort lays40 (fun w => run_isA (P := Try.prog) (t := 25) w) (fun w => run_size (P := Try.prog) (t := 25) w) (enters_of (f := 44)) (fun J hJ x y => cells_by1 hJ) hn
end Go.GL


set_option linter.unusedVariables false
namespace Go.GL
open Go.Proofs
attribute [local irreducible] wpList Code.wp Exit.then Exit.inBlock Ends Tri TriH OpV OpG FnC epf wpAnyH
variable {A : List Asrt} {I : List Chunk}
theorem SlAt.none0 {α : Type} [Enc α] {xs : List α} {a : Option Addr} (h : SlAt I a xs) (e : a = none) : xs = [] := by
 rcases h with h | ⟨b, off, h, _⟩
 ·exact h
 ·rw [e] at h; cases h
theorem few_tuple {l : List Cell} {a : Option Addr} {cap : Nat} :
  FnC Try.prog 33 [.slice a l.length cap].toArray A I (fun v A' I' => v = .tuple [.slice (if 2000 < l.length then none else a) (if 2000 < l.length then 0 else l.length) (if 2000 < l.length then 0 else cap), .int .i64 (if 2000 < l.length then 3 else 0)].toArray ∧ A = A' ∧ I = I') :=
 cells_few.mono fun v A' I' ⟨h1, h2, h3⟩ => ⟨by
  rw [h1]
  split
  ·rfl
  ·rfl, h2, h3⟩
set_option maxHeartbeats 1000000 in
set_option maxRecDepth 100000 in
theorem cells_of {l : List Cell} {a : Option Addr} {cap : Nat} (hs : SlAt I a l) (hn : l.length ≤ 1000000000) :
  FnC Try.prog 11 [.slice a l.length cap].toArray A I (fun v A' I' => ∃ a' cap', v = .tuple [.slice a' (R1.of l).1.length cap', .int .i64 (R1.of l).2].toArray ∧ SlAt I' a' (R1.of l).1 ∧ A = A' ∧ I ⊆ I') := by
 skip
 skip
 refine fn_enter1 Try.func11 rfl Try.ntmps11 rfl fun w0 => ?_
 refine tS (tR (tA rfl rfl (tA rfl rfl (tN (tT (tS (tS ?_)))))))
 refine tR (tM rfl rfl ?_)
 refine tri_g (opg_call (xs := [_, _]) rfl (cells_containsFunc (p := fun c => decide (¬ R1.inB c)) (ca := []) (fun x _ => of1) hs hn)) rfl ?_
 rintro _ _ _ ⟨rfl, rfl, rfl⟩
 refine tN (tT ?_)
 refine tri_cond rfl (fun h1 => ?_) (fun h1 => ?_)
 ·have h1 : (l.any fun c => decide (¬ R1.inB c)) = true := h1
  refine tS (tR (tA rfl rfl (tA rfl rfl (tN (tT (tri_ret (tri_then_ret ?_)))))))
  refine tri_end A Suf.h rfl (.cons (rv_tmp rfl) (.cons (rv_tmp rfl) .nil)) ?_
  obtain ⟨d, hd, hd2⟩ := List.any_eq_true.1 h1
  rw [show R1.of l = ([], 2) from if_neg fun h2 => (of_decide_eq_true hd2) (R1.inB_iff.1 h2 d hd)]
  exact ⟨none, 0, rfl, SlAt.nil, rfl, fun _ h => h⟩
 ·have h1 : (l.any fun c => decide (¬ R1.inB c)) = false := h1
  have hin : ∀ d ∈ l, R1.inB d := fun d hd => Decidable.byContradiction fun e => by
   have := List.any_eq_false.1 h1 d hd
   exact this (decide_eq_true e)
  have hof : R1.of l = if 2000 < (R1.puts l).length then ([], 3) else (R1.puts l, 0) := if_pos (R1.inB_iff.2 hin)
  refine tri_skip (tT (tS (tR (tM rfl rfl ?_))))
  refine tri_g (opg_call (xs := [_]) rfl (clone_cells hs hn hs.none0)) rfl ?_
  rintro _ _ _ ⟨a2, cap2, rfl, rfl, rfl⟩
  refine tA rfl rfl (tN (tT (tS (tR (tM rfl rfl ?_)))))
  refine tri_g (opg_call (xs := [_]) rfl (cells_by)) rfl ?_
  rintro _ _ _ ⟨bo, rfl, rfl, rfl⟩
  skip
  refine tri_perm (A := ?a1_0 :: ?a1_1 :: ?T1) (B := ?a1_1 :: ?a1_0 :: ?T1) (by exact permL [1, 0] [?a1_0, ?a1_1] ?T1 (by decide) rfl) ?_
  refine tri_g (opg_call (xs := [_, _]) rfl (cells_sort hn)) rfl ?_
  rintro _ _ _ ⟨m, rfl, hperm, hsort, rfl, rfl⟩
  have hml : m.length = l.length := hperm.length_eq
  rw [← hml]
  refine tN (tT (tS (tR (tM rfl rfl ?_))))
  refine tri_g (opg_call (xs := [_]) rfl (cells_compact (by omega))) rfl ?_
  rintro _ _ _ ⟨rfl, rfl, rfl⟩
  rw [R1.compact_sort hperm hsort]
  skip
  refine tri_g (opg_call (xs := [_]) rfl (few_tuple)) rfl ?_
  rintro _ _ _ ⟨rfl, rfl, rfl⟩
  refine tri_v (opv_extract rfl rfl) rfl ?_
  refine tri_v (opv_extract rfl rfl) rfl ?_
  refine tA rfl rfl (tA rfl rfl (tN (tT (tri_ret ?_))))
  refine tri_freezeRow (α := Cell) rfl fun J hJ hs2 => ?_
  refine tri_end A Suf.h rfl (.cons (rv_tmp rfl) (.cons (rv_tmp rfl) .nil)) ?_
  rw [hof]
  by_cases h2 : 2000 < (R1.puts l).length
  ·rw [if_pos h2, if_pos h2, if_pos h2, if_pos h2, if_pos h2]
   exact ⟨none, 0, rfl, SlAt.nil, rfl, hJ⟩
  ·rw [if_neg h2, if_neg h2, if_neg h2, if_neg h2, if_neg h2]
   exact ⟨a2, cap2, rfl, hs2, rfl, hJ⟩
end Go.GL


set_option linter.unusedVariables false
namespace Go.GL
/-! ### Shift and Box, as the document has them -/
namespace R1
def mv (dx dy : Int) (c : Cell) : Cell := ⟨c.x + dx, c.y + dy⟩
def shift (l : List Cell) (dx dy : Int) : List Cell × Int :=
 if right l then (if ∀ i, i < l.length → inB (mv dx dy (g l i)) then (l.map (mv dx dy), 0) else ([], 2)) else ([], 1)
def mnC (a b : Cell) : Cell := ⟨if b.x < a.x then b.x else a.x, if b.y < a.y then b.y else a.y⟩
def mxC (a b : Cell) : Cell := ⟨if a.x < b.x then b.x else a.x, if a.y < b.y then b.y else a.y⟩
def lo (l : List Cell) (c : Cell) : Cell := l.foldl mnC c
def hi (l : List Cell) (c : Cell) : Cell := l.foldl mxC c
structure Rect where
 x : Int
 y : Int
 w : Int
 h : Int
 deriving DecidableEq, Inhabited
def box (l : List Cell) : Rect × Bool :=
 if l.length = 0 ∨ ¬ right l then (⟨0, 0, 0, 0⟩, false)
 else (⟨(lo l (g l 0)).x, (lo l (g l 0)).y, (hi l (g l 0)).x - (lo l (g l 0)).x + 1, (hi l (g l 0)).y - (lo l (g l 0)).y + 1⟩, true)
/-- Where the least and greatest are. -/
def bdC (c : Cell) : Prop := -1099511627776 ≤ c.x ∧ c.x ≤ 1099511627776 ∧ -1099511627776 ≤ c.y ∧ c.y ≤ 1099511627776
theorem mnC_bd {a b : Cell} (h1 : inB a) (h2 : inB b) : inB (mnC a b) := by
 unfold inB mnC at *
 simp only
 split <;> split <;> omega
theorem mxC_bd {a b : Cell} (h1 : inB a) (h2 : inB b) : inB (mxC a b) := by
 unfold inB mxC at *
 simp only
 split <;> split <;> omega
theorem lo_take (l : List Cell) (c : Cell) {i : Nat} (h : i < l.length) : lo (l.take (i + 1)) c = mnC (lo (l.take i) c) (l.getD i default) := by
 unfold lo
 rw [List.take_succ_eq_append_getElem h, List.foldl_append]
 simp [h]
theorem hi_take (l : List Cell) (c : Cell) {i : Nat} (h : i < l.length) : hi (l.take (i + 1)) c = mxC (hi (l.take i) c) (l.getD i default) := by
 unfold hi
 rw [List.take_succ_eq_append_getElem h, List.foldl_append]
 simp [h]
theorem lo_bd {l : List Cell} {c : Cell} (hc : inB c) (h : ∀ d ∈ l, inB d) : inB (lo l c) := by
 unfold lo
 induction l generalizing c with
 | nil => exact hc
 | cons a l ih => exact ih (mnC_bd hc (h a List.mem_cons_self)) fun d hd => h d (List.mem_cons_of_mem _ hd)
theorem hi_bd {l : List Cell} {c : Cell} (hc : inB c) (h : ∀ d ∈ l, inB d) : inB (hi l c) := by
 unfold hi
 induction l generalizing c with
 | nil => exact hc
 | cons a l ih => exact ih (mxC_bd hc (h a List.mem_cons_self)) fun d hd => h d (List.mem_cons_of_mem _ hd)
theorem lo_le {l : List Cell} {c : Cell} : ((lo l c).x ≤ c.x ∧ (lo l c).y ≤ c.y) ∧ ∀ d ∈ l, (lo l c).x ≤ d.x ∧ (lo l c).y ≤ d.y := by
 unfold lo
 induction l generalizing c with
 | nil => exact ⟨by simp, by simp⟩
 | cons a l ih =>
  have h := ih (c := mnC c a)
  simp only [List.foldl_cons]
  have e : (mnC c a).x ≤ c.x ∧ (mnC c a).y ≤ c.y ∧ (mnC c a).x ≤ a.x ∧ (mnC c a).y ≤ a.y := by
   unfold mnC
   simp only
   split <;> split <;> omega
  refine ⟨by omega, fun d hd => ?_⟩
  rcases List.mem_cons.1 hd with rfl | hd
  ·omega
  ·exact h.2 d hd
theorem hi_ge {l : List Cell} {c : Cell} : (c.x ≤ (hi l c).x ∧ c.y ≤ (hi l c).y) ∧ ∀ d ∈ l, d.x ≤ (hi l c).x ∧ d.y ≤ (hi l c).y := by
 unfold hi
 induction l generalizing c with
 | nil => exact ⟨by simp, by simp⟩
 | cons a l ih =>
  have h := ih (c := mxC c a)
  simp only [List.foldl_cons]
  have e : c.x ≤ (mxC c a).x ∧ c.y ≤ (mxC c a).y ∧ a.x ≤ (mxC c a).x ∧ a.y ≤ (mxC c a).y := by
   unfold mxC
   simp only
   split <;> split <;> omega
  refine ⟨by omega, fun d hd => ?_⟩
  rcases List.mem_cons.1 hd with rfl | hd
  ·omega
  ·exact h.2 d hd
theorem lo_at {l : List Cell} {c : Cell} : ((lo l c).x = c.x ∨ ∃ d ∈ l, (lo l c).x = d.x) ∧ ((lo l c).y = c.y ∨ ∃ d ∈ l, (lo l c).y = d.y) := by
 unfold lo
 induction l generalizing c with
 | nil => exact ⟨.inl rfl, .inl rfl⟩
 | cons a l ih =>
  obtain ⟨h1, h2⟩ := ih (c := mnC c a)
  simp only [List.foldl_cons]
  have e1 : (mnC c a).x = c.x ∨ (mnC c a).x = a.x := by unfold mnC; simp only; split <;> simp
  have e2 : (mnC c a).y = c.y ∨ (mnC c a).y = a.y := by unfold mnC; simp only; split <;> simp
  constructor
  ·rcases h1 with h1 | ⟨d, hd, h1⟩
   ·rcases e1 with e1 | e1
    ·exact .inl (h1.trans e1)
    ·exact .inr ⟨a, List.mem_cons_self, h1.trans e1⟩
   ·exact .inr ⟨d, List.mem_cons_of_mem _ hd, h1⟩
  ·rcases h2 with h1 | ⟨d, hd, h1⟩
   ·rcases e2 with e1 | e1
    ·exact .inl (h1.trans e1)
    ·exact .inr ⟨a, List.mem_cons_self, h1.trans e1⟩
   ·exact .inr ⟨d, List.mem_cons_of_mem _ hd, h1⟩
theorem hi_at {l : List Cell} {c : Cell} : ((hi l c).x = c.x ∨ ∃ d ∈ l, (hi l c).x = d.x) ∧ ((hi l c).y = c.y ∨ ∃ d ∈ l, (hi l c).y = d.y) := by
 unfold hi
 induction l generalizing c with
 | nil => exact ⟨.inl rfl, .inl rfl⟩
 | cons a l ih =>
  obtain ⟨h1, h2⟩ := ih (c := mxC c a)
  simp only [List.foldl_cons]
  have e1 : (mxC c a).x = c.x ∨ (mxC c a).x = a.x := by unfold mxC; simp only; split <;> simp
  have e2 : (mxC c a).y = c.y ∨ (mxC c a).y = a.y := by unfold mxC; simp only; split <;> simp
  constructor
  ·rcases h1 with h1 | ⟨d, hd, h1⟩
   ·rcases e1 with e1 | e1
    ·exact .inl (h1.trans e1)
    ·exact .inr ⟨a, List.mem_cons_self, h1.trans e1⟩
   ·exact .inr ⟨d, List.mem_cons_of_mem _ hd, h1⟩
  ·rcases h2 with h1 | ⟨d, hd, h1⟩
   ·rcases e2 with e1 | e1
    ·exact .inl (h1.trans e1)
    ·exact .inr ⟨a, List.mem_cons_self, h1.trans e1⟩
   ·exact .inr ⟨d, List.mem_cons_of_mem _ hd, h1⟩
end R1
end Go.GL


set_option linter.unusedVariables false
namespace Go.GL
/-! ### With, as the document has it -/
namespace R1
def outW (l : List Cell) (c : Cell) (alive : Bool) : List Cell := if alive = true then put l c else l.filter fun d => decide (d ≠ c)
def wth (l : List Cell) (c : Cell) (alive : Bool) : List Cell × Int :=
 if right l then (if inB c then (if 2000 < (outW l c alive).length then ([], 3) else (outW l c alive, 0)) else ([], 2)) else ([], 1)
end R1
end Go.GL


set_option linter.unusedVariables false
namespace Go.GL
open Go.Proofs
attribute [local irreducible] wpList Code.wp Exit.then Exit.inBlock Ends Tri TriH OpV OpG FnC epf wpAnyH
variable {A : List Asrt} {I : List Chunk}
set_option maxRecDepth 100000 in
theorem cells_byI {f : FuncId} : FnC Try.prog 31 [.func (.func f) #[] #[]].toArray A I (fun v A' I' => ∃ b, v = .func (.func 44) #[] #[pt b 0] ∧ (b, Obj.cells #[.func (.func f) #[] #[]] 58 (0, 0)) ∈ I' ∧ A = A' ∧ I ⊆ I') := by
 skip
 skip
 refine fn_enter1 Try.func31 rfl Try.ntmps31 rfl fun w0 => ?_
 refine tS (tR ?_)
 first | refine tri_g (opg_box_agg rfl) rfl ?_ | refine tri_g (opg_box1 rfl rfl) rfl ?_
 rintro _ _ _ ⟨b1, rfl, rfl, rfl⟩
 refine tA rfl rfl (tN (tT (tS (tR ?_))))
 refine tri_v (opv_makeFunc (fs := []) (cs := [_]) (vf := []) (vc := [_]) rfl rfl) rfl ?_
 refine tA rfl rfl (tN (tT (tri_ret ?_)))
 refine tri_freezeBox ?_
 refine tri_end _ (by first | exact ⟨[], rfl⟩ | exact ⟨[_], rfl⟩ | exact ⟨[_, _], rfl⟩ | exact ⟨[_, _, _], rfl⟩ | exact ⟨[_, _, _, _], rfl⟩ | exact ⟨[_, _, _, _, _], rfl⟩ | exact ⟨[_, _, _, _, _, _], rfl⟩ | exact ⟨[_, _, _, _, _, _, _], rfl⟩ | exact ⟨[_, _, _, _, _, _, _, _], rfl⟩) rfl (.cons (rv_tmp rfl) .nil) ⟨_, rfl, List.mem_cons_self, rfl, fun _ h => List.mem_cons_of_mem _ h⟩
namespace R1
theorem ins_put {l : List Cell} (hs : Srt l) {c : Cell} {i : Nat} (h : Pos l c i) (hc : c ∉ l) : ins l i c = put l c := by
 have hm : ∀ d, d ∈ ins l i c ↔ d = c ∨ d ∈ l := fun d => by
  unfold ins
  rw [List.mem_append, List.mem_append, List.mem_singleton]
  have : d ∈ l ↔ d ∈ l.take i ∨ d ∈ l.drop i := by rw [← List.mem_append, List.take_append_drop]
  rw [this]
  exact ⟨fun k => k.elim (fun k => k.elim (fun k => .inr (.inl k)) .inl) (fun k => .inr (.inr k)), fun k => k.elim (fun k => .inl (.inr k)) fun k => k.elim (fun k => .inl (.inl k)) .inr⟩
 refine srt_ext ?_ (put_srt hs c) fun d => by rw [hm, mem_put hs]
 unfold ins
 rw [List.append_assoc, List.singleton_append]
 refine List.pairwise_append.2 ⟨hs.sublist (List.take_sublist _ _), List.pairwise_cons.2 ⟨fun b hb => ?_, hs.sublist (List.drop_sublist _ _)⟩, fun a ha b hb => ?_⟩
 ·obtain ⟨j, hj, rfl⟩ := List.getElem_of_mem hb
  rw [List.length_drop] at hj
  rw [List.getElem_drop]
  have h1 := h.hi (i + j) (by omega) (by omega)
  have e : g l (i + j) = l[i + j] := by unfold g; simp [show i + j < l.length by omega]
  rw [e] at h1
  have hne : l[i + j] ≠ c := fun k => hc (k ▸ List.getElem_mem _)
  exact (less_total hne).resolve_left h1
 ·obtain ⟨j, hj, rfl⟩ := List.getElem_of_mem ha
  rw [List.length_take] at hj
  rw [List.getElem_take]
  have e : g l j = l[j] := by unfold g; simp [show j < l.length by omega]
  have h1 := h.lo j (by omega)
  rw [e] at h1
  rcases List.mem_cons.1 hb with rfl | hb
  ·exact h1
  ·obtain ⟨k, hk, rfl⟩ := List.getElem_of_mem hb
   rw [List.length_drop] at hk
   rw [List.getElem_drop]
   have := srt_lt hs (i := j) (j := i + k) (by omega) (by omega)
   rw [e] at this
   have e2 : g l (i + k) = l[i + k] := by unfold g; simp [show i + k < l.length by omega]
   rwa [e2] at this
theorem put_same {l : List Cell} (hs : Srt l) {c : Cell} (hc : c ∈ l) : put l c = l := srt_ext (put_srt hs c) hs fun d => by
 rw [mem_put hs]
 exact ⟨fun k => k.elim (fun k => k ▸ hc) id, .inr⟩
theorem del_filter {l : List Cell} (hs : Srt l) {c : Cell} {i : Nat} (h : Pos l c i) (hc : c ∈ l) : del l i = l.filter fun d => decide (d ≠ c) := by
 obtain ⟨hi, e⟩ := (h.mem hs).1 hc
 refine srt_ext ?_ (hs.filter _) fun d => ?_
 ·unfold del
  have : (l.take i ++ l.drop (i + 1)).Sublist l := by
   have h1 := (List.Sublist.refl (l.take i)).append (List.drop_sublist 1 (l.drop i))
   rwa [List.take_append_drop, List.drop_drop] at h1
  exact hs.sublist this
 ·unfold del
  rw [List.mem_append, List.mem_filter, decide_eq_true_iff]
  have hsplit : l = l.take i ++ c :: l.drop (i + 1) := by
   have e2 : l[i] = c := by rw [← e]; unfold g; simp [hi]
   rw [← e2, ← List.drop_eq_getElem_cons hi, List.take_append_drop]
  have hnd := srt_nodup hs
  rw [hsplit, List.nodup_append] at hnd
  obtain ⟨_, h2, h3⟩ := hnd
  constructor
  ·rintro (k | k)
   ·exact ⟨List.mem_of_mem_take k, fun e3 => h3 d k c List.mem_cons_self e3⟩
   ·exact ⟨List.mem_of_mem_drop k, fun e3 => (List.nodup_cons.1 h2).1 (e3 ▸ k)⟩
  ·rintro ⟨k1, k2⟩
   rw [hsplit, List.mem_append, List.mem_cons] at k1
   exact k1.elim .inl fun k => k.elim (fun k => absurd k k2) .inr
theorem filter_none {l : List Cell} {c : Cell} (hc : c ∉ l) : (l.filter fun d => decide (d ≠ c)) = l := List.filter_eq_self.2 fun d hd => decide_eq_true fun e => hc (e ▸ hd)
end R1
theorem wth_end {l o : List Cell} {c : Cell} {alive : Bool} {a : Option Addr} {cap : Nat} {J : List Chunk} (hr : R1.right l) (hc : R1.inB c) (ho : o = R1.outW l c alive) (hs : SlAt J a o) : ∃ a' cap', Value.tuple [.slice (if 2000 < o.length then none else a) (if 2000 < o.length then 0 else o.length) (if 2000 < o.length then 0 else cap), .int .i64 (if 2000 < o.length then 3 else 0)].toArray = .tuple [.slice a' (R1.wth l c alive).1.length cap', .int .i64 (R1.wth l c alive).2].toArray ∧ SlAt J a' (R1.wth l c alive).1 := by
 have e : R1.wth l c alive = if 2000 < o.length then ([], 3) else (o, 0) := by
  unfold R1.wth
  rw [if_pos hr, if_pos hc, ← ho]
 rw [e]
 by_cases h : 2000 < o.length
 ·rw [if_pos h, if_pos h, if_pos h, if_pos h, if_pos h]
  exact ⟨none, 0, rfl, SlAt.nil⟩
 ·rw [if_neg h, if_neg h, if_neg h, if_neg h, if_neg h]
  exact ⟨a, cap, rfl, hs⟩
set_option maxHeartbeats 2000000 in
set_option maxRecDepth 100000 in
theorem cells_with {l : List Cell} {a : Option Addr} {cap : Nat} {c : Cell} {alive : Bool} (hs : SlAt I a l) (hn : l.length ≤ 1000000000) :
  FnC Try.prog 19 [.slice a l.length cap, cellV c, .bool alive].toArray A I (fun v A' I' => ∃ a' cap', v = .tuple [.slice a' (R1.wth l c alive).1.length cap', .int .i64 (R1.wth l c alive).2].toArray ∧ SlAt I' a' (R1.wth l c alive).1 ∧ A = A' ∧ I ⊆ I') := by
 skip
 skip
 refine fn_enter3 Try.func19 rfl Try.ntmps19 rfl fun w0 => ?_
 refine tS (tR ?_)
 first | refine tri_g (opg_box_agg rfl) rfl ?_ | refine tri_g (opg_box1 rfl rfl) rfl ?_
 rintro _ _ _ ⟨b4, rfl, rfl, rfl⟩
 refine tA rfl rfl (tA rfl rfl (tN (tT (tS (tri_block (tS (tR ?_)))))))
 refine tM rfl rfl ?_
 refine tri_g (opg_call (xs := [_]) rfl (cells_right hs hn)) rfl ?_
 rintro _ _ I1 ⟨rfl, rfl, hI1⟩
 refine tri_v (by first | exact opv_notD rfl | exact opv_not rfl) rfl ?_
 refine tA rfl rfl (tN (tT ?_))
 refine tri_cond_dec rfl (fun h1 => ?_) (fun h1 => ?_)
 ·refine tS (tR (tA rfl rfl (tA rfl rfl (tN (tT (tri_ret ?_))))))
  refine tri_inBlock_ret ?_
  refine tri_then_ret ?_
  refine tri_end A Suf.h rfl (.cons (rv_tmp rfl) (.cons (rv_tmp rfl) .nil)) ?_
  rw [show R1.wth l c alive = ([], 1) from if_neg h1]
  exact ⟨none, 0, rfl, SlAt.nil, rfl, hI1⟩
 ·have hr : R1.right l := Decidable.not_not.1 h1
  have hsrt := R1.right_srt hr
  have hl2 := hr.2
  refine tS (tR ?_)
  refine tri_v (by first | exact opv_load1 rfl rfl rfl | exact opv_loadA rfl rfl rfl | exact opv_loadE1 rfl (by assumption) rfl (by omega) rfl rfl | exact opv_loadEA rfl (by assumption) rfl (by omega) rfl rfl | exact opv_loadRX1 rfl rfl (by omega) rfl rfl | exact opv_loadRXA rfl rfl (by omega) rfl rfl rfl | exact opv_loadIX rfl rfl (by omega) | exact opv_loadR1 rfl rfl rfl | exact opv_loadRA rfl rfl rfl rfl) rfl ?_
  refine tri_g (opg_call (xs := [_]) rfl (cells_in (c := c))) rfl ?_
  rintro _ _ _ ⟨rfl, rfl, rfl⟩
  refine tri_v (by first | exact opv_notD rfl | exact opv_not rfl) rfl ?_
  refine tA rfl rfl (tN (tT ?_))
  refine tri_cond_dec rfl (fun h2 => ?_) (fun h2 => ?_)
  ·refine tS (tR (tA rfl rfl (tA rfl rfl (tN (tT (tri_ret ?_))))))
   refine tri_inBlock_ret ?_
   refine tri_then_ret ?_
   refine tri_end A Suf.h rfl (.cons (rv_tmp rfl) (.cons (rv_tmp rfl) .nil)) ?_
   rw [show R1.wth l c alive = ([], 2) from (if_pos hr).trans (if_neg h2)]
   exact ⟨none, 0, rfl, SlAt.nil, rfl, hI1⟩
  ·have hc : R1.inB c := Decidable.not_not.1 h2
   refine tri_skip ?_
   refine tri_inBlock ?_
   refine tT (tS ?_)
   refine tri_draw [0, 1, 2, 3, 4, 5, 6, 7, 8] rfl [] rfl mixed ?_
   refine th_take rfl rfl (by kernel_rfl)  (opv_move rfl) ?_
   refine th_take rfl rfl (by kernel_rfl)  (by first | exact opv_load1 rfl rfl rfl | exact opv_loadA rfl rfl rfl | exact opv_loadE1 rfl (by assumption) rfl (by omega) rfl rfl | exact opv_loadEA rfl (by assumption) rfl (by omega) rfl rfl | exact opv_loadRX1 rfl rfl (by omega) rfl rfl | exact opv_loadRXA rfl rfl (by omega) rfl rfl rfl | exact opv_loadIX rfl rfl (by omega) | exact opv_loadR1 rfl rfl rfl | exact opv_loadRA rfl rfl rfl rfl) ?_
   refine th_one (by kernel_rfl) (step_m rfl rfl (opg_call (xs := [_]) rfl (cells_byI)) ?_)
   rintro _ _ I2 ⟨bo, rfl, hbo, rfl, hI2⟩
   refine ⟨Suf.h, hI2, ?_⟩
   skip
   refine th_one (by kernel_rfl) (step_m rfl rfl (opg_call (xs := [_, _, _]) rfl (cells_search (c := c) (hs.mono fun _ h => hI2 (hI1 h)) hn hsrt hbo)) ?_)
   rintro _ _ I3 ⟨i, hpos, rfl, rfl, hI3⟩
   refine ⟨Suf.h, (fun _ h => hI3 (hI2 h)), ?_⟩
   have I03 : I ⊆ I3 := fun _ h => hI3 (hI2 (hI1 h))
   have hsm := hs.mono I03
   have hpl := hpos.le
   refine th_take rfl rfl (by kernel_rfl)  (opv_move rfl) ?_
   refine th_take rfl rfl (by kernel_rfl)  (opv_extract rfl rfl) ?_
   refine th_take rfl rfl (by kernel_rfl)  (opv_extract rfl rfl) ?_
   refine th_take rfl rfl (by kernel_rfl)  (opv_assign rfl) ?_
   refine th_take rfl rfl (by kernel_rfl)  (opv_assign rfl) ?_
   refine th_done (by kernel_rfl) ?_
   refine tT (tS (tR (tM rfl rfl ?_)))
   refine tri_g (opg_call (xs := [_]) rfl (clone_cells hsm hn hsm.none0)) rfl ?_
   rintro _ _ _ ⟨a2, cap2, rfl, rfl, rfl⟩
   refine tA rfl rfl (tN (tT (tS (tri_block (tS (tR (tM rfl rfl ?_)))))))
   refine tM rfl rfl ?_
   refine tri_bool 29 rfl (fun h3 => ?_) (fun h3 => ?_)
   ·have h3 : alive = true := h3
    subst h3
    refine tri_guard_run rfl rfl rfl (tM rfl rfl (tri_guard_run rfl rfl rfl ?_))
    refine tri_v (by first | exact opv_notD rfl | exact opv_not rfl) rfl ?_
    refine tri_v (by first | exact opv_pick_t rfl rfl | exact opv_pick_f rfl rfl | exact opv_pick_bool rfl rfl rfl | exact opv_pick rfl rfl rfl) rfl ?_
    refine tA rfl rfl (tN (tT ?_))
    refine tri_cond_dec rfl (fun h4 => ?_) (fun h4 => ?_)
    ·refine tR (tM rfl rfl (tM rfl rfl ?_))
     refine tri_v (by first | exact opv_load1 rfl rfl rfl | exact opv_loadA rfl rfl rfl | exact opv_loadE1 rfl (by assumption) rfl (by omega) rfl rfl | exact opv_loadEA rfl (by assumption) rfl (by omega) rfl rfl | exact opv_loadRX1 rfl rfl (by omega) rfl rfl | exact opv_loadRXA rfl rfl (by omega) rfl rfl rfl | exact opv_loadIX rfl rfl (by omega) | exact opv_loadR1 rfl rfl rfl | exact opv_loadRA rfl rfl rfl rfl) rfl ?_
     refine tri_g (opg_buildSlice rfl rfl rfl rfl) rfl ?_
     rintro _ _ _ ⟨b36, rfl, rfl, rfl⟩
     refine tri_g (opg_call (xs := [_, _, _]) rfl (cells_insert (l := l) (i := i) (c := c) (by omega) hpl)) rfl ?_
     rintro _ _ _ ⟨a5, cap5, rfl, rfl, rfl⟩
     rw [R1.ins_put hsrt hpos h4]
     refine tA rfl rfl (tN ?_)
     refine tri_inBlock ?_
     refine tT (tS (tR (tM rfl rfl ?_)))
     refine tri_g (opg_call (xs := [_]) rfl (few_tuple)) rfl ?_
     rintro _ _ _ ⟨rfl, rfl, rfl⟩
     refine tri_v (opv_extract rfl rfl) rfl ?_
     refine tri_v (opv_extract rfl rfl) rfl ?_
     refine tA rfl rfl (tA rfl rfl (tN (tT (tri_ret ?_))))
     refine tri_freezeRow (α := Cell) rfl fun J hJ hs2 => ?_
     refine tri_end A Suf.h rfl (.cons (rv_tmp rfl) (.cons (rv_tmp rfl) .nil)) ?_
     obtain ⟨a6, c6, e6, hs6⟩ := wth_end (alive := true) (cap := cap5) hr hc rfl hs2
     exact ⟨a6, c6, e6, hs6, rfl, fun _ h => hJ (I03 h)⟩
    ·have h4 : c ∈ l := Decidable.not_not.1 h4
     refine tS (tR (tM rfl rfl ?_))
     refine tri_v (by first | exact opv_notD rfl | exact opv_not rfl) rfl ?_
     refine tM rfl rfl ?_
     refine tri_bool 41 rfl (fun h => absurd h (by decide)) (fun _ => ?_)
     refine tri_guard_skip rfl rfl rfl rfl ?_
     refine tri_v (by first | exact opv_pick_t rfl rfl | exact opv_pick_f rfl rfl | exact opv_pick_bool rfl rfl rfl | exact opv_pick rfl rfl rfl) rfl ?_
     refine tA rfl rfl (tN (tT ?_))
     refine tri_cond_false rfl ?_
     refine tri_skip ?_
     refine tri_inBlock ?_
     refine tT (tS (tR (tM rfl rfl ?_)))
     refine tri_g (opg_call (xs := [_]) rfl (few_tuple)) rfl ?_
     rintro _ _ _ ⟨rfl, rfl, rfl⟩
     refine tri_v (opv_extract rfl rfl) rfl ?_
     refine tri_v (opv_extract rfl rfl) rfl ?_
     refine tA rfl rfl (tA rfl rfl (tN (tT (tri_ret ?_))))
     refine tri_freezeRow (α := Cell) rfl fun J hJ hs2 => ?_
     refine tri_end A Suf.h rfl (.cons (rv_tmp rfl) (.cons (rv_tmp rfl) .nil)) ?_
     obtain ⟨a6, c6, e6, hs6⟩ := wth_end (alive := true) (cap := cap2) hr hc (R1.put_same hsrt h4).symm hs2
     exact ⟨a6, c6, e6, hs6, rfl, fun _ h => hJ (I03 h)⟩
   ·have h3 : alive = false := by simpa using h3
    subst h3
    refine tri_guard_skip rfl rfl rfl rfl (tri_guard_skip rfl rfl rfl rfl ?_)
    refine tri_v (by first | exact opv_pick_t rfl rfl | exact opv_pick_f rfl rfl | exact opv_pick_bool rfl rfl rfl | exact opv_pick rfl rfl rfl) rfl ?_
    refine tA rfl rfl (tN (tT ?_))
    refine tri_cond_false rfl ?_
    refine tS (tR (tM rfl rfl ?_))
    refine tri_v (by first | exact opv_notD rfl | exact opv_not rfl) rfl ?_
    refine tM rfl rfl ?_
    refine tri_bool 41 rfl (fun _ => ?_) (fun h => absurd h (by decide))
    refine tri_guard_run rfl rfl rfl (tM rfl rfl ?_)
    refine tri_v (by first | exact opv_pick_t rfl rfl | exact opv_pick_f rfl rfl | exact opv_pick_bool rfl rfl rfl | exact opv_pick rfl rfl rfl) rfl ?_
    refine tA rfl rfl (tN (tT ?_))
    refine tri_cond_dec rfl (fun h4 => ?_) (fun h4 => ?_)
    ·refine tR (tM rfl rfl (tM rfl rfl (tM rfl rfl ?_)))
     refine tri_v (by first | exact opv_add rfl rfl (w64 (by omega) (by omega))) rfl ?_
     refine tri_g (opg_call (xs := [_, _, _]) rfl (cells_delete (l := l) (i := i) (by omega) ((hpos.mem hsrt).1 h4).1)) rfl ?_
     rintro _ _ _ ⟨rfl, rfl, rfl⟩
     rw [R1.del_filter hsrt hpos h4]
     refine tA rfl rfl (tN ?_)
     refine tri_inBlock ?_
     refine tT (tS (tR (tM rfl rfl ?_)))
     refine tri_g (opg_call (xs := [_]) rfl (few_tuple)) rfl ?_
     rintro _ _ _ ⟨rfl, rfl, rfl⟩
     refine tri_v (opv_extract rfl rfl) rfl ?_
     refine tri_v (opv_extract rfl rfl) rfl ?_
     refine tA rfl rfl (tA rfl rfl (tN (tT (tri_ret ?_))))
     refine tri_freezeRow (α := Cell) rfl fun J hJ hs2 => ?_
     refine tri_end A Suf.h rfl (.cons (rv_tmp rfl) (.cons (rv_tmp rfl) .nil)) ?_
     obtain ⟨a6, c6, e6, hs6⟩ := wth_end (alive := false) (cap := cap2) hr hc rfl hs2
     exact ⟨a6, c6, e6, hs6, rfl, fun _ h => hJ (I03 h)⟩
    ·refine tri_skip ?_
     refine tri_inBlock ?_
     refine tT (tS (tR (tM rfl rfl ?_)))
     refine tri_g (opg_call (xs := [_]) rfl (few_tuple)) rfl ?_
     rintro _ _ _ ⟨rfl, rfl, rfl⟩
     refine tri_v (opv_extract rfl rfl) rfl ?_
     refine tri_v (opv_extract rfl rfl) rfl ?_
     refine tA rfl rfl (tA rfl rfl (tN (tT (tri_ret ?_))))
     refine tri_freezeRow (α := Cell) rfl fun J hJ hs2 => ?_
     refine tri_end A Suf.h rfl (.cons (rv_tmp rfl) (.cons (rv_tmp rfl) .nil)) ?_
     obtain ⟨a6, c6, e6, hs6⟩ := wth_end (alive := false) (cap := cap2) hr hc (R1.filter_none h4).symm hs2
     exact ⟨a6, c6, e6, hs6, rfl, fun _ h => hJ (I03 h)⟩
end Go.GL


set_option linter.unusedVariables false
namespace Go.GL
theorem Node.ext_iff' {a b : Node} : a = b ↔ [a.lv, a.k0, a.k1, a.k2, a.k3, a.pop] = [b.lv, b.k0, b.k1, b.k2, b.k3, b.pop] := by
 cases a; cases b; simp
theorem Node.ne_iff' {a b : Node} : a ≠ b ↔ [a.lv, a.k0, a.k1, a.k2, a.k3, a.pop] ≠ [b.lv, b.k0, b.k1, b.k2, b.k3, b.pop] := by rw [Ne, Node.ext_iff']
abbrev nodeV (x : Node) : Value := .agg [.int .i64 x.lv, .int .i64 x.k0, .int .i64 x.k1, .int .i64 x.k2, .int .i64 x.k3, .int .i64 x.pop].toArray
namespace R6
def kidOk (ns : List Node) (n : Nat) (q lv : Int) : Prop := 0 ≤ q ∧ q < n ∧ (nd ns q).lv = lv - 1
instance (ns : List Node) (n : Nat) (q lv : Int) : Decidable (kidOk ns n q lv) := inferInstanceAs (Decidable (_ ∧ _))
def fitsX (ns : List Node) (n : Nat) (x : Node) : Prop := kidOk ns n x.k0 x.lv ∧ kidOk ns n x.k1 x.lv ∧ kidOk ns n x.k2 x.lv ∧ kidOk ns n x.k3 x.lv ∧ 1 ≤ x.lv ∧ x.lv ≤ 42 ∧ x.pop = pop4 ns x.k0 x.k1 x.k2 x.k3 ∧ at_ ns x.kids = n
instance (ns : List Node) (n : Nat) (x : Node) : Decidable (fitsX ns n x) := inferInstanceAs (Decidable (_ ∧ _))
def fits (ns : List Node) (n : Nat) : Prop := fitsX ns n (ns.getD n default)
instance (ns : List Node) (n : Nat) : Decidable (fits ns n) := inferInstanceAs (Decidable (fitsX _ _ _))
def n0 : Node := ⟨0, 0, 0, 0, 0, 0⟩
def n1 : Node := ⟨0, 0, 0, 0, 0, 1⟩
def right (ns : List Node) (room : Int) : Prop := (2 ≤ room ∧ room ≤ 100000 ∧ 2 ≤ ns.length ∧ ns.length ≤ room ∧ ns.getD 0 default = n0 ∧ ns.getD 1 default = n1) ∧ ∀ i, i < ns.length → 2 ≤ i → fits ns i
instance (ns : List Node) (room : Int) : Decidable (right ns room) := inferInstanceAs (Decidable (_ ∧ _))
def Rng (ns : List Node) : Prop := ∀ x ∈ ns, -9223372036854775808 ≤ x.lv ∧ x.lv ≤ 9223372036854775807
def ModTo (ns : List Node) (n : Nat) : Prop := ∀ j, j < n → 0 ≤ (ns.getD j default).lv ∧ (ns.getD j default).lv ≤ 42 ∧ 0 ≤ (ns.getD j default).pop ∧ (ns.getD j default).pop ≤ 4611686018427387903
theorem ModTo.at {ns : List Node} {n : Nat} (h : ModTo ns n) {k : Int} (h1 : ¬ k < 0) (h2 : ¬ (n : Int) ≤ k) : 0 ≤ (ns.getD k.toNat default).lv ∧ (ns.getD k.toNat default).lv ≤ 42 ∧ 0 ≤ (ns.getD k.toNat default).pop ∧ (ns.getD k.toNat default).pop ≤ 4611686018427387903 := h k.toNat (by omega)
theorem pop4_bd {ns : List Node} {n : Nat} (h : ModTo ns n) {q0 q1 q2 q3 : Int} (h3 : 0 ≤ q3 ∧ q3 < n) (h0 : 0 ≤ q0 ∧ q0 < n) (h1 : 0 ≤ q1 ∧ q1 < n) (h2 : 0 ≤ q2 ∧ q2 < n) : 0 ≤ pop4 ns q0 q1 q2 q3 ∧ pop4 ns q0 q1 q2 q3 ≤ 4611686018427387903 := by
 have b0 := (h q0.toNat (by omega)).2.2
 have b1 := (h q1.toNat (by omega)).2.2
 have b2 := (h q2.toNat (by omega)).2.2
 have b3 := (h q3.toNat (by omega)).2.2
 unfold pop4 nd cap62
 have e0 := mn_bd (x := 0 + (ns.getD q0.toNat default).pop) (by omega)
 unfold mn
 generalize (if 4611686018427387903 < 0 + (ns.getD q0.toNat default).pop then (4611686018427387903 : Int) else 0 + (ns.getD q0.toNat default).pop) = p0 at *
 have e1 := mn_bd (x := p0 + (ns.getD q1.toNat default).pop) (by omega)
 generalize (if 4611686018427387903 < p0 + (ns.getD q1.toNat default).pop then (4611686018427387903 : Int) else p0 + (ns.getD q1.toNat default).pop) = p1 at *
 have e2 := mn_bd (x := p1 + (ns.getD q2.toNat default).pop) (by omega)
 generalize (if 4611686018427387903 < p1 + (ns.getD q2.toNat default).pop then (4611686018427387903 : Int) else p1 + (ns.getD q2.toNat default).pop) = p2 at *
 exact mn_bd (x := p2 + (ns.getD q3.toNat default).pop) (by omega)
theorem ModTo.step {ns : List Node} {n : Nat} (h : ModTo ns n) (hf : fits ns n) : ModTo ns (n + 1) := by
 intro j hj
 by_cases e : j = n
 ·subst e
  obtain ⟨⟨a0, b0, _⟩, ⟨a1, b1, _⟩, ⟨a2, b2, _⟩, ⟨a3, b3, _⟩, h5, h6, h7, _⟩ := hf
  have := pop4_bd h ⟨a3, b3⟩ ⟨a0, b0⟩ ⟨a1, b1⟩ ⟨a2, b2⟩
  rw [h7]
  exact ⟨by omega, h6, this⟩
 ·exact h j (by omega)
theorem right.modTo {ns : List Node} {room : Int} (h : right ns room) : ModTo ns ns.length := by
 have key : ∀ n, n ≤ ns.length → ModTo ns n := by
  intro n
  induction n with
  | zero => intro _ j hj; omega
  | succ n ih =>
   intro hn
   have hm := ih (by omega)
   by_cases h2 : 2 ≤ n
   ·exact hm.step (h.2 n (by omega) h2)
   ·intro j hj
    have h0 := h.1.2.2.2.2.1
    have h1 := h.1.2.2.2.2.2
    rcases (by omega : j = 0 ∨ j = 1) with rfl | rfl
    ·rw [h0]; decide
    ·rw [h1]; decide
 exact key _ (Nat.le_refl _)
theorem ModTo.mod {ns : List Node} (h : ModTo ns ns.length) : Mod ns := by
 intro x hx
 obtain ⟨i, hi, rfl⟩ := List.getElem_of_mem hx
 have := h i hi
 simpa [hi, cap62] using this
end R6
end Go.GL


set_option linter.unusedVariables false
namespace Go.GL
/-! ### Layer 2, as the document has it -/
namespace R2
def lives (alive : Bool) (n : Int) : Bool := decide (n = 3) || alive && decide (n = 2)
def near (c d : Cell) : Prop := -1 ≤ d.x - c.x ∧ d.x - c.x ≤ 1 ∧ -1 ≤ d.y - c.y ∧ d.y - c.y ≤ 1 ∧ d ≠ c
instance (c d : Cell) : Decidable (near c d) := inferInstanceAs (Decidable (_ ∧ _))
def around (l : List Cell) (c : Cell) : Int := ((l.filter fun d => decide (near c d)).length : Nat)
def nb (c : Cell) (k : Nat) : Cell := ⟨c.x + (k : Int) % 3 - 1, c.y + (k : Int) / 3 - 1⟩
def livesAt (l : List Cell) (c : Cell) : Bool := lives (decide (c ∈ l)) (around l c)
/-- What is live of the nine about the cell, from k on. -/
def about (l : List Cell) (c : Cell) : List Cell := ((List.range 9).map (nb c)).filter (livesAt l)
def cands (l : List Cell) : List Cell := l.flatMap (about l)
def next (l : List Cell) : List Cell × Int := if R1.right l then R1.of (cands l) else ([], 1)
theorem about_len (l : List Cell) (c : Cell) : (about l c).length ≤ 9 := by
 have := List.length_filter_le (livesAt l) ((List.range 9).map (nb c))
 simpa [about] using this
theorem cands_len (l m : List Cell) : (m.flatMap (about l)).length ≤ 9 * m.length := by
 induction m with
 | nil => simp
 | cons a m ih =>
  have := about_len l a
  simp only [List.flatMap_cons, List.length_append, List.length_cons]
  omega
def bd (c : Cell) : Prop := -2199023255552 ≤ c.x ∧ c.x ≤ 2199023255552 ∧ -2199023255552 ≤ c.y ∧ c.y ≤ 2199023255552
end R2
end Go.GL


set_option linter.unusedVariables false
namespace Go.GL
/-- What a function that tells a store, a node and an error comes to. -/
def StoreR (r : List Node × Int × Int) (room : Int) (A : List Asrt) (I : List Chunk) : Value → List Asrt → List Chunk → Prop :=
 fun v A' I' => ∃ a' cap', v = .tuple [storeV a' r.1.length cap' room, .int .i64 r.2.1, .int .i64 r.2.2].toArray ∧ StA I' a' cap' r.1 ∧ A = A' ∧ I ⊆ I'
namespace R6
def new (room : Int) : List Node × Int := if room < 2 ∨ 100000 < room then ([], 0) else ([n0, n1], room)
def intern (ns : List Node) (room : Int) (q0 q1 q2 q3 : Int) : List Node × Int × Int := if R6.right ns room then R6.put ns room q0 q1 q2 q3 else (ns, 0, 1)
/-- What a store keeps to while nodes are put. -/
structure Good (ns : List Node) (room : Int) : Prop where
 mod : Mod ns
 len : ns.length ≤ 1000000000
 room : room ≤ 1000000000
theorem mod_ModTo {ns : List Node} (h : Mod ns) : ModTo ns ns.length := by
 intro j hj
 exact h.at (k := j) (by omega) (by omega)
theorem Mod.snoc {ns : List Node} (h : Mod ns) {x : Node} (hx : 0 ≤ x.lv ∧ x.lv ≤ 42 ∧ 0 ≤ x.pop ∧ x.pop ≤ cap62) : Mod (ns ++ [x]) := by
 intro y hy
 rcases List.mem_append.1 hy with hy | hy
 ·exact h y hy
 ·rcases List.mem_singleton.1 hy with rfl
  exact hx
theorem fit4_pop {ns : List Node} (h : Mod ns) {q0 q1 q2 q3 : Int} (hf : fit4 ns q0 q1 q2 q3) : 0 ≤ pop4 ns q0 q1 q2 q3 ∧ pop4 ns q0 q1 q2 q3 ≤ 4611686018427387903 := by
 obtain ⟨a, ⟨b, _⟩, ⟨c, _⟩, ⟨d, _⟩, _⟩ := hf
 exact pop4_bd (mod_ModTo h) d a b c
theorem Good.put {ns : List Node} {room : Int} (h : Good ns room) (q0 q1 q2 q3 : Int) : Good (put ns room q0 q1 q2 q3).1 room := by
 unfold R6.put
 split
 ·rename_i hf
  split
  ·exact h
  ·split
   ·exact h
   ·rename_i h2
    have hp := fit4_pop h.mod hf
    have hl := h.mod.nd hf.1
    refine ⟨h.mod.snoc ⟨?_, hf.2.2.2.2, hp⟩, ?_, h.room⟩
    ·show 0 ≤ (nd ns q0).lv + 1
     omega
    ·have := h.room
     simp only [List.length_append, List.length_singleton]
     omega
 ·exact h
end R6
/-! ### Layer 7, as the document has it -/
namespace R7
def side (lv : Int) : Int := 2 ^ (lv - 1).toNat
def inL (lv : Int) (c : Cell) : Prop := -side lv ≤ c.x ∧ c.x < side lv ∧ -side lv ≤ c.y ∧ c.y < side lv
instance (lv : Int) (c : Cell) : Decidable (inL lv c) := inferInstanceAs (Decidable (_ ∧ _))
/-- Where a cell of a square lies: its quarter, and its place there. -/
def qx (half : Int) (c : Cell) : Nat := (if half ≤ c.x then 1 else 0) + (if half ≤ c.y then 2 else 0)
def qc (half : Int) (c : Cell) : Cell := ⟨if half ≤ c.x then c.x - half else c.x, if half ≤ c.y then c.y - half else c.y⟩
def part (half : Int) (k : Nat) (l : List Cell) : List Cell := (l.filter fun c => qx half c == k).map (qc half)
def emptyF (room : Int) : Nat → List Node → Int → List Node × Int × Int
 | 0, ns, n => (ns, n, 0)
 | k + 1, ns, n => if (R6.put ns room n n n n).2.2 ≠ 0 then (ns, 0, (R6.put ns room n n n n).2.2) else emptyF room k (R6.put ns room n n n n).1 (R6.put ns room n n n n).2.1
def empty (ns : List Node) (room : Int) (lv : Nat) : List Node × Int × Int := emptyF room lv ns 0
def build (room : Int) : Nat → List Node → List Cell → List Node × Int × Int
 | lv, ns, [] => empty ns room lv
 | 0, ns, _ :: _ => (ns, 1, 0)
 | lv + 1, ns, c :: l =>
  let r0 := build room lv ns (part (2 ^ lv) 0 (c :: l))
  if r0.2.2 ≠ 0 then (ns, 0, r0.2.2) else
  let r1 := build room lv r0.1 (part (2 ^ lv) 1 (c :: l))
  if r1.2.2 ≠ 0 then (r0.1, 0, r1.2.2) else
  let r2 := build room lv r1.1 (part (2 ^ lv) 2 (c :: l))
  if r2.2.2 ≠ 0 then (r1.1, 0, r2.2.2) else
  let r3 := build room lv r2.1 (part (2 ^ lv) 3 (c :: l))
  if r3.2.2 ≠ 0 then (r2.1, 0, r3.2.2) else
  R6.put r3.1 room r0.2.1 r1.2.1 r2.2.1 r3.2.1
def corner (s : Int) (l : List Cell) : List Cell := l.map fun c => ⟨c.x + s, c.y + s⟩
def make (ns : List Node) (room : Int) (l : List Cell) (lv : Int) : List Node × Int × Int :=
 if R6.right ns room ∧ 1 ≤ lv ∧ lv ≤ 42 ∧ R1.right l then
  if ∀ i, i < l.length → inL lv (R1.g l i) then
   let r := build room lv.toNat ns (corner (side lv) l)
   if r.2.2 ≠ 0 then (ns, 0, r.2.2) else r
  else (ns, 0, 2)
 else (ns, 0, 1)
def flat (ns : List Node) : Nat → Int → Cell → List Cell
 | lv, n, at_ => if (R6.nd ns n).pop = 0 then [] else match lv with
  | 0 => [at_]
  | lv + 1 => flat ns lv (R6.nd ns n).k0 at_ ++ flat ns lv (R6.nd ns n).k1 ⟨at_.x + 2 ^ lv, at_.y⟩ ++ flat ns lv (R6.nd ns n).k2 ⟨at_.x, at_.y + 2 ^ lv⟩ ++ flat ns lv (R6.nd ns n).k3 ⟨at_.x + 2 ^ lv, at_.y + 2 ^ lv⟩
def of (ns : List Node) (n : Int) : List Cell := flat ns (R6.nd ns n).lv.toNat n ⟨-side (R6.nd ns n).lv, -side (R6.nd ns n).lv⟩
end R7
end Go.GL


set_option linter.unusedVariables false
namespace Go.GL
/-! ### Layer 8, as the document has it -/
namespace R8
def may (ns : List Node) (room n lv : Int) : Prop := R6.right ns room ∧ R6.inS ns n ∧ lv ≤ (R6.nd ns n).lv
instance (ns : List Node) (room n lv : Int) : Decidable (may ns room n lv) := inferInstanceAs (Decidable (_ ∧ _))
def s16 (ns : List Node) (n : Int) : List Int :=
 let a := R6.nd ns (R6.nd ns n).k0
 let b := R6.nd ns (R6.nd ns n).k1
 let c := R6.nd ns (R6.nd ns n).k2
 let d := R6.nd ns (R6.nd ns n).k3
 [a.k0, a.k1, b.k0, b.k1, a.k2, a.k3, b.k2, b.k3, c.k0, c.k1, d.k0, d.k1, c.k2, c.k3, d.k2, d.k3]
def g (l : List Int) (i : Int) : Int := l.getD i.toNat default
def putSq (ns : List Node) (room : Int) (l : List Int) (y x : Int) : List Node × Int × Int := R6.put ns room (g l (4 * y + x)) (g l (4 * y + x + 1)) (g l (4 * y + x + 4)) (g l (4 * y + x + 5))
/-- What tells a store, nine nodes and an error. -/
abbrev R9 := List Node × List Int × Int
def z9 : List Int := [0, 0, 0, 0, 0, 0, 0, 0, 0]
def all (ns : List Node) (room n : Int) : R9 :=
 let l := s16 ns n
 let p0 := putSq ns room l 0 0
 if p0.2.2 ≠ 0 then (ns, z9, p0.2.2) else
 let p1 := putSq p0.1 room l 0 1
 if p1.2.2 ≠ 0 then (ns, z9, p1.2.2) else
 let p2 := putSq p1.1 room l 0 2
 if p2.2.2 ≠ 0 then (ns, z9, p2.2.2) else
 let p3 := putSq p2.1 room l 1 0
 if p3.2.2 ≠ 0 then (ns, z9, p3.2.2) else
 let p4 := putSq p3.1 room l 1 1
 if p4.2.2 ≠ 0 then (ns, z9, p4.2.2) else
 let p5 := putSq p4.1 room l 1 2
 if p5.2.2 ≠ 0 then (ns, z9, p5.2.2) else
 let p6 := putSq p5.1 room l 2 0
 if p6.2.2 ≠ 0 then (ns, z9, p6.2.2) else
 let p7 := putSq p6.1 room l 2 1
 if p7.2.2 ≠ 0 then (ns, z9, p7.2.2) else
 let p8 := putSq p7.1 room l 2 2
 if p8.2.2 ≠ 0 then (ns, z9, p8.2.2) else
 (p8.1, [p0.2.1, p1.2.1, p2.2.1, p3.2.1, p4.2.1, p5.2.1, p6.2.1, p7.2.1, p8.2.1], 0)
def about (l : List Int) (y x : Int) : Nat → Int
 | 0 => 0
 | i + 1 => about l y x i + if i = 4 then 0 else g l (4 * (y + (i : Int) / 3 - 1) + x + (i : Int) % 3 - 1)
def bit (l : List Int) (y x : Int) : Int := if R2.lives (decide (g l (4 * y + x) = 1)) (about l y x 9) = true then 1 else 0
def one (ns : List Node) (room n : Int) : List Node × Int × Int := R6.put ns room (bit (s16 ns n) 1 1) (bit (s16 ns n) 1 2) (bit (s16 ns n) 2 1) (bit (s16 ns n) 2 2)
def centre (ns : List Node) (room n : Int) : List Node × Int × Int := if may ns room n 2 then putSq ns room (s16 ns n) 1 1 else (ns, 0, 1)
def nine (ns : List Node) (room n : Int) : R9 := if may ns room n 2 then all ns room n else (ns, z9, 1)
def step (ns : List Node) (room n : Int) : List Node × Int × Int := if may ns room n 2 ∧ (R6.nd ns n).lv = 2 then one ns room n else (ns, 0, 1)
end R8
def Nine (r : R8.R9) (room : Int) (A : List Asrt) (I : List Chunk) : Value → List Asrt → List Chunk → Prop :=
 fun v A' I' => ∃ a' cap' q0 q1 q2 q3 q4 q5 q6 q7 q8, r.2.1 = [q0, q1, q2, q3, q4, q5, q6, q7, q8] ∧ v = .tuple [storeV a' r.1.length cap' room, .agg [.int .i64 q0, .int .i64 q1, .int .i64 q2, .int .i64 q3, .int .i64 q4, .int .i64 q5, .int .i64 q6, .int .i64 q7, .int .i64 q8].toArray, .int .i64 r.2.2].toArray ∧ StA I' a' cap' r.1 ∧ A = A' ∧ I ⊆ I'
end Go.GL


set_option linter.unusedVariables false
namespace Go.GL
/-- Five raw numbers. -/
structure Five where
 r0 : Int
 r1 : Int
 r2 : Int
 r3 : Int
 r4 : Int
 deriving DecidableEq, Inhabited
instance : Enc Five := ⟨fun x => [.int .i64 x.r0, .int .i64 x.r1, .int .i64 x.r2, .int .i64 x.r3, .int .i64 x.r4], 5, fun _ => rfl, fun _ => rfl⟩
abbrev int5V (x : Five) : Value := .agg [.int .i64 x.r0, .int .i64 x.r1, .int .i64 x.r2, .int .i64 x.r3, .int .i64 x.r4].toArray
instance : Dec Cell := ⟨fun xs => ⟨xs.getD 0 0, xs.getD 1 0⟩, fun xs h => by
 match xs, h with
 | [a, b], _ => rfl⟩
instance : Dec Node := ⟨fun xs => ⟨xs.getD 0 0, xs.getD 1 0, xs.getD 2 0, xs.getD 3 0, xs.getD 4 0, xs.getD 5 0⟩, fun xs h => by
 match xs, h with
 | [a, b, c, d, e, f], _ => rfl⟩
instance : Dec Five := ⟨fun xs => ⟨xs.getD 0 0, xs.getD 1 0, xs.getD 2 0, xs.getD 3 0, xs.getD 4 0⟩, fun xs h => by
 match xs, h with
 | [a, b, c, d, e], _ => rfl⟩
theorem cell_ok {x : Cell} (h : DecOk x) : I64 x.x ∧ I64 x.y := by
 obtain ⟨zs, h1, h2, rfl⟩ := h
 match zs, h1 with
 | [a, b], _ => exact ⟨h2 a (by simp), h2 b (by simp)⟩
/-- Which of n things a raw number speaks of. -/
def pk (c n : Int) : Int := (if c < 0 then -(c + 1) else c) % n
theorem pk_bd {c n : Int} (hn : 0 < n) : 0 ≤ pk c n ∧ pk c n < n := ⟨Int.emod_nonneg _ (by omega), Int.emod_lt_of_pos _ hn⟩
/-! ### What the laws make of raw numbers -/
namespace RL
/-- Raw numbers that a machine can hold. -/
def Cs (l : List Cell) : Prop := ∀ i, i < l.length → I64 (l.getD i default).x ∧ I64 (l.getD i default).y
def Fs (l : List Five) : Prop := ∀ i, i < l.length → I64 (l.getD i default).r0 ∧ I64 (l.getD i default).r1 ∧ I64 (l.getD i default).r2 ∧ I64 (l.getD i default).r3 ∧ I64 (l.getD i default).r4
theorem cs_ok {l : List Cell} (h : ∀ y ∈ l, DecOk y) : Cs l := fun i hi => by
 have := cell_ok (h l[i] (List.getElem_mem hi))
 simpa [hi] using this
def cell16 (r : Cell) : Cell := ⟨pk r.x 16 - 8, pk r.y 16 - 8⟩
def set (raw : List Cell) : List Cell := R1.puts ((raw.take 60).map cell16)
def lev (ns : List Node) (r : Five) : Int := if 0 < ns.length then (R6.nd ns (pk r.r4 ns.length)).lv else 0
def sameFrom (lv : Int) : Nat → List Node → List Int
 | _, [] => []
 | i, x :: ns => if x.lv = lv then (i : Int) :: sameFrom lv (i + 1) ns else sameFrom lv (i + 1) ns
def same (ns : List Node) (r : Five) : List Int := sameFrom (lev ns r) 0 ns
def one (s : List Int) (c : Int) : Int := if 0 < s.length then s.getD (pk c s.length).toNat default else 0
def kids (ns : List Node) (r : Five) : Int × Int × Int × Int := (one (same ns r) r.r0, one (same ns r) r.r1, one (same ns r) r.r2, one (same ns r) r.r3)
def room (c : Int) : Int := 2 + pk c 60
def putRaw (rm : Int) (ns : List Node) (r : Five) : List Node := (R6.intern ns rm (kids ns r).1 (kids ns r).2.1 (kids ns r).2.2.1 (kids ns r).2.2.2).1
def store (rm : Int) (raw : List Five) : List Node := (raw.take 40).foldl (putRaw rm) [R6.n0, R6.n1]
def square (rm : Int) (nodes : List Five) (raw : List Cell) (level : Int) : List Node × Int × Int := R7.make (store (room rm) nodes) (room rm + 500) (set raw) (4 + pk level 4)
def cropIn (half : Int) (c : Cell) : Prop := (-half ≤ c.x ∧ c.x < half) ∧ -half ≤ c.y ∧ c.y < half
instance (half : Int) (c : Cell) : Decidable (cropIn half c) := inferInstanceAs (Decidable (_ ∧ _))
def crop (l : List Cell) (x y half : Int) : List Cell := R1.puts ((l.map fun c => (⟨c.x - x, c.y - y⟩ : Cell)).filter fun c => decide (cropIn half c))
end RL
end Go.GL


set_option linter.unusedVariables false
namespace Go.GL
open Go.Proofs
attribute [local irreducible] wpList Code.wp Exit.then Exit.inBlock Ends Tri TriH OpV OpG FnC epf wpAnyH
variable {A : List Asrt} {I : List Chunk}
namespace R1
/-- What is out of the question at once. -/
def far (l : List Cell) (dx dy : Int) : Prop := 0 < l.length ∧ (2199023255552 < dx ∨ dx < -2199023255552 ∨ 2199023255552 < dy ∨ dy < -2199023255552)
instance (l : List Cell) (dx dy : Int) : Decidable (far l dx dy) := inferInstanceAs (Decidable (_ ∧ _))
theorem far_max {dx dy ndx ndy : Int} (h1 : I64 dx) (h2 : I64 dy) (e1 : IntKind.i64.wrap (0 - dx) = ndx) (e2 : IntKind.i64.wrap (0 - dy) = ndy) :
  (2199023255552 < mx2 (mx2 (mx2 (mx2 dx ndx) dy) ndy) 0 → 2199023255552 < dx ∨ dx < -2199023255552 ∨ 2199023255552 < dy ∨ dy < -2199023255552) ∧
  (¬ 2199023255552 < mx2 (mx2 (mx2 (mx2 dx ndx) dy) ndy) 0 → dx ≤ 2199023255552 ∧ dy ≤ 2199023255552) := by
 have a1 := h1.1
 have a2 := h1.2
 have b1 := h2.1
 have b2 := h2.2
 have key : ∀ x nx : Int, -9223372036854775808 ≤ x → x ≤ 9223372036854775807 → IntKind.i64.wrap (0 - x) = nx → nx = -x ∨ (x = -9223372036854775808 ∧ nx = -9223372036854775808) := fun x nx h1 h2 e => by
  by_cases hx : x = -9223372036854775808
  ·subst hx
   exact .inr ⟨rfl, by rw [← e]; decide⟩
  ·rw [Int.zero_sub, w64 (by omega) (by omega)] at e
   exact .inl e.symm
 have k1 := key dx ndx a1 a2 e1
 have k2 := key dy ndy b1 b2 e2
 unfold mx2
 constructor
 ·intro h
  split at h <;> split at h <;> (try split at h) <;> (try split at h) <;> (try split at h) <;> (try split at h) <;> (try split at h) <;> omega
 ·intro h
  split at h <;> split at h <;> (try split at h) <;> (try split at h) <;> (try split at h) <;> (try split at h) <;> (try split at h) <;> omega
/-- What is moved so far. -/
def fillM (l : List Cell) (dx dy : Int) (i : Nat) : List Cell := (l.take i).map (mv dx dy) ++ List.replicate (l.length - i) ⟨0, 0⟩
theorem fillM_len {l : List Cell} {dx dy : Int} {i : Nat} (h : i ≤ l.length) : (fillM l dx dy i).length = l.length := by
 unfold fillM
 simp only [List.length_append, List.length_map, List.length_take, List.length_replicate]
 omega
theorem fillM_set {l : List Cell} {dx dy : Int} {i : Nat} (h : i < l.length) : (fillM l dx dy i).set i (mv dx dy (l.getD i default)) = fillM l dx dy (i + 1) := by
 unfold fillM
 have e : ((l.take i).map (mv dx dy)).length = i := by rw [List.length_map, List.length_take]; omega
 rw [List.set_append_right _ _ (by omega), e, Nat.sub_self, show l.length - i = (l.length - (i + 1)) + 1 by omega, List.replicate_succ, List.set_cons_zero, List.take_succ_eq_append_getElem h, List.map_append, List.append_assoc]
 congr 1
 simp [h]
theorem fillM_get {l : List Cell} {dx dy : Int} {i : Nat} (h : i < l.length) : (fillM l dx dy (i + 1)).getD i default = mv dx dy (l.getD i default) := by
 rw [← fillM_set h, List.getD_eq_getElem?_getD, List.getElem?_set_self (by rw [fillM_len (by omega)]; exact h)]
 rfl
end R1
set_option maxHeartbeats 4000000 in
set_option maxRecDepth 100000 in
theorem cells_shift {l : List Cell} {a : Option Addr} {cap : Nat} {dx dy : Int} (hs : SlAt I a l) (hn : l.length ≤ 1000000000) (h64 : I64 dx) (g64 : I64 dy) :
  FnC Try.prog 23 [.slice a l.length cap, .int .i64 dx, .int .i64 dy].toArray A I (fun v A' I' => ∃ a' cap', v = .tuple [.slice a' (R1.shift l dx dy).1.length cap', .int .i64 (R1.shift l dx dy).2].toArray ∧ SlAt I' a' (R1.shift l dx dy).1 ∧ A = A' ∧ I ⊆ I') := by
 obtain ⟨ndx, e1⟩ : ∃ ndx, IntKind.i64.wrap (0 - dx) = ndx := ⟨_, rfl⟩
 obtain ⟨ndy, e2⟩ : ∃ ndy, IntKind.i64.wrap (0 - dy) = ndy := ⟨_, rfl⟩
 obtain ⟨hm1, hm2⟩ := R1.far_max h64 g64 e1 e2
 skip
 skip
 skip
 refine fn_enter3 Try.func23 rfl Try.ntmps23 rfl fun w0 => ?_
 refine tS (tR (tA rfl rfl (tA rfl rfl (tN (tT (tS (tS ?_)))))))
 refine tR (tM rfl rfl ?_)
 refine tri_g (opg_call (xs := [_]) rfl (cells_right hs hn)) rfl ?_
 rintro _ _ I1 ⟨rfl, rfl, hI1⟩
 refine tri_v (by first | exact opv_notD rfl | exact opv_not rfl) rfl ?_
 refine tN (tT ?_)
 refine tri_cond_dec rfl (fun h1 => ?_) (fun h1 => ?_)
 ·refine tS (tR (tA rfl rfl (tA rfl rfl (tN (tT (tri_ret (tri_then_ret ?_)))))))
  refine tri_end A Suf.h rfl (.cons (rv_tmp rfl) (.cons (rv_tmp rfl) .nil)) ?_
  rw [show R1.shift l dx dy = ([], 1) from if_neg h1]
  exact ⟨none, 0, rfl, SlAt.nil, rfl, hI1⟩
 ·have hr : R1.right l := Decidable.not_not.1 h1
  have hl2 := hr.2
  have hsh : R1.shift l dx dy = if ∀ i, i < l.length → R1.inB (R1.mv dx dy (R1.g l i)) then (l.map (R1.mv dx dy), 0) else ([], 2) := if_pos hr
  have hin : ∀ i, i < l.length → R1.inB (R1.g l i) := fun i hi => (hr.1 i hi).1
  have hs := hs.mono hI1
  refine tri_skip (tT (tS (tS ?_)))
  refine tri_cut (fun F' A' J => F' = [(0, .slice a l.length cap), (1, .int .i64 dx), (2, .int .i64 dy), (37, .bool (decide (R1.far l dx dy)))] ∧ A = A' ∧ I1 = J) ?_ ?_
  ·refine tR (tM rfl rfl ?_)
   refine tri_v (opv_len rfl) rfl ?_
   refine tri_v (opv_gtr rfl rfl) rfl ?_
   refine tM rfl rfl ?_
   refine tri_split rfl rfl (fun h2 => ?_) (fun h2 => ?_)
   ·have hl0 : 0 < l.length := by omega
    refine tri_guard_run rfl rfl rfl (tM rfl rfl (tri_guard_run rfl rfl rfl (tM rfl rfl (tri_guard_run rfl rfl rfl ?_))))
    refine tri_v (opv_neg rfl e1) rfl ?_
    refine tri_guard_run rfl rfl rfl (tM rfl rfl (tri_guard_run rfl rfl rfl (tM rfl rfl (tri_guard_run rfl rfl rfl ?_))))
    refine tri_v (opv_neg rfl e2) rfl ?_
    skip
    refine tri_guard_run rfl rfl rfl ?_
    refine tri_v (opv_max5 rfl rfl rfl rfl rfl) rfl ?_
    refine tri_guard_run rfl rfl rfl ?_
    refine tri_v (opv_gtr rfl rfl) rfl ?_
    refine tri_v (by first | exact opv_pick_t rfl rfl | exact opv_pick_f rfl rfl | exact opv_pick_bool rfl rfl rfl | exact opv_pick rfl rfl rfl) rfl ?_
    refine tM rfl rfl ?_
    refine tri_split rfl rfl (fun h3 => ?_) (fun h3 => ?_)
    ·refine tri_guard_skip rfl rfl rfl rfl (tri_guard_skip rfl rfl rfl rfl (tri_guard_skip rfl rfl rfl rfl (tri_guard_skip rfl rfl rfl rfl (tri_guard_skip rfl rfl rfl rfl ?_))))
     refine tri_guard_skip_u rfl rfl rfl ?_
     refine tri_guard_skip_u rfl rfl rfl ?_
     refine tri_guard_skip_u rfl rfl rfl ?_
     refine tri_guard_skip rfl rfl rfl rfl ?_
     refine tri_v (by first | exact opv_pick_t rfl rfl | exact opv_pick_f rfl rfl | exact opv_pick_bool rfl rfl rfl | exact opv_pick rfl rfl rfl) rfl ?_
     refine tN ?_
     exact tri_cutEnd _ ⟨rfl, rfl, rfl⟩ ⟨rfl, rfl, rfl, congrArg (fun b => some (Value.bool b)) (decide_eq_true (show R1.far l dx dy from ⟨hl0, hm1 h3⟩)).symm, trivial⟩
    ·have h3 := hm2 h3
     refine tri_guard_run rfl rfl rfl (tM rfl rfl (tri_guard_run rfl rfl rfl (tM rfl rfl (tri_guard_run rfl rfl rfl ?_))))
     refine tri_v (opv_min2 rfl rfl) rfl ?_
     refine tri_guard_run rfl rfl rfl ?_
     refine tri_v (opv_lss rfl rfl) rfl ?_
     refine tri_guard_run rfl rfl rfl (tM rfl rfl ?_)
     refine tri_split rfl rfl (fun h4 => ?_) (fun h4 => ?_)
     ·have hfar : R1.far l dx dy := ⟨hl0, by split at h4 <;> omega⟩
      refine tri_guard_run rfl rfl rfl (tM rfl rfl (tri_guard_run rfl rfl rfl ?_))
      refine tri_v (opv_len rfl) rfl ?_
      refine tri_guard_run rfl rfl rfl ?_
      refine tri_v (opv_gtr rfl rfl) rfl ?_
      refine tri_guard_run rfl rfl rfl ?_
      refine tri_v (by first | exact opv_pick_t rfl rfl | exact opv_pick_f rfl rfl | exact opv_pick_bool rfl rfl rfl | exact opv_pick rfl rfl rfl) rfl ?_
      refine tri_v (by first | exact opv_pick_t rfl rfl | exact opv_pick_f rfl rfl | exact opv_pick_bool rfl rfl rfl | exact opv_pick rfl rfl rfl) rfl ?_
      refine tN ?_
      exact tri_cutEnd _ ⟨rfl, rfl, rfl⟩ ⟨rfl, rfl, rfl, congrArg (fun b => some (Value.bool b)) (decide_eq_decide.2 ⟨fun _ => hfar, fun _ => by omega⟩), trivial⟩
     ·have hnot : ¬ R1.far l dx dy := fun h => by have := h.2; split at h4 <;> omega
      refine tri_guard_skip rfl rfl rfl rfl (tri_guard_skip rfl rfl rfl rfl (tri_guard_skip rfl rfl rfl rfl (tri_guard_run rfl rfl rfl ?_)))
      refine tri_v (by first | exact opv_pick_t rfl rfl | exact opv_pick_f rfl rfl | exact opv_pick_bool rfl rfl rfl | exact opv_pick rfl rfl rfl) rfl ?_
      refine tri_v (by first | exact opv_pick_t rfl rfl | exact opv_pick_f rfl rfl | exact opv_pick_bool rfl rfl rfl | exact opv_pick rfl rfl rfl) rfl ?_
      refine tN ?_
      exact tri_cutEnd _ ⟨rfl, rfl, rfl⟩ ⟨rfl, rfl, rfl, congrArg (fun b => some (Value.bool b)) (decide_eq_false hnot).symm, trivial⟩
   ·have hnot : ¬ R1.far l dx dy := fun h => by have := h.1; omega
    refine tri_guard_skip rfl rfl rfl rfl (tri_guard_skip rfl rfl rfl rfl (tri_guard_skip rfl rfl rfl rfl (tri_guard_skip rfl rfl rfl rfl (tri_guard_skip rfl rfl rfl rfl (tri_guard_skip rfl rfl rfl rfl (tri_guard_skip rfl rfl rfl rfl (tri_guard_skip rfl rfl rfl rfl ?_)))))))
    refine tri_v (by first | exact opv_pick_t rfl rfl | exact opv_pick_f rfl rfl | exact opv_pick_bool rfl rfl rfl | exact opv_pick rfl rfl rfl) rfl ?_
    refine tM rfl rfl (tri_guard_run rfl rfl rfl (tM rfl rfl (tri_guard_run rfl rfl rfl (tM rfl rfl (tri_guard_run rfl rfl rfl ?_)))))
    refine tri_v (opv_min2 rfl rfl) rfl ?_
    refine tri_guard_run rfl rfl rfl ?_
    refine tri_v (opv_lss rfl rfl) rfl ?_
    refine tri_guard_run rfl rfl rfl (tM rfl rfl ?_)
    refine tri_split rfl rfl (fun h4 => ?_) (fun h4 => ?_)
    ·refine tri_guard_run rfl rfl rfl (tM rfl rfl (tri_guard_run rfl rfl rfl ?_))
     refine tri_v (opv_len rfl) rfl ?_
     refine tri_guard_run rfl rfl rfl ?_
     refine tri_v (opv_gtr rfl rfl) rfl ?_
     refine tri_guard_run rfl rfl rfl ?_
     refine tri_v (by first | exact opv_pick_t rfl rfl | exact opv_pick_f rfl rfl | exact opv_pick_bool rfl rfl rfl | exact opv_pick rfl rfl rfl) rfl ?_
     refine tri_v (by first | exact opv_pick_t rfl rfl | exact opv_pick_f rfl rfl | exact opv_pick_bool rfl rfl rfl | exact opv_pick rfl rfl rfl) rfl ?_
     refine tN ?_
     exact tri_cutEnd _ ⟨rfl, rfl, rfl⟩ ⟨rfl, rfl, rfl, congrArg (fun b => some (Value.bool b)) (decide_eq_decide.2 ⟨fun h => by omega, fun h => absurd h hnot⟩), trivial⟩
    ·refine tri_guard_skip rfl rfl rfl rfl (tri_guard_skip rfl rfl rfl rfl (tri_guard_skip rfl rfl rfl rfl (tri_guard_run rfl rfl rfl ?_)))
     refine tri_v (by first | exact opv_pick_t rfl rfl | exact opv_pick_f rfl rfl | exact opv_pick_bool rfl rfl rfl | exact opv_pick rfl rfl rfl) rfl ?_
     refine tri_v (by first | exact opv_pick_t rfl rfl | exact opv_pick_f rfl rfl | exact opv_pick_bool rfl rfl rfl | exact opv_pick rfl rfl rfl) rfl ?_
     refine tN ?_
     exact tri_cutEnd _ ⟨rfl, rfl, rfl⟩ ⟨rfl, rfl, rfl, congrArg (fun b => some (Value.bool b)) (decide_eq_false hnot).symm, trivial⟩
  rintro _ _ _ ⟨rfl, rfl, rfl⟩
  skip
  refine tT ?_
  refine tri_cond_dec rfl (fun h5 => ?_) (fun h5 => ?_)
  ·have hbad : ¬ R1.inB (R1.mv dx dy (R1.g l 0)) := fun h => by
    have h6 := hin 0 h5.1
    have h7 := h5.2
    unfold R1.inB R1.mv at *
    simp only at h
    omega
   refine tS (tR (tA rfl rfl (tA rfl rfl (tN (tT (tri_ret (tri_then_ret ?_)))))))
   refine tri_end A Suf.h rfl (.cons (rv_tmp rfl) (.cons (rv_tmp rfl) .nil)) ?_
   rw [hsh, if_neg (fun k => hbad (k 0 h5.1))]
   exact ⟨none, 0, rfl, SlAt.nil, rfl, hI1⟩
  ·refine tri_skip (tT (tS (tR (tM rfl rfl ?_))))
   refine tri_v (opv_len rfl) rfl ?_
   refine tri_g (opg_makeSliceN rfl rfl rfl (by omega) (by omega)) rfl ?_
   rintro _ _ _ ⟨a8, ha8, rfl, rfl, rfl⟩
   rw [reps_cell0]
   refine tri_rowEq (len' := l.length) (cells' := encs (R1.fillM l dx dy 0)) rfl (by unfold R1.fillM; rw [List.take_zero, List.map_nil, List.nil_append, Nat.sub_zero]) ?_
   refine tA rfl rfl (tN (tT (tS (tS (tR (tM rfl rfl ?_))))))
   refine tri_v (opv_len rfl) rfl ?_
   refine tM rfl rfl (tN (tT (tri_block ?_)))
   refine tri_sub (F' := [(0, .slice a l.length cap), (1, .int .i64 dx), (2, .int .i64 dy), (8, .slice a8 l.length l.length), (41, .slice a l.length cap), (42, .int .i64 (l.length : Nat)), (43, .int .i64 ((0 : Nat) : Int))]) ⟨rfl, rfl, rfl, rfl, rfl, rfl, rfl, trivial⟩ ?_
   refine loop_ind (G := Nat) (fun i => l.length - i) (fun i => i ≤ l.length ∧ ∀ j, j < i → R1.inB (R1.mv dx dy (R1.g l j))) (fun i => [(0, .slice a l.length cap), (1, .int .i64 dx), (2, .int .i64 dy), (8, .slice a8 l.length l.length), (41, .slice a l.length cap), (42, .int .i64 (l.length : Nat)), (43, .int .i64 (i : Nat))]) (fun i => Row a8 l.length l.length 25 2 (encs (R1.fillM l dx dy i)) :: A) (fun _ => I1) ?_ 0 ⟨Nat.zero_le _, fun j h => absurd h (Nat.not_lt_zero _)⟩
   rintro i ⟨hi, hok⟩ K hK
   have hfl := R1.fillM_len (dx := dx) (dy := dy) hi
   skip
   refine tS (tR ?_)
   refine tri_v (opv_lss rfl rfl) rfl ?_
   refine tN (tT (tS ?_))
   refine tri_cond_dec rfl (fun h6 => ?_) (fun h6 => ?_)
   ·have hlt : i < l.length := by omega
    have hci := hin i hlt
    have hi1 : R1.g l i = l.getD i default := rfl
    rw [hi1] at hci
    have bx := hci.1
    have bx2 := hci.2.1
    have by1 := hci.2.2.1
    have by2 := hci.2.2.2
    have hnf : ¬ (2199023255552 < dx ∨ dx < -2199023255552 ∨ 2199023255552 < dy ∨ dy < -2199023255552) := fun h => h5 ⟨by omega, h⟩
    have hset := R1.fillM_set (dx := dx) (dy := dy) hlt
    have hget := R1.fillM_get (dx := dx) (dy := dy) hlt
    have hfl2 := R1.fillM_len (dx := dx) (dy := dy) (show i + 1 ≤ l.length by omega)
    refine tri_skip (tT (tS (tri_block (tS (tR (tM rfl rfl ?_))))))
    refine tri_v (by first | exact opv_indexAddrA rfl rfl (by first | decide | omega) (by first | decide | omega) | exact opv_indexAddrSN rfl rfl (by omega) (by assumption) rfl | exact opv_indexAddrS rfl rfl (by omega) (by omega) (by assumption) rfl | exact opv_indexAddrE rfl (by assumption) (by omega) rfl (by first | decide | omega) (by first | decide | omega) | exact opv_indexAddrRN rfl rfl (by omega) | exact opv_indexAddrR rfl rfl (by omega) (by omega) | exact opv_indexAddrRA rfl (by omega) rfl (by first | decide | omega) (by first | decide | omega) | exact opv_indexAddrSP rfl rfl (by omega) (by omega) | exact opv_indexAddrSN rfl rfl (by omega) (by assumption) (by omega) | exact opv_indexAddrS rfl rfl (by omega) (by omega) (by assumption) (by omega)) rfl ?_
    refine tri_v (by first | exact opv_load1 rfl rfl rfl | exact opv_loadA rfl rfl rfl | exact opv_loadE1 rfl (by assumption) rfl (by omega) rfl rfl | exact opv_loadEA rfl (by assumption) rfl (by omega) rfl rfl | exact opv_loadRX1 rfl rfl (by omega) rfl rfl | exact opv_loadRXA rfl rfl (by omega) rfl rfl rfl | exact opv_loadIX rfl rfl (by omega) | exact opv_loadR1 rfl rfl rfl | exact opv_loadRA rfl rfl rfl rfl) rfl ?_
    refine tri_g opg_alloc rfl ?_
    rintro _ _ _ ⟨b10, rfl, rfl, rfl⟩
    refine tA rfl rfl ?_
    refine tri_g (opg_store rfl rfl rfl rfl rfl rfl) rfl ?_
    rintro _ _ _ ⟨rfl, rfl⟩
    refine tN (tT (tS (tR (tM rfl rfl (tM rfl rfl ?_)))))
    refine tri_v (by first | exact opv_fieldAddr rfl rfl | exact opv_fieldAddrE rfl (by assumption) (by omega) rfl | exact opv_fieldAddrR rfl (by omega) rfl | exact opv_fieldAddrP rfl rfl rfl) rfl ?_
    refine tri_v (by first | exact opv_load1 rfl rfl rfl | exact opv_loadA rfl rfl rfl | exact opv_loadE1 rfl (by assumption) rfl (by omega) rfl rfl | exact opv_loadEA rfl (by assumption) rfl (by omega) rfl rfl | exact opv_loadRX1 rfl rfl (by omega) rfl rfl | exact opv_loadRXA rfl rfl (by omega) rfl rfl rfl | exact opv_loadIX rfl rfl (by omega) | exact opv_loadR1 rfl rfl rfl | exact opv_loadRA rfl rfl rfl rfl) rfl ?_
    refine tM rfl rfl ?_
    refine tri_v (by first | exact opv_add rfl rfl (w64 (by omega) (by omega))) rfl ?_
    refine tri_v (by first | exact opv_fieldAddr rfl rfl | exact opv_fieldAddrE rfl (by assumption) (by omega) rfl | exact opv_fieldAddrR rfl (by omega) rfl | exact opv_fieldAddrP rfl rfl rfl) rfl ?_
    refine tri_v (by first | exact opv_load1 rfl rfl rfl | exact opv_loadA rfl rfl rfl | exact opv_loadE1 rfl (by assumption) rfl (by omega) rfl rfl | exact opv_loadEA rfl (by assumption) rfl (by omega) rfl rfl | exact opv_loadRX1 rfl rfl (by omega) rfl rfl | exact opv_loadRXA rfl rfl (by omega) rfl rfl rfl | exact opv_loadIX rfl rfl (by omega) | exact opv_loadR1 rfl rfl rfl | exact opv_loadRA rfl rfl rfl rfl) rfl ?_
    refine tM rfl rfl ?_
    refine tri_v (by first | exact opv_add rfl rfl (w64 (by omega) (by omega))) rfl ?_
    refine tri_v (by first | exact opv_buildS rfl rfl | exact opv_buildA rfl rfl) rfl ?_
    refine tri_v (by first | exact opv_indexAddrA rfl rfl (by first | decide | omega) (by first | decide | omega) | exact opv_indexAddrSN rfl rfl (by omega) (by assumption) rfl | exact opv_indexAddrS rfl rfl (by omega) (by omega) (by assumption) rfl | exact opv_indexAddrE rfl (by assumption) (by omega) rfl (by first | decide | omega) (by first | decide | omega) | exact opv_indexAddrRN rfl rfl (by omega) | exact opv_indexAddrR rfl rfl (by omega) (by omega) | exact opv_indexAddrRA rfl (by omega) rfl (by first | decide | omega) (by first | decide | omega) | exact opv_indexAddrSP rfl rfl (by omega) (by omega) | exact opv_indexAddrSN rfl rfl (by omega) (by assumption) (by omega) | exact opv_indexAddrS rfl rfl (by omega) (by omega) (by assumption) (by omega)) rfl ?_
    refine tri_g (opg_storeRX (R1.mv dx dy (l.getD i default)) rfl rfl rfl (by omega) (by omega) rfl rfl rfl rfl) rfl ?_
    rintro _ _ _ ⟨rfl, rfl⟩
    rw [hset]
    refine tN (tT (tS (tR (tM rfl rfl (tM rfl rfl ?_)))))
    refine tri_v (by first | exact opv_indexAddrA rfl rfl (by first | decide | omega) (by first | decide | omega) | exact opv_indexAddrSN rfl rfl (by omega) (by assumption) rfl | exact opv_indexAddrS rfl rfl (by omega) (by omega) (by assumption) rfl | exact opv_indexAddrE rfl (by assumption) (by omega) rfl (by first | decide | omega) (by first | decide | omega) | exact opv_indexAddrRN rfl rfl (by omega) | exact opv_indexAddrR rfl rfl (by omega) (by omega) | exact opv_indexAddrRA rfl (by omega) rfl (by first | decide | omega) (by first | decide | omega) | exact opv_indexAddrSP rfl rfl (by omega) (by omega) | exact opv_indexAddrSN rfl rfl (by omega) (by assumption) (by omega) | exact opv_indexAddrS rfl rfl (by omega) (by omega) (by assumption) (by omega)) rfl ?_
    refine tri_v (by first | exact opv_load1 rfl rfl rfl | exact opv_loadA rfl rfl rfl | exact opv_loadE1 rfl (by assumption) rfl (by omega) rfl rfl | exact opv_loadEA rfl (by assumption) rfl (by omega) rfl rfl | exact opv_loadRX1 rfl rfl (by omega) rfl rfl | exact opv_loadRXA rfl rfl (by omega) rfl rfl rfl | exact opv_loadIX rfl rfl (by omega) | exact opv_loadR1 rfl rfl rfl | exact opv_loadRA rfl rfl rfl rfl) rfl ?_
    refine tri_g (opg_call (xs := [_]) rfl (cells_in (c := (R1.fillM l dx dy (i + 1)).getD i default))) rfl ?_
    rintro _ _ _ ⟨rfl, rfl, rfl⟩
    rw [hget]
    refine tri_v (by first | exact opv_notD rfl | exact opv_not rfl) rfl ?_
    refine tN (tT ?_)
    refine tri_cond_dec rfl (fun h7 => ?_) (fun h7 => ?_)
    ·refine tS (tR (tA rfl rfl (tA rfl rfl (tN (tT (tri_ret ?_))))))
     refine tri_inBlock_ret ?_
     refine tri_then_ret (tri_then_ret ?_)
     refine tri_inBlock_ret ?_
     refine tri_then_ret ?_
     refine tri_end A Suf.h rfl (.cons (rv_tmp rfl) (.cons (rv_tmp rfl) .nil)) ?_
     rw [hsh, if_neg (fun k => h7 (k i hlt))]
     exact ⟨none, 0, rfl, SlAt.nil, rfl, hI1⟩
    ·have h7 : R1.inB (R1.mv dx dy (R1.g l i)) := Decidable.not_not.1 h7
     refine tri_skip ?_
     refine tri_inBlock ?_
     refine tT (tR ?_)
     refine tri_v (by first | exact opv_add rfl rfl (w64 (by omega) (by omega))) rfl ?_
     refine tM rfl rfl (tN (tT ?_))
     refine tri_drop ?_
     refine tri_sub ?_ (hK (i + 1) ⟨by omega, fun j hj => ?_⟩ (by omega))
     ·exact ⟨rfl, rfl, rfl, rfl, rfl, rfl, rfl, trivial⟩
     ·by_cases e : j = i
      ·subst e; exact h7
      ·exact hok j (by omega)
   ·have e : i = l.length := by omega
    subst e
    have efl : R1.fillM l dx dy l.length = l.map (R1.mv dx dy) := by unfold R1.fillM; rw [List.take_length, Nat.sub_self, List.replicate_zero, List.append_nil]
    rw [efl]
    clear hK
    have hml : (l.map (R1.mv dx dy)).length = l.length := List.length_map _
    generalize hmm : l.map (R1.mv dx dy) = m at *
    refine tri_exit ?_
    refine tri_then_exit ?_
    refine tri_then_exit ?_
    refine tri_inBlock_hit rfl ?_
    refine tT (tS (tR (tM rfl rfl (tA rfl rfl (tA rfl rfl (tN (tT ?_)))))))
    refine tri_ret ?_
    rw [← hml]
    refine tri_freezeRow (α := Cell) rfl fun J hJ hs2 => ?_
    refine tri_end A Suf.h rfl (.cons (rv_tmp rfl) (.cons (rv_tmp rfl) .nil)) ?_
    rw [hsh, if_pos (fun j hj => hok j hj)]
    exact ⟨a8, m.length, rfl, hs2, rfl, fun _ h => hJ (hI1 h)⟩
end Go.GL


set_option linter.unusedVariables false
namespace Go.GL
open Go.Proofs
attribute [local irreducible] wpList Code.wp Exit.then Exit.inBlock Ends Tri TriH OpV OpG FnC epf wpAnyH
variable {A : List Asrt} {I : List Chunk}
set_option maxRecDepth 100000 in
theorem ref01_less {a b : Cell} : FnC Try.prog 36 [cellV a, cellV b].toArray A I (fun v A' I' => v = .bool (decide (R1.less a b)) ∧ A = A' ∧ I = I') := by
 refine fn_enter2 Try.func36 rfl Try.ntmps36 rfl fun w0 => ?_
 refine tS (tR ?_)
 refine tri_g (opg_box_agg rfl) rfl ?_
 rintro _ _ _ ⟨b, rfl, rfl, rfl⟩
 refine tri_g (opg_box_agg rfl) rfl ?_
 rintro _ _ _ ⟨b, rfl, rfl, rfl⟩
 refine tA rfl rfl (tN (tT (tS (tR ?_))))
 refine tri_v (opv_fieldAddr rfl rfl) rfl ?_
 refine tri_v (opv_load1 rfl rfl rfl) rfl ?_
 refine tri_v (opv_fieldAddr rfl rfl) rfl ?_
 refine tri_v (opv_load1 rfl rfl rfl) rfl ?_
 refine tri_v (opv_lss rfl rfl) rfl ?_
 refine tM rfl rfl ?_
 refine tri_split rfl rfl (fun h1 => ?_) (fun h1 => ?_)
 ·refine tri_guard_skip rfl rfl rfl rfl (tri_guard_skip rfl rfl rfl rfl (tri_guard_skip rfl rfl rfl rfl (tri_guard_skip rfl rfl rfl rfl (tri_guard_skip rfl rfl rfl rfl (tri_guard_skip rfl rfl rfl rfl ?_)))))
  refine tri_guard_skip_u rfl rfl rfl ?_
  refine tri_guard_skip_u rfl rfl rfl ?_
  refine tri_guard_skip_u rfl rfl rfl ?_
  refine tri_guard_skip_u rfl rfl rfl ?_
  refine tri_guard_skip_u rfl rfl rfl ?_
  refine tri_guard_skip rfl rfl rfl rfl ?_
  refine tri_v (opv_pick_t rfl rfl) rfl ?_
  refine tA rfl rfl (tN (tT (tri_ret ?_)))
  refine tri_end A Suf.h rfl (.cons (rv_tmp rfl) .nil) ⟨congrArg Value.bool ?_, rfl, rfl⟩
  unfold R1.less; simp [h1]
 ·refine tri_guard_run rfl rfl rfl ?_
  refine tri_v (opv_fieldAddr rfl rfl) rfl ?_
  refine tri_guard_run rfl rfl rfl ?_
  refine tri_v (opv_load1 rfl rfl rfl) rfl ?_
  refine tri_guard_run rfl rfl rfl ?_
  refine tri_v (opv_fieldAddr rfl rfl) rfl ?_
  refine tri_guard_run rfl rfl rfl ?_
  refine tri_v (opv_load1 rfl rfl rfl) rfl ?_
  refine tri_guard_run rfl rfl rfl ?_
  refine tri_v (opv_eql rfl rfl) rfl ?_
  refine tri_guard_run rfl rfl rfl (tM rfl rfl ?_)
  refine tri_split rfl rfl (fun h2 => ?_) (fun h2 => ?_)
  ·refine tri_guard_run rfl rfl rfl ?_
   refine tri_v (opv_fieldAddr rfl rfl) rfl ?_
   refine tri_guard_run rfl rfl rfl ?_
   refine tri_v (opv_load1 rfl rfl rfl) rfl ?_
   refine tri_guard_run rfl rfl rfl ?_
   refine tri_v (opv_fieldAddr rfl rfl) rfl ?_
   refine tri_guard_run rfl rfl rfl ?_
   refine tri_v (opv_load1 rfl rfl rfl) rfl ?_
   refine tri_guard_run rfl rfl rfl ?_
   refine tri_v (opv_lss rfl rfl) rfl ?_
   refine tri_guard_run rfl rfl rfl ?_
   refine tri_v (opv_pick_t rfl rfl) rfl ?_
   refine tri_v (opv_pick_f rfl rfl) rfl ?_
   refine tA rfl rfl (tN (tT (tri_ret ?_)))
   refine tri_end A Suf.h rfl (.cons (rv_tmp rfl) .nil) ⟨congrArg Value.bool ?_, rfl, rfl⟩
   unfold R1.less; simp [h2]
  ·refine tri_guard_skip rfl rfl rfl rfl (tri_guard_skip rfl rfl rfl rfl (tri_guard_skip rfl rfl rfl rfl (tri_guard_skip rfl rfl rfl rfl (tri_guard_skip rfl rfl rfl rfl (tri_guard_run rfl rfl rfl ?_)))))
   refine tri_v (opv_pick_f rfl rfl) rfl ?_
   refine tri_v (opv_pick_f rfl rfl) rfl ?_
   refine tA rfl rfl (tN (tT (tri_ret ?_)))
   refine tri_end A Suf.h rfl (.cons (rv_tmp rfl) .nil) ⟨congrArg Value.bool ?_, rfl, rfl⟩
   unfold R1.less; simp [h1, h2]
end Go.GL


set_option linter.unusedVariables false
namespace Go.GL
open Go.Proofs
attribute [local irreducible] wpList Code.wp Exit.then Exit.inBlock Ends Tri TriH OpV OpG FnC epf wpAnyH
variable {A : List Asrt} {I : List Chunk}
set_option maxRecDepth 100000 in
theorem ref01_same {l m : List Cell} {a b : Option Addr} {cap cap2 : Nat} (hs : SlAt I a l) (ht : SlAt I b m) (hn : l.length ≤ 1000000000) :
  FnC Try.prog 13 [.slice a l.length cap, .slice b m.length cap2].toArray A I (fun v A' I' => v = .bool (decide (l = m)) ∧ A = A' ∧ I = I') := by
 refine fn_enter2 Try.func13 rfl Try.ntmps13 rfl fun w0 => ?_
 refine tS (tR (tA rfl rfl (tN (tT (tS (tS (tR ?_)))))))
 refine tM rfl rfl ?_
 refine tri_v (opv_len rfl) rfl ?_
 refine tM rfl rfl ?_
 refine tri_v (opv_len rfl) rfl ?_
 refine tri_v (opv_neq rfl rfl) rfl ?_
 refine tN (tT ?_)
 refine tri_cond_dec rfl (fun h0 => ?_) (fun h0 => ?_)
 ·refine tS (tR (tA rfl rfl (tN (tT (tri_ret (tri_then_ret ?_))))))
  refine tri_end A Suf.h rfl (.cons (rv_tmp rfl) .nil) ⟨congrArg Value.bool ?_, rfl, rfl⟩
  exact (decide_eq_false fun h => h0 (by rw [h])).symm
 refine tri_skip (tT (tS (tS (tR (tA rfl rfl (tN (tT ?_)))))))
 refine tri_block ?_
 have hlen : l.length = m.length := by omega
 refine tri_sub (F' := [(0, .slice a l.length cap), (1, .slice b m.length cap2), (5, .int .i64 (0 : Nat))]) ⟨rfl, rfl, rfl, trivial⟩ ?_
 refine loop_ind (G := Nat) (fun i => l.length - i) (fun i => i ≤ l.length ∧ ∀ j, j < i → l.getD j default = m.getD j default) (fun i => [(0, .slice a l.length cap), (1, .slice b m.length cap2), (5, .int .i64 (i : Nat))]) (fun _ => _) (fun _ => _) ?_ 0 ⟨by omega, fun j h => absurd h (by omega)⟩
 rintro i ⟨hi, hok⟩ K hK
 skip
 refine tS (tS (tR (tM rfl rfl (tM rfl rfl ?_))))
 refine tri_v (opv_len rfl) rfl ?_
 refine tri_v (opv_lss rfl rfl) rfl ?_
 refine tN (tT ?_)
 refine tri_cond_dec rfl (fun h => ?_) (fun h => ?_)
 ·refine tri_skip (tT (tS (tri_block (tS ?_))))
  refine tri_draw [0, 1, 2, 3, 4, 5, 6, 7, 8] rfl [] rfl mixed ?_
  refine th_take rfl rfl (by kernel_rfl)  (opv_move rfl) ?_
  refine th_take rfl rfl (by kernel_rfl)  (opv_move rfl) ?_
  refine th_take rfl rfl (by kernel_rfl)  (opv_indexAddrSN rfl rfl (by omega) (by assumption) rfl) ?_
  refine th_take rfl rfl (by kernel_rfl)  (opv_loadEA rfl (by assumption) rfl (by omega) rfl rfl) ?_
  refine th_take rfl rfl (by kernel_rfl)  (opv_move rfl) ?_
  refine th_take rfl rfl (by kernel_rfl)  (opv_move rfl) ?_
  refine th_take rfl rfl (by kernel_rfl)  (opv_indexAddrSN rfl rfl (by omega) (by assumption) rfl) ?_
  refine th_take rfl rfl (by kernel_rfl)  (opv_loadEA rfl (by assumption) rfl (by omega) rfl rfl) ?_
  refine th_take rfl rfl (by kernel_rfl)  (opv_neqI rfl rfl rfl rfl rfl rfl) ?_
  refine th_done (by kernel_rfl) ?_
  refine tT ?_
  refine tri_cond_dec rfl (fun h1 => ?_) (fun h1 => ?_)
  ·refine tS (tR (tA rfl rfl (tN (tT (tri_ret ?_)))))
   refine tri_inBlock_ret ?_
   refine tri_then_ret (tri_then_ret ?_)
   refine tri_inBlock_ret ?_
   refine tri_then_ret ?_
   refine tri_end A Suf.h rfl (.cons (rv_tmp rfl) .nil) ⟨congrArg Value.bool ?_, rfl, rfl⟩
   exact (decide_eq_false fun h => Cell.ne_iff'.2 h1 (by rw [h])).symm
  ·refine tri_skip ?_
   refine tri_inBlock ?_
   refine tT (tR (tM rfl rfl ?_))
   refine tU rfl rfl (by omega) (by omega) rfl ?_
   refine tA rfl rfl (tN (tT ?_))
   refine tri_sub ?_ (hK (i + 1) ⟨by omega, fun j hj => ?_⟩ (by omega))
   ·exact ⟨rfl, rfl, rfl, trivial⟩
   ·by_cases e : j = i
    ·subst e
     exact Decidable.not_not.1 fun h => h1 (Cell.ne_iff'.1 h)
    ·exact hok j (by omega)
 ·refine tri_exit ?_
  refine tri_then_exit ?_
  refine tri_then_exit ?_
  refine tri_inBlock_hit rfl ?_
  refine tT (tS (tR (tA rfl rfl (tN (tT (tri_ret ?_))))))
  refine tri_end A Suf.h rfl (.cons (rv_tmp rfl) .nil) ⟨congrArg Value.bool ?_, rfl, rfl⟩
  refine (decide_eq_true (List.ext_getElem hlen fun j h1 h2 => ?_)).symm
  have := hok j (by omega)
  simpa [h1, h2] using this
end Go.GL


set_option linter.unusedVariables false
namespace Go.GL
open Go.Proofs
attribute [local irreducible] wpList Code.wp Exit.then Exit.inBlock Ends Tri TriH OpV OpG FnC epf wpAnyH
variable {A : List Asrt} {I : List Chunk}
set_option maxHeartbeats 1000000 in
set_option maxRecDepth 100000 in
theorem ref01_putA {l : List Cell} {a : Option Addr} {cap : Nat} {c : Cell} (hs : SlAt I a l) (hn : l.length ≤ 1000000000) :
  FnC Try.prog 25 [.slice a l.length cap, cellV c].toArray A I (fun v A' I' => ∃ a' cap', v = .slice a' (R1.put l c).length cap' ∧ StA I' a' cap' (R1.put l c) ∧ A = A' ∧ I ⊆ I') := by
 refine fn_enter2 Try.func25 rfl Try.ntmps25 rfl fun w0 => ?_
 refine tS (tR ?_)
 first | refine tri_g (opg_box_agg rfl) rfl ?_ | refine tri_g (opg_box1 rfl rfl) rfl ?_
 rintro _ _ _ ⟨b, rfl, rfl, rfl⟩
 refine tA rfl rfl (tN (tT (tS (tR (tA rfl rfl (tN (tT ?_)))))))
 refine tS (tR (tA rfl rfl (tN (tT (tS (tS (tR ?_)))))))
 refine tA rfl rfl (tN (tT (tri_block ?_)))
 refine tri_nilRow (E := 25) (sz := 2) ?_
 refine tri_sub (F' := [(0, .slice a l.length cap), (3, pt b 0), (5, .slice none 0 0), (6, .bool false), (7, .int .i64 (0 : Nat))]) ⟨rfl, rfl, rfl, rfl, rfl, trivial⟩ ?_
 refine loop_ind (G := Nat × List Cell × Bool × Option Addr × Nat) (fun g => l.length - g.1) (fun g => g.1 ≤ l.length ∧ g.2.1.length ≤ 2 * g.1 ∧ R1.put l c = g.2.1 ++ R1.putF c g.2.2.1 (l.drop g.1)) (fun g => [(0, .slice a l.length cap), (3, pt b 0), (5, .slice g.2.2.2.1 g.2.1.length g.2.2.2.2), (6, .bool g.2.2.1), (7, .int .i64 (g.1 : Nat))]) (fun g => Row g.2.2.2.1 g.2.2.2.2 g.2.1.length 25 2 (encs g.2.1) :: Box b [.int .i64 c.x, .int .i64 c.y] 25 :: A) (fun _ => I) ?_ (0, [], false, none, 0) ⟨by omega, by simp, rfl⟩
 rintro ⟨i, acc, dn, a1, cap1⟩ ⟨hi, hal, hp⟩ K hK
 simp only at hi hal hp hK ⊢
 skip
 refine tS (tS (tR (tM rfl rfl (tM rfl rfl ?_))))
 refine tri_v (opv_len rfl) rfl ?_
 refine tri_v (opv_lss rfl rfl) rfl ?_
 refine tN (tT ?_)
 refine tri_cond_dec rfl (fun h => ?_) (fun h => ?_)
 ·refine tri_skip (tT (tS (tri_block (tS (tS ?_)))))
  refine tri_draw [0, 1, 2, 3, 4, 5, 6, 7, 8, 9, 10, 11, 12, 13, 14, 15, 16, 17] rfl [] rfl mixed ?_
  refine th_take rfl rfl (by kernel_rfl)  (opv_move rfl) ?_
  refine th_take rfl rfl (by kernel_rfl)  (by first | exact opv_notD rfl | exact opv_not rfl) ?_
  refine th_take rfl rfl (by kernel_rfl)  (opv_move rfl) ?_
  have hlt : i < l.length := by omega
  have hd : l.drop i = l.getD i default :: l.drop (i + 1) := by rw [List.drop_eq_getElem_cons hlt]; simp [hlt]
  rw [hd] at hp
  refine th_bool 16 rfl (fun hd1 => ?_) (fun hd1 => ?_)
  ·have dn0 : dn = false := by simpa using hd1
   subst dn0
   refine th_take_g rfl rfl rfl rfl rfl (by kernel_rfl)  (opv_move rfl) ?_
   refine th_take_g rfl rfl rfl rfl rfl (by kernel_rfl)  (opv_move rfl) ?_
   refine th_take_g rfl rfl rfl rfl rfl (by kernel_rfl)  (by first | exact opv_indexAddrA rfl rfl (by first | decide | omega) (by first | decide | omega) | exact opv_indexAddrSN rfl rfl (by omega) (by assumption) rfl | exact opv_indexAddrS rfl rfl (by omega) (by omega) (by assumption) rfl | exact opv_indexAddrE rfl (by assumption) (by omega) rfl (by first | decide | omega) (by first | decide | omega) | exact opv_indexAddrRN rfl rfl (by omega) | exact opv_indexAddrR rfl rfl (by omega) (by omega) | exact opv_indexAddrRA rfl (by omega) rfl (by first | decide | omega) (by first | decide | omega) | exact opv_indexAddrSP rfl rfl (by omega) (by omega) | exact opv_indexAddrSN rfl rfl (by omega) (by assumption) (by omega) | exact opv_indexAddrS rfl rfl (by omega) (by omega) (by assumption) (by omega)) ?_
   refine th_take_g rfl rfl rfl rfl rfl (by kernel_rfl)  (by first | exact opv_load1 rfl rfl rfl | exact opv_loadA rfl rfl rfl | exact opv_loadE1 rfl (by assumption) rfl (by omega) rfl rfl | exact opv_loadEA rfl (by assumption) rfl (by omega) rfl rfl | exact opv_loadRX1 rfl rfl (by omega) rfl rfl | exact opv_loadRXA rfl rfl (by omega) rfl rfl rfl | exact opv_loadIX rfl rfl (by omega) | exact opv_loadR1 rfl rfl rfl | exact opv_loadRA rfl rfl rfl rfl) ?_
   refine th_take_g rfl rfl rfl rfl rfl (by kernel_rfl)  (by first | exact opv_load1 rfl rfl rfl | exact opv_loadA rfl rfl rfl | exact opv_loadE1 rfl (by assumption) rfl (by omega) rfl rfl | exact opv_loadEA rfl (by assumption) rfl (by omega) rfl rfl | exact opv_loadRX1 rfl rfl (by omega) rfl rfl | exact opv_loadRXA rfl rfl (by omega) rfl rfl rfl | exact opv_loadIX rfl rfl (by omega) | exact opv_loadR1 rfl rfl rfl | exact opv_loadRA rfl rfl rfl rfl) ?_
   refine th_take_g rfl rfl rfl rfl rfl (by kernel_rfl)  (by first | exact opv_eql rfl rfl | exact opv_eqlI rfl rfl rfl rfl rfl rfl | exact opv_eqlB rfl rfl | exact opv_eqlNil rfl rfl) ?_
   refine th_take_g rfl rfl rfl rfl rfl (by kernel_rfl)  (opv_move rfl) ?_
   refine th_split rfl rfl rfl (fun h1 => ?_) (fun h1 => ?_)
   ·have e1 : l.getD i default = c := Cell.ext_iff'.2 h1
    refine th_skip rfl rfl rfl rfl rfl (by kernel_rfl)  ?_
    refine th_skip rfl rfl rfl rfl rfl (by kernel_rfl)  ?_
    refine th_skip rfl rfl rfl rfl rfl (by kernel_rfl)  ?_
    refine th_skip rfl rfl rfl rfl rfl (by kernel_rfl)  ?_
    refine th_skip rfl rfl rfl rfl rfl (by kernel_rfl)  ?_
    refine th_one (by kernel_rfl) (step_skip rfl rfl rfl rfl rfl ?_)
    refine th_take_g rfl rfl rfl rfl rfl (by kernel_rfl)  (by first | exact opv_pick_t rfl rfl | exact opv_pick_f rfl rfl | exact opv_pick_bool rfl rfl rfl | exact opv_pick rfl rfl rfl) ?_
    refine th_take rfl rfl (by kernel_rfl)  (by first | exact opv_pick_t rfl rfl | exact opv_pick_f rfl rfl | exact opv_pick_bool rfl rfl rfl | exact opv_pick rfl rfl rfl) ?_
    refine th_done (by kernel_rfl) ?_
    refine tT ?_
    refine tri_cond_true rfl ?_
    refine tS (tR (tM rfl rfl ?_))
    refine tri_v (by first | exact opv_load1 rfl rfl rfl | exact opv_loadA rfl rfl rfl | exact opv_loadE1 rfl (by assumption) rfl (by omega) rfl rfl | exact opv_loadEA rfl (by assumption) rfl (by omega) rfl rfl | exact opv_loadRX1 rfl rfl (by omega) rfl rfl | exact opv_loadRXA rfl rfl (by omega) rfl rfl rfl | exact opv_loadIX rfl rfl (by omega) | exact opv_loadR1 rfl rfl rfl | exact opv_loadRA rfl rfl rfl rfl) rfl ?_
    refine tri_g (opg_buildSlice rfl rfl rfl rfl) rfl ?_
    rintro _ _ _ ⟨b, rfl, rfl, rfl⟩
    refine tri_g (opg_appendB rfl rfl rfl rfl (by omega) rfl) rfl ?_
    rintro _ _ _ ⟨a2, cap2, rfl, rfl, rfl⟩
    refine tA rfl rfl (tN (tT (tR (tA rfl rfl (tN (tT (tS ?_)))))))
    refine tri_draw [0, 1, 2, 3, 4, 5] rfl [] rfl mixed ?_
    refine th_take rfl rfl (by kernel_rfl)  (opv_move rfl) ?_
    refine th_take rfl rfl (by kernel_rfl)  (opv_move rfl) ?_
    refine th_take rfl rfl (by kernel_rfl)  (by first | exact opv_indexAddrA rfl rfl (by first | decide | omega) (by first | decide | omega) | exact opv_indexAddrSN rfl rfl (by omega) (by assumption) rfl | exact opv_indexAddrS rfl rfl (by omega) (by omega) (by assumption) rfl | exact opv_indexAddrE rfl (by assumption) (by omega) rfl (by first | decide | omega) (by first | decide | omega) | exact opv_indexAddrRN rfl rfl (by omega) | exact opv_indexAddrR rfl rfl (by omega) (by omega) | exact opv_indexAddrRA rfl (by omega) rfl (by first | decide | omega) (by first | decide | omega) | exact opv_indexAddrSP rfl rfl (by omega) (by omega) | exact opv_indexAddrSN rfl rfl (by omega) (by assumption) (by omega) | exact opv_indexAddrS rfl rfl (by omega) (by omega) (by assumption) (by omega)) ?_
    refine th_take rfl rfl (by kernel_rfl)  (by first | exact opv_load1 rfl rfl rfl | exact opv_loadA rfl rfl rfl | exact opv_loadE1 rfl (by assumption) rfl (by omega) rfl rfl | exact opv_loadEA rfl (by assumption) rfl (by omega) rfl rfl | exact opv_loadRX1 rfl rfl (by omega) rfl rfl | exact opv_loadRXA rfl rfl (by omega) rfl rfl rfl | exact opv_loadIX rfl rfl (by omega) | exact opv_loadR1 rfl rfl rfl | exact opv_loadRA rfl rfl rfl rfl) ?_
    refine th_take rfl rfl (by kernel_rfl)  (by first | exact opv_load1 rfl rfl rfl | exact opv_loadA rfl rfl rfl | exact opv_loadE1 rfl (by assumption) rfl (by omega) rfl rfl | exact opv_loadEA rfl (by assumption) rfl (by omega) rfl rfl | exact opv_loadRX1 rfl rfl (by omega) rfl rfl | exact opv_loadRXA rfl rfl (by omega) rfl rfl rfl | exact opv_loadIX rfl rfl (by omega) | exact opv_loadR1 rfl rfl rfl | exact opv_loadRA rfl rfl rfl rfl) ?_
    refine th_take rfl rfl (by kernel_rfl)  (by first | exact opv_neq rfl rfl | exact opv_neqI rfl rfl rfl rfl rfl rfl | exact opv_neqB rfl rfl) ?_
    refine th_done (by kernel_rfl) ?_
    refine tT ?_
    refine tri_cond_not rfl ((fun h2 => h2 h1)) ?_
    refine tri_skip ?_
    refine tri_inBlock ?_
    refine tT (tR (tM rfl rfl ?_))
    refine tri_v (by first | exact opv_add rfl rfl (w64 (by omega) (by omega))) rfl ?_
    refine tA rfl rfl (tN (tT ?_))
    refine tri_drop ?_
    refine tri_rowEq (len' := (acc ++ [c]).length) (cells' := encs (acc ++ [c])) (by simp) (by rw [encs_append]; rfl) ?_
    refine tri_sub ?_ (hK (i + 1, acc ++ [c], true, a2, cap2) ⟨by simp only; omega, by simp only [List.length_append, List.length_singleton]; omega, ?_⟩ (by simp only; omega))
    ·exact ⟨rfl, rfl, by rw [List.length_append]; rfl, rfl, rfl, trivial⟩
    ·simp only [R1.putF, e1] at hp
     simpa using hp
   ·have e1 : l.getD i default ≠ c := fun h => h1 (Cell.ext_iff'.1 h)
    refine th_take_g rfl rfl rfl rfl rfl (by kernel_rfl)  (by first | exact opv_load1 rfl rfl rfl | exact opv_loadA rfl rfl rfl | exact opv_loadE1 rfl (by assumption) rfl (by omega) rfl rfl | exact opv_loadEA rfl (by assumption) rfl (by omega) rfl rfl | exact opv_loadRX1 rfl rfl (by omega) rfl rfl | exact opv_loadRXA rfl rfl (by omega) rfl rfl rfl | exact opv_loadIX rfl rfl (by omega) | exact opv_loadR1 rfl rfl rfl | exact opv_loadRA rfl rfl rfl rfl) ?_
    refine th_take_g rfl rfl rfl rfl rfl (by kernel_rfl)  (opv_move rfl) ?_
    refine th_take_g rfl rfl rfl rfl rfl (by kernel_rfl)  (opv_move rfl) ?_
    refine th_take_g rfl rfl rfl rfl rfl (by kernel_rfl)  (by first | exact opv_indexAddrA rfl rfl (by first | decide | omega) (by first | decide | omega) | exact opv_indexAddrSN rfl rfl (by omega) (by assumption) rfl | exact opv_indexAddrS rfl rfl (by omega) (by omega) (by assumption) rfl | exact opv_indexAddrE rfl (by assumption) (by omega) rfl (by first | decide | omega) (by first | decide | omega) | exact opv_indexAddrRN rfl rfl (by omega) | exact opv_indexAddrR rfl rfl (by omega) (by omega) | exact opv_indexAddrRA rfl (by omega) rfl (by first | decide | omega) (by first | decide | omega) | exact opv_indexAddrSP rfl rfl (by omega) (by omega) | exact opv_indexAddrSN rfl rfl (by omega) (by assumption) (by omega) | exact opv_indexAddrS rfl rfl (by omega) (by omega) (by assumption) (by omega)) ?_
    refine th_take_g rfl rfl rfl rfl rfl (by kernel_rfl)  (by first | exact opv_load1 rfl rfl rfl | exact opv_loadA rfl rfl rfl | exact opv_loadE1 rfl (by assumption) rfl (by omega) rfl rfl | exact opv_loadEA rfl (by assumption) rfl (by omega) rfl rfl | exact opv_loadRX1 rfl rfl (by omega) rfl rfl | exact opv_loadRXA rfl rfl (by omega) rfl rfl rfl | exact opv_loadIX rfl rfl (by omega) | exact opv_loadR1 rfl rfl rfl | exact opv_loadRA rfl rfl rfl rfl) ?_
    refine th_one (by kernel_rfl) (step_mg rfl rfl rfl rfl rfl (opg_call (xs := [_, _]) rfl (ref01_less (a := c) (b := R1.g l i))) ?_)
    rintro _ _ _ ⟨rfl, rfl, rfl⟩
    refine ⟨Suf.h, (by first | exact fun _ h => h | assumption | exact fun _ h => (by assumption : _ ⊆ _) ((by assumption : _ ⊆ _) h)), ?_⟩
    refine th_take_g rfl rfl rfl rfl rfl (by kernel_rfl)  (by first | exact opv_pick_t rfl rfl | exact opv_pick_f rfl rfl | exact opv_pick_bool rfl rfl rfl | exact opv_pick rfl rfl rfl) ?_
    refine th_take rfl rfl (by kernel_rfl)  (by first | exact opv_pick_t rfl rfl | exact opv_pick_f rfl rfl | exact opv_pick_bool rfl rfl rfl | exact opv_pick rfl rfl rfl) ?_
    refine th_done (by kernel_rfl) ?_
    refine tT ?_
    refine tri_cond_dec rfl (fun h2 => ?_) (fun h2 => ?_)
    ·have h2' : R1.less c (l.getD i default) := h2
     refine tS (tR (tM rfl rfl ?_))
     refine tri_v (by first | exact opv_load1 rfl rfl rfl | exact opv_loadA rfl rfl rfl | exact opv_loadE1 rfl (by assumption) rfl (by omega) rfl rfl | exact opv_loadEA rfl (by assumption) rfl (by omega) rfl rfl | exact opv_loadRX1 rfl rfl (by omega) rfl rfl | exact opv_loadRXA rfl rfl (by omega) rfl rfl rfl | exact opv_loadIX rfl rfl (by omega) | exact opv_loadR1 rfl rfl rfl | exact opv_loadRA rfl rfl rfl rfl) rfl ?_
     refine tri_g (opg_buildSlice rfl rfl rfl rfl) rfl ?_
     rintro _ _ _ ⟨b, rfl, rfl, rfl⟩
     refine tri_g (opg_appendB rfl rfl rfl rfl (by omega) rfl) rfl ?_
     rintro _ _ _ ⟨a2, cap2, rfl, rfl, rfl⟩
     refine tA rfl rfl (tN (tT (tR (tA rfl rfl (tN (tT (tS ?_)))))))
     refine tri_draw [0, 1, 2, 3, 4, 5] rfl [] rfl mixed ?_
     refine th_take rfl rfl (by kernel_rfl)  (opv_move rfl) ?_
     refine th_take rfl rfl (by kernel_rfl)  (opv_move rfl) ?_
     refine th_take rfl rfl (by kernel_rfl)  (by first | exact opv_indexAddrA rfl rfl (by first | decide | omega) (by first | decide | omega) | exact opv_indexAddrSN rfl rfl (by omega) (by assumption) rfl | exact opv_indexAddrS rfl rfl (by omega) (by omega) (by assumption) rfl | exact opv_indexAddrE rfl (by assumption) (by omega) rfl (by first | decide | omega) (by first | decide | omega) | exact opv_indexAddrRN rfl rfl (by omega) | exact opv_indexAddrR rfl rfl (by omega) (by omega) | exact opv_indexAddrRA rfl (by omega) rfl (by first | decide | omega) (by first | decide | omega) | exact opv_indexAddrSP rfl rfl (by omega) (by omega) | exact opv_indexAddrSN rfl rfl (by omega) (by assumption) (by omega) | exact opv_indexAddrS rfl rfl (by omega) (by omega) (by assumption) (by omega)) ?_
     refine th_take rfl rfl (by kernel_rfl)  (by first | exact opv_load1 rfl rfl rfl | exact opv_loadA rfl rfl rfl | exact opv_loadE1 rfl (by assumption) rfl (by omega) rfl rfl | exact opv_loadEA rfl (by assumption) rfl (by omega) rfl rfl | exact opv_loadRX1 rfl rfl (by omega) rfl rfl | exact opv_loadRXA rfl rfl (by omega) rfl rfl rfl | exact opv_loadIX rfl rfl (by omega) | exact opv_loadR1 rfl rfl rfl | exact opv_loadRA rfl rfl rfl rfl) ?_
     refine th_take rfl rfl (by kernel_rfl)  (by first | exact opv_load1 rfl rfl rfl | exact opv_loadA rfl rfl rfl | exact opv_loadE1 rfl (by assumption) rfl (by omega) rfl rfl | exact opv_loadEA rfl (by assumption) rfl (by omega) rfl rfl | exact opv_loadRX1 rfl rfl (by omega) rfl rfl | exact opv_loadRXA rfl rfl (by omega) rfl rfl rfl | exact opv_loadIX rfl rfl (by omega) | exact opv_loadR1 rfl rfl rfl | exact opv_loadRA rfl rfl rfl rfl) ?_
     refine th_take rfl rfl (by kernel_rfl)  (by first | exact opv_neq rfl rfl | exact opv_neqI rfl rfl rfl rfl rfl rfl | exact opv_neqB rfl rfl) ?_
     refine th_done (by kernel_rfl) ?_
     refine tT ?_
     refine tri_cond_is rfl (h1) ?_
     refine tR (tM rfl rfl (tM rfl rfl (tM rfl rfl ?_)))
     refine tri_v (by first | exact opv_indexAddrA rfl rfl (by first | decide | omega) (by first | decide | omega) | exact opv_indexAddrSN rfl rfl (by omega) (by assumption) rfl | exact opv_indexAddrS rfl rfl (by omega) (by omega) (by assumption) rfl | exact opv_indexAddrE rfl (by assumption) (by omega) rfl (by first | decide | omega) (by first | decide | omega) | exact opv_indexAddrRN rfl rfl (by omega) | exact opv_indexAddrR rfl rfl (by omega) (by omega) | exact opv_indexAddrRA rfl (by omega) rfl (by first | decide | omega) (by first | decide | omega) | exact opv_indexAddrSP rfl rfl (by omega) (by omega) | exact opv_indexAddrSN rfl rfl (by omega) (by assumption) (by omega) | exact opv_indexAddrS rfl rfl (by omega) (by omega) (by assumption) (by omega)) rfl ?_
     refine tri_v (by first | exact opv_load1 rfl rfl rfl | exact opv_loadA rfl rfl rfl | exact opv_loadE1 rfl (by assumption) rfl (by omega) rfl rfl | exact opv_loadEA rfl (by assumption) rfl (by omega) rfl rfl | exact opv_loadRX1 rfl rfl (by omega) rfl rfl | exact opv_loadRXA rfl rfl (by omega) rfl rfl rfl | exact opv_loadIX rfl rfl (by omega) | exact opv_loadR1 rfl rfl rfl | exact opv_loadRA rfl rfl rfl rfl) rfl ?_
     refine tri_g (opg_buildSlice rfl rfl rfl rfl) rfl ?_
     rintro _ _ _ ⟨b, rfl, rfl, rfl⟩
     refine tri_g (opg_appendB rfl rfl rfl rfl (by omega) rfl) rfl ?_
     rintro _ _ _ ⟨a3, cap3, rfl, rfl, rfl⟩
     refine tA rfl rfl (tN ?_)
     refine tri_inBlock ?_
     refine tT (tR (tM rfl rfl ?_))
     refine tri_v (by first | exact opv_add rfl rfl (w64 (by omega) (by omega))) rfl ?_
     refine tA rfl rfl (tN (tT ?_))
     refine tri_drop ?_
     refine tri_drop ?_
     refine tri_rowEq (len' := (acc ++ [c, l.getD i default]).length) (cells' := encs (acc ++ [c, l.getD i default])) (by simp) (by rw [encs_append, List.append_assoc]; rfl) ?_
     refine tri_sub ?_ (hK (i + 1, acc ++ [c, l.getD i default], true, a3, cap3) ⟨by simp only; omega, by simp only [List.length_append, List.length_cons, List.length_nil]; omega, ?_⟩ (by simp only; omega))
     ·exact ⟨rfl, rfl, by rw [List.length_append]; rfl, rfl, rfl, trivial⟩
     ·simp only [R1.putF, e1, h2', or_true, and_self, if_true, ne_eq, not_false_eq_true] at hp
      simpa using hp
    ·have h2' : ¬ R1.less c (l.getD i default) := h2
     refine tri_skip (tT (tS ?_))
     refine tri_draw [0, 1, 2, 3, 4, 5] rfl [] rfl mixed ?_
     refine th_take rfl rfl (by kernel_rfl)  (opv_move rfl) ?_
     refine th_take rfl rfl (by kernel_rfl)  (opv_move rfl) ?_
     refine th_take rfl rfl (by kernel_rfl)  (by first | exact opv_indexAddrA rfl rfl (by first | decide | omega) (by first | decide | omega) | exact opv_indexAddrSN rfl rfl (by omega) (by assumption) rfl | exact opv_indexAddrS rfl rfl (by omega) (by omega) (by assumption) rfl | exact opv_indexAddrE rfl (by assumption) (by omega) rfl (by first | decide | omega) (by first | decide | omega) | exact opv_indexAddrRN rfl rfl (by omega) | exact opv_indexAddrR rfl rfl (by omega) (by omega) | exact opv_indexAddrRA rfl (by omega) rfl (by first | decide | omega) (by first | decide | omega) | exact opv_indexAddrSP rfl rfl (by omega) (by omega) | exact opv_indexAddrSN rfl rfl (by omega) (by assumption) (by omega) | exact opv_indexAddrS rfl rfl (by omega) (by omega) (by assumption) (by omega)) ?_
     refine th_take rfl rfl (by kernel_rfl)  (by first | exact opv_load1 rfl rfl rfl | exact opv_loadA rfl rfl rfl | exact opv_loadE1 rfl (by assumption) rfl (by omega) rfl rfl | exact opv_loadEA rfl (by assumption) rfl (by omega) rfl rfl | exact opv_loadRX1 rfl rfl (by omega) rfl rfl | exact opv_loadRXA rfl rfl (by omega) rfl rfl rfl | exact opv_loadIX rfl rfl (by omega) | exact opv_loadR1 rfl rfl rfl | exact opv_loadRA rfl rfl rfl rfl) ?_
     refine th_take rfl rfl (by kernel_rfl)  (by first | exact opv_load1 rfl rfl rfl | exact opv_loadA rfl rfl rfl | exact opv_loadE1 rfl (by assumption) rfl (by omega) rfl rfl | exact opv_loadEA rfl (by assumption) rfl (by omega) rfl rfl | exact opv_loadRX1 rfl rfl (by omega) rfl rfl | exact opv_loadRXA rfl rfl (by omega) rfl rfl rfl | exact opv_loadIX rfl rfl (by omega) | exact opv_loadR1 rfl rfl rfl | exact opv_loadRA rfl rfl rfl rfl) ?_
     refine th_take rfl rfl (by kernel_rfl)  (by first | exact opv_neq rfl rfl | exact opv_neqI rfl rfl rfl rfl rfl rfl | exact opv_neqB rfl rfl) ?_
     refine th_done (by kernel_rfl) ?_
     refine tT ?_
     refine tri_cond_is rfl (h1) ?_
     refine tR (tM rfl rfl (tM rfl rfl (tM rfl rfl ?_)))
     refine tri_v (by first | exact opv_indexAddrA rfl rfl (by first | decide | omega) (by first | decide | omega) | exact opv_indexAddrSN rfl rfl (by omega) (by assumption) rfl | exact opv_indexAddrS rfl rfl (by omega) (by omega) (by assumption) rfl | exact opv_indexAddrE rfl (by assumption) (by omega) rfl (by first | decide | omega) (by first | decide | omega) | exact opv_indexAddrRN rfl rfl (by omega) | exact opv_indexAddrR rfl rfl (by omega) (by omega) | exact opv_indexAddrRA rfl (by omega) rfl (by first | decide | omega) (by first | decide | omega) | exact opv_indexAddrSP rfl rfl (by omega) (by omega) | exact opv_indexAddrSN rfl rfl (by omega) (by assumption) (by omega) | exact opv_indexAddrS rfl rfl (by omega) (by omega) (by assumption) (by omega)) rfl ?_
     refine tri_v (by first | exact opv_load1 rfl rfl rfl | exact opv_loadA rfl rfl rfl | exact opv_loadE1 rfl (by assumption) rfl (by omega) rfl rfl | exact opv_loadEA rfl (by assumption) rfl (by omega) rfl rfl | exact opv_loadRX1 rfl rfl (by omega) rfl rfl | exact opv_loadRXA rfl rfl (by omega) rfl rfl rfl | exact opv_loadIX rfl rfl (by omega) | exact opv_loadR1 rfl rfl rfl | exact opv_loadRA rfl rfl rfl rfl) rfl ?_
     refine tri_g (opg_buildSlice rfl rfl rfl rfl) rfl ?_
     rintro _ _ _ ⟨b, rfl, rfl, rfl⟩
     refine tri_g (opg_appendB rfl rfl rfl rfl (by omega) rfl) rfl ?_
     rintro _ _ _ ⟨a3, cap3, rfl, rfl, rfl⟩
     refine tA rfl rfl (tN ?_)
     refine tri_inBlock ?_
     refine tT (tR (tM rfl rfl ?_))
     refine tri_v (by first | exact opv_add rfl rfl (w64 (by omega) (by omega))) rfl ?_
     refine tA rfl rfl (tN (tT ?_))
     refine tri_drop ?_
     refine tri_rowEq (len' := (acc ++ [l.getD i default]).length) (cells' := encs (acc ++ [l.getD i default])) (by simp) (by rw [encs_append]; rfl) ?_
     refine tri_sub ?_ (hK (i + 1, acc ++ [l.getD i default], false, a3, cap3) ⟨by simp only; omega, by simp only [List.length_append, List.length_cons, List.length_nil]; omega, ?_⟩ (by simp only; omega))
     ·exact ⟨rfl, rfl, by rw [List.length_append]; rfl, rfl, rfl, trivial⟩
     ·simp only [R1.putF, e1, h2', or_false, and_false, if_false, ne_eq, not_false_eq_true, if_true] at hp
      simpa using hp
  ·have dn1 : dn = true := by simpa using hd1
   subst dn1
   refine th_skip rfl rfl rfl rfl rfl (by kernel_rfl)  ?_
   refine th_skip rfl rfl rfl rfl rfl (by kernel_rfl)  ?_
   refine th_skip rfl rfl rfl rfl rfl (by kernel_rfl)  ?_
   refine th_skip rfl rfl rfl rfl rfl (by kernel_rfl)  ?_
   refine th_skip rfl rfl rfl rfl rfl (by kernel_rfl)  ?_
   refine th_skip rfl rfl rfl rfl rfl (by kernel_rfl)  ?_
   refine th_skip rfl rfl rfl rfl rfl (by kernel_rfl)  ?_
   refine th_skip_u rfl rfl rfl rfl (by kernel_rfl)  ?_
   refine th_skip_u rfl rfl rfl rfl (by kernel_rfl)  ?_
   refine th_skip_u rfl rfl rfl rfl (by kernel_rfl)  ?_
   refine th_skip_u rfl rfl rfl rfl (by kernel_rfl)  ?_
   refine th_skip_u rfl rfl rfl rfl (by kernel_rfl)  ?_
   refine th_one (by kernel_rfl) (step_skip_u rfl rfl rfl rfl ?_)
   refine th_skip rfl rfl rfl rfl rfl (by kernel_rfl)  ?_
   refine th_take rfl rfl (by kernel_rfl)  (by first | exact opv_pick_t rfl rfl | exact opv_pick_f rfl rfl | exact opv_pick_bool rfl rfl rfl | exact opv_pick rfl rfl rfl) ?_
   refine th_done (by kernel_rfl) ?_
   refine tT ?_
   refine tri_cond_false rfl ?_
   refine tri_skip (tT (tS ?_))
   refine tri_draw [0, 1, 2, 3, 4, 5] rfl [] rfl mixed ?_
   refine th_take rfl rfl (by kernel_rfl)  (opv_move rfl) ?_
   refine th_take rfl rfl (by kernel_rfl)  (opv_move rfl) ?_
   refine th_take rfl rfl (by kernel_rfl)  (by first | exact opv_indexAddrA rfl rfl (by first | decide | omega) (by first | decide | omega) | exact opv_indexAddrSN rfl rfl (by omega) (by assumption) rfl | exact opv_indexAddrS rfl rfl (by omega) (by omega) (by assumption) rfl | exact opv_indexAddrE rfl (by assumption) (by omega) rfl (by first | decide | omega) (by first | decide | omega) | exact opv_indexAddrRN rfl rfl (by omega) | exact opv_indexAddrR rfl rfl (by omega) (by omega) | exact opv_indexAddrRA rfl (by omega) rfl (by first | decide | omega) (by first | decide | omega) | exact opv_indexAddrSP rfl rfl (by omega) (by omega) | exact opv_indexAddrSN rfl rfl (by omega) (by assumption) (by omega) | exact opv_indexAddrS rfl rfl (by omega) (by omega) (by assumption) (by omega)) ?_
   refine th_take rfl rfl (by kernel_rfl)  (by first | exact opv_load1 rfl rfl rfl | exact opv_loadA rfl rfl rfl | exact opv_loadE1 rfl (by assumption) rfl (by omega) rfl rfl | exact opv_loadEA rfl (by assumption) rfl (by omega) rfl rfl | exact opv_loadRX1 rfl rfl (by omega) rfl rfl | exact opv_loadRXA rfl rfl (by omega) rfl rfl rfl | exact opv_loadIX rfl rfl (by omega) | exact opv_loadR1 rfl rfl rfl | exact opv_loadRA rfl rfl rfl rfl) ?_
   refine th_take rfl rfl (by kernel_rfl)  (by first | exact opv_load1 rfl rfl rfl | exact opv_loadA rfl rfl rfl | exact opv_loadE1 rfl (by assumption) rfl (by omega) rfl rfl | exact opv_loadEA rfl (by assumption) rfl (by omega) rfl rfl | exact opv_loadRX1 rfl rfl (by omega) rfl rfl | exact opv_loadRXA rfl rfl (by omega) rfl rfl rfl | exact opv_loadIX rfl rfl (by omega) | exact opv_loadR1 rfl rfl rfl | exact opv_loadRA rfl rfl rfl rfl) ?_
   refine th_take rfl rfl (by kernel_rfl)  (by first | exact opv_neq rfl rfl | exact opv_neqI rfl rfl rfl rfl rfl rfl | exact opv_neqB rfl rfl) ?_
   refine th_done (by kernel_rfl) ?_
   refine tT ?_
   refine tri_cond_dec rfl (fun h2 => ?_) (fun h2 => ?_)
   ·have e1 : l.getD i default ≠ c := Cell.ne_iff'.2 h2
    refine tR (tM rfl rfl (tM rfl rfl (tM rfl rfl ?_)))
    refine tri_v (by first | exact opv_indexAddrA rfl rfl (by first | decide | omega) (by first | decide | omega) | exact opv_indexAddrSN rfl rfl (by omega) (by assumption) rfl | exact opv_indexAddrS rfl rfl (by omega) (by omega) (by assumption) rfl | exact opv_indexAddrE rfl (by assumption) (by omega) rfl (by first | decide | omega) (by first | decide | omega) | exact opv_indexAddrRN rfl rfl (by omega) | exact opv_indexAddrR rfl rfl (by omega) (by omega) | exact opv_indexAddrRA rfl (by omega) rfl (by first | decide | omega) (by first | decide | omega) | exact opv_indexAddrSP rfl rfl (by omega) (by omega) | exact opv_indexAddrSN rfl rfl (by omega) (by assumption) (by omega) | exact opv_indexAddrS rfl rfl (by omega) (by omega) (by assumption) (by omega)) rfl ?_
    refine tri_v (by first | exact opv_load1 rfl rfl rfl | exact opv_loadA rfl rfl rfl | exact opv_loadE1 rfl (by assumption) rfl (by omega) rfl rfl | exact opv_loadEA rfl (by assumption) rfl (by omega) rfl rfl | exact opv_loadRX1 rfl rfl (by omega) rfl rfl | exact opv_loadRXA rfl rfl (by omega) rfl rfl rfl | exact opv_loadIX rfl rfl (by omega) | exact opv_loadR1 rfl rfl rfl | exact opv_loadRA rfl rfl rfl rfl) rfl ?_
    refine tri_g (opg_buildSlice rfl rfl rfl rfl) rfl ?_
    rintro _ _ _ ⟨b, rfl, rfl, rfl⟩
    refine tri_g (opg_appendB rfl rfl rfl rfl (by omega) rfl) rfl ?_
    rintro _ _ _ ⟨a3, cap3, rfl, rfl, rfl⟩
    refine tA rfl rfl (tN ?_)
    refine tri_inBlock ?_
    refine tT (tR (tM rfl rfl ?_))
    refine tri_v (by first | exact opv_add rfl rfl (w64 (by omega) (by omega))) rfl ?_
    refine tA rfl rfl (tN (tT ?_))
    refine tri_drop ?_
    refine tri_rowEq (len' := (acc ++ [l.getD i default]).length) (cells' := encs (acc ++ [l.getD i default])) (by simp) (by rw [encs_append]; rfl) ?_
    refine tri_sub ?_ (hK (i + 1, acc ++ [l.getD i default], true, a3, cap3) ⟨by simp only; omega, by simp only [List.length_append, List.length_cons, List.length_nil]; omega, ?_⟩ (by simp only; omega))
    ·exact ⟨rfl, rfl, by rw [List.length_append]; rfl, rfl, rfl, trivial⟩
    ·simp only [R1.putF, e1, Bool.true_eq_false, false_and, if_false, ne_eq, not_false_eq_true, if_true] at hp
     simpa using hp
   ·have e1 : l.getD i default = c := Decidable.not_not.1 fun h => h2 (Cell.ne_iff'.1 h)
    refine tri_skip ?_
    refine tri_inBlock ?_
    refine tT (tR (tM rfl rfl ?_))
    refine tri_v (by first | exact opv_add rfl rfl (w64 (by omega) (by omega))) rfl ?_
    refine tA rfl rfl (tN (tT ?_))
    refine tri_sub ?_ (hK (i + 1, acc, true, a1, cap1) ⟨by simp only; omega, by simp only; omega, ?_⟩ (by simp only; omega))
    ·exact ⟨rfl, rfl, rfl, rfl, rfl, trivial⟩
    ·simp only [R1.putF, e1, Bool.true_eq_false, false_and, if_false, ne_eq, not_true_eq_false] at hp
     simpa using hp
 ·refine tri_exit ?_
  refine tri_then_exit ?_
  refine tri_then_exit ?_
  refine tri_inBlock_hit rfl ?_
  refine tT (tS (tS (tR (tM rfl rfl ?_))))
  refine tri_v (by first | exact opv_notD rfl | exact opv_not rfl) rfl ?_
  refine tN (tT ?_)
  have hd : l.drop i = [] := List.drop_of_length_le (by omega)
  rw [hd] at hp
  refine tri_cond rfl (fun hd1 => ?_) (fun hd1 => ?_)
  ·have dn0 : dn = false := by simpa using hd1
   subst dn0
   refine tR (tM rfl rfl ?_)
   refine tri_v (by first | exact opv_load1 rfl rfl rfl | exact opv_loadA rfl rfl rfl | exact opv_loadE1 rfl (by assumption) rfl (by omega) rfl rfl | exact opv_loadEA rfl (by assumption) rfl (by omega) rfl rfl | exact opv_loadRX1 rfl rfl (by omega) rfl rfl | exact opv_loadRXA rfl rfl (by omega) rfl rfl rfl | exact opv_loadIX rfl rfl (by omega) | exact opv_loadR1 rfl rfl rfl | exact opv_loadRA rfl rfl rfl rfl) rfl ?_
   refine tri_g (opg_buildSlice rfl rfl rfl rfl) rfl ?_
   rintro _ _ _ ⟨b, rfl, rfl, rfl⟩
   refine tri_g (opg_appendB rfl rfl rfl rfl (by omega) rfl) rfl ?_
   rintro _ _ _ ⟨a3, cap3, rfl, rfl, rfl⟩
   refine tA rfl rfl (tN (tT (tS (tR (tM rfl rfl (tA rfl rfl (tN ?_)))))))
   refine tT (tri_ret ?_)
   have hp' : R1.put l c = acc ++ [c] := by simpa [R1.putF] using hp
   refine tri_drop ?_
   refine tri_rowEq (len' := (R1.put l c).length) (cells' := encs (R1.put l c)) (by rw [hp']; simp) (by rw [hp', encs_append]; rfl) ?_
   refine tri_freezeRowC rfl fun I' hI hs' => ?_
   refine tri_end A Suf.h rfl (.cons (rv_tmp rfl) .nil) ⟨a3, cap3, ?_, hs', rfl, hI⟩
   rw [hp', List.length_append]; rfl
  ·have dn1 : dn = true := by simpa using hd1
   subst dn1
   refine tri_skip (tT (tS (tR (tM rfl rfl (tA rfl rfl (tN (tT ?_)))))))
   refine tri_ret ?_
   have hp' : R1.put l c = acc := by simpa [R1.putF] using hp
   refine tri_rowEq (len' := (R1.put l c).length) (cells' := encs (R1.put l c)) (by rw [hp']) (by rw [hp']) ?_
   refine tri_freezeRowC rfl fun I' hI hs' => ?_
   refine tri_end A Suf.h rfl (.cons (rv_tmp rfl) .nil) ⟨a1, cap1, ?_, hs', rfl, hI⟩
   rw [hp']; rfl
end Go.GL


set_option linter.unusedVariables false
namespace Go.GL
open Go.Proofs
attribute [local irreducible] wpList Code.wp Exit.then Exit.inBlock Ends Tri TriH OpV OpG FnC epf wpAnyH
variable {A : List Asrt} {I : List Chunk}
theorem R1.puts_snoc (l : List Cell) (c : Cell) : R1.puts (l ++ [c]) = R1.put (R1.puts l) c := by simp [R1.puts]
theorem R1.puts_len (l : List Cell) : (R1.puts l).length ≤ l.length := by
 have key : ∀ (l acc : List Cell), (l.foldl R1.put acc).length ≤ acc.length + l.length := by
  intro l
  induction l with
  | nil => intro acc; simp
  | cons c l ih =>
   intro acc
   have h1 := ih (R1.put acc c)
   have h2 := R1.put_len acc c
   simp only [List.foldl_cons, List.length_cons]
   omega
 have := key l []
 simpa [R1.puts] using this
end Go.GL


set_option linter.unusedVariables false
namespace Go.GL
open Go.Proofs
attribute [local irreducible] wpList Code.wp Exit.then Exit.inBlock Ends Tri TriH OpV OpG FnC epf wpAnyH
variable {A : List Asrt} {I : List Chunk}
abbrev rectV (r : R1.Rect) : Value := .agg [.int .i64 r.x, .int .i64 r.y, .int .i64 r.w, .int .i64 r.h].toArray
end Go.GL


set_option linter.unusedVariables false
namespace Go.GL
namespace R6
theorem atFrom_snoc (k : List Int) (x : Node) : ∀ (ns : List Node) (i : Nat), atFrom k i (ns ++ [x]) = if 0 ≤ atFrom k i ns then atFrom k i ns else if x.kids = k then ((i + ns.length : Nat) : Int) else -1
 | [], i => by
  simp only [List.nil_append, atFrom, List.length_nil, Nat.add_zero]
  rw [if_neg (by decide : ¬ (0:Int) ≤ -1)]
 | y :: ns, i => by
  simp only [List.cons_append, atFrom]
  split
  ·rw [if_pos (by omega)]
  ·rw [atFrom_snoc k x ns (i + 1), List.length_cons, show i + 1 + ns.length = i + (ns.length + 1) by omega]
theorem at_snoc {ns : List Node} (h : 2 ≤ ns.length) (k : List Int) (x : Node) : at_ (ns ++ [x]) k = if 0 ≤ at_ ns k then at_ ns k else if x.kids = k then (ns.length : Int) else -1 := by
 unfold at_
 rw [List.drop_append_of_le_length h, atFrom_snoc, List.length_drop, show 2 + (ns.length - 2) = ns.length by omega]
end R6
namespace R6
theorem atFrom_append (k : List Int) (ys : List Node) : ∀ (xs : List Node) (i : Nat), atFrom k i (xs ++ ys) = if 0 ≤ atFrom k i xs then atFrom k i xs else atFrom k (i + xs.length) ys
 | [], i => by
  have h : atFrom k i [] = -1 := rfl
  rw [List.nil_append, if_neg (by rw [h]; decide), List.length_nil, Nat.add_zero]
 | x :: xs, i => by
  simp only [List.cons_append, atFrom]
  split
  ·rw [if_pos (by omega)]
  ·rw [atFrom_append k ys xs (i + 1), List.length_cons, show i + 1 + xs.length = i + (xs.length + 1) by omega]
theorem ModTo.take {ns : List Node} {n : Nat} (h : ModTo ns n) : Mod (ns.take n) := by
 intro x hx
 obtain ⟨i, hi, rfl⟩ := List.getElem_of_mem hx
 rw [List.length_take] at hi
 have := h i (by omega)
 rw [List.getElem_take]
 have hi2 : i < ns.length := by omega
 simpa [hi2, cap62] using this
end R6
theorem mfind_mset (es : KVs) (k k' : List Int) (v : Value) : mfind (mset es k v) k' = if k = k' then some v else mfind es k' := by
 induction es with
 | nil => simp [mset, mfind]
 | cons p es ih =>
  simp only [mset]
  by_cases h : p.1 = k
  ·rw [if_pos h]
   simp only [mfind]
   by_cases h2 : k = k'
   ·simp [h2]
   ·rw [if_neg h2, if_neg h2, if_neg (by rw [h]; exact h2)]
  ·rw [if_neg h]
   simp only [mfind, ih]
   by_cases h2 : k = k'
   ·subst h2; simp [h]
   ·simp [h2]
/-- The map tells each node's place by its kids. -/
def Idx (ns : List Node) (es : KVs) : Prop := ∀ k, mfind es k = if 0 ≤ R6.at_ ns k then some (.int .i64 (R6.at_ ns k)) else none
theorem Idx.snoc {ns : List Node} {es : KVs} (h : Idx ns es) (h2 : 2 ≤ ns.length) (x : Node) (hx : ¬ 0 ≤ R6.at_ ns x.kids) : Idx (ns ++ [x]) (mset es x.kids (.int .i64 ns.length)) := by
 intro k
 rw [mfind_mset, h k, R6.at_snoc h2]
 by_cases e : x.kids = k
 ·subst e
  have h0 : (0:Int) ≤ (ns.length : Int) := Int.natCast_nonneg _
  rw [if_pos rfl, if_neg hx, if_pos rfl, if_pos h0]
 ·rw [if_neg e, if_neg e]
  split
  ·rfl
  ·rename_i h3; rw [if_neg (by decide : ¬ (0:Int) ≤ -1)]
theorem Idx.start : Idx [R6.n0, R6.n1] [] := by
 intro k
 rfl
/-- An index as the program holds it. -/
def IdxA (P : Program) (kt E : TypeId) (T : TypeId) (bx : Nat) (ns : List Node) (room : Int) (A : List Asrt) : List Asrt → Prop := fun L => ∃ a cap mb es, L = Box bx [.slice a ns.length cap, .int .i64 room, .map (some mb)] T :: Row a cap ns.length E 6 (encs ns) :: MapA P kt mb es :: A ∧ Idx ns es
end Go.GL


set_option linter.unusedVariables false
namespace Go.GL
/-! ### Stores in which all is right -/
namespace R6
structure Wf (ns : List Node) : Prop where
 len : 2 ≤ ns.length
 z : ns.getD 0 default = n0
 o : ns.getD 1 default = n1
 ok : ∀ i, i < ns.length → 2 ≤ i → fits ns i
theorem right_iff {ns : List Node} {room : Int} : right ns room ↔ (2 ≤ room ∧ room ≤ 100000 ∧ (ns.length : Int) ≤ room) ∧ Wf ns :=
 ⟨fun h => ⟨⟨h.1.1, h.1.2.1, h.1.2.2.2.1⟩, ⟨by have := h.1.2.2.1; omega, h.1.2.2.2.2.1, h.1.2.2.2.2.2, h.2⟩⟩,
  fun ⟨⟨a, b, c⟩, h⟩ => ⟨⟨a, b, by have := h.len; omega, c, h.z, h.o⟩, h.ok⟩⟩
theorem Wf.modTo {ns : List Node} (h : Wf ns) : ModTo ns ns.length := by
 have key : ∀ n, n ≤ ns.length → ModTo ns n := by
  intro n
  induction n with
  | zero => intro _ j hj; omega
  | succ n ih =>
   intro hn
   have hm := ih (by omega)
   by_cases h2 : 2 ≤ n
   ·exact hm.step (h.ok n (by omega) h2)
   ·intro j hj
    rcases (by omega : j = 0 ∨ j = 1) with rfl | rfl
    ·rw [h.z]; decide
    ·rw [h.o]; decide
 exact key _ (Nat.le_refl _)
theorem Wf.mod {ns : List Node} (h : Wf ns) : Mod ns := h.modTo.mod
theorem Wf.lvb {ns : List Node} (h : Wf ns) {n : Int} (hn : inS ns n) : 0 ≤ (nd ns n).lv ∧ (nd ns n).lv ≤ 42 := ⟨(h.mod.nd hn).1, (h.mod.nd hn).2.1⟩
theorem Wf.nd0 {ns : List Node} (h : Wf ns) : nd ns 0 = n0 := h.z
theorem Wf.nd1 {ns : List Node} (h : Wf ns) : nd ns 1 = n1 := h.o
theorem Wf.in0 {ns : List Node} (h : Wf ns) : inS ns 0 := ⟨by omega, by have := h.len; omega⟩
theorem Wf.in1 {ns : List Node} (h : Wf ns) : inS ns 1 := ⟨by omega, by have := h.len; omega⟩
theorem Wf.two {ns : List Node} (h : Wf ns) {n : Int} (hn : inS ns n) (hl : (nd ns n).lv ≠ 0) : 2 ≤ n := by
 rcases Int.lt_or_le n 2 with h2 | h2
 ·exfalso
  have hn0 := hn.1
  rcases (by omega : n = 0 ∨ n = 1) with rfl | rfl
  ·exact hl (by rw [h.nd0]; rfl)
  ·exact hl (by rw [h.nd1]; rfl)
 ·exact h2
theorem Wf.fits {ns : List Node} (h : Wf ns) {n : Int} (hn : inS ns n) (h2 : 2 ≤ n) : fitsX ns n.toNat (nd ns n) := h.ok n.toNat (by have := hn.2; omega) (by omega)
theorem Wf.lv0 {ns : List Node} (h : Wf ns) {n : Int} (hn : inS ns n) (hl : (nd ns n).lv = 0) : n = 0 ∨ n = 1 := by
 rcases Int.lt_or_le n 2 with h2 | h2
 ·have := hn.1; omega
 ·have := (h.fits hn h2).2.2.2.2.1
  omega
theorem Wf.kid {ns : List Node} (h : Wf ns) {n : Int} (hn : inS ns n) (hl : (nd ns n).lv ≠ 0) {q : Int} (hq : q ∈ (nd ns n).kids) : inS ns q ∧ q < n ∧ (nd ns q).lv = (nd ns n).lv - 1 := by
 have h2 := h.two hn hl
 have hn1 := hn.2
 obtain ⟨k0, k1, k2, k3, _⟩ := h.fits hn h2
 have key : kidOk ns n.toNat q (nd ns n).lv := by
  unfold Node.kids at hq
  simp only [List.mem_cons, List.not_mem_nil, or_false] at hq
  rcases hq with rfl | rfl | rfl | rfl
  ·exact k0
  ·exact k1
  ·exact k2
  ·exact k3
 obtain ⟨g1, g2, g3⟩ := key
 exact ⟨⟨g1, by omega⟩, by omega, by omega⟩
theorem Wf.pop {ns : List Node} (h : Wf ns) {n : Int} (hn : inS ns n) (hl : (nd ns n).lv ≠ 0) : (nd ns n).pop = pop4 ns (nd ns n).k0 (nd ns n).k1 (nd ns n).k2 (nd ns n).k3 := (h.fits hn (h.two hn hl)).2.2.2.2.2.2.1
theorem Wf.at_ {ns : List Node} (h : Wf ns) {n : Int} (hn : inS ns n) (hl : (nd ns n).lv ≠ 0) : at_ ns (nd ns n).kids = n := by
 have := (h.fits hn (h.two hn hl)).2.2.2.2.2.2.2
 have := hn.1
 omega
/-! #### what is put -/
theorem inS_pre {ns ms : List Node} (h : ns <+: ms) {n : Int} (hn : inS ns n) : inS ms n := ⟨hn.1, by have := h.length_le; have := hn.2; omega⟩
theorem nd_pre {ns ms : List Node} (h : ns <+: ms) {n : Int} (hn : inS ns n) : nd ms n = nd ns n := by
 obtain ⟨t, rfl⟩ := h
 unfold nd
 have : n.toNat < ns.length := by have := hn.1; have := hn.2; omega
 rw [List.getD_eq_getElem?_getD, List.getD_eq_getElem?_getD, List.getElem?_append_left this]
theorem at_pre {ns ms : List Node} (h2 : 2 ≤ ns.length) (h : ns <+: ms) {k : List Int} (hk : 0 ≤ R6.at_ ns k) : R6.at_ ms k = R6.at_ ns k := by
 obtain ⟨t, rfl⟩ := h
 unfold R6.at_ at hk ⊢
 rw [List.drop_append_of_le_length h2, atFrom_append, if_pos hk]
theorem pop4_pre {ns ms : List Node} (h : ns <+: ms) {q0 q1 q2 q3 : Int} (h0 : inS ns q0) (h1 : inS ns q1) (h2 : inS ns q2) (h3 : inS ns q3) : pop4 ms q0 q1 q2 q3 = pop4 ns q0 q1 q2 q3 := by
 unfold pop4; rw [nd_pre h h0, nd_pre h h1, nd_pre h h2, nd_pre h h3]
theorem Wf.snoc {ns : List Node} (h : Wf ns) {q0 q1 q2 q3 : Int} (hf : fit4 ns q0 q1 q2 q3) (hat : ¬ 0 ≤ R6.at_ ns [q0, q1, q2, q3]) : Wf (ns ++ [mk4 ns q0 q1 q2 q3]) := by
 have hpre : ns <+: ns ++ [mk4 ns q0 q1 q2 q3] := List.prefix_append _ _
 have hl := h.len
 refine ⟨by simp; omega, ?_, ?_, fun i hi hi2 => ?_⟩
 ·have := nd_pre hpre h.in0; exact this.trans h.z
 ·have := nd_pre hpre h.in1; exact this.trans h.o
 ·simp only [List.length_append, List.length_singleton] at hi
  unfold R6.fits fitsX kidOk
  by_cases e : i < ns.length
  ·have hin : inS ns (i : Int) := ⟨by omega, by omega⟩
   have e1 : (ns ++ [mk4 ns q0 q1 q2 q3]).getD i default = ns.getD i default := nd_pre hpre hin
   rw [e1]
   obtain ⟨⟨a0, a1, a2⟩, ⟨b0, b1, b2⟩, ⟨c0, c1, c2⟩, ⟨d0, d1, d2⟩, f1, f2, f3, f4⟩ := h.ok i e hi2
   have i0 : inS ns (ns.getD i default).k0 := ⟨a0, by omega⟩
   have i1 : inS ns (ns.getD i default).k1 := ⟨b0, by omega⟩
   have i2 : inS ns (ns.getD i default).k2 := ⟨c0, by omega⟩
   have i3 : inS ns (ns.getD i default).k3 := ⟨d0, by omega⟩
   rw [nd_pre hpre i0, nd_pre hpre i1, nd_pre hpre i2, nd_pre hpre i3, pop4_pre hpre i0 i1 i2 i3, at_pre hl hpre (by rw [f4]; omega)]
   exact ⟨⟨a0, a1, a2⟩, ⟨b0, b1, b2⟩, ⟨c0, c1, c2⟩, ⟨d0, d1, d2⟩, f1, f2, f3, f4⟩
  ·have ei : i = ns.length := by omega
   subst ei
   have e1 : (ns ++ [mk4 ns q0 q1 q2 q3]).getD ns.length default = mk4 ns q0 q1 q2 q3 := by simp
   rw [e1]
   obtain ⟨a, ⟨b, b'⟩, ⟨c, c'⟩, ⟨d, d'⟩, f⟩ := hf
   have hlv := h.lvb a
   have x0 : (mk4 ns q0 q1 q2 q3).k0 = q0 := rfl
   have x1 : (mk4 ns q0 q1 q2 q3).k1 = q1 := rfl
   have x2 : (mk4 ns q0 q1 q2 q3).k2 = q2 := rfl
   have x3 : (mk4 ns q0 q1 q2 q3).k3 = q3 := rfl
   have x4 : (mk4 ns q0 q1 q2 q3).lv = (nd ns q0).lv + 1 := rfl
   have x5 : (mk4 ns q0 q1 q2 q3).pop = pop4 ns q0 q1 q2 q3 := rfl
   rw [x0, x1, x2, x3, x4, x5, nd_pre hpre a, nd_pre hpre b, nd_pre hpre c, nd_pre hpre d, pop4_pre hpre a b c d]
   refine ⟨⟨a.1, a.2, by omega⟩, ⟨b.1, b.2, by omega⟩, ⟨c.1, c.2, by omega⟩, ⟨d.1, d.2, by omega⟩, by omega, f, rfl, ?_⟩
   have := at_snoc hl [q0, q1, q2, q3] (mk4 ns q0 q1 q2 q3)
   rw [if_neg hat, if_pos (by rfl)] at this
   exact this
/-- What a put comes to, if it has room. -/
structure PutOk (ns : List Node) (q0 q1 q2 q3 : Int) (ms : List Node) (m : Int) : Prop where
 wf : Wf ms
 pre : ns <+: ms
 mem : inS ms m
 nd : nd ms m = mk4 ns q0 q1 q2 q3
 len : ms.length ≤ ns.length + 1
theorem PutOk.kids {ns ms : List Node} {q0 q1 q2 q3 m : Int} (h : PutOk ns q0 q1 q2 q3 ms m) : (R6.nd ms m).kids = [q0, q1, q2, q3] := by rw [h.nd]; rfl
theorem PutOk.lv {ns ms : List Node} {q0 q1 q2 q3 m : Int} (h : PutOk ns q0 q1 q2 q3 ms m) : (R6.nd ms m).lv = (R6.nd ns q0).lv + 1 := by rw [h.nd]; rfl
end R6
end Go.GL


set_option linter.unusedVariables false
namespace Go.GL
/-! ### What a node stands for -/
namespace R7
open R6
theorem p2s (m : Nat) : (2:Int) ^ (m + 1) = 2 ^ m * 2 := Int.pow_succ 2 m
theorem p2pos (m : Nat) : (0:Int) < 2 ^ m := Int.pow_pos (by omega)
def al (ns : List Node) : Nat → Int → Int → Int → Bool
 | 0, n, _, _ => decide (n = 1)
 | lv + 1, n, x, y =>
  if y < 2 ^ lv then (if x < 2 ^ lv then al ns lv (nd ns n).k0 x y else al ns lv (nd ns n).k1 (x - 2 ^ lv) y)
  else (if x < 2 ^ lv then al ns lv (nd ns n).k2 x (y - 2 ^ lv) else al ns lv (nd ns n).k3 (x - 2 ^ lv) (y - 2 ^ lv))
def inQ (lv : Nat) (x y : Int) : Prop := 0 ≤ x ∧ x < 2 ^ lv ∧ 0 ≤ y ∧ y < 2 ^ lv
/-- A node of a level. -/
def IsN (ns : List Node) (lv : Nat) (n : Int) : Prop := inS ns n ∧ (nd ns n).lv = lv
theorem kids4 {ns : List Node} (h : Wf ns) {lv : Nat} {n : Int} (hn : IsN ns (lv + 1) n) : IsN ns lv (nd ns n).k0 ∧ IsN ns lv (nd ns n).k1 ∧ IsN ns lv (nd ns n).k2 ∧ IsN ns lv (nd ns n).k3 := by
 have hl : (nd ns n).lv ≠ 0 := by rw [hn.2]; omega
 have key : ∀ q, q ∈ (nd ns n).kids → IsN ns lv q := fun q hq => by
  obtain ⟨a, _, b⟩ := h.kid hn.1 hl hq
  refine ⟨a, ?_⟩
  rw [b, hn.2]; omega
 exact ⟨key _ (by simp [Node.kids]), key _ (by simp [Node.kids]), key _ (by simp [Node.kids]), key _ (by simp [Node.kids])⟩
theorem IsN.pre {ns ms : List Node} (hp : ns <+: ms) {lv : Nat} {n : Int} (h : IsN ns lv n) : IsN ms lv n := ⟨inS_pre hp h.1, by rw [nd_pre hp h.1]; exact h.2⟩
theorem al_pre {ns ms : List Node} (h : Wf ns) (hp : ns <+: ms) : ∀ (lv : Nat) (n x y : Int), IsN ns lv n → al ms lv n x y = al ns lv n x y
 | 0, n, x, y, _ => rfl
 | lv + 1, n, x, y, hn => by
  obtain ⟨a, b, c, d⟩ := kids4 h hn
  simp only [al]
  rw [nd_pre hp hn.1, al_pre h hp lv _ _ _ a, al_pre h hp lv _ _ _ b, al_pre h hp lv _ _ _ c, al_pre h hp lv _ _ _ d]
theorem isN0 {ns : List Node} (h : Wf ns) {n : Int} (hn : IsN ns 0 n) : n = 0 ∨ n = 1 := h.lv0 hn.1 hn.2
theorem pop4_zero {ns : List Node} {q0 q1 q2 q3 : Int} (h0 : 0 ≤ (nd ns q0).pop) (h1 : 0 ≤ (nd ns q1).pop) (h2 : 0 ≤ (nd ns q2).pop) (h3 : 0 ≤ (nd ns q3).pop) : pop4 ns q0 q1 q2 q3 = 0 ↔ (nd ns q0).pop = 0 ∧ (nd ns q1).pop = 0 ∧ (nd ns q2).pop = 0 ∧ (nd ns q3).pop = 0 := by
 unfold pop4 mn cap62
 generalize (nd ns q0).pop = a at *
 generalize (nd ns q1).pop = b at *
 generalize (nd ns q2).pop = c at *
 generalize (nd ns q3).pop = d at *
 constructor
 ·intro h
  repeat' split at h
  all_goals omega
 ·rintro ⟨rfl, rfl, rfl, rfl⟩; rfl
theorem dead_kids {ns : List Node} (h : Wf ns) {lv : Nat} {n : Int} (hn : IsN ns (lv + 1) n) : (nd ns n).pop = 0 ↔ (nd ns (nd ns n).k0).pop = 0 ∧ (nd ns (nd ns n).k1).pop = 0 ∧ (nd ns (nd ns n).k2).pop = 0 ∧ (nd ns (nd ns n).k3).pop = 0 := by
 obtain ⟨a, b, c, d⟩ := kids4 h hn
 rw [h.pop hn.1 (by rw [hn.2]; omega)]
 exact pop4_zero (h.mod.nd a.1).2.2.1 (h.mod.nd b.1).2.2.1 (h.mod.nd c.1).2.2.1 (h.mod.nd d.1).2.2.1
theorem al_dead {ns : List Node} (h : Wf ns) : ∀ (lv : Nat) (n x y : Int), IsN ns lv n → (nd ns n).pop = 0 → al ns lv n x y = false
 | 0, n, x, y, hn, hp => by
  rcases isN0 h hn with rfl | rfl
  ·rfl
  ·rw [h.nd1] at hp; cases hp
 | lv + 1, n, x, y, hn, hp => by
  obtain ⟨a, b, c, d⟩ := kids4 h hn
  obtain ⟨a', b', c', d'⟩ := (dead_kids h hn).1 hp
  simp only [al]
  rw [al_dead h lv _ _ _ a a', al_dead h lv _ _ _ b b', al_dead h lv _ _ _ c c', al_dead h lv _ _ _ d d']
  simp
/-! #### what is flat -/
theorem mem_flat {ns : List Node} (h : Wf ns) : ∀ (lv : Nat) (n : Int) (o c : Cell), IsN ns lv n → (c ∈ flat ns lv n o ↔ inQ lv (c.x - o.x) (c.y - o.y) ∧ al ns lv n (c.x - o.x) (c.y - o.y) = true)
 | lv, n, o, c, hn => by
  by_cases hp : (nd ns n).pop = 0
  ·have e : flat ns lv n o = [] := by unfold flat; rw [if_pos hp]
   rw [e, al_dead h lv n _ _ hn hp]
   simp
  ·match lv, hn with
   | 0, hn =>
    have e : flat ns 0 n o = [o] := by unfold flat; rw [if_neg hp]
    rw [e, List.mem_singleton]
    have n1 : n = 1 := by
     rcases isN0 h hn with rfl | rfl
     ·exact absurd (by rw [h.nd0]; rfl) hp
     ·rfl
    subst n1
    simp only [al, inQ, Int.pow_zero, decide_true, and_true]
    constructor
    ·rintro rfl; omega
    ·intro hq
     cases c; cases o
     simp only [Cell.mk.injEq] at hq ⊢
     omega
   | lv + 1, hn =>
    obtain ⟨a, b, cc, d⟩ := kids4 h hn
    have e : flat ns (lv + 1) n o = flat ns lv (nd ns n).k0 o ++ flat ns lv (nd ns n).k1 ⟨o.x + 2 ^ lv, o.y⟩ ++ flat ns lv (nd ns n).k2 ⟨o.x, o.y + 2 ^ lv⟩ ++ flat ns lv (nd ns n).k3 ⟨o.x + 2 ^ lv, o.y + 2 ^ lv⟩ := by rw [flat]; rw [if_neg hp]
    rw [e, List.mem_append, List.mem_append, List.mem_append, mem_flat h lv _ _ _ a, mem_flat h lv _ _ _ b, mem_flat h lv _ _ _ cc, mem_flat h lv _ _ _ d]
    simp only [al]
    have hpos := p2pos lv
    rw [show c.x - (o.x + 2 ^ lv) = c.x - o.x - 2 ^ lv by omega, show c.y - (o.y + 2 ^ lv) = c.y - o.y - 2 ^ lv by omega]
    generalize c.x - o.x = x
    generalize c.y - o.y = y
    unfold inQ
    rw [p2s]
    have fw : ∀ {p q r s v : Prop}, (p → v) → (q → v) → (r → v) → (s → v) → ((p ∨ q) ∨ r) ∨ s → v := fun h1 h2 h3 h4 h => h.elim (fun h => h.elim (fun h => h.elim h1 h2) h3) h4
    by_cases hy : y < 2 ^ lv
    ·rw [if_pos hy]
     by_cases hx : x < 2 ^ lv
     ·rw [if_pos hx]
      exact ⟨fw (fun ⟨q, k⟩ => ⟨by omega, k⟩) (fun ⟨q, k⟩ => by exfalso; omega) (fun ⟨q, k⟩ => by exfalso; omega) (fun ⟨q, k⟩ => by exfalso; omega), fun ⟨q, k⟩ => .inl (.inl (.inl ⟨by omega, k⟩))⟩
     ·rw [if_neg hx]
      exact ⟨fw (fun ⟨q, k⟩ => by exfalso; omega) (fun ⟨q, k⟩ => ⟨by omega, k⟩) (fun ⟨q, k⟩ => by exfalso; omega) (fun ⟨q, k⟩ => by exfalso; omega), fun ⟨q, k⟩ => .inl (.inl (.inr ⟨by omega, k⟩))⟩
    ·rw [if_neg hy]
     by_cases hx : x < 2 ^ lv
     ·rw [if_pos hx]
      exact ⟨fw (fun ⟨q, k⟩ => by exfalso; omega) (fun ⟨q, k⟩ => by exfalso; omega) (fun ⟨q, k⟩ => ⟨by omega, k⟩) (fun ⟨q, k⟩ => by exfalso; omega), fun ⟨q, k⟩ => .inl (.inr ⟨by omega, k⟩)⟩
     ·rw [if_neg hx]
      exact ⟨fw (fun ⟨q, k⟩ => by exfalso; omega) (fun ⟨q, k⟩ => by exfalso; omega) (fun ⟨q, k⟩ => by exfalso; omega) (fun ⟨q, k⟩ => ⟨by omega, k⟩), fun ⟨q, k⟩ => .inr ⟨by omega, k⟩⟩
end R7
end Go.GL


set_option linter.unusedVariables false
namespace Go.GL
/-! ### What is made of cells -/
namespace R7
open R6
def deadB (ns : List Node) (j : Nat) : Bool := ns.any fun x => decide (x.lv = (j : Int) ∧ x.pop = 0)
/-- Of how many levels there is no node yet in which all is dead. -/
def E (ns : List Node) : Nat → Nat
 | 0 => 0
 | L + 1 => E ns L + if deadB ns (L + 1) = true then 0 else 1
/-- A node of a level is made; it cost so many nodes, and what was dead of the levels to L. -/
structure Mk (ns : List Node) (L cost lv : Nat) (ms : List Node) (m : Int) : Prop where
 wf : Wf ms
 pre : ns <+: ms
 is : IsN ms lv m
 len : ms.length + E ms L ≤ ns.length + E ns L + cost
/-! #### the quarters of a list of cells -/
def qx' (h : Int) (c : Cell) : Nat := qx h c
end R7
end Go.GL


set_option linter.unusedVariables false
namespace Go.GL
namespace R7
open R6
theorem side_succ (lv : Nat) : side ((lv + 1 : Nat) : Int) = 2 ^ lv := by
 unfold side
 have : (((lv + 1 : Nat) : Int) - 1).toNat = lv := by omega
 rw [this]
/-- What 'of' tells. -/
theorem mem_of {ns : List Node} (h : Wf ns) {lv : Nat} {n : Int} (hn : IsN ns (lv + 1) n) (c : Cell) : c ∈ of ns n ↔ inL ((lv + 1 : Nat) : Int) c ∧ al ns (lv + 1) n (c.x + 2 ^ lv) (c.y + 2 ^ lv) = true := by
 unfold of
 have hs := side_succ lv
 have e3 : ((lv + 1 : Nat) : Int).toNat = lv + 1 := by omega
 rw [hn.2, e3, mem_flat h _ _ _ _ hn, hs]
 simp only
 rw [show c.x - -2 ^ lv = c.x + 2 ^ lv by omega, show c.y - -2 ^ lv = c.y + 2 ^ lv by omega]
 unfold inQ inL
 rw [hs, p2s]
 constructor
 ·rintro ⟨q, k⟩; exact ⟨by omega, k⟩
 ·rintro ⟨q, k⟩; exact ⟨by omega, k⟩
end R7
end Go.GL


set_option linter.unusedVariables false
namespace Go.GL
open R6 R7
/-! ### What the laws' squares are -/
namespace RL
theorem cell16_bd (r : Cell) : -8 ≤ (cell16 r).x ∧ (cell16 r).x < 8 ∧ -8 ≤ (cell16 r).y ∧ (cell16 r).y < 8 := by
 have a := pk_bd (c := r.x) (n := 16) (by omega)
 have b := pk_bd (c := r.y) (n := 16) (by omega)
 unfold cell16
 simp only
 omega
theorem mem_set {raw : List Cell} {c : Cell} (h : c ∈ set raw) : -8 ≤ c.x ∧ c.x < 8 ∧ -8 ≤ c.y ∧ c.y < 8 := by
 unfold set at h
 rw [R1.mem_puts] at h
 obtain ⟨r, _, rfl⟩ := List.mem_map.1 h
 exact cell16_bd r
theorem set_le (raw : List Cell) : (set raw).length ≤ 60 := by
 have key : ∀ (l acc : List Cell), (l.foldl R1.put acc).length ≤ acc.length + l.length := by
  intro l
  induction l with
  | nil => intro acc; simp
  | cons c l ih =>
   intro acc
   have h1 := ih (R1.put acc c)
   have h2 := R1.put_len acc c
   simp only [List.foldl_cons, List.length_cons]
   omega
 have := key ((raw.take 60).map cell16) []
 rw [List.length_map, List.length_take] at this
 unfold set R1.puts
 simp only [List.length_nil] at this
 omega
theorem set_right (raw : List Cell) : R1.right (set raw) := R1.right_of (R1.puts_srt _) (fun c hc => by have := mem_set hc; unfold R1.inB; omega) (by have := set_le raw; omega)
theorem p8 {lv : Nat} (h : 3 ≤ lv) : (8:Int) ≤ 2 ^ lv := by
 have h2 : (2:Nat) ^ 3 ≤ 2 ^ lv := Nat.pow_le_pow_right (by omega) h
 have h3 : (2:Int) ^ lv = ((2 ^ lv : Nat) : Int) := by simp
 rw [h3]; omega
/-- The raw square: a node of the set's cells. -/
structure Sq (c : Int) (nodes : List Five) (raw : List Cell) (level : Int) (lv : Nat) (ms : List Node) (m : Int) : Prop where
 lv3 : 3 ≤ lv ∧ lv ≤ 6
 lve : ((lv + 1 : Nat) : Int) = 4 + pk level 4
 eq : square c nodes raw level = (ms, m, 0)
 wf : Wf ms
 is : IsN ms (lv + 1) m
 len : (ms.length : Int) ≤ room c + 427
 pre : store (room c) nodes <+: ms
 sem : ∀ d : Cell, inL ((lv + 1 : Nat) : Int) d → al ms (lv + 1) m (d.x + 2 ^ lv) (d.y + 2 ^ lv) = decide (d ∈ set raw)
end RL
/-! ### Sixteen and nine -/
namespace R8
/-- A square of the sixteen. -/
def sqK (l : List Int) (y x : Int) : List Int := [g l (4 * y + x), g l (4 * y + x + 1), g l (4 * y + x + 4), g l (4 * y + x + 5)]
/-- A node that is a square of the sixteen. -/
structure IsSq (ms : List Node) (lv : Nat) (l : List Int) (y x m : Int) : Prop where
 is : IsN ms (lv + 1) m
 kids : (nd ms m).kids = sqK l y x
theorem IsSq.pre {ns ms : List Node} (hp : ns <+: ms) {lv : Nat} {l : List Int} {y x m : Int} (h : IsSq ns lv l y x m) : IsSq ms lv l y x m := ⟨h.is.pre hp, by rw [nd_pre hp h.is.1]; exact h.kids⟩
/-- Nine squares. -/
structure Nine9 (ns : List Node) (room : Int) (lv : Nat) (l : List Int) (ms : List Node) (q0 q1 q2 q3 q4 q5 q6 q7 q8 : Int) : Prop where
 wf : Wf ms
 pre : ns <+: ms
 len : ms.length ≤ ns.length + 9
 s0 : IsSq ms lv l 0 0 q0
 s1 : IsSq ms lv l 0 1 q1
 s2 : IsSq ms lv l 0 2 q2
 s3 : IsSq ms lv l 1 0 q3
 s4 : IsSq ms lv l 1 1 q4
 s5 : IsSq ms lv l 1 2 q5
 s6 : IsSq ms lv l 2 0 q6
 s7 : IsSq ms lv l 2 1 q7
 s8 : IsSq ms lv l 2 2 q8
end R8
end Go.GL


set_option linter.unusedVariables false
namespace Go.GL
open R6 R7
namespace R8
theorem IsSq.k {ms : List Node} {lv : Nat} {l : List Int} {y x m : Int} (h : IsSq ms lv l y x m) : (nd ms m).k0 = g l (4 * y + x) ∧ (nd ms m).k1 = g l (4 * y + x + 1) ∧ (nd ms m).k2 = g l (4 * y + x + 4) ∧ (nd ms m).k3 = g l (4 * y + x + 5) := by
 have := h.kids
 unfold Node.kids sqK at this
 simpa using this
end R8
namespace RL
open R8
end RL
end Go.GL


set_option linter.unusedVariables false
namespace Go.GL
open R6 R7
namespace R8
def b2i (b : Bool) : Int := if b = true then 1 else 0
/-- How many of the eight about a place are alive. -/
def cnt (f : Int → Int → Bool) (y x : Int) : Int := b2i (f (x - 1) (y - 1)) + b2i (f x (y - 1)) + b2i (f (x + 1) (y - 1)) + b2i (f (x - 1) y) + b2i (f (x + 1) y) + b2i (f (x - 1) (y + 1)) + b2i (f x (y + 1)) + b2i (f (x + 1) (y + 1))
/-- A place behind a generation. -/
def nx (f : Int → Int → Bool) (y x : Int) : Bool := R2.lives (f x y) (cnt f y x)
/-- What a step's node is. -/
structure Stp (ms : List Node) (f : Int → Int → Bool) (m : Int) : Prop where
 is : IsN ms 1 m
 kids : (nd ms m).kids = [b2i (nx f 1 1), b2i (nx f 1 2), b2i (nx f 2 1), b2i (nx f 2 2)]
theorem Stp.pre {ns ms : List Node} (hp : ns <+: ms) {f : Int → Int → Bool} {m : Int} (h : Stp ns f m) : Stp ms f m := ⟨h.is.pre hp, by rw [nd_pre hp h.is.1]; exact h.kids⟩
end R8
namespace RL
def cell4 (r : Cell) : Cell := ⟨pk r.x 4 - 2, pk r.y 4 - 2⟩
def turn (c : Cell) : Cell := ⟨-1 - c.x, -1 - c.y⟩
def small (raw : List Cell) : List Cell := R1.puts ((raw.take 16).map cell4)
def smallT (raw : List Cell) : List Cell := R1.puts ((raw.take 16).map fun r => turn (cell4 r))
theorem puts_le (l : List Cell) : (R1.puts l).length ≤ l.length := by
 have key : ∀ (l acc : List Cell), (l.foldl R1.put acc).length ≤ acc.length + l.length := by
  intro l
  induction l with
  | nil => intro acc; simp
  | cons c l ih =>
   intro acc
   have h1 := ih (R1.put acc c)
   have h2 := R1.put_len acc c
   simp only [List.foldl_cons, List.length_cons]
   omega
 simpa [R1.puts] using key l []
end RL
end Go.GL


set_option linter.unusedVariables false
namespace Go.GL
open R6 R7
namespace R8
theorem s16_pre {ns ms : List Node} (h : Wf ns) (hp : ns <+: ms) {lv : Nat} {n : Int} (hn : IsN ns (lv + 2) n) : s16 ms n = s16 ns n := by
 obtain ⟨a, b, c, d⟩ := kids4 h hn
 unfold s16
 rw [nd_pre hp hn.1, nd_pre hp a.1, nd_pre hp b.1, nd_pre hp c.1, nd_pre hp d.1]
end R8
namespace RL
open R8
end RL
end Go.GL


set_option linter.unusedVariables false
namespace Go.GL
open R6 R7
namespace R7
def kid (ns : List Node) (n j : Int) : Int := (nd ns n).kids.getD j.toNat default
theorem al_kid (ns : List Node) {lv : Nat} {n x y : Int} (hq : inQ lv x y) {a b : Int} (ha : a = 0 ∨ a = 1) (hb : b = 0 ∨ b = 1) : al ns (lv + 1) n (x + a * 2 ^ lv) (y + b * 2 ^ lv) = al ns lv (kid ns n (2 * b + a)) x y := by
 unfold inQ at hq
 simp only [al]
 rcases ha with rfl | rfl <;> rcases hb with rfl | rfl <;> simp only [Int.zero_mul, Int.one_mul, Int.add_zero]
 ·rw [if_pos (by omega), if_pos (by omega)]; rfl
 ·rw [if_neg (by omega), if_pos (by omega), show y + 2 ^ lv - 2 ^ lv = y by omega]; rfl
 ·rw [if_pos (by omega), if_neg (by omega), show x + 2 ^ lv - 2 ^ lv = x by omega]; rfl
 ·rw [if_neg (by omega), if_neg (by omega), show x + 2 ^ lv - 2 ^ lv = x by omega, show y + 2 ^ lv - 2 ^ lv = y by omega]; rfl
end R7
namespace R8
theorem IsSq.kid {ms : List Node} {lv : Nat} {l : List Int} {y x m : Int} (h : IsSq ms lv l y x m) {a b : Int} (ha : a = 0 ∨ a = 1) (hb : b = 0 ∨ b = 1) : R7.kid ms m (2 * b + a) = g l (4 * (y + b) + (x + a)) := by
 unfold R7.kid
 rw [h.kids]
 unfold sqK
 rcases ha with rfl | rfl <;> rcases hb with rfl | rfl
 ·show g l (4 * y + x) = _; congr 1; omega
 ·show g l (4 * y + x + 4) = _; congr 1; omega
 ·show g l (4 * y + x + 1) = _; congr 1; omega
 ·show g l (4 * y + x + 5) = _; congr 1; omega
end R8
namespace RL
open R8
/-- The square's cells are the raw set. -/
theorem Sq.mem {c : Int} {nodes : List Five} {raw : List Cell} {level : Int} {lv : Nat} {ms : List Node} {m : Int} (h : Sq c nodes raw level lv ms m) (d : Cell) : d ∈ R7.of ms m ↔ d ∈ set raw := by
 rw [mem_of h.wf h.is]
 constructor
 ·rintro ⟨h1, h2⟩
  rw [h.sem d h1] at h2
  simpa using h2
 ·intro hd
  have h8 := p8 (lv := lv) h.lv3.1
  have hb := mem_set hd
  have hin : inL ((lv + 1 : Nat) : Int) d := by unfold inL; rw [side_succ]; omega
  exact ⟨hin, by rw [h.sem d hin]; simpa using hd⟩
end RL
end Go.GL


set_option linter.unusedVariables false
namespace Go.GL
open R6 R7
namespace R2
open R8 (b2i)
def at8 (c : Cell) (i j : Int) : Cell := ⟨c.x + i, c.y + j⟩
/-- How many of the eight about a cell are in a list. -/
def cntL (l : List Cell) (c : Cell) : Int := b2i (decide (at8 c (-1) (-1) ∈ l)) + b2i (decide (at8 c 0 (-1) ∈ l)) + b2i (decide (at8 c 1 (-1) ∈ l)) + b2i (decide (at8 c (-1) 0 ∈ l)) + b2i (decide (at8 c 1 0 ∈ l)) + b2i (decide (at8 c (-1) 1 ∈ l)) + b2i (decide (at8 c 0 1 ∈ l)) + b2i (decide (at8 c 1 1 ∈ l))
theorem mem_cands {l : List Cell} {d : Cell} : d ∈ cands l ↔ livesAt l d = true ∧ ∃ b ∈ l, ∃ k, k < 9 ∧ nb b k = d := by
 unfold cands about
 rw [List.mem_flatMap]
 constructor
 ·rintro ⟨b, hb, h⟩
  obtain ⟨h1, h2⟩ := List.mem_filter.1 h
  obtain ⟨k, hk, e⟩ := List.mem_map.1 h1
  exact ⟨h2, b, hb, k, List.mem_range.1 hk, e⟩
 ·rintro ⟨h, b, hb, k, hk, e⟩
  exact ⟨b, hb, List.mem_filter.2 ⟨List.mem_map.2 ⟨k, List.mem_range.2 hk, e⟩, h⟩⟩
/-- What 'next' tells. -/
theorem next_ok {l : List Cell} (h : R1.right l) (hb : ∀ c ∈ l, -1000000 ≤ c.x ∧ c.x ≤ 1000000 ∧ -1000000 ≤ c.y ∧ c.y ≤ 1000000) (hl : l.length ≤ 200) : next l = (R1.puts (cands l), 0) := by
 unfold next
 rw [if_pos h]
 refine R1.of_ok (fun d hd => ?_) ?_
 ·obtain ⟨_, b, hbm, k, hk, rfl⟩ := mem_cands.1 hd
  have := hb b hbm
  unfold R1.inB nb
  simp only
  omega
 ·have h1 := RL.puts_le (cands l)
  have h2 := cands_len l l
  have : cands l = l.flatMap (about l) := rfl
  rw [this] at h1
  rw [this]
  omega
end R2
namespace RL
open R8
def outside (c : Cell) : Prop := ((c.x < -2 ∨ 1 < c.x) ∨ c.y < -2) ∨ 1 < c.y
instance (c : Cell) : Decidable (outside c) := inferInstanceAs (Decidable (_ ∨ _))
def withOthers (l more : List Cell) : List Cell := (more.filter fun c => decide (outside c)).foldl R1.put l
end RL
end Go.GL


set_option linter.unusedVariables false
namespace Go.GL
/-! ### Layer 9, as the document has it -/
namespace R9
/-- What was leapt: a node, an exponent, what it came to. -/
abbrev Memo := List (Int × Int × Int)
structure LS where
 ns : List Node
 mm : Memo
/-- A state, a node, an error. -/
abbrev L9 := LS × Int × Int
def look9 : Memo → Int → Int → Option Int
 | [], _, _ => none
 | p :: mm, n, j => if p.1 = n ∧ p.2.1 = j then some p.2.2 else look9 mm n j
def putS (room : Int) (s : LS) (q0 q1 q2 q3 : Int) : L9 := (⟨(R6.put s.ns room q0 q1 q2 q3).1, s.mm⟩, (R6.put s.ns room q0 q1 q2 q3).2.1, (R6.put s.ns room q0 q1 q2 q3).2.2)
def midS (room : Int) (s : LS) (n : Int) : L9 := putS room s (R8.g (R8.s16 s.ns n) 5) (R8.g (R8.s16 s.ns n) 6) (R8.g (R8.s16 s.ns n) 9) (R8.g (R8.s16 s.ns n) 10)
def oneS (room : Int) (s : LS) (n : Int) : L9 := (⟨(R8.one s.ns room n).1, s.mm⟩, (R8.one s.ns room n).2.1, (R8.one s.ns room n).2.2)
def mapS (f : LS → Int → L9) : LS → List Int → LS × List Int × Int
 | s, [] => (s, [], 0)
 | s, q :: qs => if (f s q).2.2 ≠ 0 then ((f s q).1, [], (f s q).2.2) else ((mapS f (f s q).1 qs).1, (f s q).2.1 :: (mapS f (f s q).1 qs).2.1, (mapS f (f s q).1 qs).2.2)
def fourP (room : Int) (l : List Int) (s : LS) (k : Int) : L9 := putS room s (R8.g l k) (R8.g l (k + 1)) (R8.g l (k + 3)) (R8.g l (k + 4))
def fourE : List Int := [0, 1, 3, 4]
def halfF (lp : LS → Int → Int → L9) (room : Int) (full : Bool) (j : Int) : LS → Int → L9 := fun s q => if full = true then lp s q (j - 1) else midS room s q
/-- The nine squares of a node, each behind half of a leap, or where it stands. -/
def half (lp : LS → Int → Int → L9) (room : Int) (full : Bool) (s : LS) (n j : Int) : LS × List Int × Int :=
 if (R8.all s.ns room n).2.2 ≠ 0 then (s, [], (R8.all s.ns room n).2.2) else mapS (halfF lp room full j) ⟨(R8.all s.ns room n).1, s.mm⟩ (R8.all s.ns room n).2.1
def bindM (r : LS × List Int × Int) (f : LS → List Int → L9) : L9 := if r.2.2 ≠ 0 then (r.1, 0, r.2.2) else f r.1 r.2.1
def put4 (room : Int) (s : LS) (l : List Int) : L9 := putS room s (R8.g l 0) (R8.g l 1) (R8.g l 2) (R8.g l 3)
def lastF (lp : LS → Int → Int → L9) (j : Int) : LS → Int → L9 := fun s q => lp s q j
def far (lp : LS → Int → Int → L9) (room : Int) (full : Bool) (s : LS) (n j : Int) : L9 :=
 bindM (half lp room full s n j) fun t l => bindM (mapS (fourP room l) t fourE) fun t l => bindM (mapS (lastF lp (if full = true then j - 1 else j)) t l) (put4 room)
/-- What was leapt is kept. -/
def keep (n j : Int) (r : L9) : L9 := if r.2.2 ≠ 0 then (r.1, 0, r.2.2) else (⟨r.1.ns, r.1.mm ++ [(n, j, r.2.1)]⟩, r.2.1, 0)
/-- A leap of a node of the level k + 2. -/
def leap (room : Int) : Nat → LS → Int → Int → L9
 | 0, s, n, j => match look9 s.mm n j with
  | some to => (s, to, 0)
  | none => keep n j (oneS room s n)
 | k + 1, s, n, j => match look9 s.mm n j with
  | some to => (s, to, 0)
  | none => keep n j (far (leap room k) room (decide (j = k + 1)) s n j)
/-- Is one of the sixteen, but the four in the middle, not dead? -/
def edged (ns : List Node) (n : Int) : Bool := [0, 1, 2, 3, 4, 7, 8, 11, 12, 13, 14, 15].any fun i => decide ((R6.nd ns (R8.g (R8.s16 ns n) i)).pop ≠ 0)
/-- Of a node of the level k + 2. -/
def trim (room : Int) : Nat → LS → Int → L9
 | 0, s, n => (s, n, 0)
 | k + 1, s, n => if edged s.ns n = true then (s, n, 0) else if (midS room s n).2.2 ≠ 0 then ((midS room s n).1, 0, (midS room s n).2.2) else trim room k (midS room s n).1 (midS room s n).2.1
/-- A kid of the larger node. -/
def bigK (dead : Int) (k : Nat) (kid : Int) (i : Nat) : Int := if i + k = 3 then kid else dead
def grow (room : Int) (s : LS) (n : Int) : L9 :=
 let x := R6.nd s.ns n
 if 42 ≤ x.lv then (s, 0, 2) else
 let d := R7.empty s.ns room (x.lv - 1).toNat
 if d.2.2 ≠ 0 then (s, 0, d.2.2) else
 let r := mapS (fun s k => putS room s (bigK d.2.1 k.toNat (x.kids.getD k.toNat default) 0) (bigK d.2.1 k.toNat (x.kids.getD k.toNat default) 1) (bigK d.2.1 k.toNat (x.kids.getD k.toNat default) 2) (bigK d.2.1 k.toNat (x.kids.getD k.toNat default) 3)) ⟨d.1, s.mm⟩ [0, 1, 2, 3]
 if r.2.2 ≠ 0 then (r.1, 0, r.2.2) else
 putS room r.1 (R8.g r.2.1 0) (R8.g r.2.1 1) (R8.g r.2.1 2) (R8.g r.2.1 3)
def bindS (r : L9) (f : LS → Int → L9) : L9 := if r.2.2 ≠ 0 then (r.1, 0, r.2.2) else f r.1 r.2.1
def lvS (s : LS) (n : Int) : Nat := ((R6.nd s.ns n).lv - 2).toNat
def trimS (room : Int) (s : LS) (n : Int) : L9 := trim room (lvS s n) s n
/-- Grown while it is too small (at most so often). -/
def growTo (room : Int) (j : Int) : Nat → LS → Int → L9
 | 0, s, n => (s, n, 0)
 | i + 1, s, n => if (R6.nd s.ns n).lv < j + 3 then bindS (grow room s n) (growTo room j i) else (s, n, 0)
def power (room : Int) (s : LS) (n j : Int) : L9 :=
 bindS (bindS (bindS (bindS (trimS room s n) (grow room)) (grow room)) (growTo room j 64)) fun s m => leap room (lvS s m) s m j
def runL (room : Int) : List Int → LS → Int → L9
 | [], s, n => trimS room s n
 | j :: js, s, n => bindS (power room s n j) (runL room js)
def bits (c : Int) : List Int := ((List.range 62).filter fun i => decide (c / 2 ^ i % 2 = 1)).map fun i => ((i : Nat) : Int)
/-- A store behind what was made in it, or as it was. -/
def out (ns : List Node) (r : L9) : List Node × Int × Int := if r.2.2 ≠ 0 then (ns, 0, r.2.2) else (r.1.ns, r.2.1, 0)
def leapT (ns : List Node) (room n j : Int) : List Node × Int × Int := if R8.may ns room n 2 ∧ 0 ≤ j ∧ j ≤ (R6.nd ns n).lv - 2 then out ns (leap room (lvS ⟨ns, []⟩ n) ⟨ns, []⟩ n j) else (ns, 0, 1)
def trimT (ns : List Node) (room n : Int) : List Node × Int × Int := if R8.may ns room n 2 then out ns (trimS room ⟨ns, []⟩ n) else (ns, 0, 1)
def runT (ns : List Node) (room n c : Int) : List Node × Int × Int := if R8.may ns room n 2 ∧ 0 ≤ c ∧ c ≤ 4611686018427387903 then out ns (runL room (bits c) ⟨ns, []⟩ n) else (ns, 0, 1)
end R9
end Go.GL


set_option linter.unusedVariables false
namespace Go.GL
open R6 R7
/-! ### What leaps keep to -/
namespace R9
def MemOk (ns : List Node) (mm : Memo) : Prop := ∀ p ∈ mm, ∃ lv : Nat, IsN ns (lv + 2) p.1 ∧ IsN ns (lv + 1) p.2.2
theorem MemOk.pre {ns ms : List Node} (hp : ns <+: ms) {mm : Memo} (h : MemOk ns mm) : MemOk ms mm := fun p hm => by
 obtain ⟨lv, a, b⟩ := h p hm
 exact ⟨lv, a.pre hp, b.pre hp⟩
structure Lk (room : Int) (s : LS) : Prop where
 right : R6.right s.ns room
 mem : MemOk s.ns s.mm
theorem Lk.wf {room : Int} {s : LS} (h : Lk room s) : Wf s.ns := (right_iff.1 h.right).2
/-- What came of a state without an error. -/
structure Gd (room : Int) (s : LS) (r : L9) (lv : Nat) : Prop where
 lk : Lk room r.1
 pre : s.ns <+: r.1.ns
 is : IsN r.1.ns lv r.2.1
theorem s16_isN {ns : List Node} (h : Wf ns) {lv : Nat} {n : Int} (hn : IsN ns (lv + 2) n) : ∀ i : Int, 0 ≤ i → i < 16 → IsN ns lv (R8.g (R8.s16 ns n) i) := by
 obtain ⟨a, b, c, d⟩ := kids4 h hn
 obtain ⟨a0, a1, a2, a3⟩ := kids4 h a
 obtain ⟨b0, b1, b2, b3⟩ := kids4 h b
 obtain ⟨c0, c1, c2, c3⟩ := kids4 h c
 obtain ⟨d0, d1, d2, d3⟩ := kids4 h d
 intro i h0 h16
 obtain ⟨k, rfl⟩ : ∃ k : Nat, i = k := ⟨i.toNat, by omega⟩
 have hk : k < 16 := by omega
 unfold R8.g R8.s16
 rw [Int.toNat_natCast]
 match k, hk with
 | 0, _ => exact a0
 | 1, _ => exact a1
 | 2, _ => exact b0
 | 3, _ => exact b1
 | 4, _ => exact a2
 | 5, _ => exact a3
 | 6, _ => exact b2
 | 7, _ => exact b3
 | 8, _ => exact c0
 | 9, _ => exact c1
 | 10, _ => exact d0
 | 11, _ => exact d1
 | 12, _ => exact c2
 | 13, _ => exact c3
 | 14, _ => exact d2
 | 15, _ => exact d3
/-! #### what is new of what was leapt -/
/-- What came to be kept is of nodes of the levels to K + 2. -/
def New (K : Nat) (mm mm' : Memo) (ns' : List Node) : Prop := ∃ add, mm' = mm ++ add ∧ ∀ p ∈ add, ∃ lv, lv ≤ K ∧ IsN ns' (lv + 2) p.1
theorem New.refl (K : Nat) (mm : Memo) (ns' : List Node) : New K mm mm ns' := ⟨[], by simp, by simp⟩
theorem New.trans {K : Nat} {a b c : Memo} {ns ms : List Node} (h : New K a b ns) (hp : ns <+: ms) (k : New K b c ms) : New K a c ms := by
 obtain ⟨x, rfl, hx⟩ := h
 obtain ⟨y, rfl, hy⟩ := k
 refine ⟨x ++ y, by rw [List.append_assoc], fun p hm => ?_⟩
 rcases List.mem_append.1 hm with hm | hm
 ·obtain ⟨lv, h1, h2⟩ := hx p hm
  exact ⟨lv, h1, h2.pre hp⟩
 ·exact hy p hm
theorem look9_app : ∀ {mm add : Memo} {n j : Int}, (∀ p ∈ add, p.1 ≠ n) → look9 (mm ++ add) n j = look9 mm n j
 | [], [], n, j, _ => rfl
 | [], p :: add, n, j, h => by
  have h1 := h p List.mem_cons_self
  have ih := look9_app (mm := []) (n := n) (j := j) fun q hq => h q (List.mem_cons_of_mem _ hq)
  simp only [List.nil_append] at ih ⊢
  unfold look9
  rw [if_neg (fun e => h1 e.1), ih]
  rfl
 | p :: mm, add, n, j, h => by
  simp only [List.cons_append]
  unfold look9
  split
  ·rfl
  ·exact look9_app h
theorem New.look {K : Nat} {mm mm' : Memo} {ns' : List Node} (h : New K mm mm' ns') {lv : Nat} {n j : Int} (hn : IsN ns' (lv + 2) n) (hlv : K < lv) (hl : look9 mm n j = none) : look9 mm' n j = none := by
 obtain ⟨add, rfl, ha⟩ := h
 rw [look9_app, hl]
 rintro p hp rfl
 obtain ⟨lv', h1, h2⟩ := ha p hp
 have e1 := h2.2
 have e2 := hn.2
 omega
end R9
end Go.GL


set_option linter.unusedVariables false
namespace Go.GL
open R6 R7
namespace R9
/-! #### empty, grow -/
def growF (room d : Int) (ks : List Int) : LS → Int → L9 := fun s k => putS room s (bigK d k.toNat (ks.getD k.toNat default) 0) (bigK d k.toNat (ks.getD k.toNat default) 1) (bigK d k.toNat (ks.getD k.toNat default) 2) (bigK d k.toNat (ks.getD k.toNat default) 3)
def k4 : List Int := [0, 1, 2, 3]
/-! #### trim, power, run -/
/-- As Gd, of some level from 2 on. -/
structure Ge (room : Int) (s : LS) (r : L9) : Prop where
 lk : Lk room r.1
 pre : s.ns <+: r.1.ns
 is : ∃ k : Nat, IsN r.1.ns (k + 2) r.2.1
theorem Ge.trans {room : Int} {s t : LS} {r : L9} (h : Ge room t r) (hp : s.ns <+: t.ns) : Ge room s r := ⟨h.lk, hp.trans h.pre, h.is⟩
/-- The loop of power: grown i times. -/
def more (room : Int) (j : Int) : Nat → LS → Int → L9
 | 0, s, n => bindS (bindS (grow room s n) (grow room)) (growTo room j 64)
 | 1, s, n => bindS (grow room s n) (growTo room j 64)
 | i + 2, s, n => growTo room j (64 - i) s n
/-- As Ge, of some level from k + 2 on. -/
def Gk (room : Int) (s : LS) (r : L9) (k : Nat) : Prop := Lk room r.1 ∧ s.ns <+: r.1.ns ∧ ∃ k' : Nat, k ≤ k' ∧ IsN r.1.ns (k' + 2) r.2.1
theorem Gk.le {room : Int} {s : LS} {r : L9} {k k2 : Nat} (h : Gk room s r k) (hk : k2 ≤ k) : Gk room s r k2 := by
 obtain ⟨a, b, k', c, d⟩ := h
 exact ⟨a, b, k', by omega, d⟩
end R9
end Go.GL


set_option linter.unusedVariables false
namespace Go.GL
open R6 R7
/-! ### A leap stands for what stands in the middle behind so many generations -/
namespace R9
/-- One generation of all cells. -/
def gen (f : Int → Int → Bool) : Int → Int → Bool := fun x y => R8.nx f y x
def gens : Nat → (Int → Int → Bool) → Int → Int → Bool
 | 0, f => f
 | m + 1, f => gens m (gen f)
/-- A node stands for a part of the plane. -/
def Std (ns : List Node) (lv : Nat) (n : Int) (f : Int → Int → Bool) (ox oy : Int) : Prop := IsN ns lv n ∧ ∀ x y, inQ lv x y → al ns lv n x y = f (x + ox) (y + oy)
theorem Std.pre {ns ms : List Node} (h : Wf ns) (hp : ns <+: ms) {lv : Nat} {n : Int} {f : Int → Int → Bool} {ox oy : Int} (hs : Std ns lv n f ox oy) : Std ms lv n f ox oy :=
 ⟨hs.1.pre hp, fun x y hq => by rw [al_pre h hp lv n x y hs.1]; exact hs.2 x y hq⟩
theorem Std.back {ns ms : List Node} (h : Wf ns) (hp : ns <+: ms) {lv : Nat} {n : Int} {f : Int → Int → Bool} {ox oy : Int} (hn : IsN ns lv n) (hs : Std ms lv n f ox oy) : Std ns lv n f ox oy :=
 ⟨hn, fun x y hq => by rw [← al_pre h hp lv n x y hn]; exact hs.2 x y hq⟩
theorem Std.at {ns : List Node} {lv : Nat} {n : Int} {f : Int → Int → Bool} {ox oy ox' oy' : Int} (h : Std ns lv n f ox oy) (hx : ox = ox') (hy : oy = oy') : Std ns lv n f ox' oy' := by
 subst hx
 subst hy
 exact h
end R9
end Go.GL


set_option linter.unusedVariables false
namespace Go.GL
open R6 R7
namespace R9
/-- What is kept is true. -/
def MS (s : LS) : Prop := ∀ p ∈ s.mm, ∃ k : Nat, (0 ≤ p.2.1 ∧ p.2.1 ≤ k) ∧ IsN s.ns (k + 2) p.1 ∧ IsN s.ns (k + 1) p.2.2 ∧ ∀ f ox oy, Std s.ns (k + 2) p.1 f ox oy → Std s.ns (k + 1) p.2.2 (gens (2 ^ p.2.1.toNat) f) (ox + 2 ^ k) (oy + 2 ^ k)
theorem MS.pre {s : LS} {ms : List Node} (hw : Wf s.ns) (h : MS s) (hp : s.ns <+: ms) : MS ⟨ms, s.mm⟩ := fun p hm => by
 obtain ⟨k, h1, h2, h3, h4⟩ := h p hm
 exact ⟨k, h1, h2.pre hp, h3.pre hp, fun f ox oy hs => (h4 f ox oy (hs.back hw hp h2)).pre hw hp⟩
/-- What a leap that is right does. -/
def LpOk (room : Int) (k : Nat) (lp : LS → Int → Int → L9) : Prop := ∀ s q j, Lk room s → MS s → IsN s.ns (k + 2) q → 0 ≤ j ∧ j ≤ (k : Int) → (lp s q j).2.2 = 0 →
 Lk room (lp s q j).1 ∧ s.ns <+: (lp s q j).1.ns ∧ MS (lp s q j).1 ∧ ∀ f ox oy, Std s.ns (k + 2) q f ox oy → Std (lp s q j).1.ns (k + 1) (lp s q j).2.1 (gens (2 ^ j.toNat) f) (ox + 2 ^ k) (oy + 2 ^ k)
end R9
end Go.GL


set_option linter.unusedVariables false
namespace Go.GL
open R6 R7
/-! ### What errors a leap may tell -/
namespace R9
def Er (e : Int) : Prop := e = 0 ∨ e = 40
end R9
end Go.GL


set_option linter.unusedVariables false
namespace Go.GL
open R6 R7
namespace R9
/-! #### how many things are kept -/
theorem nodup_len : ∀ (N : Nat) (l : List Nat), l.Nodup → (∀ x ∈ l, x < N) → l.length ≤ N
 | 0, l, _, hb => by
  cases l with
  | nil => exact Nat.le_refl _
  | cons x l => exact absurd (hb x List.mem_cons_self) (by omega)
 | N + 1, l, hn, hb => by
  have h1 := nodup_len N (l.erase N) (hn.erase N) fun x hx => by
   have := (hn.mem_erase_iff).1 hx
   have h2 := hb x this.2
   have h3 := this.1
   omega
  by_cases hm : N ∈ l
  ·have := List.length_erase_of_mem hm
   omega
  ·rw [List.erase_of_not_mem hm] at h1
   omega
/-- No two things that are kept are of the same node and exponent. -/
def Kn (mm : Memo) : Prop := (mm.map fun p => (p.1, p.2.1)).Nodup ∧ ∀ p ∈ mm, 0 ≤ p.2.1 ∧ p.2.1 ≤ 1000000
theorem nodup_map {α β γ : Type} (f : α → β) (g : β → γ) (P : β → Prop) (hg : ∀ a b, P a → P b → g a = g b → a = b) : ∀ l : List α, (∀ x ∈ l, P (f x)) → (l.map f).Nodup → (l.map fun x => g (f x)).Nodup
 | [], _, _ => List.nodup_nil
 | x :: l, hp, hn => by
  simp only [List.map_cons, List.nodup_cons] at hn ⊢
  refine ⟨fun hm => hn.1 ?_, nodup_map f g P hg l (fun y hy => hp y (List.mem_cons_of_mem _ hy)) hn.2⟩
  obtain ⟨y, hy, e⟩ := List.mem_map.1 hm
  rw [← hg _ _ (hp y (List.mem_cons_of_mem _ hy)) (hp x List.mem_cons_self) e]
  exact List.mem_map_of_mem hy
theorem Kn.len {ns : List Node} {mm : Memo} (hm : MemOk ns mm) (hk : Kn mm) (h : ns.length ≤ 100000) : mm.length ≤ 1000000000000 := by
 have h1 := nodup_map (fun p : Int × Int × Int => (p.1, p.2.1)) (fun q : Int × Int => q.1.toNat * 1000001 + q.2.toNat) (fun q => 0 ≤ q.1 ∧ 0 ≤ q.2 ∧ q.2 ≤ 1000000) (fun a b ha hb e => by
  obtain ⟨a1, a2⟩ := a
  obtain ⟨b1, b2⟩ := b
  simp only at ha hb e
  have e1 : a1 = b1 := by omega
  have e2 : a2 = b2 := by omega
  rw [e1, e2]) mm (fun p hp => by
   obtain ⟨lv, a, b⟩ := hm p hp
   exact ⟨a.1.1, hk.2 p hp⟩) hk.1
 have h2 := nodup_len 1000000000000 _ h1 fun x hx => by
  obtain ⟨p, hp, rfl⟩ := List.mem_map.1 hx
  obtain ⟨lv, a, b⟩ := hm p hp
  have h3 := a.1.2
  have h4 := hk.2 p hp
  simp only
  omega
 rw [List.length_map] at h2
 exact h2
theorem look9_none : ∀ {mm : Memo} {n j : Int}, look9 mm n j = none → ∀ p ∈ mm, (p.1, p.2.1) ≠ (n, j)
 | p :: mm, n, j, h, q, hq, e => by
  unfold look9 at h
  split at h
  ·cases h
  ·rename_i h1
   rcases List.mem_cons.1 hq with rfl | hq
   ·exact h1 (by simpa using e)
   ·exact look9_none h q hq e
theorem Kn.snoc {mm : Memo} (h : Kn mm) {n j to : Int} (hl : look9 mm n j = none) (hj : 0 ≤ j ∧ j ≤ 1000000) : Kn (mm ++ [(n, j, to)]) := by
 constructor
 ·rw [List.map_append, List.nodup_append]
  refine ⟨h.1, by simp, fun a ha b hb e => ?_⟩
  obtain ⟨p, hp, rfl⟩ := List.mem_map.1 ha
  simp only [List.map_cons, List.map_nil, List.mem_singleton] at hb
  exact look9_none hl p hp (e.trans hb)
 ·intro p hp
  rcases List.mem_append.1 hp with hp | hp
  ·exact h.2 p hp
  ·rw [List.mem_singleton.1 hp]; exact hj
theorem Kn.nil : Kn [] := ⟨List.nodup_nil, fun p hp => by cases hp⟩
end R9
end Go.GL


set_option linter.unusedVariables false
namespace Go.GL
/-! ### What the laws of chapter 9 make of raw numbers -/
namespace RL
def fcell (v : Int) (r : Cell) : Cell := ⟨pk r.x (2 * R7.side v) - R7.side v, pk r.y (2 * R7.side v) - R7.side v⟩
def fset (v : Int) (raw : List Cell) : List Cell := R1.puts ((raw.take 30).map (fcell v))
def putN (rm : Int) (ns : List Node) (r : Five) : List Node := (R6.intern ns rm (pk r.r0 2) (pk r.r1 2) (pk r.r2 2) (pk r.r3 2)).1
def fstore (rm : Int) (nodes : List Five) : List Node := (nodes.take 10).foldl (putN rm) [R6.n0, R6.n1]
def fv (level : Int) : Int := 3 + pk level 3
def field (c : Int) (nodes : List Five) (raw : List Cell) (level : Int) : List Node × Int × Int := R7.make (fstore (room c) nodes) (room c + 600) (fset (fv level) raw) (fv level)
end RL
namespace R9
end R9
end Go.GL


set_option linter.unusedVariables false
namespace Go.GL
open R6 R7
namespace R9
/-- What a leap tells. -/
structure LeapR (ns : List Node) (room : Int) (k : Nat) (n j : Int) (p : List Node × Int × Int) : Prop where
 er : Er p.2.2
 right : R6.right p.1 room
 pre : ns <+: p.1
 is : p.2.2 = 0 → IsN p.1 (k + 1) p.2.1
 std : p.2.2 = 0 → ∀ f ox oy, Std ns (k + 2) n f ox oy → Std p.1 (k + 1) p.2.1 (gens (2 ^ j.toNat) f) (ox + 2 ^ k) (oy + 2 ^ k)
/-- A set, as a part of the plane. -/
def pl (l : List Cell) : Int → Int → Bool := fun x y => decide ((⟨x, y⟩ : Cell) ∈ l)
end R9
namespace RL
def cropF (l : List Cell) (half : Int) : List Cell := l.filter fun c => decide (((-half ≤ c.x ∧ c.x < half) ∧ -half ≤ c.y) ∧ c.y < half)
def hset (raw : List Cell) : List Cell := R1.puts ((raw.take 40).map cell16)
end RL
end Go.GL


set_option linter.unusedVariables false
namespace Go.GL
open R6 R7
/-! ### A run stands for what is there behind so many generations -/
namespace R9
/-- All that is alive is so near. -/
def Supp (f : Int → Int → Bool) (a : Int) : Prop := ∀ x y, f x y = true → -a ≤ x ∧ x < a ∧ -a ≤ y ∧ y < a
theorem Supp.le {f : Int → Int → Bool} {a b : Int} (h : Supp f a) (hab : a ≤ b) : Supp f b := fun x y hf => by
 have := h x y hf
 omega
/-- A node of the level k + 2 in the middle, and nothing outside. -/
def Ctr (ns : List Node) (k : Nat) (n : Int) (f : Int → Int → Bool) : Prop := Std ns (k + 2) n f (-2 ^ (k + 1)) (-2 ^ (k + 1)) ∧ Supp f (2 ^ (k + 1))
theorem Ctr.pre {ns ms : List Node} (h : Wf ns) (hp : ns <+: ms) {k : Nat} {n : Int} {f : Int → Int → Bool} (hs : Ctr ns k n f) : Ctr ms k n f := ⟨hs.1.pre h hp, hs.2⟩
/-! #### grown -/
def nil2 : Int → Int → Bool := fun _ _ => false
end R9
end Go.GL


set_option linter.unusedVariables false
namespace Go.GL
open R6 R7
namespace R9
/-- An answer without an error. -/
def OkS (room : Int) (s : LS) (r : L9) : Prop := Lk room r.1 ∧ s.ns <+: r.1.ns ∧ MS r.1
theorem OkS.trans {room : Int} {s t : LS} {r : L9} (h : OkS room t r) (hp : s.ns <+: t.ns) : OkS room s r := ⟨h.1, hp.trans h.2.1, h.2.2⟩
/-- How many generations. -/
def total : List Nat → Nat
 | [] => 0
 | j :: js => 2 ^ j + total js
/-! #### the bits -/
def bitsN (c : Int) (m : Nat) : List Nat := (List.range m).filter fun i => decide (c / 2 ^ i % 2 = 1)
end R9
end Go.GL


set_option linter.unusedVariables false
namespace Go.GL
open R6 R7
namespace R9
/-- Trimmed. -/
def Trd (ns : List Node) (k : Nat) (n : Int) : Prop := k = 0 ∨ edged ns n = true
theorem edged_pre {ns ms : List Node} (h : Wf ns) (hp : ns <+: ms) {k : Nat} {n : Int} (hn : IsN ns (k + 2) n) : edged ms n = edged ns n := by
 unfold edged
 rw [R8.s16_pre h hp hn]
 have hi := s16_isN h hn
 have key : ∀ i : Int, 0 ≤ i → i < 16 → nd ms (R8.g (R8.s16 ns n) i) = nd ns (R8.g (R8.s16 ns n) i) := fun i a b => nd_pre hp (hi i a b).1
 simp only [List.any_cons, List.any_nil]
 rw [key 0 (by omega) (by omega), key 1 (by omega) (by omega), key 2 (by omega) (by omega), key 3 (by omega) (by omega), key 4 (by omega) (by omega), key 7 (by omega) (by omega), key 8 (by omega) (by omega), key 11 (by omega) (by omega), key 12 (by omega) (by omega), key 13 (by omega) (by omega), key 14 (by omega) (by omega), key 15 (by omega) (by omega)]
theorem Trd.pre {ns ms : List Node} (h : Wf ns) (hp : ns <+: ms) {k : Nat} {n : Int} (hn : IsN ns (k + 2) n) (ht : Trd ns k n) : Trd ms k n := ht.imp id fun e => by rw [edged_pre h hp hn]; exact e
theorem alive {ns : List Node} (h : Wf ns) : ∀ (lv : Nat) (n : Int), IsN ns lv n → (nd ns n).pop ≠ 0 → ∃ x y, inQ lv x y ∧ al ns lv n x y = true
 | 0, n, hn, hp => by
  rcases isN0 h hn with rfl | rfl
  ·exact absurd (by rw [h.nd0]; rfl) hp
  ·exact ⟨0, 0, ⟨by omega, by decide, by omega, by decide⟩, rfl⟩
 | lv + 1, n, hn, hp => by
  obtain ⟨a, b, c, d⟩ := kids4 h hn
  have hpos := p2pos lv
  have hk : ∀ (q : Int) (a b : Int), (a = 0 ∨ a = 1) → (b = 0 ∨ b = 1) → R7.kid ns n (2 * b + a) = q → (∃ x y, inQ lv x y ∧ al ns lv q x y = true) → ∃ x y, inQ (lv + 1) x y ∧ al ns (lv + 1) n x y = true := by
   rintro q a b ha hb hq ⟨x, y, h1, h2⟩
   refine ⟨x + a * 2 ^ lv, y + b * 2 ^ lv, ?_, ?_⟩
   ·unfold inQ at h1 ⊢
    rw [p2s]
    rcases ha with rfl | rfl <;> rcases hb with rfl | rfl <;> omega
   ·rw [al_kid ns h1 ha hb, hq]
    exact h2
  have hd := fun hc => hp ((dead_kids h hn).2 hc)
  by_cases e0 : (nd ns (nd ns n).k0).pop = 0
  ·by_cases e1 : (nd ns (nd ns n).k1).pop = 0
   ·by_cases e2 : (nd ns (nd ns n).k2).pop = 0
    ·exact hk _ 1 1 (.inr rfl) (.inr rfl) rfl (alive h lv _ d fun e3 => hd ⟨e0, e1, e2, e3⟩)
    ·exact hk _ 0 1 (.inl rfl) (.inr rfl) rfl (alive h lv _ c e2)
   ·exact hk _ 1 0 (.inr rfl) (.inl rfl) rfl (alive h lv _ b e1)
  ·exact hk _ 0 0 (.inl rfl) (.inl rfl) rfl (alive h lv _ a e0)
/-- What a run tells. -/
structure RunR (ns : List Node) (room : Int) (K : Nat) (n c : Int) (f : Int → Int → Bool) (p : List Node × Int × Int) : Prop where
 er : Er p.2.2
 right : R6.right p.1 room
 pre : ns <+: p.1
 ok : p.2.2 = 0 → ∃ k', k' ≤ K ∧ Ctr p.1 k' p.2.1 (gens c.toNat f) ∧ Trd p.1 k' p.2.1
 trim : p.2.2 = 0 → (trimS room ⟨ns, []⟩ n).2.2 = 0 ∧ (trimS room ⟨ns, []⟩ n).1.ns <+: p.1
/-! #### turned by half -/
def refl (f : Int → Int → Bool) : Int → Int → Bool := fun x y => f (-x) (-y)
end R9
end Go.GL


set_option linter.unusedVariables false
namespace Go.GL
/-! ### Generations of sets that lie in a box -/
namespace R2
open R9 (gen gens pl)
/-- Within a box. -/
def Bx (l : List Cell) (a b c d : Int) : Prop := ∀ e ∈ l, a ≤ e.x ∧ e.x ≤ b ∧ c ≤ e.y ∧ e.y ≤ d
theorem Bx.le {l : List Cell} {a b c d a' b' c' d' : Int} (h : Bx l a b c d) (h1 : a' ≤ a) (h2 : b ≤ b') (h3 : c' ≤ c) (h4 : d ≤ d') : Bx l a' b' c' d' := fun e he => by
 have := h e he
 omega
/-- So many generations. -/
def iter : Nat → List Cell → List Cell × Int
 | 0, l => (l, 0)
 | n + 1, l => if (next l).2 ≠ 0 then ([], (next l).2) else iter n (next l).1
def run (l : List Cell) (n : Int) : List Cell × Int := if R1.right l ∧ 0 ≤ n ∧ n ≤ 1000 then iter n.toNat l else ([], 1)
end R2
end Go.GL


set_option linter.unusedVariables false
namespace Go.GL
/-! ### Layer 19, as the document has it -/
namespace R19
/-- The i-th task's parent is one. -/
def okAt (l : List Int) (i : Nat) : Prop := (i = 0 → l.getD i default = -1) ∧ (0 < i → 0 ≤ l.getD i default ∧ l.getD i default < i)
instance (l : List Int) (i : Nat) : Decidable (okAt l i) := inferInstanceAs (Decidable (_ ∧ _))
def right (l : List Int) : Prop := (1 ≤ l.length ∧ l.length ≤ 300) ∧ ∀ i, i < l.length → okAt l i
instance (l : List Int) : Decidable (right l) := inferInstanceAs (Decidable (_ ∧ _))
end R19
end Go.GL
namespace Go.GL
namespace R19
/-! ### What the laws make of raw numbers -/
def treeF (raw : List Int) (i : Nat) : List Int := -1 :: (List.range i).map fun j => pk (raw.getD j default) ((j : Int) + 1)
def tree (raw : List Int) : List Int := treeF raw (if raw.length < 39 then raw.length else 39)
def valAt (raw : List Int) (j : Nat) : Int := if j < raw.length then pk (raw.getD j default) 1000 - 300 else j
def vals (raw : List Int) (n : Nat) : List Int := (List.range n).map (valAt raw)
end R19
end Go.GL
namespace Go.GL
/-- How far a task is. -/
structure Frame where
 par : Int
 a : Option Addr
 len : Nat
 cap : Nat
 sum : Int
 left : Int
 deriving Inhabited
instance : Enc Frame := ⟨fun s => [.int .i64 s.par, .slice s.a s.len s.cap, .int .i64 s.sum, .int .i64 s.left], 4, fun _ => rfl, fun _ => rfl⟩
namespace R19
/-- The kids of t among the first i tasks. -/
def kidsTo (p : List Int) (i : Nat) (t : Nat) : List Int := ((List.range i).filter fun j => decide (p.getD j default = (t : Int))).map fun (j : Nat) => (j : Int)
def kids (p : List Int) (t : Nat) : List Int := kidsTo p p.length t
end R19
end Go.GL
namespace Go.GL
namespace R19
def add1 (fs : List Frame) (p t : Nat) : List Frame := fs.set p { fs.getD p default with sum := IntKind.i64.wrap ((fs.getD p default).sum + (fs.getD t default).sum) }
def less1 (fs : List Frame) (p : Nat) : List Frame := fs.set p { fs.getD p default with left := IntKind.i64.wrap ((fs.getD p default).left - 1) }
/-- A task is done: its parent is told; is the first one done? -/
def joinM : Nat → List Frame → Nat → List Frame × Bool
 | 0, fs, _ => (fs, false)
 | f + 1, fs, t =>
  if (fs.getD t default).par < 0 then (fs, true) else
  if ((less1 (add1 fs (fs.getD t default).par.toNat t) (fs.getD t default).par.toNat).getD (fs.getD t default).par.toNat default).left = 0 then joinM f (less1 (add1 fs (fs.getD t default).par.toNat t) (fs.getD t default).par.toNat) (fs.getD t default).par.toNat
  else (less1 (add1 fs (fs.getD t default).par.toNat t) (fs.getD t default).par.toNat, false)
end R19
end Go.GL
namespace Go.GL
namespace R19
/-! ### Deques -/
/-- Where the first deque is that is not empty, from the j-th one behind w on. -/
def findF (D : List (List Int)) (w : Nat) : Nat → Nat → Option Nat
 | 0, _ => none
 | f + 1, j => if (D.getD ((w + j) % D.length) default).length = 0 then findF D w f (j + 1) else some ((w + j) % D.length)
/-- The task that a worker takes, and what is left. -/
def takeM (D : List (List Int)) (w : Nat) : Int × List (List Int) :=
 if 0 < (D.getD w default).length then ((D.getD w default).getD ((D.getD w default).length - 1) default, D.set w ((D.getD w default).take ((D.getD w default).length - 1)))
 else match findF D w D.length 0 with
  | some k => ((D.getD k default).getD 0 default, D.set k ((D.getD k default).drop 1))
  | none => (-1, D)
end R19
end Go.GL


set_option linter.unusedVariables false
namespace Go.GL
/-! ### Layer 11, as the document has it -/
namespace R11
/-- Those that are left, from the i-th one on. -/
def allF : Nat → List Int → List Int
 | _, [] => []
 | i, n :: l => if 0 < n then (i : Int) :: allF (i + 1) l else allF (i + 1) l
def all (left : List Int) : List Int := allF 0 left
/-- Where the first one is of which p is true. -/
def idx (p : Int → Bool) (l : List Int) : Int := if l.findIdx p < l.length then (l.findIdx p : Int) else -1
def round (a : List Int) (last : Int) : Int := if 0 ≤ idx (fun i => decide (last < i)) a ∧ 0 ≤ last then a.getD (idx (fun i => decide (last < i)) a).toNat default else a.getD 0 default
def next (picks : List Int) (step : Int) (left : List Int) (last : Int) : Int :=
 if (all left).length = 0 then -1 else
 if 0 ≤ step ∧ step < picks.length then (all left).getD (pk (picks.getD step.toNat default) (all left).length).toNat default
 else round (all left) last
def dec (left : List Int) (i : Int) : List Int := left.set i.toNat (left.getD i.toNat default - 1)
def turnsF (picks : List Int) : Nat → Nat → List Int → Int → List Int
 | 0, _, _, _ => []
 | f + 1, s, left, last => if next picks s left last < 0 then [] else next picks s left last :: turnsF picks f (s + 1) (dec left (next picks s left last)) (next picks s left last)
def turns (picks left : List Int) : List Int := turnsF picks 100000 0 left (-1)
theorem allF_mem : ∀ {l : List Int} {i : Nat} {q : Int}, q ∈ allF i l ↔ ∃ j : Nat, j < l.length ∧ q = ((i + j : Nat) : Int) ∧ 0 < l.getD j default
 | [], i, q => by simp [allF]
 | n :: l, i, q => by
  have ih := allF_mem (l := l) (i := i + 1) (q := q)
  have key : (∃ j : Nat, j < (n :: l).length ∧ q = ((i + j : Nat) : Int) ∧ 0 < (n :: l).getD j default) ↔ (q = (i : Int) ∧ 0 < n) ∨ ∃ j : Nat, j < l.length ∧ q = ((i + 1 + j : Nat) : Int) ∧ 0 < l.getD j default := by
   constructor
   ·rintro ⟨j, h1, h2, h3⟩
    cases j with
    | zero => exact .inl ⟨by simpa using h2, by simpa using h3⟩
    | succ j => exact .inr ⟨j, by simpa using h1, by rw [h2]; omega, by simpa using h3⟩
   ·rintro (⟨h1, h2⟩ | ⟨j, h1, h2, h3⟩)
    ·exact ⟨0, by simp, by simpa using h1, by simpa using h2⟩
    ·exact ⟨j + 1, by simpa using h1, by rw [h2]; omega, by simpa using h3⟩
  rw [key, ← ih]
  simp only [allF]
  split
  ·rename_i h
   simp [h]
  ·rename_i h
   simp [h]
theorem mem_all {l : List Int} {q : Int} : q ∈ all l ↔ 0 ≤ q ∧ q < l.length ∧ 0 < l.getD q.toNat default := by
 unfold all
 rw [allF_mem]
 constructor
 ·rintro ⟨j, h1, rfl, h3⟩
  refine ⟨by omega, by omega, ?_⟩
  simpa using h3
 ·rintro ⟨h1, h2, h3⟩
  exact ⟨q.toNat, by omega, by omega, h3⟩
theorem allF_srt : ∀ (l : List Int) (i : Nat), (allF i l).Pairwise (· < ·) ∧ ∀ q ∈ allF i l, (i : Int) ≤ q
 | [], i => by simp [allF]
 | n :: l, i => by
  have ih := allF_srt l (i + 1)
  simp only [allF]
  split
  ·refine ⟨List.pairwise_cons.2 ⟨fun q hq => ?_, ih.1⟩, fun q hq => ?_⟩
   ·have := ih.2 q hq
    omega
   ·rcases List.mem_cons.1 hq with rfl | hq
    ·exact Int.le_refl _
    ·have := ih.2 q hq
     omega
  ·exact ⟨ih.1, fun q hq => by have := ih.2 q hq; omega⟩
theorem all_srt (l : List Int) : (all l).Pairwise (· < ·) := (allF_srt l 0).1
theorem dec_len (l : List Int) (i : Int) : (dec l i).length = l.length := by simp [dec]
theorem idx_some {p : Int → Bool} {l : List Int} (h : 0 ≤ idx p l) : (idx p l).toNat < l.length ∧ p (l.getD (idx p l).toNat default) = true ∧ ∀ j, j < (idx p l).toNat → p (l.getD j default) = false := by
 unfold idx at *
 split at h
 ·rename_i hl
  rw [if_pos hl]
  refine ⟨by simpa using hl, ?_, ?_⟩
  ·have := List.findIdx_getElem (w := hl)
   simpa [hl] using this
  ·intro j hj
   have hj' : j < l.findIdx p := by simpa using hj
   have := List.not_of_lt_findIdx hj'
   simpa [Nat.lt_trans hj' hl] using this
 ·omega
theorem idx_none {p : Int → Bool} {l : List Int} (h : ¬ 0 ≤ idx p l) : ∀ x ∈ l, p x = false := by
 unfold idx at h
 split at h
 ·omega
 ·rename_i hl
  intro x hx
  have := List.findIdx_eq_length.1 (Nat.le_antisymm List.findIdx_le_length (Nat.not_lt.1 hl)) x hx
  simpa using this
/-- The next one round. -/
theorem round_ok {a : List Int} {last : Int} (hs : a.Pairwise (· < ·)) (h0 : ∀ q ∈ a, 0 ≤ q) (hn : a ≠ []) (hl : -1 ≤ last) : round a last ∈ a ∧ ((last < round a last ∧ ∀ j ∈ a, last < j → round a last ≤ j) ∨ ((∀ j ∈ a, j ≤ last) ∧ ∀ j ∈ a, round a last ≤ j)) := by
 have hpos : 0 < a.length := List.length_pos_iff.2 hn
 have hle : ∀ i j, (hij : i ≤ j) → (hj : j < a.length) → a[i]'(by omega) ≤ a[j] := fun i j hij hj => by
  rcases Nat.lt_or_eq_of_le hij with h | rfl
  ·have := List.pairwise_iff_getElem.1 hs i j (by omega) hj h
   omega
  ·exact Int.le_refl _
 have first : ∀ j ∈ a, a.getD 0 default ≤ j := fun j hj => by
  obtain ⟨i, hi, rfl⟩ := List.getElem_of_mem hj
  have := hle 0 i (by omega) hi
  simpa [hpos] using this
 have m0 : a.getD 0 default ∈ a := by simp [hpos]
 unfold round
 split
 ·rename_i h
  obtain ⟨h1, h2, h3⟩ := idx_some h.1
  generalize (idx (fun i => decide (last < i)) a).toNat = k at *
  refine ⟨by simp [h1], .inl ⟨by simpa using h2, fun j hj hlt => ?_⟩⟩
  obtain ⟨i, hi, rfl⟩ := List.getElem_of_mem hj
  by_cases e : i < k
  ·have := h3 i e
   simp [hi] at this
   omega
  ·have := hle k i (by omega) hi
   simpa [h1] using this
 ·rename_i h
  refine ⟨m0, ?_⟩
  by_cases hlast : 0 ≤ last
  ·have hx := idx_none (fun x => h ⟨x, hlast⟩)
   exact .inr ⟨fun j hj => by have := hx j hj; simpa using this, first⟩
  ·exact .inl ⟨by have := h0 _ m0; omega, fun j hj _ => first j hj⟩
theorem getD_mem {l : List Int} {i : Nat} (h : i < l.length) : l.getD i default ∈ l := by
 rw [List.getD_eq_getElem?_getD, List.getElem?_eq_getElem h]
 exact List.getElem_mem h
theorem next_none {picks left : List Int} {step last : Int} (h : next picks step left last < 0) : all left = [] := by
 unfold next at h
 split at h
 ·rename_i hl; exact List.length_eq_zero_iff.1 hl
 ·rename_i hl
  exfalso
  have hmem : ∀ q ∈ all left, 0 ≤ q := fun q hq => (mem_all.1 hq).1
  have hpos : 0 < (all left).length := by omega
  split at h
  ·have := pk_bd (c := picks.getD step.toNat default) (n := (all left).length) (by omega)
   have hi : (pk (picks.getD step.toNat default) (all left).length).toNat < (all left).length := by omega
   have := hmem _ (getD_mem hi)
   omega
  ·unfold round at h
   split at h
   ·rename_i hk
    have hi := (idx_some hk.1).1
    have := hmem _ (getD_mem hi)
    omega
   ·have := hmem _ (getD_mem hpos)
    omega
theorem next_mem {picks left : List Int} {step last : Int} (h : ¬ next picks step left last < 0) : next picks step left last ∈ all left := by
 unfold next at *
 split at h
 ·exact absurd (by omega) h
 ·rename_i hl
  rw [if_neg hl]
  have hpos : 0 < (all left).length := by omega
  split
  ·have := pk_bd (c := picks.getD step.toNat default) (n := (all left).length) (by omega)
   have hi : (pk (picks.getD step.toNat default) (all left).length).toNat < (all left).length := by omega
   exact getD_mem hi
  ·unfold round
   split
   ·rename_i hk
    exact getD_mem (idx_some hk.1).1
   ·exact getD_mem hpos
theorem next_ok {picks left : List Int} {step last : Int} (h : ¬ next picks step left last < 0) : 0 ≤ next picks step left last ∧ next picks step left last < left.length ∧ 0 < left.getD (next picks step left last).toNat default := mem_all.1 (next_mem h)
end R11
end Go.GL


set_option linter.unusedVariables false
namespace Go.GL
/-! ### Turns: who is next, one behind the other -/
namespace R11
def tot (l : List Int) : Nat := (l.map Int.toNat).sum
def Nn (l : List Int) : Prop := ∀ x ∈ l, 0 ≤ x
theorem Nn.at {l : List Int} (h : Nn l) (i : Nat) : 0 ≤ l.getD i default := by
 by_cases hi : i < l.length
 ·exact h _ (getD_mem hi)
 ·rw [List.getD_eq_getElem?_getD, List.getElem?_eq_none (by omega)]; exact Int.le_refl _
theorem tot_set : ∀ (l : List Int) (i : Nat), i < l.length → 0 < l.getD i default → tot (l.set i (l.getD i default - 1)) + 1 = tot l
 | [], i, h, _ => absurd h (by simp)
 | x :: l, 0, _, h => by
  simp only [List.getD_cons_zero] at h
  simp only [List.set_cons_zero, List.getD_cons_zero, tot, List.map_cons, List.sum_cons]
  omega
 | x :: l, i + 1, h, h2 => by
  have := tot_set l i (by simpa using h) (by simpa using h2)
  simp only [List.set_cons_succ, List.getD_cons_succ, tot, List.map_cons, List.sum_cons] at this ⊢
  omega
theorem dec_tot {l : List Int} {i : Int} (h : 0 ≤ i ∧ i < l.length ∧ 0 < l.getD i.toNat default) : tot (dec l i) + 1 = tot l := tot_set l i.toNat (by omega) h.2.2
theorem dec_nn {l : List Int} (hl : Nn l) {i : Int} (h : 0 ≤ i ∧ i < l.length ∧ 0 < l.getD i.toNat default) : Nn (dec l i) := by
 intro x hx
 unfold dec at hx
 rcases List.mem_or_eq_of_mem_set hx with hx | rfl
 ·exact hl x hx
 ·omega
theorem dec_get {l : List Int} {i : Int} (h : 0 ≤ i ∧ i < l.length) (w : Nat) : (dec l i).getD w default = if (w : Int) = i then l.getD w default - 1 else l.getD w default := by
 unfold dec
 rw [List.getD_eq_getElem?_getD, List.getElem?_set, List.getD_eq_getElem?_getD]
 by_cases e : i.toNat = w
 ·subst e
  rw [if_pos rfl, if_pos (by omega), if_pos (by omega)]
  rfl
 ·rw [if_neg e, if_neg (by omega), List.getD_eq_getElem?_getD]
/-- The turns go on from the i-th one, with so much left, behind the last one. -/
structure Go (picks l : List Int) (i : Nat) (now : List Int) (last : Int) : Prop where
 run : l.drop i = turnsF picks (100000 - i) i now last
 nn : Nn now
 lim : tot now + i < 100000
theorem Go.start {picks left : List Int} (h : Nn left) (ht : tot left < 100000) : Go picks (turns picks left) 0 left (-1) := ⟨rfl, h, by omega⟩
theorem drop_getD {l : List Int} {i : Nat} (h : i < l.length) : l.drop i = l.getD i default :: l.drop (i + 1) := by
 rw [List.drop_eq_getElem_cons h]; simp [h]
theorem Go.step {picks l now : List Int} {i : Nat} {last : Int} (h : Go picks l i now last) (hi : i < l.length) :
  next picks i now last = l.getD i default ∧ (0 ≤ l.getD i default ∧ l.getD i default < now.length ∧ 0 < now.getD (l.getD i default).toNat default) ∧ Go picks l (i + 1) (dec now (l.getD i default)) (l.getD i default) := by
 have hr := h.run
 have hl := h.lim
 obtain ⟨f, hf⟩ : ∃ f, 100000 - i = f + 1 := ⟨100000 - i - 1, by omega⟩
 rw [hf, drop_getD hi] at hr
 unfold turnsF at hr
 split at hr
 ·cases hr
 ·rename_i hn
  injection hr with h1 h2
  have hok := next_ok hn
  rw [h1]
  refine ⟨rfl, hok, ?_, dec_nn h.nn hok, ?_⟩
  ·rw [h2, show 100000 - (i + 1) = f by omega]
  ·have := dec_tot hok
   omega
/-- How often a worker has had its turn. -/
def cnt (l : List Int) (i : Nat) (w : Int) : Nat := ((l.take i).filter fun x => decide (x = w)).length
theorem cnt_zero (l : List Int) (w : Int) : cnt l 0 w = 0 := rfl
theorem cnt_succ {l : List Int} {i : Nat} (hi : i < l.length) (w : Int) : cnt l (i + 1) w = cnt l i w + if l.getD i default = w then 1 else 0 := by
 unfold cnt
 rw [List.take_succ_eq_append_getElem hi, List.filter_append, List.length_append, show l.getD i default = l[i] by simp [hi]]
 by_cases e : l[i] = w <;> simp [e]
/-- What is left of each. -/
structure Had (left l : List Int) (i : Nat) (now : List Int) : Prop where
 len : now.length = left.length
 had : ∀ w : Nat, now.getD w default + cnt l i w = left.getD w default
theorem Had.start (left l : List Int) : Had left l 0 left := ⟨rfl, fun w => by rw [cnt_zero]; omega⟩
theorem Had.step {left l now : List Int} {i : Nat} (h : Had left l i now) (hi : i < l.length) (hk : 0 ≤ l.getD i default ∧ l.getD i default < now.length) : Had left l (i + 1) (dec now (l.getD i default)) := by
 refine ⟨by rw [dec_len, h.len], fun w => ?_⟩
 have := h.had w
 rw [dec_get hk, cnt_succ hi]
 by_cases e : (w : Int) = l.getD i default
 ·rw [if_pos e, if_pos e.symm]; omega
 ·rw [if_neg e, if_neg (Ne.symm e)]; omega
/-! #### none waits long -/
/-- How far it is from the last one on to another, round. -/
def far (n : Nat) (last w : Int) : Int := if last < w then w - last else w - last + n
theorem far_bd {n : Nat} {last w : Int} (h1 : -1 ≤ last) (h2 : last < n) (h3 : 0 ≤ w) (h4 : w < n) : 1 ≤ far n last w ∧ far n last w ≤ n := by unfold far; split <;> omega
theorem far_next {now : List Int} {last w : Int} (h1 : -1 ≤ last) (h2 : last < now.length) (hw : w ∈ all now) (hne : round (all now) last ≠ w) : far now.length (round (all now) last) w + 1 ≤ far now.length last w := by
 have hb := mem_all.1 hw
 have hne' : all now ≠ [] := fun e => by rw [e] at hw; cases hw
 obtain ⟨hm, h | h⟩ := round_ok (all_srt now) (fun q hq => (mem_all.1 hq).1) hne' h1
 ·have hmb := mem_all.1 hm
  have := h.2 w hw
  unfold far
  split <;> split <;> omega
 ·have hmb := mem_all.1 hm
  have := h.1 w hw
  have := h.2 w hw
  unfold far
  split <;> split <;> omega
theorem next_round {picks now : List Int} {i : Nat} {last : Int} (hi : picks.length ≤ i) (hn : ¬ next picks i now last < 0) : next picks i now last = round (all now) last := by
 unfold next at *
 split at hn
 ·exact absurd (by omega) hn
 ·rename_i h
  rw [if_neg h, if_neg (by omega)]
/-! #### workers go round -/
/-- All that are left have had as many turns, but that those behind the last one have had one less. -/
structure Rnd (l now : List Int) (i : Nat) (last : Int) (r : Nat) : Prop where
 le : ∀ w : Nat, cnt l i w ≤ r
 hi : ∀ w : Nat, 0 < now.getD w default → (w : Int) ≤ last → cnt l i w = r
 lo : ∀ w : Nat, 0 < now.getD w default → last < (w : Int) → cnt l i w + 1 = r
 lb : -1 ≤ last
theorem Rnd.step {l now : List Int} {i r : Nat} {last : Int} (h : Rnd l now i last r) (hi : i < l.length) (hk : l.getD i default = round (all now) last) (hne : all now ≠ []) : ∃ r', Rnd l (dec now (l.getD i default)) (i + 1) (l.getD i default) r' := by
 have hr := round_ok (all_srt now) (fun q hq => (mem_all.1 hq).1) hne h.lb
 rw [← hk] at hr
 obtain ⟨hm, hr⟩ := hr
 have hmb := mem_all.1 hm
 have hk2 : 0 ≤ l.getD i default ∧ l.getD i default < now.length := ⟨hmb.1, hmb.2.1⟩
 have live : ∀ w : Nat, 0 < (dec now (l.getD i default)).getD w default → 0 < now.getD w default := fun w hw => by
  rw [dec_get hk2] at hw
  split at hw <;> omega
 have mem : ∀ w : Nat, 0 < now.getD w default → (w : Int) ∈ all now := fun w hw => by
  have hlt : w < now.length := by
   apply Decidable.byContradiction
   intro hx
   rw [List.getD_eq_getElem?_getD, List.getElem?_eq_none (by omega)] at hw
   exact absurd hw (by decide)
  exact mem_all.2 ⟨by omega, by omega, by simpa using hw⟩
 generalize hkk : l.getD i default = k at *
 have hkn : ((k.toNat : Nat) : Int) = k := by omega
 have hkc : 0 < now.getD k.toNat default := hmb.2.2
 have ck := cnt_succ hi
 rw [hkk] at ck
 rcases hr with hr | hr
 ·refine ⟨r, ⟨fun w => ?_, fun w hw hle => ?_, fun w hw hlt => ?_, by omega⟩⟩
  ·rw [ck]
   have := h.le w
   split
   ·rename_i e
    have h1 := h.lo w (by rw [show w = k.toNat by omega]; exact hkc) (by omega)
    omega
   ·omega
  ·rw [ck]
   have hl := live w hw
   split
   ·rename_i e
    have h1 := h.lo w hl (by omega)
    omega
   ·rename_i e
    by_cases hlast : (w : Int) ≤ last
    ·exact h.hi w hl hlast
    ·have := hr.2 w (mem w hl) (by omega)
     omega
  ·rw [ck]
   have hl := live w hw
   rw [if_neg (by omega)]
   exact h.lo w hl (by omega)
 ·refine ⟨r + 1, ⟨fun w => ?_, fun w hw hle => ?_, fun w hw hlt => ?_, by omega⟩⟩
  ·rw [ck]
   have := h.le w
   split <;> omega
  ·rw [ck]
   have hl := live w hw
   have h1 := hr.1 w (mem w hl)
   have h2 := hr.2 w (mem w hl)
   have h3 := h.hi w hl h1
   rw [if_pos (by omega)]
   omega
  ·rw [ck]
   have hl := live w hw
   have h1 := hr.1 w (mem w hl)
   have h3 := h.hi w hl h1
   rw [if_neg (by omega)]
   omega
theorem Rnd.start (l left : List Int) : Rnd l left 0 (-1) 1 := ⟨fun w => by rw [cnt_zero]; omega, fun w _ h => by omega, fun w _ _ => by rw [cnt_zero], by omega⟩
end R11
end Go.GL


set_option linter.unusedVariables false
namespace Go.GL
namespace R11
/-! #### none waits longer than for as many turns as there are workers -/
structure Wt (picks left l : List Int) (w : Nat) (i : Nat) (now : List Int) (last waits : Int) : Prop where
 go : Go picks l i now last
 hd : Had left l i now
 lb : -1 ≤ last
 ub : last < left.length
 w0 : 0 ≤ waits
 wn : waits ≤ left.length
 fr : 0 < now.getD w default → waits + far left.length last w ≤ left.length
 zr : i ≤ picks.length → waits = 0
theorem getD_pos {l : List Int} {w : Nat} (h : 0 < l.getD w default) : w < l.length := by
 apply Decidable.byContradiction
 intro hx
 rw [List.getD_eq_getElem?_getD, List.getElem?_eq_none (by omega)] at h
 exact absurd h (by decide)
theorem Wt.start {picks left : List Int} (h : Nn left) (ht : tot left < 100000) (w : Nat) : Wt picks left (turns picks left) w 0 left (-1) 0 :=
 ⟨Go.start h ht, Had.start _ _, by omega, by omega, by omega, by omega, fun hw => by
  have := getD_pos hw
  unfold far
  split <;> omega, fun _ => rfl⟩
theorem Wt.step {picks left l now : List Int} {w i : Nat} {last waits : Int} (h : Wt picks left l w i now last waits) (hi : i < l.length) :
  ∃ now' last', (l.getD i default = w → Wt picks left l w (i + 1) now' last' 0) ∧
   (l.getD i default ≠ w → picks.length ≤ i → (cnt l i w : Int) < left.getD w default → Wt picks left l w (i + 1) now' last' (waits + 1)) ∧
   (l.getD i default ≠ w → ¬ (picks.length ≤ i ∧ (cnt l i w : Int) < left.getD w default) → Wt picks left l w (i + 1) now' last' waits) := by
 obtain ⟨hnx, hok, hg⟩ := h.go.step hi
 have hh := h.hd.step hi ⟨hok.1, hok.2.1⟩
 have hlen := h.hd.len
 have hlast : last < now.length := by rw [hlen]; exact h.ub
 have hw0 := h.w0
 have hdec : ∀ hne : l.getD i default ≠ w, (dec now (l.getD i default)).getD w default = now.getD w default := fun hne => by
  rw [dec_get ⟨hok.1, hok.2.1⟩, if_neg (fun e => hne e.symm)]
 have hnow : ∀ hc : 0 < now.getD w default, (cnt l i w : Int) < left.getD w default := fun hc => by
  have := h.hd.had w
  omega
 refine ⟨dec now (l.getD i default), l.getD i default, fun e => ?_, fun hne hp hc => ?_, fun hne hc => ?_⟩
 ·refine ⟨hg, hh, by omega, by omega, by omega, by omega, fun hw => ?_, fun _ => rfl⟩
  rw [e]
  unfold far
  split <;> omega
 ·have hpos : 0 < now.getD w default := by
   have := h.hd.had w
   omega
  have hf := h.fr hpos
  have hwl := getD_pos hpos
  have hm : (w : Int) ∈ all now := mem_all.2 ⟨by omega, by omega, by simpa using hpos⟩
  have hr := next_round (picks := picks) (now := now) (last := last) hp (by rw [hnx]; omega)
  rw [hnx] at hr
  have hfar := far_next h.lb hlast hm (by rw [← hr]; exact hne)
  rw [← hr, hlen] at hfar
  have hb := far_bd (n := left.length) (last := l.getD i default) (w := w) (by omega) (by omega) (by omega) (by omega)
  refine ⟨hg, hh, by omega, by omega, by omega, by omega, fun _ => by omega, fun hp2 => by omega⟩
 ·refine ⟨hg, hh, by omega, by omega, h.w0, h.wn, fun hw => ?_, fun hp2 => h.zr (by omega)⟩
  rw [hdec hne] at hw
  have h1 := hnow hw
  have h2 := h.zr (by omega)
  have hwl := getD_pos hw
  have hb := far_bd (n := left.length) (last := l.getD i default) (w := w) (by omega) (by omega) (by omega) (by omega)
  omega
/-! #### workers go round -/
/-! #### each order is told by some picks -/
def rank : List Int → Nat → Nat
 | [], _ => 0
 | _ :: _, 0 => 0
 | n :: l, t + 1 => (if 0 < n then 1 else 0) + rank l t
/-- How many turns each of n workers has from the i-th one on. -/
def nowAt (n : Nat) (T : List Int) (i : Nat) : List Int := (List.range n).map fun (k : Nat) => (((T.drop i).filter fun x => decide (x = (k : Int))).length : Int)
def picksAt (n : Nat) (T : List Int) (i : Nat) : List Int := (List.range i).map fun j => (rank (nowAt n T j) (T.getD j default).toNat : Int)
/-! #### a worker without steps -/
def ins (l : List Int) (k : Nat) : List Int := l.take k ++ 0 :: l.drop k
def sh (k : Nat) (x : Int) : Int := if (k : Int) ≤ x then x + 1 else x
theorem ins_len {l : List Int} {k : Nat} (h : k ≤ l.length) : (ins l k).length = l.length + 1 := by
 unfold ins
 rw [List.length_append, List.length_take, List.length_cons, List.length_drop]
 omega
end R11
end Go.GL

