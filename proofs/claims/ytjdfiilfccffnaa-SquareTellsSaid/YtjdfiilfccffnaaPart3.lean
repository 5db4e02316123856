/- Part 3: contracts of the functions that the law reaches: each answers as its model does. No condition beyond those that each theorem states. -/
import Derived.Test.YtjdfiilfccffnaaPart2
import Derived.Shelf.SlSortCmp.NoneTotal
set_option linter.unusedVariables false
namespace Go.GL
open Go.Proofs
attribute [local irreducible] wpList Code.wp Exit.then Exit.inBlock Ends Tri TriH OpV OpG FnC epf wpAnyH
/-- What node.Of tells. -/
def OfR (ns : List Node) (room : Int) (A : List Asrt) (I : List Chunk) : Value → List Asrt → List Chunk → Prop := fun v A' I' =>
 (R6.right ns room ∧ ∃ bx mb a' cap' es, v = .tuple [pt bx 0, .bool true].toArray ∧ A' = IxA bx mb a' cap' ns room es A ∧ Idx ns es ∧ I = I') ∨ (¬ R6.right ns room ∧ v = .tuple [.pointer none, .bool false].toArray ∧ A = A' ∧ I = I')
set_option maxHeartbeats 1000000 in
set_option maxRecDepth 100000 in
theorem node_of {A : List Asrt} {I : List Chunk} {ns : List Node} {a : Option Addr} {cap : Nat} {room : Int} (hs : StA I a cap ns) (hn : ns.length ≤ 1000000000) :
  FnC Try.prog 70 [storeV a ns.length cap room].toArray A I (OfR ns room A I) := by
 have hsl := hs.sl
 skip
 refine fn_enter1 Try.func70 rfl Try.ntmps70 rfl fun w0 => ?_
 refine tS (tR ?_)
 refine tri_g (opg_box_agg rfl) rfl ?_
 rintro _ _ _ ⟨b1, rfl, rfl, rfl⟩
 refine tA rfl rfl (tA rfl rfl (tN (tT (tS (tR ?_)))))
 refine tri_v (opv_fieldAddr rfl rfl) rfl ?_
 refine tri_v (opv_load1 rfl rfl rfl) rfl ?_
 refine tri_v (opv_len rfl) rfl ?_
 refine tA rfl rfl (tN (tT (tS (tS (tR ?_)))))
 refine tri_v (opv_fieldAddr rfl rfl) rfl ?_
 refine tri_v (opv_load1 rfl rfl rfl) rfl ?_
 refine tri_v (opv_lss rfl rfl) rfl ?_
 refine tM rfl rfl ?_
 refine tri_split rfl rfl (fun h1 => ?_) (fun h1 => ?_)
 ·refine tri_guard_skip rfl rfl rfl rfl (tri_guard_skip rfl rfl rfl rfl (tri_guard_skip rfl rfl rfl rfl ?_))
  refine tri_v (opv_pick_t rfl rfl) rfl ?_
  refine tM rfl rfl (tri_guard_skip rfl rfl rfl rfl (tri_guard_skip rfl rfl rfl rfl ?_))
  refine tri_v (opv_pick_t rfl rfl) rfl ?_
  refine tM rfl rfl (tri_guard_skip rfl rfl rfl rfl (tri_guard_skip rfl rfl rfl rfl (tri_guard_skip rfl rfl rfl rfl (tri_guard_skip rfl rfl rfl rfl ?_))))
  refine tri_v (opv_pick_t rfl rfl) rfl ?_
  refine tM rfl rfl (tri_guard_skip rfl rfl rfl rfl (tri_guard_skip rfl rfl rfl rfl (tri_guard_skip rfl rfl rfl rfl (tri_guard_skip rfl rfl rfl rfl (tri_guard_skip rfl rfl rfl rfl (tri_guard_skip rfl rfl rfl rfl ?_))))))
  refine tri_v (opv_pick_t rfl rfl) rfl ?_
  refine tM rfl rfl (tri_guard_skip rfl rfl rfl rfl (tri_guard_skip rfl rfl rfl rfl (tri_guard_skip rfl rfl rfl rfl (tri_guard_skip rfl rfl rfl rfl (tri_guard_skip rfl rfl rfl rfl (tri_guard_skip rfl rfl rfl rfl ?_))))))
  refine tri_v (opv_pick_t rfl rfl) rfl ?_
  refine tN (tT ?_)
  refine tri_cond_true rfl ?_
  refine tS (tR (tA rfl rfl (tA rfl rfl (tN (tT (tri_ret (tri_then_ret ?_)))))))
  refine tri_end A Suf.h rfl (.cons (rv_tmp rfl) (.cons (rv_tmp rfl) .nil)) (.inr ⟨fun hf => ?_, rfl, rfl, rfl⟩)
  have := hf.1.1; omega
 refine tri_guard_run rfl rfl rfl ?_
 refine tri_v (opv_fieldAddr rfl rfl) rfl ?_
 refine tri_guard_run rfl rfl rfl ?_
 refine tri_v (opv_load1 rfl rfl rfl) rfl ?_
 refine tri_guard_run rfl rfl rfl ?_
 refine tri_v (opv_gtr rfl rfl) rfl ?_
 refine tri_v (opv_pick_f rfl rfl) rfl ?_
 refine tM rfl rfl ?_
 refine tri_split rfl rfl (fun h2 => ?_) (fun h2 => ?_)
 ·refine tri_guard_skip rfl rfl rfl rfl (tri_guard_skip rfl rfl rfl rfl ?_)
  refine tri_v (opv_pick_t rfl rfl) rfl ?_
  refine tM rfl rfl (tri_guard_skip rfl rfl rfl rfl (tri_guard_skip rfl rfl rfl rfl (tri_guard_skip rfl rfl rfl rfl (tri_guard_skip rfl rfl rfl rfl ?_))))
  refine tri_v (opv_pick_t rfl rfl) rfl ?_
  refine tM rfl rfl (tri_guard_skip rfl rfl rfl rfl (tri_guard_skip rfl rfl rfl rfl (tri_guard_skip rfl rfl rfl rfl (tri_guard_skip rfl rfl rfl rfl (tri_guard_skip rfl rfl rfl rfl (tri_guard_skip rfl rfl rfl rfl ?_))))))
  refine tri_v (opv_pick_t rfl rfl) rfl ?_
  refine tM rfl rfl (tri_guard_skip rfl rfl rfl rfl (tri_guard_skip rfl rfl rfl rfl (tri_guard_skip rfl rfl rfl rfl (tri_guard_skip rfl rfl rfl rfl (tri_guard_skip rfl rfl rfl rfl (tri_guard_skip rfl rfl rfl rfl ?_))))))
  refine tri_v (opv_pick_t rfl rfl) rfl ?_
  refine tN (tT ?_)
  refine tri_cond_true rfl ?_
  refine tS (tR (tA rfl rfl (tA rfl rfl (tN (tT (tri_ret (tri_then_ret ?_)))))))
  refine tri_end A Suf.h rfl (.cons (rv_tmp rfl) (.cons (rv_tmp rfl) .nil)) (.inr ⟨fun hf => ?_, rfl, rfl, rfl⟩)
  have := hf.1.2.1; omega
 refine tri_guard_run rfl rfl rfl (tM rfl rfl (tri_guard_run rfl rfl rfl ?_))
 refine tri_v (opv_lss rfl rfl) rfl ?_
 refine tri_v (opv_pick_f rfl rfl) rfl ?_
 refine tM rfl rfl ?_
 refine tri_split rfl rfl (fun h3 => ?_) (fun h3 => ?_)
 ·refine tri_guard_skip rfl rfl rfl rfl (tri_guard_skip rfl rfl rfl rfl (tri_guard_skip rfl rfl rfl rfl (tri_guard_skip rfl rfl rfl rfl ?_)))
  refine tri_v (opv_pick_t rfl rfl) rfl ?_
  refine tM rfl rfl (tri_guard_skip rfl rfl rfl rfl (tri_guard_skip rfl rfl rfl rfl (tri_guard_skip rfl rfl rfl rfl (tri_guard_skip rfl rfl rfl rfl (tri_guard_skip rfl rfl rfl rfl (tri_guard_skip rfl rfl rfl rfl ?_))))))
  refine tri_v (opv_pick_t rfl rfl) rfl ?_
  refine tM rfl rfl (tri_guard_skip rfl rfl rfl rfl (tri_guard_skip rfl rfl rfl rfl (tri_guard_skip rfl rfl rfl rfl (tri_guard_skip rfl rfl rfl rfl (tri_guard_skip rfl rfl rfl rfl (tri_guard_skip rfl rfl rfl rfl ?_))))))
  refine tri_v (opv_pick_t rfl rfl) rfl ?_
  refine tN (tT ?_)
  refine tri_cond_true rfl ?_
  refine tS (tR (tA rfl rfl (tA rfl rfl (tN (tT (tri_ret (tri_then_ret ?_)))))))
  refine tri_end A Suf.h rfl (.cons (rv_tmp rfl) (.cons (rv_tmp rfl) .nil)) (.inr ⟨fun hf => ?_, rfl, rfl, rfl⟩)
  have := hf.1.2.2.1; omega
 refine tri_guard_run rfl rfl rfl (tM rfl rfl (tri_guard_run rfl rfl rfl ?_))
 refine tri_v (opv_fieldAddr rfl rfl) rfl ?_
 refine tri_guard_run rfl rfl rfl ?_
 refine tri_v (opv_load1 rfl rfl rfl) rfl ?_
 refine tri_guard_run rfl rfl rfl ?_
 refine tri_v (opv_gtr rfl rfl) rfl ?_
 refine tri_v (opv_pick_f rfl rfl) rfl ?_
 refine tM rfl rfl ?_
 refine tri_split rfl rfl (fun h4 => ?_) (fun h4 => ?_)
 ·refine tri_guard_skip rfl rfl rfl rfl (tri_guard_skip rfl rfl rfl rfl (tri_guard_skip rfl rfl rfl rfl (tri_guard_skip rfl rfl rfl rfl (tri_guard_skip rfl rfl rfl rfl (tri_guard_skip rfl rfl rfl rfl ?_)))))
  refine tri_v (opv_pick_t rfl rfl) rfl ?_
  refine tM rfl rfl (tri_guard_skip rfl rfl rfl rfl (tri_guard_skip rfl rfl rfl rfl (tri_guard_skip rfl rfl rfl rfl (tri_guard_skip rfl rfl rfl rfl (tri_guard_skip rfl rfl rfl rfl (tri_guard_skip rfl rfl rfl rfl ?_))))))
  refine tri_v (opv_pick_t rfl rfl) rfl ?_
  refine tN (tT ?_)
  refine tri_cond_true rfl ?_
  refine tS (tR (tA rfl rfl (tA rfl rfl (tN (tT (tri_ret (tri_then_ret ?_)))))))
  refine tri_end A Suf.h rfl (.cons (rv_tmp rfl) (.cons (rv_tmp rfl) .nil)) (.inr ⟨fun hf => ?_, rfl, rfl, rfl⟩)
  have := hf.1.2.2.2.1; omega
 refine tri_guard_run rfl rfl rfl ?_
 refine tri_v (opv_fieldAddr rfl rfl) rfl ?_
 refine tri_guard_run rfl rfl rfl ?_
 refine tri_v (opv_load1 rfl rfl rfl) rfl ?_
 refine tri_guard_run rfl rfl rfl ?_
 refine tri_v (opv_indexAddrS rfl rfl (by omega) (by omega) (by assumption) rfl) rfl ?_
 refine tri_guard_run rfl rfl rfl ?_
 refine tri_v (opv_loadEA rfl (by assumption) rfl (by omega) rfl rfl) rfl ?_
 refine tri_guard_run rfl rfl rfl ?_
 refine tri_v (opv_buildS rfl rfl) rfl ?_
 refine tri_guard_run rfl rfl rfl ?_
 refine tri_v (opv_neqI rfl rfl rfl rfl rfl rfl) rfl ?_
 refine tri_v (opv_pick_f rfl rfl) rfl ?_
 refine tM rfl rfl ?_
 refine tri_split rfl rfl (fun h5 => ?_) (fun h5 => ?_)
 ·refine tri_guard_skip rfl rfl rfl rfl (tri_guard_skip rfl rfl rfl rfl (tri_guard_skip rfl rfl rfl rfl (tri_guard_skip rfl rfl rfl rfl (tri_guard_skip rfl rfl rfl rfl (tri_guard_skip rfl rfl rfl rfl ?_)))))
  refine tri_v (opv_pick_t rfl rfl) rfl ?_
  refine tN (tT ?_)
  refine tri_cond_true rfl ?_
  refine tS (tR (tA rfl rfl (tA rfl rfl (tN (tT (tri_ret (tri_then_ret ?_)))))))
  refine tri_end A Suf.h rfl (.cons (rv_tmp rfl) (.cons (rv_tmp rfl) .nil)) (.inr ⟨fun hf => ?_, rfl, rfl, rfl⟩)
  exact Node.ne_iff'.2 h5 hf.1.2.2.2.2.1
 refine tri_guard_run rfl rfl rfl ?_
 refine tri_v (opv_fieldAddr rfl rfl) rfl ?_
 refine tri_guard_run rfl rfl rfl ?_
 refine tri_v (opv_load1 rfl rfl rfl) rfl ?_
 refine tri_guard_run rfl rfl rfl ?_
 refine tri_v (opv_indexAddrS rfl rfl (by omega) (by omega) (by assumption) rfl) rfl ?_
 refine tri_guard_run rfl rfl rfl ?_
 refine tri_v (opv_loadEA rfl (by assumption) rfl (by omega) rfl rfl) rfl ?_
 refine tri_guard_run rfl rfl rfl ?_
 refine tri_v (opv_buildS rfl rfl) rfl ?_
 refine tri_guard_run rfl rfl rfl ?_
 refine tri_v (opv_neqI rfl rfl rfl rfl rfl rfl) rfl ?_
 refine tri_v (opv_pick_f rfl rfl) rfl ?_
 refine tN (tT ?_)
 refine tri_cond_dec rfl (fun h6 => ?_) (fun h6 => ?_)
 ·refine tS (tR (tA rfl rfl (tA rfl rfl (tN (tT (tri_ret (tri_then_ret ?_)))))))
  refine tri_end A Suf.h rfl (.cons (rv_tmp rfl) (.cons (rv_tmp rfl) .nil)) (.inr ⟨fun hf => ?_, rfl, rfl, rfl⟩)
  exact Node.ne_iff'.2 h6 hf.1.2.2.2.2.2
 skip
 have e0 : ns.getD 0 default = R6.n0 := Decidable.not_not.1 fun h => h5 (Node.ne_iff'.1 h)
 have e1 : ns.getD 1 default = R6.n1 := Decidable.not_not.1 fun h => h6 (Node.ne_iff'.1 h)
 have et : ns.take 2 = [R6.n0, R6.n1] := by
  rw [← e0, ← e1]
  apply List.ext_getElem
  ·rw [List.length_take]; simp; omega
  ·intro i h1 h2
   rw [List.length_take] at h1
   rcases (by omega : i = 0 ∨ i = 1) with rfl | rfl <;> simp <;> rw [List.getElem?_eq_getElem (by omega)] <;> simp
 have htl : (ns.take 2).length = 2 := by rw [et]; rfl
 refine tri_skip (tT (tS ?_))
 refine tri_cut (fun F' A' J => ∃ bx mb a1 c1, F' = [(1, pt b1 0), (5, pt bx 0)] ∧ A' = IxA bx mb a1 c1 (ns.take 2) room [] (Box b1 [.slice a ns.length cap, .int .i64 room] 26 :: A) ∧ I = J) ?_ ?_
 ·refine tri_draw [0, 1, 2, 4, 5, 3, 6, 7, 8, 9, 10] rfl [] rfl mixed ?_
  refine th_take rfl rfl (by kernel_rfl)  (opv_fieldAddr rfl rfl) ?_
  refine th_take rfl rfl (by kernel_rfl)  (opv_load1 rfl rfl rfl) ?_
  refine th_take rfl rfl (by kernel_rfl)  (opv_sliceHi rfl rfl (by omega) (by omega) hs rfl) ?_
  refine th_take rfl rfl (by kernel_rfl)  (opv_fieldAddr rfl rfl) ?_
  refine th_take rfl rfl (by kernel_rfl)  (opv_load1 rfl rfl rfl) ?_
  refine th_two (j := 7) [3, 6, 8, 9, 10] (by kernel_rfl) rfl ?_ ?_
  ·refine (step_m rfl rfl (opg_call (xs := [_]) rfl (clone_nodes (hsl.take 2) (by omega) (by omega))) ?_)
   rintro _ _ _ ⟨a1, c1, rfl, rfl, rfl⟩
   refine ⟨Suf.h, (fun _ h => h), ?_⟩
   refine th_take rfl rfl (by kernel_rfl)  (opv_buildS rfl rfl) ?_
   refine th_one (by kernel_rfl) (step_m rfl rfl opg_makeMap ?_)
   rintro _ _ _ ⟨b56, rfl, rfl, rfl⟩
   refine ⟨Suf.h, (fun _ h => h), ?_⟩
   refine th_take rfl rfl (by kernel_rfl)  (opv_buildS rfl rfl) ?_
   refine th_one (by kernel_rfl) (step_m rfl rfl (opg_box_agg rfl) ?_)
   rintro _ _ _ ⟨b58, rfl, rfl, rfl⟩
   refine ⟨Suf.h, (fun _ h => h), ?_⟩
   refine th_take rfl rfl (by kernel_rfl)  (opv_assign rfl) ?_
   refine th_done (by kernel_rfl) ?_
   refine tri_perm (A := ?a1_0 :: ?a1_1 :: ?a1_2 :: ?T1) (B := ?a1_0 :: ?a1_2 :: ?a1_1 :: ?T1) (by exact permL [0, 2, 1] [?a1_0, ?a1_1, ?a1_2] ?T1 (by decide) rfl) ?_
   exact tri_cutEnd _ ⟨b58, b56, a1, c1, rfl, rfl, rfl⟩ ⟨rfl, rfl, trivial⟩
  ·refine (step_m rfl rfl opg_makeMap ?_)
   rintro _ _ _ ⟨b56, rfl, rfl, rfl⟩
   refine ⟨Suf.h, (fun _ h => h), ?_⟩
   refine th_one (by kernel_rfl) (step_m rfl rfl (opg_call (xs := [_]) rfl (clone_nodes (hsl.take 2) (by omega) (by omega))) ?_)
   rintro _ _ _ ⟨a1, c1, rfl, rfl, rfl⟩
   refine ⟨Suf.h, (fun _ h => h), ?_⟩
   refine th_take rfl rfl (by kernel_rfl)  (opv_buildS rfl rfl) ?_
   refine th_take rfl rfl (by kernel_rfl)  (opv_buildS rfl rfl) ?_
   refine th_one (by kernel_rfl) (step_m rfl rfl (opg_box_agg rfl) ?_)
   rintro _ _ _ ⟨b58, rfl, rfl, rfl⟩
   refine ⟨Suf.h, (fun _ h => h), ?_⟩
   refine th_take rfl rfl (by kernel_rfl)  (opv_assign rfl) ?_
   refine th_done (by kernel_rfl) ?_
   exact tri_cutEnd _ ⟨b58, b56, a1, c1, rfl, rfl, rfl⟩ ⟨rfl, rfl, trivial⟩
 rintro _ _ _ ⟨bx, mb, a1, c1, rfl, rfl, rfl⟩
 skip
 refine tT (tS (tS (tR ?_)))
 refine tri_v (opv_fieldAddr rfl rfl) rfl ?_
 refine tri_v (opv_load1 rfl rfl rfl) rfl ?_
 refine tri_g (opg_sliceLo rfl rfl (by omega) (by omega) hs rfl rfl) rfl ?_
 rintro _ _ _ ⟨a5, rfl, hs5, rfl, rfl⟩
 have hs5' := hs5.sl
 have hdl : (ns.drop (2:Int).toNat).length = ns.length - 2 := by rw [List.length_drop]; rfl
 refine tri_v (opv_len rfl) rfl ?_
 refine tM rfl rfl (tN (tT (tri_block ?_)))
 have hix0 : Idx (ns.take (0 + 2)) [] := by rw [et]; exact Idx.start
 have hm0 : R6.ModTo ns (0 + 2) := fun j hj => by
  rcases (by omega : j = 0 ∨ j = 1) with rfl | rfl
  ·rw [e0]; decide
  ·rw [e1]; decide
 refine tri_sub (F' := [(1, pt b1 0), (5, pt bx 0), (61, .slice a5 (ns.drop (2:Int).toNat).length (cap - (2:Int).toNat)), (62, .int .i64 ((ns.drop (2:Int).toNat).length : Nat)), (63, .int .i64 (0 : Nat))]) ⟨rfl, rfl, rfl, rfl, rfl, trivial⟩ ?_
 refine loop_ind (G := Nat × Option Addr × Nat × KVs) (fun g => ns.length - g.1) (fun g => g.1 + 2 ≤ ns.length ∧ (∀ j, j < g.1 + 2 → 2 ≤ j → R6.fits ns j) ∧ R6.ModTo ns (g.1 + 2) ∧ Idx (ns.take (g.1 + 2)) g.2.2.2) (fun g => [(1, pt b1 0), (5, pt bx 0), (61, .slice a5 (ns.drop (2:Int).toNat).length (cap - (2:Int).toNat)), (62, .int .i64 ((ns.drop (2:Int).toNat).length : Nat)), (63, .int .i64 (g.1 : Nat))])
  (fun g => IxA bx mb g.2.1 g.2.2.1 (ns.take (g.1 + 2)) room g.2.2.2 (Box b1 [.slice a ns.length cap, .int .i64 room] 26 :: A)) (fun _ => I) ?_ (0, a1, c1, []) ⟨by simp only; omega, fun j h h' => absurd h (by simp only; omega), hm0, hix0⟩
 rintro ⟨i, ai, ci, es⟩ ⟨hi, hok, hmi, hix⟩ K hK
 simp only at hi hok hmi hix hK ⊢
 have htk : (ns.take (i + 2)).length = i + 2 := by rw [List.length_take]; omega
 skip
 refine tS (tR ?_)
 refine tri_v (opv_lss rfl rfl) rfl ?_
 refine tN (tT (tS ?_))
 refine tri_cond_dec rfl (fun h => ?_) (fun h => ?_)
 ·have hlt : i + 2 < ns.length := by omega
  have hy : (ns.drop (2:Int).toNat).getD i default = ns.getD (i + 2) default := by
   rw [List.getD_eq_getElem?_getD, List.getD_eq_getElem?_getD, List.getElem?_drop, show (2:Int).toNat + i = i + 2 by simp; omega]
  have hfi := R6.fits_iff (by omega) hlt hmi
  have htk1 : ns.take (i + 2 + 1) = ns.take (i + 2) ++ [ns.getD (i + 2) default] := by
   rw [List.take_succ_eq_append_getElem hlt]; simp [hlt]
  obtain ⟨y, hyd⟩ : ∃ y, y = (ns.drop (2:Int).toNat).getD i default := ⟨_, rfl⟩
  have hy2 : y = ns.getD (i + 2) default := hyd.trans hy
  rw [← hy2] at hfi htk1
  have hmf := hix y.kids
  refine tri_skip (tT (tS (tri_block (tS (tR (tM rfl rfl ?_))))))
  refine tri_v (opv_indexAddrSN rfl rfl (by omega) (by assumption) rfl) rfl ?_
  refine tri_v (opv_loadEA rfl (by assumption) rfl (by omega) rfl rfl) rfl ?_
  refine tri_g opg_alloc rfl ?_
  rintro _ _ _ ⟨b7, rfl, rfl, rfl⟩
  refine tA rfl rfl ?_
  refine tri_g (opg_store rfl rfl rfl rfl rfl rfl) rfl ?_
  rintro _ _ _ ⟨rfl, rfl⟩
  refine tN (tT (tS ?_))
  refine tri_sub (F' := [(1, pt b1 0), (5, pt bx 0), (6, .int .i64 (i : Nat)), (7, pt b7 0), (61, .slice a5 (ns.drop (2:Int).toNat).length (cap - (2:Int).toNat)), (62, .int .i64 ((ns.drop (2:Int).toNat).length : Nat)), (63, .int .i64 (i : Nat))]) ⟨rfl, rfl, rfl, rfl, rfl, rfl, rfl, trivial⟩ ?_
  rw [← hyd]
  refine tri_perm (A := ?a2_0 :: ?a2_1 :: ?a2_2 :: ?T2) (B := ?a2_1 :: ?a2_2 :: ?a2_0 :: ?T2) (by exact permL [1, 2, 0] [?a2_0, ?a2_1, ?a2_2] ?T2 (by decide) rfl) ?_
  refine tR (tM rfl rfl ?_)
  refine tri_v (opv_fieldAddr rfl rfl) rfl ?_
  refine tri_v (opv_loadA rfl rfl rfl) rfl ?_
  refine tri_g (opg_call (xs := [_, _]) rfl (node_parent (by omega) hmi.take)) rfl ?_
  rintro _ _ _ ⟨⟨z, ok, rfl, hok2, hz⟩, rfl, rfl⟩
  refine tM rfl rfl ?_
  refine tri_v (opv_extract rfl rfl) rfl ?_
  refine tri_v (opv_extract rfl rfl) rfl ?_
  refine tri_g opg_alloc rfl ?_
  rintro _ _ _ ⟨b8, rfl, rfl, rfl⟩
  refine tri_g (opg_store rfl rfl rfl rfl rfl rfl) rfl ?_
  rintro _ _ _ ⟨rfl, rfl⟩
  refine tA rfl rfl (tN (tT (tS (tS ?_))))
  refine tri_draw [0, 1, 2, 3, 4, 5, 6, 7, 8, 9, 10, 11] rfl [] rfl mixed ?_
  refine th_take rfl rfl (by kernel_rfl)  (opv_move rfl) ?_
  refine th_take rfl rfl (by kernel_rfl)  (opv_nilCheck rfl) ?_
  refine th_take rfl rfl (by kernel_rfl)  (opv_fieldAddr rfl rfl) ?_
  refine th_take rfl rfl (by kernel_rfl)  (opv_load1 rfl rfl rfl) ?_
  refine th_take rfl rfl (by kernel_rfl)  (opv_fieldAddr rfl rfl) ?_
  refine th_take rfl rfl (by kernel_rfl)  (opv_loadA rfl rfl rfl) ?_
  refine th_take rfl rfl (by kernel_rfl)  (opv_lookup2 (P := Try.prog) (ks := [y.k0, y.k1, y.k2, y.k3]) zeroInt rfl rfl (key4 y.k0 y.k1 y.k2 y.k3) keyAt rfl) ?_
  refine th_take rfl rfl (by kernel_rfl)  (opv_move rfl) ?_
  refine th_take rfl rfl (by kernel_rfl)  (opv_extract rfl rfl) ?_
  refine th_take rfl rfl (by kernel_rfl)  (opv_extract rfl rfl) ?_
  refine th_take rfl rfl (by kernel_rfl)  (opv_assign rfl) ?_
  refine th_take rfl rfl (by kernel_rfl)  (opv_assign rfl) ?_
  refine th_done (by kernel_rfl) ?_
  refine tT (tS (tR (tM rfl rfl (tM rfl rfl ?_))))
  refine tri_bool 86 rfl (fun g1 => ?_) (fun g1 => ?_)
  ·refine tri_guard_skip rfl rfl rfl rfl (tri_guard_skip rfl rfl rfl rfl ?_)
   refine tri_v (opv_pick_t rfl rfl) rfl ?_
   refine tM rfl rfl (tri_guard_skip rfl rfl rfl rfl (tri_guard_skip rfl rfl rfl rfl (tri_guard_skip rfl rfl rfl rfl ?_)))
   refine tri_v (opv_pick_t rfl rfl) rfl ?_
   refine tN (tT ?_)
   refine tri_cond_true rfl ?_
   refine tS (tR (tA rfl rfl (tA rfl rfl (tN (tT (tri_ret (tri_then_ret ?_)))))))
   refine tri_inBlock_ret ?_
   refine tri_then_ret (tri_then_ret ?_)
   refine tri_inBlock_ret ?_
   refine tri_then_ret ?_
   refine tri_end A Suf.h rfl (.cons (rv_tmp rfl) (.cons (rv_tmp rfl) .nil)) (.inr ⟨fun hf => ?_, rfl, rfl, rfl⟩)
   have h3 := (hfi.1 (hf.2 (i + 2) hlt (by omega))).1
   rw [if_neg h3] at hmf
   have g1' : (mfind es y.kids).isSome = true := g1
   rw [hmf] at g1'
   cases g1'
  refine tri_guard_run rfl rfl rfl (tM rfl rfl (tri_guard_run rfl rfl rfl ?_))
  refine tri_v (opv_not rfl) rfl ?_
  refine tri_v (opv_pick_f rfl rfl) rfl ?_
  refine tM rfl rfl ?_
  have hat : ¬ 0 ≤ R6.at_ (ns.take (i + 2)) y.kids := fun h3 => by
   rw [if_pos h3] at hmf
   have g1' : (mfind es y.kids).isSome = false := g1
   rw [hmf] at g1'
   cases g1'
  refine tri_bool 90 rfl (fun g2 => ?_) (fun g2 => ?_)
  ·refine tri_guard_skip rfl rfl rfl rfl (tri_guard_skip rfl rfl rfl rfl (tri_guard_skip rfl rfl rfl rfl ?_))
   refine tri_v (opv_pick_t rfl rfl) rfl ?_
   refine tN (tT ?_)
   refine tri_cond_true rfl ?_
   refine tS (tR (tA rfl rfl (tA rfl rfl (tN (tT (tri_ret (tri_then_ret ?_)))))))
   refine tri_inBlock_ret ?_
   refine tri_then_ret (tri_then_ret ?_)
   refine tri_inBlock_ret ?_
   refine tri_then_ret ?_
   refine tri_end A Suf.h rfl (.cons (rv_tmp rfl) (.cons (rv_tmp rfl) .nil)) (.inr ⟨fun hf => ?_, rfl, rfl, rfl⟩)
   have h3 := (hfi.1 (hf.2 (i + 2) hlt (by omega))).2.1
   rw [hok2.2 h3] at g2
   cases g2
  refine tri_guard_run rfl rfl rfl ?_
  refine tri_v (opv_loadA rfl rfl rfl) rfl ?_
  refine tri_guard_run rfl rfl rfl ?_
  refine tri_v (opv_loadA rfl rfl rfl) rfl ?_
  refine tri_guard_run rfl rfl rfl ?_
  refine tri_v (opv_neqI rfl rfl rfl rfl rfl rfl) rfl ?_
  refine tri_v (opv_pick_f rfl rfl) rfl ?_
  refine tN (tT ?_)
  have hok1 : ok = true := by cases ok <;> simp_all
  have hf4 := hok2.1 hok1
  have hz' := hz hok1
  refine tri_cond_dec rfl (fun g3 => ?_) (fun g3 => ?_)
  ·refine tS (tR (tA rfl rfl (tA rfl rfl (tN (tT (tri_ret (tri_then_ret ?_)))))))
   refine tri_inBlock_ret ?_
   refine tri_then_ret (tri_then_ret ?_)
   refine tri_inBlock_ret ?_
   refine tri_then_ret ?_
   refine tri_end A Suf.h rfl (.cons (rv_tmp rfl) (.cons (rv_tmp rfl) .nil)) (.inr ⟨fun hf => ?_, rfl, rfl, rfl⟩)
   have h3 := (hfi.1 (hf.2 (i + 2) hlt (by omega))).2.2
   exact Node.ne_iff'.2 g3 (hz'.trans h3)
  have hzy : z = y := Decidable.not_not.1 fun h => g3 (Node.ne_iff'.1 h)
  have hfit : R6.fits ns (i + 2) := hfi.2 ⟨hat, hf4, hz'.symm.trans hzy⟩
  have htk2 : ns.take (i + 1 + 2) = ns.take (i + 2) ++ [y] := htk1
  have hl3 : (ns.take (i + 1 + 2)).length = (ns.take (i + 2)).length + 1 := by rw [htk2]; simp
  have hok2' : ∀ j, j < i + 1 + 2 → 2 ≤ j → R6.fits ns j := fun j hj hj2 => by
   by_cases e : j = i + 2
   ·subst e; exact hfit
   ·exact hok j (by omega) hj2
  have hix2 : Idx (ns.take (i + 1 + 2)) (mset es [y.k0, y.k1, y.k2, y.k3] (.int .i64 ((i : Int) + 2))) := by
   have := hix.snoc (by omega) y hat
   rw [htk, ← htk2] at this
   exact this
  skip
  refine tri_skip (tT (tS ?_))
  refine tri_perm (A := ?a3_0 :: ?a3_1 :: ?a3_2 :: ?a3_3 :: ?a3_4 :: ?T3) (B := ?a3_4 :: ?a3_0 :: ?a3_1 :: ?a3_2 :: ?a3_3 :: ?T3) (by exact permL [4, 0, 1, 2, 3] [?a3_0, ?a3_1, ?a3_2, ?a3_3, ?a3_4] ?T3 (by decide) rfl) ?_
  skip
  refine tri_draw [0, 1, 2, 3, 4, 5, 6, 7, 8] rfl [_] rfl mixed ?_
  refine th_take rfl rfl (by kernel_rfl)  (opv_move rfl) ?_
  refine th_take rfl rfl (by kernel_rfl)  (opv_nilCheck rfl) ?_
  refine th_take rfl rfl (by kernel_rfl)  (opv_fieldAddr rfl rfl) ?_
  refine th_take rfl rfl (by kernel_rfl)  (opv_load1 rfl rfl rfl) ?_
  refine th_take rfl rfl (by kernel_rfl)  (opv_fieldAddr rfl rfl) ?_
  refine th_take rfl rfl (by kernel_rfl)  (opv_loadA rfl rfl rfl) ?_
  refine th_take rfl rfl (by kernel_rfl)  (opv_move rfl) ?_
  refine th_take rfl rfl (by kernel_rfl)  (opv_add rfl rfl (w64 (by omega) (by omega))) ?_
  refine th_one (by kernel_rfl) (step_m rfl rfl (opg_mapUpdate (P := Try.prog) (ks := [y.k0, y.k1, y.k2, y.k3]) rfl rfl rfl (key4 y.k0 y.k1 y.k2 y.k3) keyAt rfl) ?_)
  rintro _ _ _ ⟨rfl, rfl⟩
  refine ⟨Suf.h, (fun _ h => h), ?_⟩
  refine th_done (by kernel_rfl) ?_
  refine tT ?_
  refine tri_perm (A := ?a4_0 :: ?a4_1 :: ?a4_2 :: ?a4_3 :: ?a4_4 :: ?T4) (B := ?a4_2 :: ?a4_3 :: ?a4_0 :: ?a4_1 :: ?a4_4 :: ?T4) (by exact permL [2, 3, 0, 1, 4] [?a4_0, ?a4_1, ?a4_2, ?a4_3, ?a4_4] ?T4 (by decide) rfl) ?_
  skip
  refine tri_draw [0, 1, 2, 3, 4, 6, 5, 7, 8, 9, 10, 11, 12] rfl [_, _] rfl mixed ?_
  refine th_take rfl rfl (by kernel_rfl)  (opv_move rfl) ?_
  refine th_take rfl rfl (by kernel_rfl)  (opv_move rfl) ?_
  refine th_take rfl rfl (by kernel_rfl)  (opv_nilCheck rfl) ?_
  refine th_take rfl rfl (by kernel_rfl)  (opv_fieldAddr rfl rfl) ?_
  refine th_take rfl rfl (by kernel_rfl)  (opv_fieldAddr rfl rfl) ?_
  refine th_take rfl rfl (by kernel_rfl)  (opv_loadA rfl rfl rfl) ?_
  refine th_two (j := 7) [5, 8, 9, 10, 11, 12] (by kernel_rfl) rfl ?_ ?_
  ·refine (step_m rfl rfl (OpV.toG (opv_load1 rfl rfl rfl)) ?_)
   rintro _ _ _ ⟨rfl, rfl, rfl⟩
   refine ⟨Suf.h, (fun _ h => h), ?_⟩
   refine th_one (by kernel_rfl) (step_m rfl rfl (opg_buildSlice rfl rfl rfl rfl) ?_)
   rintro _ _ _ ⟨b110, rfl, rfl, rfl⟩
   refine ⟨Suf.h, (fun _ h => h), ?_⟩
   refine th_one (by kernel_rfl) (step_m rfl rfl (opg_appendB rfl rfl rfl rfl (by omega) rfl) ?_)
   rintro _ _ _ ⟨a3, c3, rfl, rfl, rfl⟩
   refine ⟨Suf.h, (fun _ h => h), ?_⟩
   refine th_take rfl rfl (by kernel_rfl)  (opv_nilCheck rfl) ?_
   refine th_take rfl rfl (by kernel_rfl)  (opv_fieldAddr rfl rfl) ?_
   refine th_take rfl rfl (by kernel_rfl)  (opv_fieldAddr rfl rfl) ?_
   refine th_one (by kernel_rfl) (step_m rfl rfl (opg_store rfl rfl rfl rfl rfl rfl) ?_)
   rintro _ _ _ ⟨rfl, rfl⟩
   refine ⟨Suf.h, (fun _ h => h), ?_⟩
   refine th_done (by kernel_rfl) ?_
   refine tri_inBlock ?_
   refine tT (tR ?_)
   refine tU rfl rfl (by omega) (by omega) rfl ?_
   refine tM rfl rfl (tN (tT ?_))
   refine tri_perm (A := ?a5_0 :: ?a5_1 :: ?a5_2 :: ?a5_3 :: ?a5_4 :: ?a5_5 :: ?T5) (B := ?a5_0 :: ?a5_4 :: ?a5_5 :: ?a5_2 :: ?a5_1 :: ?a5_3 :: ?T5) (by exact permL [0, 4, 5, 2, 1, 3] [?a5_0, ?a5_1, ?a5_2, ?a5_3, ?a5_4, ?a5_5] ?T5 (by decide) rfl) ?_
   refine tri_drop ?_
   refine tri_drop ?_
   refine tri_drop ?_
   refine tri_rowEq (len' := (ns.take (i + 1 + 2)).length) (cells' := encs (ns.take (i + 1 + 2))) hl3.symm (by rw [htk2, encs_append]; rfl) ?_
   rw [← hl3]
   refine tri_perm (A := ?a6_0 :: ?a6_1 :: ?a6_2 :: ?T6) (B := ?a6_1 :: ?a6_0 :: ?a6_2 :: ?T6) (by exact permL [1, 0, 2] [?a6_0, ?a6_1, ?a6_2] ?T6 (by decide) rfl) ?_
   refine tri_sub ?_ (hK (i + 1, a3, c3, mset es [y.k0, y.k1, y.k2, y.k3] (.int .i64 ((i : Int) + 2))) ⟨by simp only; omega, hok2', hmi.step hfit, hix2⟩ (by simp only; omega))
   exact ⟨rfl, rfl, rfl, rfl, rfl, trivial⟩
  ·refine (step_m rfl rfl (opg_buildSlice rfl rfl rfl rfl) ?_)
   rintro _ _ _ ⟨b110, rfl, rfl, rfl⟩
   refine ⟨Suf.h, (fun _ h => h), ?_⟩
   refine th_one (by kernel_rfl) (step_m rfl rfl (OpV.toG (opv_load1 rfl rfl rfl)) ?_)
   rintro _ _ _ ⟨rfl, rfl, rfl⟩
   refine ⟨Suf.h, (fun _ h => h), ?_⟩
   refine th_one (by kernel_rfl) (step_m rfl rfl (opg_appendB rfl rfl rfl rfl (by omega) rfl) ?_)
   rintro _ _ _ ⟨a3, c3, rfl, rfl, rfl⟩
   refine ⟨Suf.h, (fun _ h => h), ?_⟩
   refine th_take rfl rfl (by kernel_rfl)  (opv_nilCheck rfl) ?_
   refine th_take rfl rfl (by kernel_rfl)  (opv_fieldAddr rfl rfl) ?_
   refine th_take rfl rfl (by kernel_rfl)  (opv_fieldAddr rfl rfl) ?_
   refine th_one (by kernel_rfl) (step_m rfl rfl (opg_store rfl rfl rfl rfl rfl rfl) ?_)
   rintro _ _ _ ⟨rfl, rfl⟩
   refine ⟨Suf.h, (fun _ h => h), ?_⟩
   refine th_done (by kernel_rfl) ?_
   refine tri_inBlock ?_
   refine tT (tR ?_)
   refine tU rfl rfl (by omega) (by omega) rfl ?_
   refine tM rfl rfl (tN (tT ?_))
   refine tri_perm (A := ?a7_0 :: ?a7_1 :: ?a7_2 :: ?a7_3 :: ?a7_4 :: ?a7_5 :: ?T7) (B := ?a7_0 :: ?a7_4 :: ?a7_5 :: ?a7_2 :: ?a7_1 :: ?a7_3 :: ?T7) (by exact permL [0, 4, 5, 2, 1, 3] [?a7_0, ?a7_1, ?a7_2, ?a7_3, ?a7_4, ?a7_5] ?T7 (by decide) rfl) ?_
   refine tri_drop ?_
   refine tri_drop ?_
   refine tri_drop ?_
   refine tri_rowEq (len' := (ns.take (i + 1 + 2)).length) (cells' := encs (ns.take (i + 1 + 2))) hl3.symm (by rw [htk2, encs_append]; rfl) ?_
   rw [← hl3]
   refine tri_perm (A := ?a8_0 :: ?a8_1 :: ?a8_2 :: ?T8) (B := ?a8_1 :: ?a8_0 :: ?a8_2 :: ?T8) (by exact permL [1, 0, 2] [?a8_0, ?a8_1, ?a8_2] ?T8 (by decide) rfl) ?_
   refine tri_sub ?_ (hK (i + 1, a3, c3, mset es [y.k0, y.k1, y.k2, y.k3] (.int .i64 ((i : Int) + 2))) ⟨by simp only; omega, hok2', hmi.step hfit, hix2⟩ (by simp only; omega))
   exact ⟨rfl, rfl, rfl, rfl, rfl, trivial⟩
 ·have hi2 : i + 2 = ns.length := by omega
  have hr : R6.right ns room := ⟨⟨by omega, by omega, by omega, by omega, e0, e1⟩, fun j hj hj2 => hok j (by omega) hj2⟩
  have e : ns.take (i + 2) = ns := List.take_of_length_le (by omega)
  rw [e] at hix
  rw [e]
  refine tri_exit ?_
  refine tri_then_exit ?_
  refine tri_then_exit ?_
  refine tri_inBlock_hit rfl ?_
  refine tT (tS (tR (tM rfl rfl (tA rfl rfl (tA rfl rfl (tN (tT ?_)))))))
  refine tri_ret ?_
  refine tri_perm (A := ?a9_0 :: ?a9_1 :: ?a9_2 :: ?a9_3 :: ?T9) (B := ?a9_3 :: ?a9_0 :: ?a9_1 :: ?a9_2 :: ?T9) (by exact permL [3, 0, 1, 2] [?a9_0, ?a9_1, ?a9_2, ?a9_3] ?T9 (by decide) rfl) ?_
  refine tri_end (IxA bx mb ai ci ns room es A) Suf.h rfl (.cons (rv_tmp rfl) (.cons (rv_tmp rfl) .nil)) (.inl ⟨hr, bx, mb, ai, ci, es, rfl, rfl, hix, rfl⟩)
end Go.GL


set_option linter.unusedVariables false
namespace Go.GL
open Go.Proofs
attribute [local irreducible] wpList Code.wp Exit.then Exit.inBlock Ends Tri TriH OpV OpG FnC epf wpAnyH
variable {A : List Asrt} {I : List Chunk}
/-- What a function on an index tells and leaves behind. -/
def IxR (bx mb : Nat) (r : List Node × Int × Int) (room : Int) (A : List Asrt) (I : List Chunk) : Value → List Asrt → List Chunk → Prop :=
 fun v A' I' => ∃ a' cap' es', v = .tuple [.int .i64 r.2.1, .int .i64 r.2.2].toArray ∧ A' = IxA bx mb a' cap' r.1 room es' A ∧ Idx r.1 es' ∧ I = I'
theorem node_putR {A : List Asrt} {I : List Chunk} {ns : List Node} {a : Option Addr} {cap bx mb : Nat} {room q0 q1 q2 q3 : Int} {es : KVs} {r : List Node × Int × Int} (hg : R6.Good ns room) (h2 : 2 ≤ ns.length) (hi : Idx ns es) (hr : R6.put ns room q0 q1 q2 q3 = r) :
  FnC Try.prog 57 [pt bx 0, int4V q0 q1 q2 q3].toArray (IxA bx mb a cap ns room es A) I (IxR bx mb r room A I) := by
 subst hr
 exact node_put hg h2 hi
theorem R6.put_len {ns : List Node} {room q0 q1 q2 q3 : Int} (h : 2 ≤ ns.length) : 2 ≤ (R6.put ns room q0 q1 q2 q3).1.length := by
 unfold R6.put
 split
 ·split
  ·exact h
  ·split
   ·exact h
   ·simp only [List.length_append]; omega
 ·exact h
set_option maxHeartbeats 2000000 in
set_option maxRecDepth 100000 in
theorem index_empty {ns : List Node} {a : Option Addr} {cap bx mb lv : Nat} {room : Int} {es : KVs} (hlv : lv ≤ 1000000) (hg : R6.Good ns room) (h2 : 2 ≤ ns.length) (hi : Idx ns es) :
  FnC Try.prog 56 [pt bx 0, .int .i64 (lv : Nat)].toArray (IxA bx mb a cap ns room es A) I (IxR bx mb (R7.empty ns room lv) room A I) := by
 skip
 refine fn_enter2 Try.func56 rfl Try.ntmps56 rfl fun w0 => ?_
 refine tS (tR (tA rfl rfl (tA rfl rfl (tN (tT (tS (tS ?_)))))))
 refine tR (tM rfl rfl (tM rfl rfl (tN (tT (tri_block ?_)))))
 refine tri_sub (F' := [(0, pt bx 0), (4, .int .i64 0), (6, .int .i64 (lv : Nat)), (7, .int .i64 (0 : Nat))]) ⟨rfl, rfl, rfl, rfl, trivial⟩ ?_
 refine loop_ind (G := Nat × List Node × Int × Option Addr × Nat × KVs) (fun g => lv - g.1) (fun g => g.1 ≤ lv ∧ R6.Good g.2.1 room ∧ 2 ≤ g.2.1.length ∧ Idx g.2.1 g.2.2.2.2.2 ∧ R7.empty ns room lv = R7.emptyF room (lv - g.1) g.2.1 g.2.2.1) (fun g => [(0, pt bx 0), (4, .int .i64 g.2.2.1), (6, .int .i64 (lv : Nat)), (7, .int .i64 (g.1 : Nat))]) (fun g => IxA bx mb g.2.2.2.1 g.2.2.2.2.1 g.2.1 room g.2.2.2.2.2 A) (fun _ => I) ?_ (0, ns, 0, a, cap, es) ⟨by simp, hg, h2, hi, rfl⟩
 rintro ⟨i, ns1, n1, a1, c1, es1⟩ ⟨hi1, hg1, hl1, hx1, he⟩ K hK
 simp only at hi1 hg1 hl1 hx1 he hK ⊢
 skip
 refine tS (tR ?_)
 refine tri_v (opv_lss rfl rfl) rfl ?_
 refine tN (tT (tS ?_))
 refine tri_cond_dec rfl (fun h => ?_) (fun h => ?_)
 ·have hlt : i < lv := by omega
  rw [show lv - i = (lv - (i + 1)) + 1 by omega] at he
  unfold R7.emptyF at he
  obtain ⟨r, hr⟩ : ∃ r, R6.put ns1 room n1 n1 n1 n1 = r := ⟨_, rfl⟩
  rw [hr] at he
  refine tri_skip (tT (tS (tri_block (tS (tR (tM rfl rfl (tM rfl rfl ?_)))))))
  refine tM rfl rfl (tM rfl rfl (tM rfl rfl ?_))
  refine tri_v (opv_buildA rfl rfl) rfl ?_
  refine tri_g (opg_call (xs := [_, _]) rfl (node_putR hg1 hl1 hx1 hr)) rfl ?_
  rintro _ _ _ ⟨a2, c2, es2, rfl, rfl, hi2, rfl⟩
  refine tM rfl rfl ?_
  refine tri_v (opv_extract rfl rfl) rfl ?_
  refine tri_v (opv_extract rfl rfl) rfl ?_
  refine tA rfl rfl (tA rfl rfl (tN (tT (tS (tR (tM rfl rfl ?_))))))
  refine tri_v (opv_neq rfl rfl) rfl ?_
  refine tN (tT ?_)
  refine tri_cond_dec rfl (fun x => ?_) (fun x => ?_)
  ·rw [if_pos x] at he
   have e1 : r.1 = ns1 := by
    rw [← hr] at x ⊢
    unfold R6.put at x ⊢
    split
    ·split
     ·rfl
     ·split
      ·rfl
      ·rename_i p q s
       rw [if_pos p, if_neg q, if_neg s] at x
       exact absurd rfl x
    ·rfl
   refine tS (tR (tM rfl rfl (tA rfl rfl (tA rfl rfl (tN (tT (tri_ret ?_)))))))
   refine tri_inBlock_ret ?_
   refine tri_then_ret (tri_then_ret ?_)
   refine tri_inBlock_ret ?_
   refine tri_then_ret ?_
   rw [e1] at hi2
   rw [e1]
   refine tri_end _ (⟨[], rfl⟩) rfl (.cons (rv_tmp rfl) (.cons (rv_tmp rfl) .nil)) ⟨a2, c2, es2, by rw [he]; rfl, by rw [he], by rw [he]; exact hi2, rfl⟩
  ·rw [if_neg x] at he
   refine tri_skip ?_
   refine tri_inBlock ?_
   refine tT (tR ?_)
   refine tU rfl rfl (by omega) (by omega) rfl ?_
   refine tM rfl rfl (tN (tT ?_))
   refine tri_sub ?_ (hK (i + 1, r.1, r.2.1, a2, c2, es2) ⟨by simp only; omega, by rw [← hr]; exact hg1.put .., by rw [← hr]; exact R6.put_len hl1, hi2, he⟩ (by simp only; omega))
   exact ⟨rfl, rfl, rfl, rfl, trivial⟩
 ·have hle : i = lv := by omega
  subst hle
  rw [Nat.sub_self] at he
  unfold R7.emptyF at he
  refine tri_exit ?_
  refine tri_then_exit ?_
  refine tri_then_exit ?_
  refine tri_inBlock_hit rfl ?_
  refine tT (tS (tR (tM rfl rfl (tA rfl rfl (tA rfl rfl (tN (tT ?_)))))))
  refine tri_ret ?_
  refine tri_end _ (⟨[], rfl⟩) rfl (.cons (rv_tmp rfl) (.cons (rv_tmp rfl) .nil)) ⟨a1, c1, es1, by rw [he]; rfl, by rw [he], by rw [he]; exact hx1, rfl⟩
end Go.GL


set_option linter.unusedVariables false
namespace Go.GL
open Go.Proofs
attribute [local irreducible] wpList Code.wp Exit.then Exit.inBlock Ends Tri TriH OpV OpG FnC epf wpAnyH
variable {A : List Asrt} {I : List Chunk}
set_option maxRecDepth 100000 in
theorem node_right {ns : List Node} {a : Option Addr} {cap : Nat} {room : Int} (hs : StA I a cap ns) (hn : ns.length ≤ 1000000000) :
  FnC Try.prog 76 [storeV a ns.length cap room].toArray A I (fun v A' I' => v = .bool (decide (R6.right ns room)) ∧ A = A' ∧ I = I') := by
 refine fn_enter1 Try.func76 rfl Try.ntmps76 rfl fun w0 => ?_
 refine tS (tR ?_)
 refine tri_g (opg_box_agg rfl) rfl ?_
 rintro _ _ _ ⟨b, rfl, rfl, rfl⟩
 refine tA rfl rfl (tN (tT (tS (tR ?_))))
 refine tri_v (opv_loadA rfl rfl rfl) rfl ?_
 refine tri_g (opg_call (xs := [_]) rfl (node_of hs hn)) rfl ?_
 rintro v A1 I1 hR
 rcases hR with ⟨hr, bx, mb, a1, c1, es, rfl, rfl, hix, rfl⟩ | ⟨hr, rfl, rfl, rfl⟩
 ·refine tM rfl rfl ?_
  refine tri_v (opv_extract rfl rfl) rfl ?_
  refine tri_v (opv_extract rfl rfl) rfl ?_
  refine tA rfl rfl (tA rfl rfl (tN (tT (tS (tR (tM rfl rfl (tA rfl rfl ?_)))))))
  refine tN (tT (tri_ret ?_))
  refine tri_end A ⟨[_, _, _, _], rfl⟩ rfl (.cons (rv_tmp rfl) .nil) ⟨congrArg Value.bool (decide_eq_true hr).symm, rfl, rfl⟩
 ·refine tM rfl rfl ?_
  refine tri_v (opv_extract rfl rfl) rfl ?_
  refine tri_v (opv_extract rfl rfl) rfl ?_
  refine tA rfl rfl (tA rfl rfl (tN (tT (tS (tR (tM rfl rfl (tA rfl rfl ?_)))))))
  refine tN (tT (tri_ret ?_))
  refine tri_end A ⟨[_], rfl⟩ rfl (.cons (rv_tmp rfl) .nil) ⟨congrArg Value.bool (decide_eq_false hr).symm, rfl, rfl⟩
end Go.GL


set_option linter.unusedVariables false
namespace Go.GL
section
variable {w0 : World} {n : Nat} {F : Frm} {A : List Asrt} {I : List Chunk} {P : Program} {dst : Option Tmp} {ty t : TypeId} {pos : String} {af : Array Edge} {gd : Option (Nat × Bool)} {x y : Operand} {d : TypeDesc} {s by_ : Nat} {z : List Value}
theorem opv_shrN {xt yt : TypeId} {a b : Int} {k : Nat} {yk : IntKind} (hx : ev F x = some (.int .i64 a)) (hy : ev F y = some (.int yk b)) (h0 : 0 ≤ a) (hb : b = k) (hk : k ≤ 62) : OpV P w0 n ⟨dst, .binOp .shr xt x y yt, ty, pos, af, gd⟩ F A I (.int .i64 (a / 2 ^ k)) :=
 opv_shr hx hy (by omega) (by
  have h1 : min b.toNat IntKind.i64.bits = k := by
   show min b.toNat 64 = k
   omega
  rw [h1]
  exact Int.fdiv_eq_ediv_of_nonneg _ (Int.le_of_lt (Int.pow_pos (by omega))))
end
end Go.GL


set_option linter.unusedVariables false
namespace Go.GL
open Go.Proofs
attribute [local irreducible] wpList Code.wp Exit.then Exit.inBlock Ends Tri TriH OpV OpG FnC epf wpAnyH
variable {A : List Asrt} {I : List Chunk}
set_option maxHeartbeats 1000000 in
set_option maxRecDepth 100000 in
theorem square_in {lv : Nat} {c : Cell} (h1 : 1 ≤ lv) (h2 : lv ≤ 42) : FnC Try.prog 40 [.int .i64 (lv : Nat), cellV c].toArray A I (fun v A' I' => v = .bool (decide (R7.inL lv c)) ∧ A = A' ∧ I = I') := by
 have hp : ((2 : Int) ^ lv) / 2 ^ 1 = R7.side lv ∧ 0 < R7.side lv ∧ R7.side lv ≤ 2199023255552 := by
  refine ⟨?_, R7.side_bd (by omega)⟩
  unfold R7.side
  obtain ⟨m, rfl⟩ : ∃ m, lv = m + 1 := ⟨lv - 1, by omega⟩
  rw [show (((m + 1 : Nat) : Int) - 1).toNat = m by omega, Int.pow_succ]
  generalize (2 : Int) ^ m = k
  omega
 obtain ⟨hp, hs0, hs1⟩ := hp
 have hinL : R7.inL lv c ↔ (-R7.side lv ≤ c.x ∧ c.x < R7.side lv ∧ -R7.side lv ≤ c.y ∧ c.y < R7.side lv) := Iff.rfl
 skip
 skip
 refine fn_enter2 Try.func40 rfl Try.ntmps40 rfl fun w0 => ?_
 refine tS (tR ?_)
 refine tri_g (opg_box_agg rfl) rfl ?_
 rintro _ _ _ ⟨b3, rfl, rfl, rfl⟩
 refine tA rfl rfl (tN (tT (tS (tR (tM rfl rfl ?_)))))
 refine tri_v (opv_shl1 rfl rfl (by omega) (by omega)) rfl ?_
 skip
 refine tri_v (opv_shrN (k := 1) rfl rfl (by exact Int.le_of_lt (Int.pow_pos (by decide))) rfl (by decide)) rfl ?_
 rw [Int.toNat_natCast, hp]
 generalize R7.side lv = s at *
 refine tA rfl rfl (tN (tT (tS (tR ?_))))
 refine tri_v (opv_fieldAddr rfl rfl) rfl ?_
 refine tri_v (opv_load1 rfl rfl rfl) rfl ?_
 refine tri_v (opv_fieldAddr rfl rfl) rfl ?_
 refine tri_v (opv_load1 rfl rfl rfl) rfl ?_
 refine tri_v (opv_max2 rfl rfl) rfl ?_
 refine tM rfl rfl ?_
 refine tri_v (opv_lss rfl rfl) rfl ?_
 refine tM rfl rfl ?_
 refine tri_split rfl rfl (fun g1 => ?_) (fun g1 => ?_)
 ·refine tri_guard_run rfl rfl rfl ?_
  refine tri_v (opv_fieldAddr rfl rfl) rfl ?_
  refine tri_guard_run rfl rfl rfl ?_
  refine tri_v (opv_load1 rfl rfl rfl) rfl ?_
  refine tri_guard_run rfl rfl rfl ?_
  refine tri_v (opv_fieldAddr rfl rfl) rfl ?_
  refine tri_guard_run rfl rfl rfl ?_
  refine tri_v (opv_load1 rfl rfl rfl) rfl ?_
  refine tri_guard_run rfl rfl rfl ?_
  refine tri_v (opv_min2 rfl rfl) rfl ?_
  refine tri_guard_run rfl rfl rfl (tM rfl rfl (tri_guard_run rfl rfl rfl ?_))
  refine tri_v (opv_negE rfl (by omega) (by omega)) rfl ?_
  refine tri_guard_run rfl rfl rfl ?_
  refine tri_v (opv_geq rfl rfl) rfl ?_
  refine tri_v (opv_pick_t rfl rfl) rfl ?_
  refine tA rfl rfl (tN (tT (tri_ret ?_)))
  refine tri_end A Suf.h rfl (.cons (rv_tmp rfl) .nil) ⟨congrArg Value.bool (decide_eq_decide.2 ?_), rfl, rfl⟩
  rw [hinL]
  split at g1 <;> split <;> omega
 ·refine tri_guard_skip rfl rfl rfl rfl (tri_guard_skip rfl rfl rfl rfl (tri_guard_skip rfl rfl rfl rfl (tri_guard_skip rfl rfl rfl rfl (tri_guard_skip rfl rfl rfl rfl (tri_guard_skip rfl rfl rfl rfl (tri_guard_skip rfl rfl rfl rfl (tri_guard_skip rfl rfl rfl rfl ?_)))))))
  refine tri_v (opv_pick_f rfl rfl) rfl ?_
  refine tA rfl rfl (tN (tT (tri_ret ?_)))
  refine tri_end A Suf.h rfl (.cons (rv_tmp rfl) .nil) ⟨congrArg Value.bool (decide_eq_false fun h => ?_).symm, rfl, rfl⟩
  rw [hinL] at h
  split at g1 <;> omega
end Go.GL


set_option linter.unusedVariables false
namespace Go.GL
open Go.Proofs
attribute [local irreducible] wpList Code.wp Exit.then Exit.inBlock Ends Tri TriH OpV OpG FnC epf wpAnyH
variable {A : List Asrt} {I : List Chunk}
set_option maxHeartbeats 2000000 in
set_option maxRecDepth 100000 in
theorem square_quarter {lv : Nat} {c : Cell} (h2 : lv ≤ 42) (hc : R2.bd c) : FnC Try.prog 59 [.int .i64 (lv : Nat), cellV c].toArray A I (fun v A' I' => v = .tuple [.int .i64 (R7.qk c : Nat), cellV (R7.qd (R7.qh lv) c)].toArray ∧ A = A' ∧ I = I') := by
 have hp : ((2 : Int) ^ lv) / 2 ^ 2 = R7.qh lv := rfl
 obtain ⟨hq0, hq1⟩ := R7.qh_bd h2
 have c1 := hc.1
 have c2 := hc.2.1
 have c3 := hc.2.2.1
 have c4 := hc.2.2.2
 skip
 skip
 refine fn_enter2 Try.func59 rfl Try.ntmps59 rfl fun w0 => ?_
 refine tS (tR ?_)
 refine tri_g (opg_box_agg rfl) rfl ?_
 rintro _ _ _ ⟨b3, rfl, rfl, rfl⟩
 refine tA rfl rfl ?_
 refine tri_g opg_alloc rfl ?_
 rintro _ _ _ ⟨b5, rfl, rfl, rfl⟩
 refine tN (tT (tS (tR (tM rfl rfl ?_))))
 refine tri_v (opv_shl1 rfl rfl (by omega) (by omega)) rfl ?_
 skip
 refine tri_v (opv_shrN (k := 2) rfl rfl (by exact Int.le_of_lt (Int.pow_pos (by decide))) rfl (by decide)) rfl ?_
 rw [Int.toNat_natCast, hp]
 generalize R7.qh lv = h at *
 refine tri_perm (A := ?a1_0 :: ?a1_1 :: ?T1) (B := ?a1_1 :: ?a1_0 :: ?T1) (by exact permL [1, 0] [?a1_0, ?a1_1] ?T1 (by decide) rfl) ?_
 refine tA rfl rfl (tA rfl rfl (tN (tT (tS (tS (tR ?_))))))
 refine tri_v (opv_fieldAddr rfl rfl) rfl ?_
 refine tri_v (opv_load1 rfl rfl rfl) rfl ?_
 refine tri_v (opv_geq rfl rfl) rfl ?_
 refine tN (tT ?_)
 skip
 refine tri_cond_dec rfl (fun g1 => ?_) (fun g1 => ?_)
 ·refine tri_draw [0, 2, 3, 5, 1, 4, 6, 7] rfl [_] rfl mixed ?_
  refine th_take rfl rfl (by kernel_rfl)  (opv_fieldAddr rfl rfl) ?_
  refine th_take rfl rfl (by kernel_rfl)  (opv_move rfl) ?_
  refine th_take rfl rfl (by kernel_rfl)  (opv_mul rfl rfl (w64 (by omega) (by omega))) ?_
  refine th_take rfl rfl (by kernel_rfl)  (opv_assign rfl) ?_
  refine th_one (by kernel_rfl) (step_m rfl rfl (OpV.toG (opv_load1 rfl rfl rfl)) ?_)
  rintro _ _ _ ⟨rfl, rfl, rfl⟩
  refine ⟨Suf.h, (fun _ h => h), ?_⟩
  refine th_take rfl rfl (by kernel_rfl)  (opv_sub rfl rfl (w64 (by omega) (by omega))) ?_
  refine th_take rfl rfl (by kernel_rfl)  (opv_fieldAddr rfl rfl) ?_
  refine th_one (by kernel_rfl) (step_m rfl rfl (opg_store rfl rfl rfl rfl rfl rfl) ?_)
  rintro _ _ _ ⟨rfl, rfl⟩
  refine ⟨Suf.h, (fun _ h => h), ?_⟩
  refine th_done (by kernel_rfl) ?_
  refine tT (tS (tS (tR ?_)))
  refine tri_v (opv_fieldAddr rfl rfl) rfl ?_
  refine tri_v (opv_load1 rfl rfl rfl) rfl ?_
  refine tri_v (opv_geq rfl rfl) rfl ?_
  refine tN (tT ?_)
  skip
  refine tri_cond_dec rfl (fun g2 => ?_) (fun g2 => ?_)
  ·skip
   refine tri_draw [0, 1, 2, 4, 5, 7, 3, 6, 8, 9] rfl [_] rfl mixed ?_
   refine th_take rfl rfl (by kernel_rfl)  (opv_move rfl) ?_
   refine th_take rfl rfl (by kernel_rfl)  (opv_add rfl rfl (w64 (by omega) (by omega))) ?_
   refine th_take rfl rfl (by kernel_rfl)  (opv_fieldAddr rfl rfl) ?_
   refine th_take rfl rfl (by kernel_rfl)  (opv_move rfl) ?_
   refine th_take rfl rfl (by kernel_rfl)  (opv_mul rfl rfl (w64 (by omega) (by omega))) ?_
   refine th_take rfl rfl (by kernel_rfl)  (opv_assign rfl) ?_
   refine th_one (by kernel_rfl) (step_m rfl rfl (OpV.toG (opv_load1 rfl rfl rfl)) ?_)
   rintro _ _ _ ⟨rfl, rfl, rfl⟩
   refine ⟨Suf.h, (fun _ h => h), ?_⟩
   refine th_take rfl rfl (by kernel_rfl)  (opv_sub rfl rfl (w64 (by omega) (by omega))) ?_
   refine th_take rfl rfl (by kernel_rfl)  (opv_fieldAddr rfl rfl) ?_
   refine th_one (by kernel_rfl) (step_m rfl rfl (opg_store rfl rfl rfl rfl rfl rfl) ?_)
   rintro _ _ _ ⟨rfl, rfl⟩
   refine ⟨Suf.h, (fun _ h => h), ?_⟩
   refine th_done (by kernel_rfl) ?_
   refine tT (tS ?_)
   refine tri_perm (A := ?a2_0 :: ?a2_1 :: ?T2) (B := ?a2_1 :: ?a2_0 :: ?T2) (by exact permL [1, 0] [?a2_0, ?a2_1] ?T2 (by decide) rfl) ?_
   skip
   refine tri_draw [0, 1, 2, 3, 4, 5, 6, 7, 8, 9, 10, 11] rfl [_] rfl mixed ?_
   refine th_take rfl rfl (by kernel_rfl)  (opv_move rfl) ?_
   refine th_take rfl rfl (by kernel_rfl)  (opv_fieldAddr rfl rfl) ?_
   refine th_take rfl rfl (by kernel_rfl)  (opv_load1 rfl rfl rfl) ?_
   refine th_take rfl rfl (by kernel_rfl)  (opv_move rfl) ?_
   refine th_take rfl rfl (by kernel_rfl)  (opv_add rfl rfl (w64 (by omega) (by omega))) ?_
   refine th_take rfl rfl (by kernel_rfl)  (opv_fieldAddr rfl rfl) ?_
   refine th_take rfl rfl (by kernel_rfl)  (opv_load1 rfl rfl rfl) ?_
   refine th_take rfl rfl (by kernel_rfl)  (opv_move rfl) ?_
   refine th_take rfl rfl (by kernel_rfl)  (opv_add rfl rfl (w64 (by omega) (by omega))) ?_
   refine th_take rfl rfl (by kernel_rfl)  (opv_buildS rfl rfl) ?_
   refine th_take rfl rfl (by kernel_rfl)  (opv_assign rfl) ?_
   refine th_one (by kernel_rfl) (step_m rfl rfl (opg_store rfl rfl rfl rfl rfl rfl) ?_)
   rintro _ _ _ ⟨rfl, rfl⟩
   refine ⟨Suf.h, (fun _ h => h), ?_⟩
   refine th_done (by kernel_rfl) ?_
   refine tT (tri_ret ?_)
   refine tri_end A Suf.h rfl (.cons (rv_tmp rfl) (.cons (rv_cellA rfl rfl rfl) .nil)) ⟨?_, rfl, rfl⟩
   rw [show R7.qk c = 3 by unfold R7.qk; rw [if_pos (by omega), if_pos (by omega)], show R7.qd h c = ⟨c.x - 2 * h + h, c.y - 2 * h + h⟩ by unfold R7.qd; rw [if_pos (by omega), if_pos (by omega)]]
   rfl
  ·refine tri_skip (tT (tS ?_))
   refine tri_perm (A := ?a3_0 :: ?a3_1 :: ?T3) (B := ?a3_1 :: ?a3_0 :: ?T3) (by exact permL [1, 0] [?a3_0, ?a3_1] ?T3 (by decide) rfl) ?_
   skip
   refine tri_draw [0, 1, 2, 3, 4, 5, 6, 7, 8, 9, 10, 11] rfl [_] rfl mixed ?_
   refine th_take rfl rfl (by kernel_rfl)  (opv_move rfl) ?_
   refine th_take rfl rfl (by kernel_rfl)  (opv_fieldAddr rfl rfl) ?_
   refine th_take rfl rfl (by kernel_rfl)  (opv_load1 rfl rfl rfl) ?_
   refine th_take rfl rfl (by kernel_rfl)  (opv_move rfl) ?_
   refine th_take rfl rfl (by kernel_rfl)  (opv_add rfl rfl (w64 (by omega) (by omega))) ?_
   refine th_take rfl rfl (by kernel_rfl)  (opv_fieldAddr rfl rfl) ?_
   refine th_take rfl rfl (by kernel_rfl)  (opv_load1 rfl rfl rfl) ?_
   refine th_take rfl rfl (by kernel_rfl)  (opv_move rfl) ?_
   refine th_take rfl rfl (by kernel_rfl)  (opv_add rfl rfl (w64 (by omega) (by omega))) ?_
   refine th_take rfl rfl (by kernel_rfl)  (opv_buildS rfl rfl) ?_
   refine th_take rfl rfl (by kernel_rfl)  (opv_assign rfl) ?_
   refine th_one (by kernel_rfl) (step_m rfl rfl (opg_store rfl rfl rfl rfl rfl rfl) ?_)
   rintro _ _ _ ⟨rfl, rfl⟩
   refine ⟨Suf.h, (fun _ h => h), ?_⟩
   refine th_done (by kernel_rfl) ?_
   refine tT (tri_ret ?_)
   refine tri_end A Suf.h rfl (.cons (rv_tmp rfl) (.cons (rv_cellA rfl rfl rfl) .nil)) ⟨?_, rfl, rfl⟩
   rw [show R7.qk c = 1 by unfold R7.qk; rw [if_pos (by omega), if_neg (by omega)], show R7.qd h c = ⟨c.x - 2 * h + h, c.y + h⟩ by unfold R7.qd; rw [if_pos (by omega), if_neg (by omega)]]
   rfl
 ·refine tri_skip (tT (tS (tS (tR ?_))))
  refine tri_v (opv_fieldAddr rfl rfl) rfl ?_
  refine tri_v (opv_load1 rfl rfl rfl) rfl ?_
  refine tri_v (opv_geq rfl rfl) rfl ?_
  refine tN (tT ?_)
  refine tri_cond_dec rfl (fun g2 => ?_) (fun g2 => ?_)
  ·skip
   refine tri_draw [0, 1, 2, 4, 5, 7, 3, 6, 8, 9] rfl [_] rfl mixed ?_
   refine th_take rfl rfl (by kernel_rfl)  (opv_move rfl) ?_
   refine th_take rfl rfl (by kernel_rfl)  (opv_add rfl rfl (w64 (by omega) (by omega))) ?_
   refine th_take rfl rfl (by kernel_rfl)  (opv_fieldAddr rfl rfl) ?_
   refine th_take rfl rfl (by kernel_rfl)  (opv_move rfl) ?_
   refine th_take rfl rfl (by kernel_rfl)  (opv_mul rfl rfl (w64 (by omega) (by omega))) ?_
   refine th_take rfl rfl (by kernel_rfl)  (opv_assign rfl) ?_
   refine th_one (by kernel_rfl) (step_m rfl rfl (OpV.toG (opv_load1 rfl rfl rfl)) ?_)
   rintro _ _ _ ⟨rfl, rfl, rfl⟩
   refine ⟨Suf.h, (fun _ h => h), ?_⟩
   refine th_take rfl rfl (by kernel_rfl)  (opv_sub rfl rfl (w64 (by omega) (by omega))) ?_
   refine th_take rfl rfl (by kernel_rfl)  (opv_fieldAddr rfl rfl) ?_
   refine th_one (by kernel_rfl) (step_m rfl rfl (opg_store rfl rfl rfl rfl rfl rfl) ?_)
   rintro _ _ _ ⟨rfl, rfl⟩
   refine ⟨Suf.h, (fun _ h => h), ?_⟩
   refine th_done (by kernel_rfl) ?_
   refine tT (tS ?_)
   refine tri_perm (A := ?a4_0 :: ?a4_1 :: ?T4) (B := ?a4_1 :: ?a4_0 :: ?T4) (by exact permL [1, 0] [?a4_0, ?a4_1] ?T4 (by decide) rfl) ?_
   skip
   refine tri_draw [0, 1, 2, 3, 4, 5, 6, 7, 8, 9, 10, 11] rfl [_] rfl mixed ?_
   refine th_take rfl rfl (by kernel_rfl)  (opv_move rfl) ?_
   refine th_take rfl rfl (by kernel_rfl)  (opv_fieldAddr rfl rfl) ?_
   refine th_take rfl rfl (by kernel_rfl)  (opv_load1 rfl rfl rfl) ?_
   refine th_take rfl rfl (by kernel_rfl)  (opv_move rfl) ?_
   refine th_take rfl rfl (by kernel_rfl)  (opv_add rfl rfl (w64 (by omega) (by omega))) ?_
   refine th_take rfl rfl (by kernel_rfl)  (opv_fieldAddr rfl rfl) ?_
   refine th_take rfl rfl (by kernel_rfl)  (opv_load1 rfl rfl rfl) ?_
   refine th_take rfl rfl (by kernel_rfl)  (opv_move rfl) ?_
   refine th_take rfl rfl (by kernel_rfl)  (opv_add rfl rfl (w64 (by omega) (by omega))) ?_
   refine th_take rfl rfl (by kernel_rfl)  (opv_buildS rfl rfl) ?_
   refine th_take rfl rfl (by kernel_rfl)  (opv_assign rfl) ?_
   refine th_one (by kernel_rfl) (step_m rfl rfl (opg_store rfl rfl rfl rfl rfl rfl) ?_)
   rintro _ _ _ ⟨rfl, rfl⟩
   refine ⟨Suf.h, (fun _ h => h), ?_⟩
   refine th_done (by kernel_rfl) ?_
   refine tT (tri_ret ?_)
   refine tri_end A Suf.h rfl (.cons (rv_tmp rfl) (.cons (rv_cellA rfl rfl rfl) .nil)) ⟨?_, rfl, rfl⟩
   rw [show R7.qk c = 2 by unfold R7.qk; rw [if_neg (by omega), if_pos (by omega)], show R7.qd h c = ⟨c.x + h, c.y - 2 * h + h⟩ by unfold R7.qd; rw [if_neg (by omega), if_pos (by omega)]]
   rfl
  ·refine tri_skip (tT (tS ?_))
   refine tri_perm (A := ?a5_0 :: ?a5_1 :: ?T5) (B := ?a5_1 :: ?a5_0 :: ?T5) (by exact permL [1, 0] [?a5_0, ?a5_1] ?T5 (by decide) rfl) ?_
   skip
   refine tri_draw [0, 1, 2, 3, 4, 5, 6, 7, 8, 9, 10, 11] rfl [_] rfl mixed ?_
   refine th_take rfl rfl (by kernel_rfl)  (opv_move rfl) ?_
   refine th_take rfl rfl (by kernel_rfl)  (opv_fieldAddr rfl rfl) ?_
   refine th_take rfl rfl (by kernel_rfl)  (opv_load1 rfl rfl rfl) ?_
   refine th_take rfl rfl (by kernel_rfl)  (opv_move rfl) ?_
   refine th_take rfl rfl (by kernel_rfl)  (opv_add rfl rfl (w64 (by omega) (by omega))) ?_
   refine th_take rfl rfl (by kernel_rfl)  (opv_fieldAddr rfl rfl) ?_
   refine th_take rfl rfl (by kernel_rfl)  (opv_load1 rfl rfl rfl) ?_
   refine th_take rfl rfl (by kernel_rfl)  (opv_move rfl) ?_
   refine th_take rfl rfl (by kernel_rfl)  (opv_add rfl rfl (w64 (by omega) (by omega))) ?_
   refine th_take rfl rfl (by kernel_rfl)  (opv_buildS rfl rfl) ?_
   refine th_take rfl rfl (by kernel_rfl)  (opv_assign rfl) ?_
   refine th_one (by kernel_rfl) (step_m rfl rfl (opg_store rfl rfl rfl rfl rfl rfl) ?_)
   rintro _ _ _ ⟨rfl, rfl⟩
   refine ⟨Suf.h, (fun _ h => h), ?_⟩
   refine th_done (by kernel_rfl) ?_
   refine tT (tri_ret ?_)
   refine tri_end A Suf.h rfl (.cons (rv_tmp rfl) (.cons (rv_cellA rfl rfl rfl) .nil)) ⟨?_, rfl, rfl⟩
   rw [show R7.qk c = 0 by unfold R7.qk; rw [if_neg (by omega), if_neg (by omega)], show R7.qd h c = ⟨c.x + h, c.y + h⟩ by unfold R7.qd; rw [if_neg (by omega), if_neg (by omega)]]
   rfl
end Go.GL


set_option linter.unusedVariables false
namespace Go.GL
namespace R7
/-! ### The program's quarters (about the middle) and the document's (from a corner) -/
def pt7 (L : Nat) (k : Nat) (l : List Cell) : List Cell := (l.filter fun c => qk c == k).map (qd (qh L))
def cor : Nat → List Cell → List Cell
 | 0, l => l
 | m + 1, l => corner (2 ^ m) l
theorem cor_nil (lv : Nat) : cor lv [] = [] := by cases lv <;> rfl
theorem cor_ne {lv : Nat} {l : List Cell} (h : l ≠ []) : cor lv l ≠ [] := by
 cases lv with
 | zero => exact h
 | succ m =>
  intro e
  exact h (List.map_eq_nil_iff.1 e)
theorem pt7_len (L k : Nat) (l : List Cell) : (pt7 L k l).length ≤ l.length := by
 unfold pt7
 rw [List.length_map]
 exact List.length_filter_le _ _
theorem pt7_snoc (L k : Nat) (l : List Cell) (c : Cell) : pt7 L k (l ++ [c]) = pt7 L k l ++ if qk c = k then [qd (qh L) c] else [] := by
 unfold pt7
 rw [List.filter_append, List.map_append]
 congr 1
 by_cases h : qk c = k
 ·simp [h]
 ·simp [h]
theorem p2h (m : Nat) : qh (m + 2) = 2 ^ m := by
 unfold qh
 rw [Int.pow_succ, Int.pow_succ]
 generalize (2 : Int) ^ m = k
 omega
theorem qk_cor (m : Nat) (c : Cell) : qx (2 ^ (m + 1)) ⟨c.x + 2 ^ (m + 1), c.y + 2 ^ (m + 1)⟩ = qk c := by
 unfold qx qk
 simp only
 have e1 : ((2 : Int) ^ (m + 1) ≤ c.x + 2 ^ (m + 1)) ↔ 0 ≤ c.x := by omega
 have e2 : ((2 : Int) ^ (m + 1) ≤ c.y + 2 ^ (m + 1)) ↔ 0 ≤ c.y := by omega
 simp only [e1, e2]
theorem part_cor (m k : Nat) (l : List Cell) : part (2 ^ (m + 1)) k (cor (m + 2) l) = cor (m + 1) (pt7 (m + 2) k l) := by
 unfold part pt7
 show List.map _ (List.filter _ (corner (2 ^ (m + 1)) l)) = corner (2 ^ m) _
 unfold corner
 rw [List.filter_map, List.map_map, List.map_map]
 have e : (fun c => qx (2 ^ (m + 1)) c == k) ∘ (fun c : Cell => (⟨c.x + 2 ^ (m + 1), c.y + 2 ^ (m + 1)⟩ : Cell)) = fun c => qk c == k := by
  funext c
  show (qx (2 ^ (m + 1)) ⟨c.x + 2 ^ (m + 1), c.y + 2 ^ (m + 1)⟩ == k) = _
  rw [qk_cor]
 rw [e]
 refine List.map_congr_left fun c _ => ?_
 show qc (2 ^ (m + 1)) ⟨c.x + 2 ^ (m + 1), c.y + 2 ^ (m + 1)⟩ = ⟨(qd (qh (m + 2)) c).x + 2 ^ m, (qd (qh (m + 2)) c).y + 2 ^ m⟩
 unfold qc qd
 rw [p2h]
 simp only [Cell.mk.injEq]
 have e3 : (2 : Int) ^ (m + 1) = 2 ^ m * 2 := Int.pow_succ 2 m
 rw [e3]
 generalize (2 : Int) ^ m = q
 constructor <;> split <;> split <;> omega
theorem build_0 (room : Int) (ns : List Node) {l m : List Cell} (h : l = [] ↔ m = []) : build room 0 ns l = build room 0 ns m := by
 cases l with
 | nil =>
  have := h.1 rfl
  subst this
  rfl
 | cons a l =>
  cases m with
  | nil => exact absurd (h.2 rfl) (by simp)
  | cons b m => rfl
theorem part_1 (k : Nat) (l : List Cell) : part (2 ^ 0) k (cor 1 l) = [] ↔ pt7 1 k l = [] := by
 unfold part pt7
 show List.map _ (List.filter _ (corner (2 ^ 0) l)) = [] ↔ _
 unfold corner
 rw [List.filter_map, List.map_map, List.map_eq_nil_iff, List.map_eq_nil_iff]
 have e : (fun c => qx (2 ^ 0) c == k) ∘ (fun c : Cell => (⟨c.x + 2 ^ 0, c.y + 2 ^ 0⟩ : Cell)) = fun c => qk c == k := by
  funext c
  show (qx (2 ^ 0) ⟨c.x + 2 ^ 0, c.y + 2 ^ 0⟩ == k) = _
  congr 1
  unfold qx qk
  simp only
  have e1 : ((2 : Int) ^ 0 ≤ c.x + 2 ^ 0) ↔ 0 ≤ c.x := by
   rw [Int.pow_zero]; omega
  have e2 : ((2 : Int) ^ 0 ≤ c.y + 2 ^ 0) ↔ 0 ≤ c.y := by
   rw [Int.pow_zero]; omega
  simp only [e1, e2]
 rw [e]
/-- A quarter, built. -/
theorem build_part (room : Int) (lv k : Nat) (ns : List Node) (l : List Cell) : build room lv ns (part (2 ^ lv) k (cor (lv + 1) l)) = build room lv ns (cor lv (pt7 (lv + 1) k l)) := by
 cases lv with
 | zero => exact build_0 room ns (part_1 k l)
 | succ m => rw [part_cor]
theorem qd_bd {lv : Nat} (h : lv ≤ 42) {c : Cell} (hc : R2.bd c) : R2.bd (qd (qh lv) c) := by
 obtain ⟨h0, h1⟩ := qh_bd h
 unfold R2.bd qd at *
 simp only
 split <;> split <;> omega
theorem pt7_bd {lv k : Nat} (h : lv ≤ 42) {l : List Cell} (hb : ∀ c ∈ l, R2.bd c) : ∀ c ∈ pt7 lv k l, R2.bd c := fun c hc => by
 obtain ⟨d, hd, rfl⟩ := List.mem_map.1 hc
 exact qd_bd h (hb d (List.mem_filter.1 hd).1)
theorem emptyF_len2 (room : Int) : ∀ (k : Nat) {ns : List Node} (n : Int), 2 ≤ ns.length → 2 ≤ (R7.emptyF room k ns n).1.length
 | 0, ns, n, h => h
 | k + 1, ns, n, h => by
  unfold emptyF
  split
  ·exact h
  ·refine emptyF_len2 room k _ ?_
   unfold R6.put
   split
   ·split
    ·exact h
    ·split
     ·exact h
     ·simp only [List.length_append]; omega
   ·exact h
theorem qk_4 (c : Cell) : qk c = 0 ∨ qk c = 1 ∨ qk c = 2 ∨ qk c = 3 := by
 unfold qk
 split <;> split <;> omega
end R7
end Go.GL


set_option linter.unusedVariables false
namespace Go.GL
open Go.Proofs
attribute [local irreducible] wpList Code.wp Exit.then Exit.inBlock Ends Tri TriH OpV OpG FnC epf wpAnyH
variable {A : List Asrt} {I : List Chunk}
set_option maxRecDepth 100000 in
theorem ref07_in {lv : Int} {c : Cell} (h1 : 1 ≤ lv) (h2 : lv ≤ 42) : FnC Try.prog 43 [.int .i64 lv, cellV c].toArray A I (fun v A' I' => v = .bool (decide (R7.inL lv c)) ∧ A = A' ∧ I = I') := by
 have hsd := R7.side_bd h2
 unfold R7.side at hsd
 refine fn_enter2 Try.func43 rfl Try.ntmps43 rfl fun w0 => ?_
 refine tS (tR ?_)
 refine tri_g (opg_box_agg rfl) rfl ?_
 rintro _ _ _ ⟨b, rfl, rfl, rfl⟩
 refine tA rfl rfl (tN (tT (tS (tR (tM rfl rfl ?_)))))
 refine tri_v (opv_sub rfl rfl (w64 (by omega) (by omega))) rfl ?_
 refine tri_v (opv_shl1 rfl rfl (by omega) (by omega)) rfl ?_
 refine tA rfl rfl (tN (tT (tS (tR ?_))))
 refine tri_v (opv_fieldAddr rfl rfl) rfl ?_
 refine tri_v (opv_load1 rfl rfl rfl) rfl ?_
 refine tM rfl rfl ?_
 refine tri_v (opv_negE rfl (by omega) (by omega)) rfl ?_
 refine tri_v (opv_geq rfl rfl) rfl ?_
 refine tM rfl rfl ?_
 refine tri_split rfl rfl (fun g1 => ?_) (fun g1 => ?_)
 ·refine tri_guard_run rfl rfl rfl ?_
  refine tri_v (opv_fieldAddr rfl rfl) rfl ?_
  refine tri_guard_run rfl rfl rfl ?_
  refine tri_v (opv_load1 rfl rfl rfl) rfl ?_
  refine tri_guard_run rfl rfl rfl (tM rfl rfl (tri_guard_run rfl rfl rfl ?_))
  refine tri_v (opv_lss rfl rfl) rfl ?_
  refine tri_v (opv_pick_t rfl rfl) rfl ?_
  refine tM rfl rfl ?_
  refine tri_split rfl rfl (fun g2 => ?_) (fun g2 => ?_)
  ·refine tri_guard_run rfl rfl rfl ?_
   refine tri_v (opv_fieldAddr rfl rfl) rfl ?_
   refine tri_guard_run rfl rfl rfl ?_
   refine tri_v (opv_load1 rfl rfl rfl) rfl ?_
   refine tri_guard_run rfl rfl rfl (tM rfl rfl (tri_guard_run rfl rfl rfl ?_))
   refine tri_v (opv_negE rfl (by omega) (by omega)) rfl ?_
   refine tri_guard_run rfl rfl rfl ?_
   refine tri_v (opv_geq rfl rfl) rfl ?_
   refine tri_v (opv_pick_t rfl rfl) rfl ?_
   refine tM rfl rfl ?_
   refine tri_split rfl rfl (fun g3 => ?_) (fun g3 => ?_)
   ·refine tri_guard_run rfl rfl rfl ?_
    refine tri_v (opv_fieldAddr rfl rfl) rfl ?_
    refine tri_guard_run rfl rfl rfl ?_
    refine tri_v (opv_load1 rfl rfl rfl) rfl ?_
    refine tri_guard_run rfl rfl rfl (tM rfl rfl (tri_guard_run rfl rfl rfl ?_))
    refine tri_v (opv_lss rfl rfl) rfl ?_
    refine tri_v (opv_pick_t rfl rfl) rfl ?_
    refine tA rfl rfl (tN (tT (tri_ret ?_)))
    refine tri_end A Suf.h rfl (.cons (rv_tmp rfl) .nil) ⟨congrArg Value.bool (decide_eq_decide.2 ?_), rfl, rfl⟩
    exact ⟨fun h => ⟨g1, g2, g3, h⟩, fun h => h.2.2.2⟩
   ·refine tri_guard_skip rfl rfl rfl rfl (tri_guard_skip rfl rfl rfl rfl (tri_guard_skip rfl rfl rfl rfl (tri_guard_skip rfl rfl rfl rfl ?_)))
    refine tri_v (opv_pick_f rfl rfl) rfl ?_
    refine tA rfl rfl (tN (tT (tri_ret ?_)))
    refine tri_end A Suf.h rfl (.cons (rv_tmp rfl) .nil) ⟨congrArg Value.bool (decide_eq_false fun h => ?_).symm, rfl, rfl⟩
    exact g3 h.2.2.1
  ·refine tri_guard_skip rfl rfl rfl rfl (tri_guard_skip rfl rfl rfl rfl (tri_guard_skip rfl rfl rfl rfl (tri_guard_skip rfl rfl rfl rfl (tri_guard_skip rfl rfl rfl rfl ?_))))
   refine tri_v (opv_pick_f rfl rfl) rfl ?_
   refine tM rfl rfl (tri_guard_skip rfl rfl rfl rfl (tri_guard_skip rfl rfl rfl rfl (tri_guard_skip rfl rfl rfl rfl (tri_guard_skip rfl rfl rfl rfl ?_))))
   refine tri_v (opv_pick_f rfl rfl) rfl ?_
   refine tA rfl rfl (tN (tT (tri_ret ?_)))
   refine tri_end A Suf.h rfl (.cons (rv_tmp rfl) .nil) ⟨congrArg Value.bool (decide_eq_false fun h => ?_).symm, rfl, rfl⟩
   exact g2 h.2.1
 ·refine tri_guard_skip rfl rfl rfl rfl (tri_guard_skip rfl rfl rfl rfl (tri_guard_skip rfl rfl rfl rfl (tri_guard_skip rfl rfl rfl rfl ?_)))
  refine tri_v (opv_pick_f rfl rfl) rfl ?_
  refine tM rfl rfl (tri_guard_skip rfl rfl rfl rfl (tri_guard_skip rfl rfl rfl rfl (tri_guard_skip rfl rfl rfl rfl (tri_guard_skip rfl rfl rfl rfl (tri_guard_skip rfl rfl rfl rfl ?_)))))
  refine tri_v (opv_pick_f rfl rfl) rfl ?_
  refine tM rfl rfl (tri_guard_skip rfl rfl rfl rfl (tri_guard_skip rfl rfl rfl rfl (tri_guard_skip rfl rfl rfl rfl (tri_guard_skip rfl rfl rfl rfl ?_))))
  refine tri_v (opv_pick_f rfl rfl) rfl ?_
  refine tA rfl rfl (tN (tT (tri_ret ?_)))
  refine tri_end A Suf.h rfl (.cons (rv_tmp rfl) .nil) ⟨congrArg Value.bool (decide_eq_false fun h => ?_).symm, rfl, rfl⟩
  exact g1 h.1
set_option maxHeartbeats 1000000 in
set_option maxRecDepth 100000 in
theorem ref07_corner {l : List Cell} {a : Option Addr} {cap : Nat} {lv : Int} (hs : SlAt I a l) (hn : l.length ≤ 1000000000) (h1 : 1 ≤ lv) (h2 : lv ≤ 42) (hb : ∀ c ∈ l, R2.bd c) :
  FnC Try.prog 45 [.slice a l.length cap, .int .i64 lv].toArray A I (fun v A' I' => ∃ a' cap', v = .slice a' (R7.corner (R7.side lv) l).length cap' ∧ SlAt I' a' (R7.corner (R7.side lv) l) ∧ A = A' ∧ I ⊆ I') := by
 have hsd := R7.side_bd h2
 have hsd0 := hsd
 unfold R7.side at hsd
 have hlen : ∀ i, i ≤ l.length → (R7.corner (R7.side lv) (l.take i)).length = i := by intro i hi; simp [R7.corner]; omega
 refine fn_enter2 Try.func45 rfl Try.ntmps45 rfl fun w0 => ?_
 refine tS (tR (tA rfl rfl (tN (tT (tS (tR (tM rfl rfl ?_)))))))
 refine tri_v (opv_sub rfl rfl (w64 (by omega) (by omega))) rfl ?_
 refine tri_v (opv_shl1 rfl rfl (by omega) (by omega)) rfl ?_
 refine tA rfl rfl (tN (tT (tS (tR (tA rfl rfl (tN (tT ?_)))))))
 refine tS (tS (tR (tA rfl rfl (tN (tT (tri_block ?_))))))
 refine tri_nilRow (E := 28) (sz := 2) ?_
 refine tri_sub (F' := [(0, .slice a l.length cap), (5, .int .i64 (R7.side lv)), (6, .slice none 0 0), (7, .int .i64 (0 : Nat))]) ⟨rfl, rfl, rfl, rfl, trivial⟩ ?_
 refine loop_ind (G := Nat × Option Addr × Nat) (fun g => l.length - g.1) (fun g => g.1 ≤ l.length) (fun g => [(0, .slice a l.length cap), (5, .int .i64 (R7.side lv)), (6, .slice g.2.1 g.1 g.2.2), (7, .int .i64 (g.1 : Nat))]) (fun g => Row g.2.1 g.2.2 g.1 28 2 (encs (R7.corner (R7.side lv) (l.take g.1))) :: A) (fun _ => I) ?_ (0, none, 0) (by omega)
 rintro ⟨i, a1, cap1⟩ hi K hK
 simp only at hi hK ⊢
 skip
 refine tS (tS (tR (tM rfl rfl (tM rfl rfl ?_))))
 refine tri_v (opv_len rfl) rfl ?_
 refine tri_v (opv_lss rfl rfl) rfl ?_
 refine tN (tT ?_)
 refine tri_cond_dec rfl (fun h => ?_) (fun h => ?_)
 ·have hlt : i < l.length := by omega
  have hbi : R2.bd (l.getD i default) := hb _ (by simp [hlt])
  have hx := hbi.1
  have hx2 := hbi.2.1
  have hy := hbi.2.2.1
  have hy2 := hbi.2.2.2
  have e : R7.corner (R7.side lv) (l.take (i + 1)) = R7.corner (R7.side lv) (l.take i) ++ [⟨(l.getD i default).x + R7.side lv, (l.getD i default).y + R7.side lv⟩] := by
   have e0 : l.getD i default = l[i] := by simp [hlt]
   rw [e0, List.take_succ_eq_append_getElem hlt]; unfold R7.corner; rw [List.map_append]; rfl
  skip
  refine tri_skip (tT (tS (tri_block ?_)))
  refine tri_draw [0, 1, 2, 3, 4, 5, 6, 7, 8, 9, 10, 11, 12, 13, 14, 15, 16, 17, 18] rfl [_] rfl mixed ?_
  refine th_take rfl rfl (by kernel_rfl)  (opv_move rfl) ?_
  refine th_take rfl rfl (by kernel_rfl)  (opv_move rfl) ?_
  refine th_take rfl rfl (by kernel_rfl)  (opv_move rfl) ?_
  refine th_take rfl rfl (by kernel_rfl)  (opv_indexAddrSN rfl rfl (by omega) (by assumption) rfl) ?_
  refine th_take rfl rfl (by kernel_rfl)  (opv_fieldAddrE rfl (by assumption) (by omega) rfl) ?_
  refine th_take rfl rfl (by kernel_rfl)  (opv_loadE1 rfl (by assumption) rfl (by omega) rfl rfl) ?_
  refine th_take rfl rfl (by kernel_rfl)  (opv_move rfl) ?_
  refine th_take rfl rfl (by kernel_rfl)  (opv_add rfl rfl (w64 (by omega) (by omega))) ?_
  refine th_take rfl rfl (by kernel_rfl)  (opv_move rfl) ?_
  refine th_take rfl rfl (by kernel_rfl)  (opv_move rfl) ?_
  refine th_take rfl rfl (by kernel_rfl)  (opv_indexAddrSN rfl rfl (by omega) (by assumption) rfl) ?_
  refine th_take rfl rfl (by kernel_rfl)  (opv_fieldAddrE rfl (by assumption) (by omega) rfl) ?_
  refine th_take rfl rfl (by kernel_rfl)  (opv_loadE1 rfl (by assumption) rfl (by omega) rfl rfl) ?_
  refine th_take rfl rfl (by kernel_rfl)  (opv_move rfl) ?_
  refine th_take rfl rfl (by kernel_rfl)  (opv_add rfl rfl (w64 (by omega) (by omega))) ?_
  refine th_take rfl rfl (by kernel_rfl)  (opv_buildS rfl rfl) ?_
  refine th_one (by kernel_rfl) (step_m rfl rfl (opg_buildSlice rfl rfl rfl rfl) ?_)
  rintro _ _ _ ⟨b, rfl, rfl, rfl⟩
  refine ⟨Suf.h, (fun _ h => h), ?_⟩
  refine th_one (by kernel_rfl) (step_m rfl rfl (opg_appendB rfl rfl rfl rfl (by omega) rfl) ?_)
  rintro _ _ _ ⟨a3, cap3, rfl, rfl, rfl⟩
  refine ⟨Suf.h, (fun _ h => h), ?_⟩
  refine th_take rfl rfl (by kernel_rfl)  (opv_assign rfl) ?_
  refine th_done (by kernel_rfl) ?_
  refine tri_inBlock ?_
  refine tT (tR (tM rfl rfl ?_))
  refine tU rfl rfl (by omega) (by omega) rfl ?_
  refine tA rfl rfl (tN (tT ?_))
  refine tri_drop ?_
  refine tri_rowEq (len' := i + 1) (cells' := encs (R7.corner (R7.side lv) (l.take (i + 1)))) rfl (by rw [e, encs_append]; rfl) ?_
  refine tri_sub ?_ (hK (i + 1, a3, cap3) (by simp only; omega) (by simp only; omega))
  exact ⟨rfl, rfl, rfl, rfl, trivial⟩
 ·have hi' : i = l.length := by omega
  have hl := hlen i hi
  rw [List.take_of_length_le (by omega)] at hl
  refine tri_exit ?_
  refine tri_then_exit ?_
  refine tri_then_exit ?_
  refine tri_inBlock_hit rfl ?_
  refine tT (tS (tR (tM rfl rfl (tA rfl rfl (tN (tT (tri_ret ?_)))))))
  refine tri_rowEq (len' := (R7.corner (R7.side lv) l).length) (cells' := encs (R7.corner (R7.side lv) l)) hl.symm (by rw [List.take_of_length_le (by omega)]) ?_
  refine tri_freezeRow rfl fun I' hI hs' => ?_
  refine tri_end A Suf.h rfl (.cons (rv_tmp rfl) .nil) ⟨a1, cap1, ?_, hs', rfl, hI⟩
  rw [hl]; rfl
end Go.GL


set_option linter.unusedVariables false
namespace Go.GL
open Go.Proofs
attribute [local irreducible] wpList Code.wp Exit.then Exit.inBlock Ends Tri TriH OpV OpG FnC epf wpAnyH
variable {A : List Asrt} {I : List Chunk}
theorem R7.part_snoc (h : Int) (k : Nat) (l : List Cell) (c : Cell) : R7.part h k (l ++ [c]) = R7.part h k l ++ if R7.qx h c = k then [R7.qc h c] else [] := by
 unfold R7.part
 rw [List.filter_append, List.map_append]
 by_cases e : R7.qx h c = k <;> simp [e]
theorem R7.part_len (h : Int) (k : Nat) (l : List Cell) : (R7.part h k l).length ≤ l.length := by
 unfold R7.part
 rw [List.length_map]
 exact List.length_filter_le ..
structure PG where
 i : Nat
 a0 : Option Addr
 a1 : Option Addr
 a2 : Option Addr
 a3 : Option Addr
 c0 : Nat
 c1 : Nat
 c2 : Nat
 c3 : Nat
set_option maxHeartbeats 1000000 in
set_option maxRecDepth 100000 in
theorem ref07_parts {l : List Cell} {a : Option Addr} {cap : Nat} {lv : Int} (hs : SlAt I a l) (hn : l.length ≤ 1000000000) (h1 : 1 ≤ lv) (h2 : lv ≤ 42) (hb : ∀ c ∈ l, c.x ≤ 4398046511104 ∧ c.y ≤ 4398046511104) :
  FnC Try.prog 74 [.slice a l.length cap, .int .i64 lv].toArray A I (fun v A' I' => ∃ a0 c0 a1 c1 a2 c2 a3 c3, v = .agg [.slice a0 (R7.part (R7.side lv) 0 l).length c0, .slice a1 (R7.part (R7.side lv) 1 l).length c1, .slice a2 (R7.part (R7.side lv) 2 l).length c2, .slice a3 (R7.part (R7.side lv) 3 l).length c3].toArray ∧ SlAt I' a0 (R7.part (R7.side lv) 0 l) ∧ SlAt I' a1 (R7.part (R7.side lv) 1 l) ∧ SlAt I' a2 (R7.part (R7.side lv) 2 l) ∧ SlAt I' a3 (R7.part (R7.side lv) 3 l) ∧ A = A' ∧ I ⊆ I') := by
 have hsd := R7.side_bd h2
 have hsd0 := hsd
 unfold R7.side at hsd
 have hpl : ∀ i k, (R7.part (R7.side lv) k (l.take i)).length ≤ 1000000000 := fun i k => by
  have h1 := R7.part_len (R7.side lv) k (l.take i)
  rw [List.length_take] at h1
  omega
 refine fn_enter2 Try.func74 rfl Try.ntmps74 rfl fun w0 => ?_
 refine tS (tR ?_)
 refine tri_g opg_alloc rfl ?_
 rintro _ _ _ ⟨b, rfl, rfl, rfl⟩
 refine tN (tT (tS (tR (tM rfl rfl ?_))))
 refine tri_v (opv_sub rfl rfl (w64 (by omega) (by omega))) rfl ?_
 refine tri_v (opv_shl1 rfl rfl (by omega) (by omega)) rfl ?_
 refine tA rfl rfl (tN (tT (tS (tR ?_))))
 refine tri_g opg_alloc rfl ?_
 rintro _ _ _ ⟨b, rfl, rfl, rfl⟩
 refine tN (tT (tS (tS (tR (tA rfl rfl (tN (tT ?_)))))))
 refine tri_block ?_
 rename_i b4
 refine tri_nilRow (E := 28) (sz := 2) ?_
 refine tri_nilRow (E := 28) (sz := 2) ?_
 refine tri_nilRow (E := 28) (sz := 2) ?_
 refine tri_nilRow (E := 28) (sz := 2) ?_
 refine tri_perm (A := ?a1_0 :: ?a1_1 :: ?a1_2 :: ?a1_3 :: ?a1_4 :: ?T1) (B := ?a1_4 :: ?a1_0 :: ?a1_1 :: ?a1_2 :: ?a1_3 :: ?T1) (by exact permL [4, 0, 1, 2, 3] [?a1_0, ?a1_1, ?a1_2, ?a1_3, ?a1_4] ?T1 (by decide) rfl) ?_
 refine tri_sub (F' := [(0, .slice a l.length cap), (4, pt b4 0), (5, .int .i64 (R7.side lv)), (6, pt b 0), (7, .int .i64 (0 : Nat))]) ⟨rfl, rfl, rfl, rfl, rfl, trivial⟩ ?_
 refine loop_ind (G := PG) (fun g => l.length - g.i) (fun g => g.i ≤ l.length) (fun g => [(0, .slice a l.length cap), (4, pt b4 0), (5, .int .i64 (R7.side lv)), (6, pt b 0), (7, .int .i64 (g.i : Nat))])
  (fun g => Box b [.slice g.a0 (R7.part (R7.side lv) 0 (l.take g.i)).length g.c0, .slice g.a1 (R7.part (R7.side lv) 1 (l.take g.i)).length g.c1, .slice g.a2 (R7.part (R7.side lv) 2 (l.take g.i)).length g.c2, .slice g.a3 (R7.part (R7.side lv) 3 (l.take g.i)).length g.c3] 111 :: Row g.a0 g.c0 (R7.part (R7.side lv) 0 (l.take g.i)).length 28 2 (encs (R7.part (R7.side lv) 0 (l.take g.i))) :: Row g.a1 g.c1 (R7.part (R7.side lv) 1 (l.take g.i)).length 28 2 (encs (R7.part (R7.side lv) 1 (l.take g.i))) :: Row g.a2 g.c2 (R7.part (R7.side lv) 2 (l.take g.i)).length 28 2 (encs (R7.part (R7.side lv) 2 (l.take g.i))) :: Row g.a3 g.c3 (R7.part (R7.side lv) 3 (l.take g.i)).length 28 2 (encs (R7.part (R7.side lv) 3 (l.take g.i))) :: Box b4 [.slice none 0 0, .slice none 0 0, .slice none 0 0, .slice none 0 0] 111 :: A) (fun _ => I) ?_ ⟨0, none, none, none, none, 0, 0, 0, 0⟩ (by simp only; omega)
 rintro ⟨i, a0, a1, a2, a3, c0, c1, c2, c3⟩ hi K hK
 simp only at hi hK ⊢
 have hp0 := hpl i 0
 have hp1 := hpl i 1
 have hp2 := hpl i 2
 have hp3 := hpl i 3
 skip
 refine tS (tS (tR (tM rfl rfl (tM rfl rfl ?_))))
 refine tri_v (opv_len rfl) rfl ?_
 refine tri_v (opv_lss rfl rfl) rfl ?_
 refine tN (tT ?_)
 refine tri_cond_dec rfl (fun h => ?_) (fun h => ?_)
 ·have hlt : i < l.length := by omega
  have hbi := hb (l.getD i default) (by simp [hlt])
  have hbx := hbi.1
  have hby := hbi.2
  have et : l.take (i + 1) = l.take i ++ [l.getD i default] := by
   have e0 : l.getD i default = l[i] := by simp [hlt]
   rw [e0, List.take_succ_eq_append_getElem hlt]
  have en := fun k => R7.part_snoc (R7.side lv) k (l.take i) (l.getD i default)
  rw [← et] at en
  refine tri_skip (tT (tS (tri_block (tS (tR (tA rfl rfl (tN ?_)))))))
  refine tT (tS (tR (tM rfl rfl (tM rfl rfl ?_))))
  refine tri_v (opv_indexAddrSN rfl rfl (by omega) (by assumption) rfl) rfl ?_
  refine tri_v (opv_loadEA rfl (by assumption) rfl (by omega) rfl rfl) rfl ?_
  refine tri_g opg_alloc rfl ?_
  rintro _ _ _ ⟨b, rfl, rfl, rfl⟩
  refine tri_g (opg_store rfl rfl rfl rfl rfl rfl) rfl ?_
  rintro _ _ _ ⟨rfl, rfl⟩
  refine tN (tT (tS (tS (tR ?_))))
  refine tri_v (opv_fieldAddr rfl rfl) rfl ?_
  refine tri_v (opv_load1 rfl rfl rfl) rfl ?_
  refine tM rfl rfl ?_
  refine tri_v (opv_geq rfl rfl) rfl ?_
  refine tN (tT ?_)
  refine tri_cond_dec rfl (fun gx => ?_) (fun gx => ?_)
  ·refine tS (tR (tA rfl rfl (tN (tT (tR ?_)))))
   refine tri_v (opv_fieldAddr rfl rfl) rfl ?_
   refine tri_v (opv_load1 rfl rfl rfl) rfl ?_
   refine tM rfl rfl ?_
   refine tri_v (opv_sub rfl rfl (w64 (by omega) (by omega))) rfl ?_
   refine tri_v (opv_fieldAddr rfl rfl) rfl ?_
   refine tri_g (opg_store rfl rfl rfl rfl rfl rfl) rfl ?_
   rintro _ _ _ ⟨rfl, rfl⟩
   refine tN (tT (tS (tS (tR ?_))))
   refine tri_v (opv_fieldAddr rfl rfl) rfl ?_
   refine tri_v (opv_load1 rfl rfl rfl) rfl ?_
   refine tM rfl rfl ?_
   refine tri_v (opv_geq rfl rfl) rfl ?_
   refine tN (tT ?_)
   refine tri_cond_dec rfl (fun gy => ?_) (fun gy => ?_)
   ·have gx' : (R7.side lv ≤ (l.getD i default).x) := gx
    have gy' : (R7.side lv ≤ (l.getD i default).y) := gy
    have e0 : R7.part (R7.side lv) 0 (l.take (i + 1)) = R7.part (R7.side lv) 0 (l.take i) := by rw [en 0, if_neg (by unfold R7.qx; rw [if_pos gx', if_pos gy']; decide), List.append_nil]
    have e1 : R7.part (R7.side lv) 1 (l.take (i + 1)) = R7.part (R7.side lv) 1 (l.take i) := by rw [en 1, if_neg (by unfold R7.qx; rw [if_pos gx', if_pos gy']; decide), List.append_nil]
    have e2 : R7.part (R7.side lv) 2 (l.take (i + 1)) = R7.part (R7.side lv) 2 (l.take i) := by rw [en 2, if_neg (by unfold R7.qx; rw [if_pos gx', if_pos gy']; decide), List.append_nil]
    have e3 : R7.part (R7.side lv) 3 (l.take (i + 1)) = R7.part (R7.side lv) 3 (l.take i) ++ [⟨(l.getD i default).x - R7.side lv, (l.getD i default).y - R7.side lv⟩] := by rw [en 3, if_pos (by unfold R7.qx; rw [if_pos gx', if_pos gy'])]; unfold R7.qc; rw [if_pos gx', if_pos gy']
    refine tS ?_
    refine tri_perm (A := ?a2_0 :: ?a2_1 :: ?a2_2 :: ?a2_3 :: ?a2_4 :: ?a2_5 :: ?T2) (B := ?a2_1 :: ?a2_5 :: ?a2_0 :: ?a2_2 :: ?a2_3 :: ?a2_4 :: ?T2) (by exact permL [1, 5, 0, 2, 3, 4] [?a2_0, ?a2_1, ?a2_2, ?a2_3, ?a2_4, ?a2_5] ?T2 (by decide) rfl) ?_
    skip
    refine tR (tM rfl rfl ?_)
    refine tU rfl rfl (by omega) (by omega) rfl ?_
    refine tA rfl rfl (tN (tT (tR ?_)))
    refine tri_v (opv_fieldAddr rfl rfl) rfl ?_
    refine tri_v (opv_load1 rfl rfl rfl) rfl ?_
    refine tM rfl rfl ?_
    refine tri_v (opv_sub rfl rfl (w64 (by omega) (by omega))) rfl ?_
    refine tri_v (opv_fieldAddr rfl rfl) rfl ?_
    refine tri_g (opg_store rfl rfl rfl rfl rfl rfl) rfl ?_
    rintro _ _ _ ⟨rfl, rfl⟩
    refine tN (tT ?_)
    refine tri_draw [0, 1, 2, 4, 3, 5, 6, 7, 8] rfl [_, _] rfl mixed ?_
    refine th_take rfl rfl (by kernel_rfl)  (opv_move rfl) ?_
    refine th_take rfl rfl (by kernel_rfl)  (opv_move rfl) ?_
    refine th_take rfl rfl (by kernel_rfl)  (opv_indexAddrA rfl rfl (by decide) (by decide)) ?_
    refine th_take rfl rfl (by kernel_rfl)  (opv_loadA rfl rfl rfl) ?_
    refine th_two (j := 5) [3, 6, 7, 8] (by kernel_rfl) rfl ?_ ?_
    ·refine (step_m rfl rfl (OpV.toG (opv_load1 rfl rfl rfl)) ?_)
     rintro _ _ _ ⟨rfl, rfl, rfl⟩
     refine ⟨Suf.h, (fun _ h => h), ?_⟩
     refine th_one (by kernel_rfl) (step_m rfl rfl (opg_buildSlice rfl rfl rfl rfl) ?_)
     rintro _ _ _ ⟨b, rfl, rfl, rfl⟩
     refine ⟨Suf.h, (fun _ h => h), ?_⟩
     refine th_one (by kernel_rfl) (step_m rfl rfl (opg_appendB rfl rfl rfl rfl (by omega) rfl) ?_)
     rintro _ _ _ ⟨aa, cc, rfl, rfl, rfl⟩
     refine ⟨Suf.h, (fun _ h => h), ?_⟩
     refine th_take rfl rfl (by kernel_rfl)  (opv_indexAddrA rfl rfl (by decide) (by decide)) ?_
     refine th_one (by kernel_rfl) (step_m rfl rfl (opg_store rfl rfl rfl rfl rfl rfl) ?_)
     rintro _ _ _ ⟨rfl, rfl⟩
     refine ⟨Suf.h, (fun _ h => h), ?_⟩
     refine th_done (by kernel_rfl) ?_
     refine tri_inBlock ?_
     refine tT (tR (tM rfl rfl ?_))
     refine tU rfl rfl (by omega) (by omega) rfl ?_
     refine tA rfl rfl (tN (tT ?_))
     refine tri_perm (A := ?a3_0 :: ?a3_1 :: ?a3_2 :: ?a3_3 :: ?a3_4 :: ?a3_5 :: ?a3_6 :: ?T3) (B := ?a3_0 :: ?a3_3 :: ?a3_1 :: ?a3_4 :: ?a3_5 :: ?a3_6 :: ?a3_2 :: ?T3) (by exact permL [0, 3, 1, 4, 5, 6, 2] [?a3_0, ?a3_1, ?a3_2, ?a3_3, ?a3_4, ?a3_5, ?a3_6] ?T3 (by decide) rfl) ?_
     refine tri_drop ?_
     refine tri_drop ?_
     have hh := hK ⟨i + 1, a0, a1, a2, aa, c0, c1, c2, cc⟩ (by simp only; omega) (by simp only; omega)
     simp only [e0, e1, e2, e3, List.length_append, encs_append] at hh
     refine tri_sub ?_ hh
     exact ⟨rfl, rfl, rfl, rfl, rfl, trivial⟩
    ·refine (step_m rfl rfl (opg_buildSlice rfl rfl rfl rfl) ?_)
     rintro _ _ _ ⟨b, rfl, rfl, rfl⟩
     refine ⟨Suf.h, (fun _ h => h), ?_⟩
     refine th_one (by kernel_rfl) (step_m rfl rfl (OpV.toG (opv_load1 rfl rfl rfl)) ?_)
     rintro _ _ _ ⟨rfl, rfl, rfl⟩
     refine ⟨Suf.h, (fun _ h => h), ?_⟩
     refine th_one (by kernel_rfl) (step_m rfl rfl (opg_appendB rfl rfl rfl rfl (by omega) rfl) ?_)
     rintro _ _ _ ⟨aa, cc, rfl, rfl, rfl⟩
     refine ⟨Suf.h, (fun _ h => h), ?_⟩
     refine th_take rfl rfl (by kernel_rfl)  (opv_indexAddrA rfl rfl (by decide) (by decide)) ?_
     refine th_one (by kernel_rfl) (step_m rfl rfl (opg_store rfl rfl rfl rfl rfl rfl) ?_)
     rintro _ _ _ ⟨rfl, rfl⟩
     refine ⟨Suf.h, (fun _ h => h), ?_⟩
     refine th_done (by kernel_rfl) ?_
     refine tri_inBlock ?_
     refine tT (tR (tM rfl rfl ?_))
     refine tU rfl rfl (by omega) (by omega) rfl ?_
     refine tA rfl rfl (tN (tT ?_))
     refine tri_perm (A := ?a4_0 :: ?a4_1 :: ?a4_2 :: ?a4_3 :: ?a4_4 :: ?a4_5 :: ?a4_6 :: ?T4) (B := ?a4_0 :: ?a4_3 :: ?a4_1 :: ?a4_4 :: ?a4_5 :: ?a4_6 :: ?a4_2 :: ?T4) (by exact permL [0, 3, 1, 4, 5, 6, 2] [?a4_0, ?a4_1, ?a4_2, ?a4_3, ?a4_4, ?a4_5, ?a4_6] ?T4 (by decide) rfl) ?_
     refine tri_drop ?_
     refine tri_drop ?_
     have hh := hK ⟨i + 1, a0, a1, a2, aa, c0, c1, c2, cc⟩ (by simp only; omega) (by simp only; omega)
     simp only [e0, e1, e2, e3, List.length_append, encs_append] at hh
     refine tri_sub ?_ hh
     exact ⟨rfl, rfl, rfl, rfl, rfl, trivial⟩
   ·have gx' : (R7.side lv ≤ (l.getD i default).x) := gx
    have gy' : ¬ (R7.side lv ≤ (l.getD i default).y) := gy
    have e0 : R7.part (R7.side lv) 0 (l.take (i + 1)) = R7.part (R7.side lv) 0 (l.take i) := by rw [en 0, if_neg (by unfold R7.qx; rw [if_pos gx', if_neg gy']; decide), List.append_nil]
    have e1 : R7.part (R7.side lv) 1 (l.take (i + 1)) = R7.part (R7.side lv) 1 (l.take i) ++ [⟨(l.getD i default).x - R7.side lv, (l.getD i default).y⟩] := by rw [en 1, if_pos (by unfold R7.qx; rw [if_pos gx', if_neg gy'])]; unfold R7.qc; rw [if_pos gx', if_neg gy']
    have e2 : R7.part (R7.side lv) 2 (l.take (i + 1)) = R7.part (R7.side lv) 2 (l.take i) := by rw [en 2, if_neg (by unfold R7.qx; rw [if_pos gx', if_neg gy']; decide), List.append_nil]
    have e3 : R7.part (R7.side lv) 3 (l.take (i + 1)) = R7.part (R7.side lv) 3 (l.take i) := by rw [en 3, if_neg (by unfold R7.qx; rw [if_pos gx', if_neg gy']; decide), List.append_nil]
    refine tri_skip (tT ?_)
    refine tri_perm (A := ?a5_0 :: ?a5_1 :: ?a5_2 :: ?a5_3 :: ?a5_4 :: ?a5_5 :: ?T5) (B := ?a5_1 :: ?a5_3 :: ?a5_0 :: ?a5_2 :: ?a5_4 :: ?a5_5 :: ?T5) (by exact permL [1, 3, 0, 2, 4, 5] [?a5_0, ?a5_1, ?a5_2, ?a5_3, ?a5_4, ?a5_5] ?T5 (by decide) rfl) ?_
    skip
    refine tri_draw [0, 1, 2, 4, 3, 5, 6, 7, 8] rfl [_, _] rfl mixed ?_
    refine th_take rfl rfl (by kernel_rfl)  (opv_move rfl) ?_
    refine th_take rfl rfl (by kernel_rfl)  (opv_move rfl) ?_
    refine th_take rfl rfl (by kernel_rfl)  (opv_indexAddrA rfl rfl (by decide) (by decide)) ?_
    refine th_take rfl rfl (by kernel_rfl)  (opv_loadA rfl rfl rfl) ?_
    refine th_two (j := 5) [3, 6, 7, 8] (by kernel_rfl) rfl ?_ ?_
    ·refine (step_m rfl rfl (OpV.toG (opv_load1 rfl rfl rfl)) ?_)
     rintro _ _ _ ⟨rfl, rfl, rfl⟩
     refine ⟨Suf.h, (fun _ h => h), ?_⟩
     refine th_one (by kernel_rfl) (step_m rfl rfl (opg_buildSlice rfl rfl rfl rfl) ?_)
     rintro _ _ _ ⟨b, rfl, rfl, rfl⟩
     refine ⟨Suf.h, (fun _ h => h), ?_⟩
     refine th_one (by kernel_rfl) (step_m rfl rfl (opg_appendB rfl rfl rfl rfl (by omega) rfl) ?_)
     rintro _ _ _ ⟨aa, cc, rfl, rfl, rfl⟩
     refine ⟨Suf.h, (fun _ h => h), ?_⟩
     refine th_take rfl rfl (by kernel_rfl)  (opv_indexAddrA rfl rfl (by decide) (by decide)) ?_
     refine th_one (by kernel_rfl) (step_m rfl rfl (opg_store rfl rfl rfl rfl rfl rfl) ?_)
     rintro _ _ _ ⟨rfl, rfl⟩
     refine ⟨Suf.h, (fun _ h => h), ?_⟩
     refine th_done (by kernel_rfl) ?_
     refine tri_inBlock ?_
     refine tT (tR (tM rfl rfl ?_))
     refine tU rfl rfl (by omega) (by omega) rfl ?_
     refine tA rfl rfl (tN (tT ?_))
     refine tri_perm (A := ?a6_0 :: ?a6_1 :: ?a6_2 :: ?a6_3 :: ?a6_4 :: ?a6_5 :: ?a6_6 :: ?T6) (B := ?a6_0 :: ?a6_3 :: ?a6_1 :: ?a6_4 :: ?a6_2 :: ?a6_5 :: ?a6_6 :: ?T6) (by exact permL [0, 3, 1, 4, 2, 5, 6] [?a6_0, ?a6_1, ?a6_2, ?a6_3, ?a6_4, ?a6_5, ?a6_6] ?T6 (by decide) rfl) ?_
     refine tri_drop ?_
     refine tri_drop ?_
     have hh := hK ⟨i + 1, a0, aa, a2, a3, c0, cc, c2, c3⟩ (by simp only; omega) (by simp only; omega)
     simp only [e0, e1, e2, e3, List.length_append, encs_append] at hh
     refine tri_sub ?_ hh
     exact ⟨rfl, rfl, rfl, rfl, rfl, trivial⟩
    ·refine (step_m rfl rfl (opg_buildSlice rfl rfl rfl rfl) ?_)
     rintro _ _ _ ⟨b, rfl, rfl, rfl⟩
     refine ⟨Suf.h, (fun _ h => h), ?_⟩
     refine th_one (by kernel_rfl) (step_m rfl rfl (OpV.toG (opv_load1 rfl rfl rfl)) ?_)
     rintro _ _ _ ⟨rfl, rfl, rfl⟩
     refine ⟨Suf.h, (fun _ h => h), ?_⟩
     refine th_one (by kernel_rfl) (step_m rfl rfl (opg_appendB rfl rfl rfl rfl (by omega) rfl) ?_)
     rintro _ _ _ ⟨aa, cc, rfl, rfl, rfl⟩
     refine ⟨Suf.h, (fun _ h => h), ?_⟩
     refine th_take rfl rfl (by kernel_rfl)  (opv_indexAddrA rfl rfl (by decide) (by decide)) ?_
     refine th_one (by kernel_rfl) (step_m rfl rfl (opg_store rfl rfl rfl rfl rfl rfl) ?_)
     rintro _ _ _ ⟨rfl, rfl⟩
     refine ⟨Suf.h, (fun _ h => h), ?_⟩
     refine th_done (by kernel_rfl) ?_
     refine tri_inBlock ?_
     refine tT (tR (tM rfl rfl ?_))
     refine tU rfl rfl (by omega) (by omega) rfl ?_
     refine tA rfl rfl (tN (tT ?_))
     refine tri_perm (A := ?a7_0 :: ?a7_1 :: ?a7_2 :: ?a7_3 :: ?a7_4 :: ?a7_5 :: ?a7_6 :: ?T7) (B := ?a7_0 :: ?a7_3 :: ?a7_1 :: ?a7_4 :: ?a7_2 :: ?a7_5 :: ?a7_6 :: ?T7) (by exact permL [0, 3, 1, 4, 2, 5, 6] [?a7_0, ?a7_1, ?a7_2, ?a7_3, ?a7_4, ?a7_5, ?a7_6] ?T7 (by decide) rfl) ?_
     refine tri_drop ?_
     refine tri_drop ?_
     have hh := hK ⟨i + 1, a0, aa, a2, a3, c0, cc, c2, c3⟩ (by simp only; omega) (by simp only; omega)
     simp only [e0, e1, e2, e3, List.length_append, encs_append] at hh
     refine tri_sub ?_ hh
     exact ⟨rfl, rfl, rfl, rfl, rfl, trivial⟩
  ·refine tri_skip (tT (tS (tS (tR ?_))))
   refine tri_v (opv_fieldAddr rfl rfl) rfl ?_
   refine tri_v (opv_load1 rfl rfl rfl) rfl ?_
   refine tM rfl rfl ?_
   refine tri_v (opv_geq rfl rfl) rfl ?_
   refine tN (tT ?_)
   refine tri_cond_dec rfl (fun gy => ?_) (fun gy => ?_)
   ·have gx' : ¬ (R7.side lv ≤ (l.getD i default).x) := gx
    have gy' : (R7.side lv ≤ (l.getD i default).y) := gy
    have e0 : R7.part (R7.side lv) 0 (l.take (i + 1)) = R7.part (R7.side lv) 0 (l.take i) := by rw [en 0, if_neg (by unfold R7.qx; rw [if_neg gx', if_pos gy']; decide), List.append_nil]
    have e1 : R7.part (R7.side lv) 1 (l.take (i + 1)) = R7.part (R7.side lv) 1 (l.take i) := by rw [en 1, if_neg (by unfold R7.qx; rw [if_neg gx', if_pos gy']; decide), List.append_nil]
    have e2 : R7.part (R7.side lv) 2 (l.take (i + 1)) = R7.part (R7.side lv) 2 (l.take i) ++ [⟨(l.getD i default).x, (l.getD i default).y - R7.side lv⟩] := by rw [en 2, if_pos (by unfold R7.qx; rw [if_neg gx', if_pos gy'])]; unfold R7.qc; rw [if_neg gx', if_pos gy']
    have e3 : R7.part (R7.side lv) 3 (l.take (i + 1)) = R7.part (R7.side lv) 3 (l.take i) := by rw [en 3, if_neg (by unfold R7.qx; rw [if_neg gx', if_pos gy']; decide), List.append_nil]
    refine tS ?_
    refine tri_perm (A := ?a8_0 :: ?a8_1 :: ?a8_2 :: ?a8_3 :: ?a8_4 :: ?a8_5 :: ?T8) (B := ?a8_1 :: ?a8_4 :: ?a8_0 :: ?a8_2 :: ?a8_3 :: ?a8_5 :: ?T8) (by exact permL [1, 4, 0, 2, 3, 5] [?a8_0, ?a8_1, ?a8_2, ?a8_3, ?a8_4, ?a8_5] ?T8 (by decide) rfl) ?_
    skip
    refine tR (tM rfl rfl ?_)
    refine tU rfl rfl (by omega) (by omega) rfl ?_
    refine tA rfl rfl (tN (tT (tR ?_)))
    refine tri_v (opv_fieldAddr rfl rfl) rfl ?_
    refine tri_v (opv_load1 rfl rfl rfl) rfl ?_
    refine tM rfl rfl ?_
    refine tri_v (opv_sub rfl rfl (w64 (by omega) (by omega))) rfl ?_
    refine tri_v (opv_fieldAddr rfl rfl) rfl ?_
    refine tri_g (opg_store rfl rfl rfl rfl rfl rfl) rfl ?_
    rintro _ _ _ ⟨rfl, rfl⟩
    refine tN (tT ?_)
    refine tri_draw [0, 1, 2, 4, 3, 5, 6, 7, 8] rfl [_, _] rfl mixed ?_
    refine th_take rfl rfl (by kernel_rfl)  (opv_move rfl) ?_
    refine th_take rfl rfl (by kernel_rfl)  (opv_move rfl) ?_
    refine th_take rfl rfl (by kernel_rfl)  (opv_indexAddrA rfl rfl (by decide) (by decide)) ?_
    refine th_take rfl rfl (by kernel_rfl)  (opv_loadA rfl rfl rfl) ?_
    refine th_two (j := 5) [3, 6, 7, 8] (by kernel_rfl) rfl ?_ ?_
    ·refine (step_m rfl rfl (OpV.toG (opv_load1 rfl rfl rfl)) ?_)
     rintro _ _ _ ⟨rfl, rfl, rfl⟩
     refine ⟨Suf.h, (fun _ h => h), ?_⟩
     refine th_one (by kernel_rfl) (step_m rfl rfl (opg_buildSlice rfl rfl rfl rfl) ?_)
     rintro _ _ _ ⟨b, rfl, rfl, rfl⟩
     refine ⟨Suf.h, (fun _ h => h), ?_⟩
     refine th_one (by kernel_rfl) (step_m rfl rfl (opg_appendB rfl rfl rfl rfl (by omega) rfl) ?_)
     rintro _ _ _ ⟨aa, cc, rfl, rfl, rfl⟩
     refine ⟨Suf.h, (fun _ h => h), ?_⟩
     refine th_take rfl rfl (by kernel_rfl)  (opv_indexAddrA rfl rfl (by decide) (by decide)) ?_
     refine th_one (by kernel_rfl) (step_m rfl rfl (opg_store rfl rfl rfl rfl rfl rfl) ?_)
     rintro _ _ _ ⟨rfl, rfl⟩
     refine ⟨Suf.h, (fun _ h => h), ?_⟩
     refine th_done (by kernel_rfl) ?_
     refine tri_inBlock ?_
     refine tT (tR (tM rfl rfl ?_))
     refine tU rfl rfl (by omega) (by omega) rfl ?_
     refine tA rfl rfl (tN (tT ?_))
     refine tri_perm (A := ?a9_0 :: ?a9_1 :: ?a9_2 :: ?a9_3 :: ?a9_4 :: ?a9_5 :: ?a9_6 :: ?T9) (B := ?a9_0 :: ?a9_3 :: ?a9_1 :: ?a9_4 :: ?a9_5 :: ?a9_2 :: ?a9_6 :: ?T9) (by exact permL [0, 3, 1, 4, 5, 2, 6] [?a9_0, ?a9_1, ?a9_2, ?a9_3, ?a9_4, ?a9_5, ?a9_6] ?T9 (by decide) rfl) ?_
     refine tri_drop ?_
     refine tri_drop ?_
     have hh := hK ⟨i + 1, a0, a1, aa, a3, c0, c1, cc, c3⟩ (by simp only; omega) (by simp only; omega)
     simp only [e0, e1, e2, e3, List.length_append, encs_append] at hh
     refine tri_sub ?_ hh
     exact ⟨rfl, rfl, rfl, rfl, rfl, trivial⟩
    ·refine (step_m rfl rfl (opg_buildSlice rfl rfl rfl rfl) ?_)
     rintro _ _ _ ⟨b, rfl, rfl, rfl⟩
     refine ⟨Suf.h, (fun _ h => h), ?_⟩
     refine th_one (by kernel_rfl) (step_m rfl rfl (OpV.toG (opv_load1 rfl rfl rfl)) ?_)
     rintro _ _ _ ⟨rfl, rfl, rfl⟩
     refine ⟨Suf.h, (fun _ h => h), ?_⟩
     refine th_one (by kernel_rfl) (step_m rfl rfl (opg_appendB rfl rfl rfl rfl (by omega) rfl) ?_)
     rintro _ _ _ ⟨aa, cc, rfl, rfl, rfl⟩
     refine ⟨Suf.h, (fun _ h => h), ?_⟩
     refine th_take rfl rfl (by kernel_rfl)  (opv_indexAddrA rfl rfl (by decide) (by decide)) ?_
     refine th_one (by kernel_rfl) (step_m rfl rfl (opg_store rfl rfl rfl rfl rfl rfl) ?_)
     rintro _ _ _ ⟨rfl, rfl⟩
     refine ⟨Suf.h, (fun _ h => h), ?_⟩
     refine th_done (by kernel_rfl) ?_
     refine tri_inBlock ?_
     refine tT (tR (tM rfl rfl ?_))
     refine tU rfl rfl (by omega) (by omega) rfl ?_
     refine tA rfl rfl (tN (tT ?_))
     refine tri_perm (A := ?a10_0 :: ?a10_1 :: ?a10_2 :: ?a10_3 :: ?a10_4 :: ?a10_5 :: ?a10_6 :: ?T10) (B := ?a10_0 :: ?a10_3 :: ?a10_1 :: ?a10_4 :: ?a10_5 :: ?a10_2 :: ?a10_6 :: ?T10) (by exact permL [0, 3, 1, 4, 5, 2, 6] [?a10_0, ?a10_1, ?a10_2, ?a10_3, ?a10_4, ?a10_5, ?a10_6] ?T10 (by decide) rfl) ?_
     refine tri_drop ?_
     refine tri_drop ?_
     have hh := hK ⟨i + 1, a0, a1, aa, a3, c0, c1, cc, c3⟩ (by simp only; omega) (by simp only; omega)
     simp only [e0, e1, e2, e3, List.length_append, encs_append] at hh
     refine tri_sub ?_ hh
     exact ⟨rfl, rfl, rfl, rfl, rfl, trivial⟩
   ·have gx' : ¬ (R7.side lv ≤ (l.getD i default).x) := gx
    have gy' : ¬ (R7.side lv ≤ (l.getD i default).y) := gy
    have e0 : R7.part (R7.side lv) 0 (l.take (i + 1)) = R7.part (R7.side lv) 0 (l.take i) ++ [⟨(l.getD i default).x, (l.getD i default).y⟩] := by rw [en 0, if_pos (by unfold R7.qx; rw [if_neg gx', if_neg gy'])]; unfold R7.qc; rw [if_neg gx', if_neg gy']
    have e1 : R7.part (R7.side lv) 1 (l.take (i + 1)) = R7.part (R7.side lv) 1 (l.take i) := by rw [en 1, if_neg (by unfold R7.qx; rw [if_neg gx', if_neg gy']; decide), List.append_nil]
    have e2 : R7.part (R7.side lv) 2 (l.take (i + 1)) = R7.part (R7.side lv) 2 (l.take i) := by rw [en 2, if_neg (by unfold R7.qx; rw [if_neg gx', if_neg gy']; decide), List.append_nil]
    have e3 : R7.part (R7.side lv) 3 (l.take (i + 1)) = R7.part (R7.side lv) 3 (l.take i) := by rw [en 3, if_neg (by unfold R7.qx; rw [if_neg gx', if_neg gy']; decide), List.append_nil]
    refine tri_skip (tT ?_)
    refine tri_perm (A := ?a11_0 :: ?a11_1 :: ?a11_2 :: ?a11_3 :: ?a11_4 :: ?a11_5 :: ?T11) (B := ?a11_1 :: ?a11_2 :: ?a11_0 :: ?a11_3 :: ?a11_4 :: ?a11_5 :: ?T11) (by exact permL [1, 2, 0, 3, 4, 5] [?a11_0, ?a11_1, ?a11_2, ?a11_3, ?a11_4, ?a11_5] ?T11 (by decide) rfl) ?_
    skip
    refine tri_draw [0, 1, 2, 4, 3, 5, 6, 7, 8] rfl [_, _] rfl mixed ?_
    refine th_take rfl rfl (by kernel_rfl)  (opv_move rfl) ?_
    refine th_take rfl rfl (by kernel_rfl)  (opv_move rfl) ?_
    refine th_take rfl rfl (by kernel_rfl)  (opv_indexAddrA rfl rfl (by decide) (by decide)) ?_
    refine th_take rfl rfl (by kernel_rfl)  (opv_loadA rfl rfl rfl) ?_
    refine th_two (j := 5) [3, 6, 7, 8] (by kernel_rfl) rfl ?_ ?_
    ·refine (step_m rfl rfl (OpV.toG (opv_load1 rfl rfl rfl)) ?_)
     rintro _ _ _ ⟨rfl, rfl, rfl⟩
     refine ⟨Suf.h, (fun _ h => h), ?_⟩
     refine th_one (by kernel_rfl) (step_m rfl rfl (opg_buildSlice rfl rfl rfl rfl) ?_)
     rintro _ _ _ ⟨b, rfl, rfl, rfl⟩
     refine ⟨Suf.h, (fun _ h => h), ?_⟩
     refine th_one (by kernel_rfl) (step_m rfl rfl (opg_appendB rfl rfl rfl rfl (by omega) rfl) ?_)
     rintro _ _ _ ⟨aa, cc, rfl, rfl, rfl⟩
     refine ⟨Suf.h, (fun _ h => h), ?_⟩
     refine th_take rfl rfl (by kernel_rfl)  (opv_indexAddrA rfl rfl (by decide) (by decide)) ?_
     refine th_one (by kernel_rfl) (step_m rfl rfl (opg_store rfl rfl rfl rfl rfl rfl) ?_)
     rintro _ _ _ ⟨rfl, rfl⟩
     refine ⟨Suf.h, (fun _ h => h), ?_⟩
     refine th_done (by kernel_rfl) ?_
     refine tri_inBlock ?_
     refine tT (tR (tM rfl rfl ?_))
     refine tU rfl rfl (by omega) (by omega) rfl ?_
     refine tA rfl rfl (tN (tT ?_))
     refine tri_perm (A := ?a12_0 :: ?a12_1 :: ?a12_2 :: ?a12_3 :: ?a12_4 :: ?a12_5 :: ?a12_6 :: ?T12) (B := ?a12_0 :: ?a12_3 :: ?a12_1 :: ?a12_2 :: ?a12_4 :: ?a12_5 :: ?a12_6 :: ?T12) (by exact permL [0, 3, 1, 2, 4, 5, 6] [?a12_0, ?a12_1, ?a12_2, ?a12_3, ?a12_4, ?a12_5, ?a12_6] ?T12 (by decide) rfl) ?_
     refine tri_drop ?_
     refine tri_drop ?_
     have hh := hK ⟨i + 1, aa, a1, a2, a3, cc, c1, c2, c3⟩ (by simp only; omega) (by simp only; omega)
     simp only [e0, e1, e2, e3, List.length_append, encs_append] at hh
     refine tri_sub ?_ hh
     exact ⟨rfl, rfl, rfl, rfl, rfl, trivial⟩
    ·refine (step_m rfl rfl (opg_buildSlice rfl rfl rfl rfl) ?_)
     rintro _ _ _ ⟨b, rfl, rfl, rfl⟩
     refine ⟨Suf.h, (fun _ h => h), ?_⟩
     refine th_one (by kernel_rfl) (step_m rfl rfl (OpV.toG (opv_load1 rfl rfl rfl)) ?_)
     rintro _ _ _ ⟨rfl, rfl, rfl⟩
     refine ⟨Suf.h, (fun _ h => h), ?_⟩
     refine th_one (by kernel_rfl) (step_m rfl rfl (opg_appendB rfl rfl rfl rfl (by omega) rfl) ?_)
     rintro _ _ _ ⟨aa, cc, rfl, rfl, rfl⟩
     refine ⟨Suf.h, (fun _ h => h), ?_⟩
     refine th_take rfl rfl (by kernel_rfl)  (opv_indexAddrA rfl rfl (by decide) (by decide)) ?_
     refine th_one (by kernel_rfl) (step_m rfl rfl (opg_store rfl rfl rfl rfl rfl rfl) ?_)
     rintro _ _ _ ⟨rfl, rfl⟩
     refine ⟨Suf.h, (fun _ h => h), ?_⟩
     refine th_done (by kernel_rfl) ?_
     refine tri_inBlock ?_
     refine tT (tR (tM rfl rfl ?_))
     refine tU rfl rfl (by omega) (by omega) rfl ?_
     refine tA rfl rfl (tN (tT ?_))
     refine tri_perm (A := ?a13_0 :: ?a13_1 :: ?a13_2 :: ?a13_3 :: ?a13_4 :: ?a13_5 :: ?a13_6 :: ?T13) (B := ?a13_0 :: ?a13_3 :: ?a13_1 :: ?a13_2 :: ?a13_4 :: ?a13_5 :: ?a13_6 :: ?T13) (by exact permL [0, 3, 1, 2, 4, 5, 6] [?a13_0, ?a13_1, ?a13_2, ?a13_3, ?a13_4, ?a13_5, ?a13_6] ?T13 (by decide) rfl) ?_
     refine tri_drop ?_
     refine tri_drop ?_
     have hh := hK ⟨i + 1, aa, a1, a2, a3, cc, c1, c2, c3⟩ (by simp only; omega) (by simp only; omega)
     simp only [e0, e1, e2, e3, List.length_append, encs_append] at hh
     refine tri_sub ?_ hh
     exact ⟨rfl, rfl, rfl, rfl, rfl, trivial⟩
 ·have e : l.take i = l := List.take_of_length_le (by omega)
  rw [e]
  refine tri_exit ?_
  refine tri_then_exit ?_
  refine tri_then_exit ?_
  refine tri_inBlock_hit rfl ?_
  refine tT (tS (tR ?_))
  refine tri_v (opv_loadA rfl rfl rfl) rfl ?_
  refine tri_g (opg_store rfl rfl rfl rfl rfl rfl) rfl ?_
  rintro _ _ _ ⟨rfl, rfl⟩
  refine tN (tT (tri_ret ?_))
  refine tri_perm (A := ?a14_0 :: ?a14_1 :: ?a14_2 :: ?a14_3 :: ?a14_4 :: ?T14) (B := ?a14_1 :: ?a14_2 :: ?a14_3 :: ?a14_4 :: ?a14_0 :: ?T14) (by exact permL [1, 2, 3, 4, 0] [?a14_0, ?a14_1, ?a14_2, ?a14_3, ?a14_4] ?T14 (by decide) rfl) ?_
  refine tri_freezeRow rfl fun I0 hI0 hs0 => ?_
  refine tri_freezeRow rfl fun I1 hI1 hs1 => ?_
  refine tri_freezeRow rfl fun I2 hI2 hs2 => ?_
  refine tri_freezeRow rfl fun I3 hI3 hs3 => ?_
  refine tri_end A Suf.h rfl (.cons (rv_cellA rfl rfl rfl) .nil) ?_
  exact ⟨a0, c0, a1, c1, a2, c2, a3, c3, rfl, hs0.mono fun _ h => hI3 (hI2 (hI1 h)), hs1.mono fun _ h => hI3 (hI2 h), hs2.mono fun _ h => hI3 h, hs3, rfl, fun _ h => hI3 (hI2 (hI1 (hI0 h)))⟩
end Go.GL


set_option linter.unusedVariables false
namespace Go.GL
open Go.Proofs
attribute [local irreducible] wpList Code.wp Exit.then Exit.inBlock Ends Tri TriH OpV OpG FnC epf wpAnyH
variable {A : List Asrt} {I : List Chunk}
set_option maxHeartbeats 1000000 in
set_option maxRecDepth 100000 in
theorem ref07_empty {ns : List Node} {a : Option Addr} {cap lv : Nat} {room : Int} (hs : StA I a cap ns) (hg : R6.Good ns room) (hlv : lv ≤ 1000) :
  FnC Try.prog 73 [storeV a ns.length cap room, .int .i64 (lv : Nat)].toArray A I (StoreR (R7.empty ns room lv) room A I) := by
 refine fn_enter2 Try.func73 rfl Try.ntmps73 rfl fun w0 => ?_
 refine tS (tR ?_)
 refine tri_g (opg_box_agg rfl) rfl ?_
 rintro _ _ _ ⟨b, rfl, rfl, rfl⟩
 refine tri_g opg_alloc rfl ?_
 rintro _ _ _ ⟨b, rfl, rfl, rfl⟩
 refine tA rfl rfl (tA rfl rfl (tN (tT (tS (tR (tA rfl rfl (tN ?_)))))))
 refine tT (tS (tS (tR (tA rfl rfl (tN (tT (tri_block ?_)))))))
 rename_i b2
 revert b; intro b4
 refine tri_sub (F' := [(1, .int .i64 (lv : Nat)), (2, pt b2 0), (4, pt b4 0), (7, .int .i64 (0 : Int)), (8, .int .i64 (0 : Nat))]) ⟨rfl, rfl, rfl, rfl, rfl, trivial⟩ ?_
 refine loop_ind (G := Nat × List Node × Int × Option Addr × Nat × List Chunk) (fun g => lv - g.1) (fun g => g.1 ≤ lv ∧ StA g.2.2.2.2.2 g.2.2.2.1 g.2.2.2.2.1 g.2.1 ∧ I ⊆ g.2.2.2.2.2 ∧ R6.Good g.2.1 room ∧ R7.empty ns room lv = R7.emptyF room (lv - g.1) g.2.1 g.2.2.1) (fun g => [(1, .int .i64 (lv : Nat)), (2, pt b2 0), (4, pt b4 0), (7, .int .i64 g.2.2.1), (8, .int .i64 (g.1 : Nat))]) (fun g => Box b4 [.slice none 0 0, .int .i64 0] 26 :: Box b2 [.slice g.2.2.2.1 g.2.1.length g.2.2.2.2.1, .int .i64 room] 26 :: A) (fun g => g.2.2.2.2.2) ?_ (0, ns, 0, a, cap, I) ⟨by simp, hs, fun _ h => h, hg, rfl⟩
 rintro ⟨i, ms, n, a1, cap1, I1⟩ ⟨hi, hs1, hI1, hg1, he⟩ K hK
 simp only at hi hs1 hI1 hg1 he hK ⊢
 skip
 refine tS (tS (tR (tM rfl rfl (tM rfl rfl ?_))))
 refine tri_v (opv_lss rfl rfl) rfl ?_
 refine tN (tT ?_)
 refine tri_cond_dec rfl (fun h => ?_) (fun h => ?_)
 ·have hk : lv - i = (lv - (i + 1)) + 1 := by omega
  rw [hk] at he
  unfold R7.emptyF at he
  have hg2 := hg1.put n n n n
  refine tri_skip (tT (tS (tri_block (tS (tR ?_)))))
  refine tri_v (opv_loadA rfl rfl rfl) rfl ?_
  refine tM rfl rfl (tM rfl rfl (tM rfl rfl (tM rfl rfl ?_)))
  refine tri_v (opv_buildA rfl rfl) rfl ?_
  refine tri_g (opg_call (xs := [_, _]) rfl (ref06_put hs1 hg1.len hg1.mod)) rfl ?_
  rintro _ _ I2 ⟨a2, cap2, rfl, hs2, rfl, hI2⟩
  refine tM rfl rfl ?_
  refine tri_v (opv_extract rfl rfl) rfl ?_
  refine tri_v (opv_extract rfl rfl) rfl ?_
  refine tri_v (opv_extract rfl rfl) rfl ?_
  refine tri_g opg_alloc rfl ?_
  rintro _ _ _ ⟨b, rfl, rfl, rfl⟩
  refine tri_g (opg_store rfl rfl rfl rfl rfl rfl) rfl ?_
  rintro _ _ _ ⟨rfl, rfl⟩
  refine tA rfl rfl (tA rfl rfl (tN (tT (tS (tS (tR (tM rfl rfl ?_)))))))
  refine tri_v (opv_neq rfl rfl) rfl ?_
  refine tN (tT ?_)
  refine tri_cond_dec rfl (fun h2 => ?_) (fun h2 => ?_)
  ·rw [if_pos h2] at he
   refine tS (tR ?_)
   refine tri_v (opv_loadA rfl rfl rfl) rfl ?_
   refine tM rfl rfl ?_
   refine tri_g (opg_store rfl rfl rfl rfl rfl rfl) rfl ?_
   rintro _ _ _ ⟨rfl, rfl⟩
   refine tA rfl rfl (tA rfl rfl (tN (tT (tri_ret (tri_then_ret ?_)))))
   refine tri_inBlock_ret ?_
   refine tri_then_ret (tri_then_ret ?_)
   refine tri_inBlock_ret ?_
   refine tri_then_ret ?_
   refine tri_end A Suf.h rfl (.cons (rv_cellA rfl rfl rfl) (.cons (rv_tmp rfl) (.cons (rv_tmp rfl) .nil))) ?_
   rw [he]
   exact ⟨a1, cap1, rfl, hs1.mono hI2, rfl, fun _ h => hI2 (hI1 h)⟩
  ·rw [if_neg h2] at he
   refine tri_skip (tT (tS (tR ?_)))
   refine tri_v (opv_loadA rfl rfl rfl) rfl ?_
   refine tri_g (opg_store rfl rfl rfl rfl rfl rfl) rfl ?_
   rintro _ _ _ ⟨rfl, rfl⟩
   refine tN (tT (tR (tM rfl rfl (tA rfl rfl (tN ?_)))))
   refine tri_inBlock ?_
   refine tT (tR (tM rfl rfl ?_))
   refine tU rfl rfl (by omega) (by omega) rfl ?_
   refine tA rfl rfl (tN (tT ?_))
   refine tri_drop ?_
   refine tri_sub ?_ (hK (i + 1, (R6.put ms room n n n n).1, (R6.put ms room n n n n).2.1, a2, cap2, I2) ⟨by simp only; omega, hs2, fun _ h => hI2 (hI1 h), hg2, he⟩ (by simp only; omega))
   exact ⟨rfl, rfl, rfl, rfl, rfl, trivial⟩
 ·have hk : lv - i = 0 := by omega
  rw [hk] at he
  unfold R7.emptyF at he
  refine tri_exit ?_
  refine tri_then_exit ?_
  refine tri_then_exit ?_
  refine tri_inBlock_hit rfl ?_
  refine tT (tS (tR ?_))
  refine tri_v (opv_loadA rfl rfl rfl) rfl ?_
  refine tM rfl rfl ?_
  refine tri_g (opg_store rfl rfl rfl rfl rfl rfl) rfl ?_
  rintro _ _ _ ⟨rfl, rfl⟩
  refine tA rfl rfl (tA rfl rfl (tN (tT (tri_ret ?_))))
  refine tri_end A Suf.h rfl (.cons (rv_cellA rfl rfl rfl) (.cons (rv_tmp rfl) (.cons (rv_tmp rfl) .nil))) ?_
  rw [he]
  exact ⟨a1, cap1, rfl, hs1, rfl, hI1⟩
end Go.GL


set_option linter.unusedVariables false
namespace Go.GL
open Go.Proofs
attribute [local irreducible] wpList Code.wp Exit.then Exit.inBlock Ends Tri TriH OpV OpG FnC epf wpAnyH
theorem R7.side_nat {z : Int} {m : Nat} (h : z = ((m + 1 : Nat) : Int)) : R7.side z = 2 ^ m := by
 unfold R7.side
 congr 1
 omega
theorem R7.build_nil (room : Int) (lv : Nat) (ns : List Node) : R7.build room lv ns [] = R7.empty ns room lv := by cases lv <;> rfl
theorem R7.build_zero (room : Int) (ns : List Node) {l : List Cell} (h : l ≠ []) : R7.build room 0 ns l = (ns, 1, 0) := by
 cases l with
 | nil => exact absurd rfl h
 | cons c l => rfl
theorem R7.build_succ (room : Int) (lv : Nat) (ns : List Node) {l : List Cell} (h : l ≠ []) {r0 r1 r2 r3 : List Node × Int × Int} (h0 : R7.build room lv ns (R7.part (2 ^ lv) 0 l) = r0) (h1 : R7.build room lv r0.1 (R7.part (2 ^ lv) 1 l) = r1) (h2 : R7.build room lv r1.1 (R7.part (2 ^ lv) 2 l) = r2) (h3 : R7.build room lv r2.1 (R7.part (2 ^ lv) 3 l) = r3) :
  R7.build room (lv + 1) ns l = if r0.2.2 ≠ 0 then (ns, 0, r0.2.2) else if r1.2.2 ≠ 0 then (r0.1, 0, r1.2.2) else if r2.2.2 ≠ 0 then (r1.1, 0, r2.2.2) else if r3.2.2 ≠ 0 then (r2.1, 0, r3.2.2) else R6.put r3.1 room r0.2.1 r1.2.1 r2.2.1 r3.2.1 := by
 subst h3; subst h2; subst h1; subst h0
 cases l with
 | nil => exact absurd rfl h
 | cons c l => rfl
theorem R7.emptyF_good (room : Int) : ∀ (k : Nat) (ns : List Node) (n : Int), R6.Good ns room → R6.Good (R7.emptyF room k ns n).1 room
 | 0, ns, n, h => h
 | k + 1, ns, n, h => by
  unfold R7.emptyF
  split
  ·exact h
  ·exact R7.emptyF_good room k _ _ (h.put n n n n)
theorem R7.build_good (room : Int) : ∀ (lv : Nat) (ns : List Node) (l : List Cell), R6.Good ns room → R6.Good (R7.build room lv ns l).1 room
 | lv, ns, [], h => by rw [R7.build_nil]; exact R7.emptyF_good room lv ns 0 h
 | 0, ns, c :: l, h => by rw [R7.build_zero _ _ (by simp)]; exact h
 | lv + 1, ns, c :: l, h => by
  have g0 := R7.build_good room lv ns (R7.part (2 ^ lv) 0 (c :: l)) h
  generalize h0 : R7.build room lv ns (R7.part (2 ^ lv) 0 (c :: l)) = r0 at g0
  have g1 := R7.build_good room lv r0.1 (R7.part (2 ^ lv) 1 (c :: l)) g0
  generalize h1 : R7.build room lv r0.1 (R7.part (2 ^ lv) 1 (c :: l)) = r1 at g1
  have g2 := R7.build_good room lv r1.1 (R7.part (2 ^ lv) 2 (c :: l)) g1
  generalize h2 : R7.build room lv r1.1 (R7.part (2 ^ lv) 2 (c :: l)) = r2 at g2
  have g3 := R7.build_good room lv r2.1 (R7.part (2 ^ lv) 3 (c :: l)) g2
  generalize h3 : R7.build room lv r2.1 (R7.part (2 ^ lv) 3 (c :: l)) = r3 at g3
  rw [R7.build_succ room lv ns (by simp) h0 h1 h2 h3]
  split
  ·exact h
  ·split
   ·exact g0
   ·split
    ·exact g1
    ·split
     ·exact g2
     ·exact g3.put ..
theorem R7.part_bd {hf : Int} (h0 : 0 ≤ hf) {k : Nat} {l : List Cell} {B : Int} (hb : ∀ c ∈ l, c.x ≤ B ∧ c.y ≤ B) : ∀ c ∈ R7.part hf k l, c.x ≤ B ∧ c.y ≤ B := by
 intro c hc
 unfold R7.part at hc
 obtain ⟨d, hd, rfl⟩ := List.mem_map.1 hc
 have := hb d (List.mem_filter.1 hd).1
 unfold R7.qc
 simp only
 constructor <;> split <;> omega
def BuildSpec (lv : Nat) : Prop := ∀ (z : Int) (A : List Asrt) (I : List Chunk) (ns : List Node) (a b : Option Addr) (cap cap2 : Nat) (room : Int) (l : List Cell) (r : List Node × Int × Int), z = lv → lv ≤ 42 → StA I a cap ns → R6.Good ns room → SlAt I b l → l.length ≤ 1000000000 → (∀ c ∈ l, c.x ≤ 4398046511104 ∧ c.y ≤ 4398046511104) → R7.build room lv ns l = r →
 FnC Try.prog 44 [storeV a ns.length cap room, .slice b l.length cap2, .int .i64 z].toArray A I (StoreR r room A I)
set_option maxHeartbeats 1000000 in
set_option maxRecDepth 100000 in
theorem ref07_build_step (lv : Nat) (ih : ∀ m, m < lv → BuildSpec m) : BuildSpec lv := by
 intro z A I ns a bb cap cap2 room l r hz hlv hs hg hsl hn hb hr
 skip
 refine fn_enter3 Try.func44 rfl Try.ntmps44 rfl fun w0 => ?_
 refine tS (tR ?_)
 refine tri_g (opg_box_agg rfl) rfl ?_
 rintro _ _ _ ⟨b3, rfl, rfl, rfl⟩
 refine tri_g opg_alloc rfl ?_
 rintro _ _ _ ⟨b6, rfl, rfl, rfl⟩
 refine tA rfl rfl (tA rfl rfl (tN (tT (tS (tS (tR (tM rfl rfl ?_)))))))
 refine tri_v (opv_len rfl) rfl ?_
 refine tri_v (opv_eql rfl rfl) rfl ?_
 refine tN (tT ?_)
 refine tri_cond_dec rfl (fun h0 => ?_) (fun h0 => ?_)
 ·have hl : l = [] := List.length_eq_zero_iff.1 (by omega)
  subst hl
  rw [R7.build_nil] at hr
  subst hr
  subst hz
  refine tS (tR ?_)
  refine tri_v (opv_loadA rfl rfl rfl) rfl ?_
  refine tM rfl rfl ?_
  refine tri_g (opg_call (xs := [_, _]) rfl (ref07_empty (lv := lv) hs hg (by omega))) rfl ?_
  rintro _ _ I2 ⟨a2, cap3, rfl, hs2, rfl, hI2⟩
  refine tri_v (opv_extract rfl rfl) rfl ?_
  refine tri_v (opv_extract rfl rfl) rfl ?_
  refine tri_v (opv_extract rfl rfl) rfl ?_
  refine tri_g (opg_store rfl rfl rfl rfl rfl rfl) rfl ?_
  rintro _ _ _ ⟨rfl, rfl⟩
  refine tA rfl rfl (tA rfl rfl (tN (tT (tri_ret (tri_then_ret ?_)))))
  refine tri_end A Suf.h rfl (.cons (rv_cellA rfl rfl rfl) (.cons (rv_tmp rfl) (.cons (rv_tmp rfl) .nil))) ?_
  exact ⟨a2, cap3, rfl, hs2, rfl, hI2⟩
 have hne : l ≠ [] := fun h => h0 (by rw [h]; rfl)
 refine tri_skip (tT (tS (tS (tR (tM rfl rfl ?_)))))
 refine tri_v (opv_eql rfl rfl) rfl ?_
 refine tN (tT ?_)
 refine tri_cond_dec rfl (fun hz0 => ?_) (fun hz0 => ?_)
 ·have hl : lv = 0 := by omega
  subst hl
  rw [R7.build_zero _ _ hne] at hr
  subst hr
  refine tS (tR ?_)
  refine tri_v (opv_loadA rfl rfl rfl) rfl ?_
  refine tri_g (opg_store rfl rfl rfl rfl rfl rfl) rfl ?_
  rintro _ _ _ ⟨rfl, rfl⟩
  refine tA rfl rfl (tA rfl rfl (tN (tT (tri_ret (tri_then_ret ?_)))))
  refine tri_end A Suf.h rfl (.cons (rv_cellA rfl rfl rfl) (.cons (rv_tmp rfl) (.cons (rv_tmp rfl) .nil))) ?_
  exact ⟨a, cap, rfl, hs, rfl, fun _ h => h⟩
 obtain ⟨m, rfl⟩ : ∃ m, lv = m + 1 := ⟨lv - 1, by omega⟩
 have hsd : R7.side z = 2 ^ m := R7.side_nat hz
 have hnn : 0 ≤ R7.side z := by have := (R7.side_bd (lv := z) (by omega)).1; omega
 obtain ⟨r0, hr0⟩ : ∃ r, R7.build room m ns (R7.part (R7.side z) 0 l) = r := ⟨_, rfl⟩
 obtain ⟨r1, hr1⟩ : ∃ r, R7.build room m r0.1 (R7.part (R7.side z) 1 l) = r := ⟨_, rfl⟩
 obtain ⟨r2, hr2⟩ : ∃ r, R7.build room m r1.1 (R7.part (R7.side z) 2 l) = r := ⟨_, rfl⟩
 obtain ⟨r3, hr3⟩ : ∃ r, R7.build room m r2.1 (R7.part (R7.side z) 3 l) = r := ⟨_, rfl⟩
 have hb' := R7.build_succ room m ns hne (hsd ▸ hr0) (hsd ▸ hr1) (hsd ▸ hr2) (hsd ▸ hr3)
 rw [hr] at hb'
 have g0 : R6.Good r0.1 room := hr0 ▸ R7.build_good room m ns _ hg
 have g1 : R6.Good r1.1 room := hr1 ▸ R7.build_good room m _ _ g0
 have g2 : R6.Good r2.1 room := hr2 ▸ R7.build_good room m _ _ g1
 have g3 : R6.Good r3.1 room := hr3 ▸ R7.build_good room m _ _ g2
 have pl := fun k => R7.part_len (R7.side z) k l
 refine tri_skip (tT (tS (tR (tM rfl rfl (tM rfl rfl ?_)))))
 refine tri_g (opg_call (xs := [_, _]) rfl (ref07_parts (lv := z) hsl hn (by omega) (by omega) hb)) rfl ?_
 rintro _ _ J0 ⟨a0, c0, a1, c1, a2, c2, a3, c3, rfl, hp0, hp1, hp2, hp3, rfl, hJ0⟩
 refine tri_g opg_alloc rfl ?_
 rintro _ _ _ ⟨b9, rfl, rfl, rfl⟩
 refine tri_g (opg_store rfl rfl rfl rfl rfl rfl) rfl ?_
 rintro _ _ _ ⟨rfl, rfl⟩
 refine tN (tT (tS (tR ?_)))
 refine tri_g opg_alloc rfl ?_
 rintro _ _ _ ⟨b10, rfl, rfl, rfl⟩
 refine tN (tT (tS (tS (tR (tA rfl rfl (tN (tT ?_)))))))
 refine tri_block ?_
 refine tri_rounds 5 ?_
 refine tri_round ?_
 refine tS (tS (tR (tM rfl rfl ?_)))
 refine tri_v (opv_lss rfl rfl) rfl ?_
 refine tN (tT ?_)
 refine tri_cond_is rfl (by decide) ?_
 refine tri_skip (tT (tS (tri_block (tS ?_))))
 refine tri_cut (fun F' A' J1 => ∃ b12 d0 e0, F' = [(1, .slice bb l.length cap2), (2, .int .i64 z), (3, pt b3 0), (6, pt b6 0), (9, pt b9 0), (10, pt b10 0), (11, .int .i64 0), (12, pt b12 0), (13, .int .i64 r0.2.1), (14, .int .i64 r0.2.2)] ∧ A' = Box b12 [.slice d0 r0.1.length e0, .int .i64 room] 26 :: Box b10 [.int .i64 0, .int .i64 0, .int .i64 0, .int .i64 0] 61 :: Box b9 [.slice a0 (R7.part (R7.side z) 0 l).length c0, .slice a1 (R7.part (R7.side z) 1 l).length c1, .slice a2 (R7.part (R7.side z) 2 l).length c2, .slice a3 (R7.part (R7.side z) 3 l).length c3] 111 :: Box b6 [.slice none 0 0, .int .i64 0] 26 :: Box b3 [.slice a ns.length cap, .int .i64 room] 26 :: A ∧ StA J1 d0 e0 r0.1 ∧ J0 ⊆ J1) ?_ ?_
 ·refine tri_draw [0, 1, 2, 3, 4, 5, 6, 7, 8, 9, 10, 11, 12, 13, 14] rfl [] rfl mixed ?_
  refine th_take rfl rfl (by kernel_rfl)  (opv_loadA rfl rfl rfl) ?_
  refine th_take rfl rfl (by kernel_rfl)  (opv_move rfl) ?_
  refine th_take rfl rfl (by kernel_rfl)  (opv_indexAddrA rfl rfl (by decide) (by decide)) ?_
  refine th_take rfl rfl (by kernel_rfl)  (opv_load1 rfl rfl rfl) ?_
  refine th_take rfl rfl (by kernel_rfl)  (opv_move rfl) ?_
  refine th_take rfl rfl (by kernel_rfl)  (opv_sub rfl rfl (w64 (by omega) (by omega))) ?_
  refine th_two (j := 11) [6, 7, 8, 9, 10, 12, 13, 14] (by kernel_rfl) rfl ?_ ?_
  ·refine (step_m rfl rfl (opg_call (xs := [_, _, _]) rfl (ih m (by omega) _ _ _ _ _ _ _ _ room _ r0 (by omega) (by omega) (hs.mono hJ0) hg hp0 (by have := pl 0; omega) (R7.part_bd hnn hb) hr0)) ?_)
   rintro _ _ J1 ⟨d0, e0, rfl, hq0, rfl, hJ1⟩
   refine ⟨Suf.h, hJ1, ?_⟩
   refine th_take rfl rfl (by kernel_rfl)  (opv_move rfl) ?_
   refine th_take rfl rfl (by kernel_rfl)  (opv_extract rfl rfl) ?_
   refine th_take rfl rfl (by kernel_rfl)  (opv_extract rfl rfl) ?_
   refine th_take rfl rfl (by kernel_rfl)  (opv_extract rfl rfl) ?_
   refine th_one (by kernel_rfl) (step_m rfl rfl opg_alloc ?_)
   rintro _ _ _ ⟨b12, rfl, rfl, rfl⟩
   refine ⟨Suf.h, (by assumption), ?_⟩
   refine th_one (by kernel_rfl) (step_m rfl rfl (opg_store rfl rfl rfl rfl rfl rfl) ?_)
   rintro _ _ _ ⟨rfl, rfl⟩
   refine ⟨Suf.h, (by assumption), ?_⟩
   refine th_take rfl rfl (by kernel_rfl)  (opv_assign rfl) ?_
   refine th_take rfl rfl (by kernel_rfl)  (opv_assign rfl) ?_
   refine th_done (by kernel_rfl) ?_
   refine tri_cutEnd _ ⟨b12, d0, e0, rfl, rfl, hq0, hJ1⟩ ⟨rfl, rfl, rfl, rfl, rfl, rfl, rfl, rfl, rfl, rfl, trivial⟩
  ·refine (step_m rfl rfl opg_alloc ?_)
   rintro _ _ _ ⟨b12, rfl, rfl, rfl⟩
   refine ⟨Suf.h, (fun _ h => h), ?_⟩
   refine th_one (by kernel_rfl) (step_m rfl rfl (opg_call (xs := [_, _, _]) rfl (ih m (by omega) _ _ _ _ _ _ _ _ room _ r0 (by omega) (by omega) (hs.mono hJ0) hg hp0 (by have := pl 0; omega) (R7.part_bd hnn hb) hr0)) ?_)
   rintro _ _ J1 ⟨d0, e0, rfl, hq0, rfl, hJ1⟩
   refine ⟨Suf.h, hJ1, ?_⟩
   refine th_take rfl rfl (by kernel_rfl)  (opv_move rfl) ?_
   refine th_take rfl rfl (by kernel_rfl)  (opv_extract rfl rfl) ?_
   refine th_take rfl rfl (by kernel_rfl)  (opv_extract rfl rfl) ?_
   refine th_take rfl rfl (by kernel_rfl)  (opv_extract rfl rfl) ?_
   refine th_one (by kernel_rfl) (step_m rfl rfl (opg_store rfl rfl rfl rfl rfl rfl) ?_)
   rintro _ _ _ ⟨rfl, rfl⟩
   refine ⟨Suf.h, (by assumption), ?_⟩
   refine th_take rfl rfl (by kernel_rfl)  (opv_assign rfl) ?_
   refine th_take rfl rfl (by kernel_rfl)  (opv_assign rfl) ?_
   refine th_done (by kernel_rfl) ?_
   refine tri_cutEnd _ ⟨b12, d0, e0, rfl, rfl, hq0, hJ1⟩ ⟨rfl, rfl, rfl, rfl, rfl, rfl, rfl, rfl, rfl, rfl, trivial⟩
 rintro _ _ J1 ⟨b12, d0, e0, rfl, rfl, hq0, hJ1⟩
 skip
 refine tT (tS (tS (tR (tM rfl rfl ?_))))
 refine tri_v (opv_neq rfl rfl) rfl ?_
 refine tN (tT ?_)
 refine tri_cond_dec rfl (fun x0 => ?_) (fun x0 => ?_)
 ·rw [if_pos x0] at hb'
  refine tS (tR ?_)
  refine tri_v (opv_loadA rfl rfl rfl) rfl ?_
  refine tM rfl rfl ?_
  refine tri_g (opg_store rfl rfl rfl rfl rfl rfl) rfl ?_
  rintro _ _ _ ⟨rfl, rfl⟩
  refine tA rfl rfl (tA rfl rfl (tN (tT (tri_ret (tri_then_ret ?_)))))
  refine tri_inBlock_ret ?_
  refine tri_then_ret (tri_then_ret ?_)
  refine tri_inBlock_ret ?_
  refine tri_then_ret ?_
  refine tri_end A Suf.h rfl (.cons (rv_cellA rfl rfl rfl) (.cons (rv_tmp rfl) (.cons (rv_tmp rfl) .nil))) ?_
  rw [hb']
  exact ⟨a, cap, rfl, hs.mono (fun _ h => hJ1 (hJ0 (h))), rfl, fun _ h => hJ1 (hJ0 (h))⟩
 skip
 refine tri_skip (tT (tS (tR ?_)))
 refine tri_v (opv_loadA rfl rfl rfl) rfl ?_
 refine tri_g (opg_store rfl rfl rfl rfl rfl rfl) rfl ?_
 rintro _ _ _ ⟨rfl, rfl⟩
 refine tN (tT (tR (tM rfl rfl (tM rfl rfl ?_))))
 refine tri_v (opv_indexAddrA rfl rfl (by decide) (by decide)) rfl ?_
 refine tri_g (opg_store rfl rfl rfl rfl rfl rfl) rfl ?_
 rintro _ _ _ ⟨rfl, rfl⟩
 refine tN ?_
 refine tri_inBlock ?_
 refine tT ?_
 refine tri_drop ?_
 refine tR (tM rfl rfl ?_)
 refine tU rfl rfl (by omega) (by omega) rfl ?_
 refine tA rfl rfl (tN (tT ?_))
 refine tri_round ?_
 refine tS (tS (tR (tM rfl rfl ?_)))
 refine tri_v (opv_lss rfl rfl) rfl ?_
 refine tN (tT ?_)
 refine tri_cond_is rfl (by decide) ?_
 refine tri_skip (tT (tS (tri_block (tS ?_))))
 refine tri_cut (fun F' A' J2 => ∃ b12 d1 e1, F' = [(1, .slice bb l.length cap2), (2, .int .i64 z), (3, pt b3 0), (6, pt b6 0), (9, pt b9 0), (10, pt b10 0), (11, .int .i64 1), (12, pt b12 0), (13, .int .i64 r1.2.1), (14, .int .i64 r1.2.2)] ∧ A' = Box b12 [.slice d1 r1.1.length e1, .int .i64 room] 26 :: Box b10 [.int .i64 r0.2.1, .int .i64 0, .int .i64 0, .int .i64 0] 61 :: Box b9 [.slice a0 (R7.part (R7.side z) 0 l).length c0, .slice a1 (R7.part (R7.side z) 1 l).length c1, .slice a2 (R7.part (R7.side z) 2 l).length c2, .slice a3 (R7.part (R7.side z) 3 l).length c3] 111 :: Box b6 [.slice none 0 0, .int .i64 0] 26 :: Box b3 [.slice d0 r0.1.length e0, .int .i64 room] 26 :: A ∧ StA J2 d1 e1 r1.1 ∧ J1 ⊆ J2) ?_ ?_
 ·refine tri_draw [0, 1, 2, 3, 4, 5, 6, 7, 8, 9, 10, 11, 12, 13, 14] rfl [] rfl mixed ?_
  refine th_take rfl rfl (by kernel_rfl)  (opv_loadA rfl rfl rfl) ?_
  refine th_take rfl rfl (by kernel_rfl)  (opv_move rfl) ?_
  refine th_take rfl rfl (by kernel_rfl)  (opv_indexAddrA rfl rfl (by decide) (by decide)) ?_
  refine th_take rfl rfl (by kernel_rfl)  (opv_load1 rfl rfl rfl) ?_
  refine th_take rfl rfl (by kernel_rfl)  (opv_move rfl) ?_
  refine th_take rfl rfl (by kernel_rfl)  (opv_sub rfl rfl (w64 (by omega) (by omega))) ?_
  refine th_two (j := 11) [6, 7, 8, 9, 10, 12, 13, 14] (by kernel_rfl) rfl ?_ ?_
  ·refine (step_m rfl rfl (opg_call (xs := [_, _, _]) rfl (ih m (by omega) _ _ _ _ _ _ _ _ room _ r1 (by omega) (by omega) (hq0) g0 (hp1.mono (fun _ h => hJ1 (h))) (by have := pl 1; omega) (R7.part_bd hnn hb) hr1)) ?_)
   rintro _ _ J2 ⟨d1, e1, rfl, hq1, rfl, hJ2⟩
   refine ⟨Suf.h, hJ2, ?_⟩
   refine th_take rfl rfl (by kernel_rfl)  (opv_move rfl) ?_
   refine th_take rfl rfl (by kernel_rfl)  (opv_extract rfl rfl) ?_
   refine th_take rfl rfl (by kernel_rfl)  (opv_extract rfl rfl) ?_
   refine th_take rfl rfl (by kernel_rfl)  (opv_extract rfl rfl) ?_
   refine th_one (by kernel_rfl) (step_m rfl rfl opg_alloc ?_)
   rintro _ _ _ ⟨b12, rfl, rfl, rfl⟩
   refine ⟨Suf.h, (by assumption), ?_⟩
   refine th_one (by kernel_rfl) (step_m rfl rfl (opg_store rfl rfl rfl rfl rfl rfl) ?_)
   rintro _ _ _ ⟨rfl, rfl⟩
   refine ⟨Suf.h, (by assumption), ?_⟩
   refine th_take rfl rfl (by kernel_rfl)  (opv_assign rfl) ?_
   refine th_take rfl rfl (by kernel_rfl)  (opv_assign rfl) ?_
   refine th_done (by kernel_rfl) ?_
   refine tri_cutEnd _ ⟨b12, d1, e1, rfl, rfl, hq1, hJ2⟩ ⟨rfl, rfl, rfl, rfl, rfl, rfl, rfl, rfl, rfl, rfl, trivial⟩
  ·refine (step_m rfl rfl opg_alloc ?_)
   rintro _ _ _ ⟨b12, rfl, rfl, rfl⟩
   refine ⟨Suf.h, (fun _ h => h), ?_⟩
   refine th_one (by kernel_rfl) (step_m rfl rfl (opg_call (xs := [_, _, _]) rfl (ih m (by omega) _ _ _ _ _ _ _ _ room _ r1 (by omega) (by omega) (hq0) g0 (hp1.mono (fun _ h => hJ1 (h))) (by have := pl 1; omega) (R7.part_bd hnn hb) hr1)) ?_)
   rintro _ _ J2 ⟨d1, e1, rfl, hq1, rfl, hJ2⟩
   refine ⟨Suf.h, hJ2, ?_⟩
   refine th_take rfl rfl (by kernel_rfl)  (opv_move rfl) ?_
   refine th_take rfl rfl (by kernel_rfl)  (opv_extract rfl rfl) ?_
   refine th_take rfl rfl (by kernel_rfl)  (opv_extract rfl rfl) ?_
   refine th_take rfl rfl (by kernel_rfl)  (opv_extract rfl rfl) ?_
   refine th_one (by kernel_rfl) (step_m rfl rfl (opg_store rfl rfl rfl rfl rfl rfl) ?_)
   rintro _ _ _ ⟨rfl, rfl⟩
   refine ⟨Suf.h, (by assumption), ?_⟩
   refine th_take rfl rfl (by kernel_rfl)  (opv_assign rfl) ?_
   refine th_take rfl rfl (by kernel_rfl)  (opv_assign rfl) ?_
   refine th_done (by kernel_rfl) ?_
   refine tri_cutEnd _ ⟨b12, d1, e1, rfl, rfl, hq1, hJ2⟩ ⟨rfl, rfl, rfl, rfl, rfl, rfl, rfl, rfl, rfl, rfl, trivial⟩
 rintro _ _ J2 ⟨b12, d1, e1, rfl, rfl, hq1, hJ2⟩
 skip
 refine tT (tS (tS (tR (tM rfl rfl ?_))))
 refine tri_v (opv_neq rfl rfl) rfl ?_
 refine tN (tT ?_)
 refine tri_cond_dec rfl (fun x1 => ?_) (fun x1 => ?_)
 ·rw [if_neg x0, if_pos x1] at hb'
  refine tS (tR ?_)
  refine tri_v (opv_loadA rfl rfl rfl) rfl ?_
  refine tM rfl rfl ?_
  refine tri_g (opg_store rfl rfl rfl rfl rfl rfl) rfl ?_
  rintro _ _ _ ⟨rfl, rfl⟩
  refine tA rfl rfl (tA rfl rfl (tN (tT (tri_ret (tri_then_ret ?_)))))
  refine tri_inBlock_ret ?_
  refine tri_then_ret (tri_then_ret ?_)
  refine tri_inBlock_ret ?_
  refine tri_then_ret ?_
  refine tri_end A Suf.h rfl (.cons (rv_cellA rfl rfl rfl) (.cons (rv_tmp rfl) (.cons (rv_tmp rfl) .nil))) ?_
  rw [hb']
  exact ⟨d0, e0, rfl, hq0.mono hJ2, rfl, fun _ h => hJ2 (hJ1 (hJ0 (h)))⟩
 skip
 refine tri_skip (tT (tS (tR ?_)))
 refine tri_v (opv_loadA rfl rfl rfl) rfl ?_
 refine tri_g (opg_store rfl rfl rfl rfl rfl rfl) rfl ?_
 rintro _ _ _ ⟨rfl, rfl⟩
 refine tN (tT (tR (tM rfl rfl (tM rfl rfl ?_))))
 refine tri_v (opv_indexAddrA rfl rfl (by decide) (by decide)) rfl ?_
 refine tri_g (opg_store rfl rfl rfl rfl rfl rfl) rfl ?_
 rintro _ _ _ ⟨rfl, rfl⟩
 refine tN ?_
 refine tri_inBlock ?_
 refine tT ?_
 refine tri_drop ?_
 refine tR (tM rfl rfl ?_)
 refine tU rfl rfl (by omega) (by omega) rfl ?_
 refine tA rfl rfl (tN (tT ?_))
 refine tri_round ?_
 refine tS (tS (tR (tM rfl rfl ?_)))
 refine tri_v (opv_lss rfl rfl) rfl ?_
 refine tN (tT ?_)
 refine tri_cond_is rfl (by decide) ?_
 refine tri_skip (tT (tS (tri_block (tS ?_))))
 refine tri_cut (fun F' A' J3 => ∃ b12 d2 e2, F' = [(1, .slice bb l.length cap2), (2, .int .i64 z), (3, pt b3 0), (6, pt b6 0), (9, pt b9 0), (10, pt b10 0), (11, .int .i64 2), (12, pt b12 0), (13, .int .i64 r2.2.1), (14, .int .i64 r2.2.2)] ∧ A' = Box b12 [.slice d2 r2.1.length e2, .int .i64 room] 26 :: Box b10 [.int .i64 r0.2.1, .int .i64 r1.2.1, .int .i64 0, .int .i64 0] 61 :: Box b9 [.slice a0 (R7.part (R7.side z) 0 l).length c0, .slice a1 (R7.part (R7.side z) 1 l).length c1, .slice a2 (R7.part (R7.side z) 2 l).length c2, .slice a3 (R7.part (R7.side z) 3 l).length c3] 111 :: Box b6 [.slice none 0 0, .int .i64 0] 26 :: Box b3 [.slice d1 r1.1.length e1, .int .i64 room] 26 :: A ∧ StA J3 d2 e2 r2.1 ∧ J2 ⊆ J3) ?_ ?_
 ·refine tri_draw [0, 1, 2, 3, 4, 5, 6, 7, 8, 9, 10, 11, 12, 13, 14] rfl [] rfl mixed ?_
  refine th_take rfl rfl (by kernel_rfl)  (opv_loadA rfl rfl rfl) ?_
  refine th_take rfl rfl (by kernel_rfl)  (opv_move rfl) ?_
  refine th_take rfl rfl (by kernel_rfl)  (opv_indexAddrA rfl rfl (by decide) (by decide)) ?_
  refine th_take rfl rfl (by kernel_rfl)  (opv_load1 rfl rfl rfl) ?_
  refine th_take rfl rfl (by kernel_rfl)  (opv_move rfl) ?_
  refine th_take rfl rfl (by kernel_rfl)  (opv_sub rfl rfl (w64 (by omega) (by omega))) ?_
  refine th_two (j := 11) [6, 7, 8, 9, 10, 12, 13, 14] (by kernel_rfl) rfl ?_ ?_
  ·refine (step_m rfl rfl (opg_call (xs := [_, _, _]) rfl (ih m (by omega) _ _ _ _ _ _ _ _ room _ r2 (by omega) (by omega) (hq1) g1 (hp2.mono (fun _ h => hJ2 (hJ1 (h)))) (by have := pl 2; omega) (R7.part_bd hnn hb) hr2)) ?_)
   rintro _ _ J3 ⟨d2, e2, rfl, hq2, rfl, hJ3⟩
   refine ⟨Suf.h, hJ3, ?_⟩
   refine th_take rfl rfl (by kernel_rfl)  (opv_move rfl) ?_
   refine th_take rfl rfl (by kernel_rfl)  (opv_extract rfl rfl) ?_
   refine th_take rfl rfl (by kernel_rfl)  (opv_extract rfl rfl) ?_
   refine th_take rfl rfl (by kernel_rfl)  (opv_extract rfl rfl) ?_
   refine th_one (by kernel_rfl) (step_m rfl rfl opg_alloc ?_)
   rintro _ _ _ ⟨b12, rfl, rfl, rfl⟩
   refine ⟨Suf.h, (by assumption), ?_⟩
   refine th_one (by kernel_rfl) (step_m rfl rfl (opg_store rfl rfl rfl rfl rfl rfl) ?_)
   rintro _ _ _ ⟨rfl, rfl⟩
   refine ⟨Suf.h, (by assumption), ?_⟩
   refine th_take rfl rfl (by kernel_rfl)  (opv_assign rfl) ?_
   refine th_take rfl rfl (by kernel_rfl)  (opv_assign rfl) ?_
   refine th_done (by kernel_rfl) ?_
   refine tri_cutEnd _ ⟨b12, d2, e2, rfl, rfl, hq2, hJ3⟩ ⟨rfl, rfl, rfl, rfl, rfl, rfl, rfl, rfl, rfl, rfl, trivial⟩
  ·refine (step_m rfl rfl opg_alloc ?_)
   rintro _ _ _ ⟨b12, rfl, rfl, rfl⟩
   refine ⟨Suf.h, (fun _ h => h), ?_⟩
   refine th_one (by kernel_rfl) (step_m rfl rfl (opg_call (xs := [_, _, _]) rfl (ih m (by omega) _ _ _ _ _ _ _ _ room _ r2 (by omega) (by omega) (hq1) g1 (hp2.mono (fun _ h => hJ2 (hJ1 (h)))) (by have := pl 2; omega) (R7.part_bd hnn hb) hr2)) ?_)
   rintro _ _ J3 ⟨d2, e2, rfl, hq2, rfl, hJ3⟩
   refine ⟨Suf.h, hJ3, ?_⟩
   refine th_take rfl rfl (by kernel_rfl)  (opv_move rfl) ?_
   refine th_take rfl rfl (by kernel_rfl)  (opv_extract rfl rfl) ?_
   refine th_take rfl rfl (by kernel_rfl)  (opv_extract rfl rfl) ?_
   refine th_take rfl rfl (by kernel_rfl)  (opv_extract rfl rfl) ?_
   refine th_one (by kernel_rfl) (step_m rfl rfl (opg_store rfl rfl rfl rfl rfl rfl) ?_)
   rintro _ _ _ ⟨rfl, rfl⟩
   refine ⟨Suf.h, (by assumption), ?_⟩
   refine th_take rfl rfl (by kernel_rfl)  (opv_assign rfl) ?_
   refine th_take rfl rfl (by kernel_rfl)  (opv_assign rfl) ?_
   refine th_done (by kernel_rfl) ?_
   refine tri_cutEnd _ ⟨b12, d2, e2, rfl, rfl, hq2, hJ3⟩ ⟨rfl, rfl, rfl, rfl, rfl, rfl, rfl, rfl, rfl, rfl, trivial⟩
 rintro _ _ J3 ⟨b12, d2, e2, rfl, rfl, hq2, hJ3⟩
 skip
 refine tT (tS (tS (tR (tM rfl rfl ?_))))
 refine tri_v (opv_neq rfl rfl) rfl ?_
 refine tN (tT ?_)
 refine tri_cond_dec rfl (fun x2 => ?_) (fun x2 => ?_)
 ·rw [if_neg x0, if_neg x1, if_pos x2] at hb'
  refine tS (tR ?_)
  refine tri_v (opv_loadA rfl rfl rfl) rfl ?_
  refine tM rfl rfl ?_
  refine tri_g (opg_store rfl rfl rfl rfl rfl rfl) rfl ?_
  rintro _ _ _ ⟨rfl, rfl⟩
  refine tA rfl rfl (tA rfl rfl (tN (tT (tri_ret (tri_then_ret ?_)))))
  refine tri_inBlock_ret ?_
  refine tri_then_ret (tri_then_ret ?_)
  refine tri_inBlock_ret ?_
  refine tri_then_ret ?_
  refine tri_end A Suf.h rfl (.cons (rv_cellA rfl rfl rfl) (.cons (rv_tmp rfl) (.cons (rv_tmp rfl) .nil))) ?_
  rw [hb']
  exact ⟨d1, e1, rfl, hq1.mono hJ3, rfl, fun _ h => hJ3 (hJ2 (hJ1 (hJ0 (h))))⟩
 skip
 refine tri_skip (tT (tS (tR ?_)))
 refine tri_v (opv_loadA rfl rfl rfl) rfl ?_
 refine tri_g (opg_store rfl rfl rfl rfl rfl rfl) rfl ?_
 rintro _ _ _ ⟨rfl, rfl⟩
 refine tN (tT (tR (tM rfl rfl (tM rfl rfl ?_))))
 refine tri_v (opv_indexAddrA rfl rfl (by decide) (by decide)) rfl ?_
 refine tri_g (opg_store rfl rfl rfl rfl rfl rfl) rfl ?_
 rintro _ _ _ ⟨rfl, rfl⟩
 refine tN ?_
 refine tri_inBlock ?_
 refine tT ?_
 refine tri_drop ?_
 refine tR (tM rfl rfl ?_)
 refine tU rfl rfl (by omega) (by omega) rfl ?_
 refine tA rfl rfl (tN (tT ?_))
 refine tri_round ?_
 refine tS (tS (tR (tM rfl rfl ?_)))
 refine tri_v (opv_lss rfl rfl) rfl ?_
 refine tN (tT ?_)
 refine tri_cond_is rfl (by decide) ?_
 refine tri_skip (tT (tS (tri_block (tS ?_))))
 refine tri_cut (fun F' A' J4 => ∃ b12 d3 e3, F' = [(1, .slice bb l.length cap2), (2, .int .i64 z), (3, pt b3 0), (6, pt b6 0), (9, pt b9 0), (10, pt b10 0), (11, .int .i64 3), (12, pt b12 0), (13, .int .i64 r3.2.1), (14, .int .i64 r3.2.2)] ∧ A' = Box b12 [.slice d3 r3.1.length e3, .int .i64 room] 26 :: Box b10 [.int .i64 r0.2.1, .int .i64 r1.2.1, .int .i64 r2.2.1, .int .i64 0] 61 :: Box b9 [.slice a0 (R7.part (R7.side z) 0 l).length c0, .slice a1 (R7.part (R7.side z) 1 l).length c1, .slice a2 (R7.part (R7.side z) 2 l).length c2, .slice a3 (R7.part (R7.side z) 3 l).length c3] 111 :: Box b6 [.slice none 0 0, .int .i64 0] 26 :: Box b3 [.slice d2 r2.1.length e2, .int .i64 room] 26 :: A ∧ StA J4 d3 e3 r3.1 ∧ J3 ⊆ J4) ?_ ?_
 ·refine tri_draw [0, 1, 2, 3, 4, 5, 6, 7, 8, 9, 10, 11, 12, 13, 14] rfl [] rfl mixed ?_
  refine th_take rfl rfl (by kernel_rfl)  (opv_loadA rfl rfl rfl) ?_
  refine th_take rfl rfl (by kernel_rfl)  (opv_move rfl) ?_
  refine th_take rfl rfl (by kernel_rfl)  (opv_indexAddrA rfl rfl (by decide) (by decide)) ?_
  refine th_take rfl rfl (by kernel_rfl)  (opv_load1 rfl rfl rfl) ?_
  refine th_take rfl rfl (by kernel_rfl)  (opv_move rfl) ?_
  refine th_take rfl rfl (by kernel_rfl)  (opv_sub rfl rfl (w64 (by omega) (by omega))) ?_
  refine th_two (j := 11) [6, 7, 8, 9, 10, 12, 13, 14] (by kernel_rfl) rfl ?_ ?_
  ·refine (step_m rfl rfl (opg_call (xs := [_, _, _]) rfl (ih m (by omega) _ _ _ _ _ _ _ _ room _ r3 (by omega) (by omega) (hq2) g2 (hp3.mono (fun _ h => hJ3 (hJ2 (hJ1 (h))))) (by have := pl 3; omega) (R7.part_bd hnn hb) hr3)) ?_)
   rintro _ _ J4 ⟨d3, e3, rfl, hq3, rfl, hJ4⟩
   refine ⟨Suf.h, hJ4, ?_⟩
   refine th_take rfl rfl (by kernel_rfl)  (opv_move rfl) ?_
   refine th_take rfl rfl (by kernel_rfl)  (opv_extract rfl rfl) ?_
   refine th_take rfl rfl (by kernel_rfl)  (opv_extract rfl rfl) ?_
   refine th_take rfl rfl (by kernel_rfl)  (opv_extract rfl rfl) ?_
   refine th_one (by kernel_rfl) (step_m rfl rfl opg_alloc ?_)
   rintro _ _ _ ⟨b12, rfl, rfl, rfl⟩
   refine ⟨Suf.h, (by assumption), ?_⟩
   refine th_one (by kernel_rfl) (step_m rfl rfl (opg_store rfl rfl rfl rfl rfl rfl) ?_)
   rintro _ _ _ ⟨rfl, rfl⟩
   refine ⟨Suf.h, (by assumption), ?_⟩
   refine th_take rfl rfl (by kernel_rfl)  (opv_assign rfl) ?_
   refine th_take rfl rfl (by kernel_rfl)  (opv_assign rfl) ?_
   refine th_done (by kernel_rfl) ?_
   refine tri_cutEnd _ ⟨b12, d3, e3, rfl, rfl, hq3, hJ4⟩ ⟨rfl, rfl, rfl, rfl, rfl, rfl, rfl, rfl, rfl, rfl, trivial⟩
  ·refine (step_m rfl rfl opg_alloc ?_)
   rintro _ _ _ ⟨b12, rfl, rfl, rfl⟩
   refine ⟨Suf.h, (fun _ h => h), ?_⟩
   refine th_one (by kernel_rfl) (step_m rfl rfl (opg_call (xs := [_, _, _]) rfl (ih m (by omega) _ _ _ _ _ _ _ _ room _ r3 (by omega) (by omega) (hq2) g2 (hp3.mono (fun _ h => hJ3 (hJ2 (hJ1 (h))))) (by have := pl 3; omega) (R7.part_bd hnn hb) hr3)) ?_)
   rintro _ _ J4 ⟨d3, e3, rfl, hq3, rfl, hJ4⟩
   refine ⟨Suf.h, hJ4, ?_⟩
   refine th_take rfl rfl (by kernel_rfl)  (opv_move rfl) ?_
   refine th_take rfl rfl (by kernel_rfl)  (opv_extract rfl rfl) ?_
   refine th_take rfl rfl (by kernel_rfl)  (opv_extract rfl rfl) ?_
   refine th_take rfl rfl (by kernel_rfl)  (opv_extract rfl rfl) ?_
   refine th_one (by kernel_rfl) (step_m rfl rfl (opg_store rfl rfl rfl rfl rfl rfl) ?_)
   rintro _ _ _ ⟨rfl, rfl⟩
   refine ⟨Suf.h, (by assumption), ?_⟩
   refine th_take rfl rfl (by kernel_rfl)  (opv_assign rfl) ?_
   refine th_take rfl rfl (by kernel_rfl)  (opv_assign rfl) ?_
   refine th_done (by kernel_rfl) ?_
   refine tri_cutEnd _ ⟨b12, d3, e3, rfl, rfl, hq3, hJ4⟩ ⟨rfl, rfl, rfl, rfl, rfl, rfl, rfl, rfl, rfl, rfl, trivial⟩
 rintro _ _ J4 ⟨b12, d3, e3, rfl, rfl, hq3, hJ4⟩
 skip
 refine tT (tS (tS (tR (tM rfl rfl ?_))))
 refine tri_v (opv_neq rfl rfl) rfl ?_
 refine tN (tT ?_)
 refine tri_cond_dec rfl (fun x3 => ?_) (fun x3 => ?_)
 ·rw [if_neg x0, if_neg x1, if_neg x2, if_pos x3] at hb'
  refine tS (tR ?_)
  refine tri_v (opv_loadA rfl rfl rfl) rfl ?_
  refine tM rfl rfl ?_
  refine tri_g (opg_store rfl rfl rfl rfl rfl rfl) rfl ?_
  rintro _ _ _ ⟨rfl, rfl⟩
  refine tA rfl rfl (tA rfl rfl (tN (tT (tri_ret (tri_then_ret ?_)))))
  refine tri_inBlock_ret ?_
  refine tri_then_ret (tri_then_ret ?_)
  refine tri_inBlock_ret ?_
  refine tri_then_ret ?_
  refine tri_end A Suf.h rfl (.cons (rv_cellA rfl rfl rfl) (.cons (rv_tmp rfl) (.cons (rv_tmp rfl) .nil))) ?_
  rw [hb']
  exact ⟨d2, e2, rfl, hq2.mono hJ4, rfl, fun _ h => hJ4 (hJ3 (hJ2 (hJ1 (hJ0 (h)))))⟩
 skip
 refine tri_skip (tT (tS (tR ?_)))
 refine tri_v (opv_loadA rfl rfl rfl) rfl ?_
 refine tri_g (opg_store rfl rfl rfl rfl rfl rfl) rfl ?_
 rintro _ _ _ ⟨rfl, rfl⟩
 refine tN (tT (tR (tM rfl rfl (tM rfl rfl ?_))))
 refine tri_v (opv_indexAddrA rfl rfl (by decide) (by decide)) rfl ?_
 refine tri_g (opg_store rfl rfl rfl rfl rfl rfl) rfl ?_
 rintro _ _ _ ⟨rfl, rfl⟩
 refine tN ?_
 refine tri_inBlock ?_
 refine tT ?_
 refine tri_drop ?_
 rw [if_neg x0, if_neg x1, if_neg x2, if_neg x3] at hb'
 refine tR (tM rfl rfl ?_)
 refine tU rfl rfl (by omega) (by omega) rfl ?_
 refine tA rfl rfl (tN (tT ?_))
 refine tri_round ?_
 refine tS (tS (tR (tM rfl rfl ?_)))
 refine tri_v (opv_lss rfl rfl) rfl ?_
 refine tN (tT ?_)
 refine tri_cond_not rfl (by decide) ?_
 refine tri_exit ?_
 refine tri_then_exit ?_
 refine tri_then_exit ?_
 refine tri_inBlock_hit rfl ?_
 refine tT (tS (tR ?_))
 refine tri_v (opv_loadA rfl rfl rfl) rfl ?_
 refine tri_v (opv_loadA rfl rfl rfl) rfl ?_
 refine tri_g (opg_call (xs := [_, _]) rfl (ref06_put hq3 g3.len g3.mod)) rfl ?_
 rintro _ _ J5 ⟨d4, e4, rfl, hq4, rfl, hJ5⟩
 refine tri_v (opv_extract rfl rfl) rfl ?_
 refine tri_v (opv_extract rfl rfl) rfl ?_
 refine tri_v (opv_extract rfl rfl) rfl ?_
 refine tri_g (opg_store rfl rfl rfl rfl rfl rfl) rfl ?_
 rintro _ _ _ ⟨rfl, rfl⟩
 refine tA rfl rfl (tA rfl rfl (tN (tT (tri_ret ?_))))
 refine tri_end A Suf.h rfl (.cons (rv_cellA rfl rfl rfl) (.cons (rv_tmp rfl) (.cons (rv_tmp rfl) .nil))) ?_
 rw [hb']
 exact ⟨d4, e4, rfl, hq4, rfl, fun _ h => hJ5 (hJ4 (hJ3 (hJ2 (hJ1 (hJ0 h)))))⟩
theorem ref07_build (lv : Nat) : BuildSpec lv := by
 induction lv using Nat.strongRecOn with
 | ind lv ih => exact ref07_build_step lv ih
end Go.GL


set_option linter.unusedVariables false
namespace Go.GL
open Go.Proofs
attribute [local irreducible] wpList Code.wp Exit.then Exit.inBlock Ends Tri TriH OpV OpG FnC epf wpAnyH
abbrev mkV (bx : Nat) : Value := .agg [pt bx 0].toArray
/-- As IxR; where it fails, the nodes that have been put so far stay. -/
def IxQ (bx mb : Nat) (r : List Node × Int × Int) (room : Int) (A : List Asrt) (I : List Chunk) : Value → List Asrt → List Chunk → Prop :=
 fun v A' I' => ∃ a' cap' es' ms, v = .tuple [.int .i64 r.2.1, .int .i64 r.2.2].toArray ∧ A' = IxA bx mb a' cap' ms room es' A ∧ Idx ms es' ∧ R6.Good ms room ∧ 2 ≤ ms.length ∧ (r.2.2 = 0 → ms = r.1) ∧ I = I'
def BuildQ (lv : Nat) : Prop := ∀ (z : Int) (A : List Asrt) (I : List Chunk) (ns : List Node) (a b : Option Addr) (cap cap2 bx mb : Nat) (es : KVs) (room : Int) (l : List Cell) (r : List Node × Int × Int), z = lv → lv ≤ 42 → R6.Good ns room → 2 ≤ ns.length → Idx ns es → SlAt I b l → l.length ≤ 1000000 → (∀ c ∈ l, R2.bd c) → R7.build room lv ns (R7.cor lv l) = r →
 FnC Try.prog 41 [mkV bx, .slice b l.length cap2, .int .i64 z].toArray (IxA bx mb a cap ns room es A) I (fun v A' I' => ∃ J, IxQ bx mb r room A J v A' I' ∧ I ⊆ J)

set_option maxHeartbeats 8000000 in
set_option maxRecDepth 100000 in
theorem square_build_step (lv : Nat) (ih : ∀ m, m < lv → BuildQ m) : BuildQ lv := by
 intro z A I ns a bb cap cap2 bx mb es room l r hz hlv hg h2n hix hsl hn hb hr
 subst hz
 skip
 skip
 refine fn_enter3 Try.func41 rfl Try.ntmps41 rfl fun w0 => ?_
 refine tS (tR ?_)
 refine tri_g (opg_box_agg rfl) rfl ?_
 rintro _ _ _ ⟨b3, rfl, rfl, rfl⟩
 refine tA rfl rfl (tA rfl rfl (tN (tT (tS (tri_block (tS (tR ?_)))))))
 refine tM rfl rfl ?_
 refine tri_v (opv_len rfl) rfl ?_
 refine tri_v (opv_eql rfl rfl) rfl ?_
 refine tA rfl rfl (tN (tT ?_))
 refine tri_cond_dec rfl (fun h0 => ?_) (fun h0 => ?_)
 ·have hl : l = [] := List.length_eq_zero_iff.1 (by omega)
  subst hl
  rw [R7.cor_nil, R7.build_nil] at hr
  subst hr
  refine tS (tR ?_)
  refine tri_v (opv_fieldAddr rfl rfl) rfl ?_
  refine tri_v (opv_load1 rfl rfl rfl) rfl ?_
  refine tM rfl rfl ?_
  refine tri_perm (A := ?a1_0 :: ?a1_1 :: ?a1_2 :: ?a1_3 :: ?T1) (B := ?a1_1 :: ?a1_2 :: ?a1_3 :: ?a1_0 :: ?T1) (by exact permL [1, 2, 3, 0] [?a1_0, ?a1_1, ?a1_2, ?a1_3] ?T1 (by decide) rfl) ?_
  refine tri_g (opg_call (xs := [_, _]) rfl (index_empty (lv := lv) (by omega) hg h2n hix)) rfl ?_
  rintro _ _ _ ⟨a2, q2, es2, rfl, rfl, hi2, rfl⟩
  refine tri_v (opv_extract rfl rfl) rfl ?_
  refine tri_v (opv_extract rfl rfl) rfl ?_
  refine tA rfl rfl (tA rfl rfl (tN (tT (tri_ret ?_))))
  refine tri_inBlock_ret ?_
  refine tri_then_ret ?_
  refine tri_perm (A := ?a2_0 :: ?a2_1 :: ?a2_2 :: ?a2_3 :: ?T2) (B := ?a2_3 :: ?a2_0 :: ?a2_1 :: ?a2_2 :: ?T2) (by exact permL [3, 0, 1, 2] [?a2_0, ?a2_1, ?a2_2, ?a2_3] ?T2 (by decide) rfl) ?_
  refine tri_end _ (⟨[_], rfl⟩) rfl (.cons (rv_tmp rfl) (.cons (rv_tmp rfl) .nil)) ⟨I, ⟨a2, q2, es2, _, rfl, rfl, hi2, R7.emptyF_good room lv ns 0 hg, R7.emptyF_len2 room lv 0 h2n, fun _ => rfl, rfl⟩, fun _ h => h⟩
 ·have hne : l ≠ [] := fun h => h0 (by rw [h]; rfl)
  refine tS (tR (tM rfl rfl ?_))
  refine tri_v (opv_eql rfl rfl) rfl ?_
  refine tA rfl rfl (tN (tT ?_))
  refine tri_cond_dec rfl (fun hz0 => ?_) (fun hz0 => ?_)
  ·have hl : lv = 0 := by omega
   subst hl
   rw [R7.build_zero _ _ (R7.cor_ne hne)] at hr
   subst hr
   refine tS (tR (tA rfl rfl (tA rfl rfl (tN (tT (tri_ret ?_))))))
   refine tri_inBlock_ret ?_
   refine tri_then_ret ?_
   refine tri_end _ (⟨[_], rfl⟩) rfl (.cons (rv_tmp rfl) (.cons (rv_tmp rfl) .nil)) ⟨I, ⟨a, cap, es, ns, rfl, rfl, hix, hg, h2n, fun _ => rfl, rfl⟩, fun _ h => h⟩
  ·obtain ⟨m, rfl⟩ : ∃ m, lv = m + 1 := ⟨lv - 1, by omega⟩
   obtain ⟨r0, hr0⟩ : ∃ r, R7.build room m ns (R7.cor m (R7.pt7 (m + 1) 0 l)) = r := ⟨_, rfl⟩
   obtain ⟨r1, hr1⟩ : ∃ r, R7.build room m r0.1 (R7.cor m (R7.pt7 (m + 1) 1 l)) = r := ⟨_, rfl⟩
   obtain ⟨r2, hr2⟩ : ∃ r, R7.build room m r1.1 (R7.cor m (R7.pt7 (m + 1) 2 l)) = r := ⟨_, rfl⟩
   obtain ⟨r3, hr3⟩ : ∃ r, R7.build room m r2.1 (R7.cor m (R7.pt7 (m + 1) 3 l)) = r := ⟨_, rfl⟩
   have hb' := R7.build_succ room m ns (R7.cor_ne (lv := m + 1) hne) ((R7.build_part room m 0 ns l).trans hr0) ((R7.build_part room m 1 r0.1 l).trans hr1) ((R7.build_part room m 2 r1.1 l).trans hr2) ((R7.build_part room m 3 r2.1 l).trans hr3)
   rw [hr] at hb'
   have pl := fun k => R7.pt7_len (m + 1) k l
   have pb := fun k => R7.pt7_bd (lv := m + 1) (k := k) hlv hb
   refine tri_skip ?_
   refine tri_inBlock ?_
   refine tT (tS (tR ?_))
   refine tri_g opg_alloc rfl ?_
   rintro _ _ _ ⟨b8, rfl, rfl, rfl⟩
   refine tN (tT (tS (tS (tR (tM rfl rfl ?_)))))
   refine tri_v (opv_len rfl) rfl ?_
   refine tM rfl rfl (tN (tT (tri_block ?_)))
   refine tri_nilRow (E := 28) (sz := 2) ?_
   refine tri_nilRow (E := 28) (sz := 2) ?_
   refine tri_nilRow (E := 28) (sz := 2) ?_
   refine tri_nilRow (E := 28) (sz := 2) ?_
   refine tri_perm (A := ?a3_0 :: ?a3_1 :: ?a3_2 :: ?a3_3 :: ?a3_4 :: ?T3) (B := ?a3_4 :: ?a3_0 :: ?a3_1 :: ?a3_2 :: ?a3_3 :: ?T3) (by exact permL [4, 0, 1, 2, 3] [?a3_0, ?a3_1, ?a3_2, ?a3_3, ?a3_4] ?T3 (by decide) rfl) ?_
   refine tri_sub (F' := [(2, .int .i64 ((m + 1 : Nat) : Int)), (3, pt b3 0), (8, pt b8 0), (31, .slice bb l.length cap2), (32, .int .i64 (l.length : Nat)), (33, .int .i64 (0 : Nat))]) ⟨rfl, rfl, rfl, rfl, rfl, rfl, trivial⟩ ?_

   refine loop_ind (G := PG) (fun g => l.length - g.i) (fun g => g.i ≤ l.length) (fun g => [(2, .int .i64 ((m + 1 : Nat) : Int)), (3, pt b3 0), (8, pt b8 0), (31, .slice bb l.length cap2), (32, .int .i64 (l.length : Nat)), (33, .int .i64 (g.i : Nat))]) (fun g => Box b8 [.slice g.a0 (R7.pt7 (m + 1) 0 (l.take g.i)).length g.c0, .slice g.a1 (R7.pt7 (m + 1) 1 (l.take g.i)).length g.c1, .slice g.a2 (R7.pt7 (m + 1) 2 (l.take g.i)).length g.c2, .slice g.a3 (R7.pt7 (m + 1) 3 (l.take g.i)).length g.c3] 111 :: Row g.a0 g.c0 (R7.pt7 (m + 1) 0 (l.take g.i)).length 28 2 (encs (R7.pt7 (m + 1) 0 (l.take g.i))) :: Row g.a1 g.c1 (R7.pt7 (m + 1) 1 (l.take g.i)).length 28 2 (encs (R7.pt7 (m + 1) 1 (l.take g.i))) :: Row g.a2 g.c2 (R7.pt7 (m + 1) 2 (l.take g.i)).length 28 2 (encs (R7.pt7 (m + 1) 2 (l.take g.i))) :: Row g.a3 g.c3 (R7.pt7 (m + 1) 3 (l.take g.i)).length 28 2 (encs (R7.pt7 (m + 1) 3 (l.take g.i))) :: Box b3 [pt bx 0] 74 :: IxA bx mb a cap ns room es A) (fun _ => I) ?_ ⟨0, none, none, none, none, 0, 0, 0, 0⟩ (Nat.zero_le _)
   rintro ⟨i, a0, a1, a2, a3, c0, c1, c2, c3⟩ hi K hK
   simp only at hi hK ⊢
   have hp0 := R7.pt7_len (m + 1) 0 (l.take i)
   have hp1 := R7.pt7_len (m + 1) 1 (l.take i)
   have hp2 := R7.pt7_len (m + 1) 2 (l.take i)
   have hp3 := R7.pt7_len (m + 1) 3 (l.take i)
   rw [List.length_take] at hp0 hp1 hp2 hp3
   skip
   refine tS (tR ?_)
   refine tri_v (opv_lss rfl rfl) rfl ?_
   refine tN (tT (tS ?_))
   refine tri_cond_dec rfl (fun h => ?_) (fun h => ?_)
   ·have hlt : i < l.length := by omega
    have hbi := hb (l.getD i default) (by simp [hlt])
    have et : l.take (i + 1) = l.take i ++ [l.getD i default] := by
     have e0 : l.getD i default = l[i] := by simp [hlt]
     rw [e0, List.take_succ_eq_append_getElem hlt]
    have en := fun k => R7.pt7_snoc (m + 1) k (l.take i) (l.getD i default)
    rw [← et] at en
    refine tri_skip (tT (tS (tri_block (tS (tR ?_)))))
    refine tri_v (opv_indexAddrSN rfl rfl (by omega) (by assumption) rfl) rfl ?_
    refine tri_v (opv_loadEA rfl (by assumption) rfl (by omega) rfl rfl) rfl ?_
    refine tri_g opg_alloc rfl ?_
    rintro _ _ _ ⟨b10, rfl, rfl, rfl⟩
    refine tri_g (opg_store rfl rfl rfl rfl rfl rfl) rfl ?_
    rintro _ _ _ ⟨rfl, rfl⟩
    refine tN (tT (tS (tR (tM rfl rfl ?_))))
    refine tri_v (opv_loadA rfl rfl rfl) rfl ?_
    refine tri_g (opg_call (xs := [_, _]) rfl (square_quarter (lv := m + 1) (c := l.getD i default) hlv hbi)) rfl ?_
    rintro _ _ _ ⟨rfl, rfl, rfl⟩
    have hqd := R7.qd_bd hlv hbi
    rcases R7.qk_4 (l.getD i default) with hk | hk | hk | hk
    ·rw [hk]
     have e0 := en 0
     rw [if_pos hk] at e0
     have e1 := en 1
     rw [if_neg (by omega), List.append_nil] at e1
     have e2 := en 2
     rw [if_neg (by omega), List.append_nil] at e2
     have e3 := en 3
     rw [if_neg (by omega), List.append_nil] at e3
     clear en
     generalize R7.qd (R7.qh (m + 1)) (l.getD i default) = d at *
     refine tM rfl rfl ?_
     refine tri_v (opv_extract rfl rfl) rfl ?_
     refine tri_v (opv_extract rfl rfl) rfl ?_
     refine tri_g opg_alloc rfl ?_
     rintro _ _ _ ⟨b12, rfl, rfl, rfl⟩
     refine tA rfl rfl ?_
     refine tri_g (opg_store rfl rfl rfl rfl rfl rfl) rfl ?_
     rintro _ _ _ ⟨rfl, rfl⟩
     refine tN (tT ?_)
     refine tri_perm (A := ?a4_0 :: ?a4_1 :: ?a4_2 :: ?a4_3 :: ?a4_4 :: ?a4_5 :: ?a4_6 :: ?T4) (B := ?a4_2 :: ?a4_3 :: ?a4_0 :: ?a4_1 :: ?a4_4 :: ?a4_5 :: ?a4_6 :: ?T4) (by exact permL [2, 3, 0, 1, 4, 5, 6] [?a4_0, ?a4_1, ?a4_2, ?a4_3, ?a4_4, ?a4_5, ?a4_6] ?T4 (by decide) rfl) ?_
     skip
     refine tri_cut (fun F' A' J => ∃ (aa : Option Addr) (cc : Nat) (X Y Z : Asrt), F' = [(2, .int .i64 ((m + 1 : Nat) : Int)), (3, pt b3 0), (8, pt b8 0), (31, .slice bb l.length cap2), (32, .int .i64 (l.length : Nat)), (33, .int .i64 (i : Nat))] ∧ A' = X :: Box b8 [.slice aa ((R7.pt7 (m + 1) 0 (l.take i)).length + 1) cc, .slice a1 (R7.pt7 (m + 1) 1 (l.take i)).length c1, .slice a2 (R7.pt7 (m + 1) 2 (l.take i)).length c2, .slice a3 (R7.pt7 (m + 1) 3 (l.take i)).length c3] 111 :: Row aa cc ((R7.pt7 (m + 1) 0 (l.take i)).length + 1) 28 2 (encs (R7.pt7 (m + 1) 0 (l.take i)) ++ [.int .i64 d.x, .int .i64 d.y]) :: Y :: Z :: Row a1 c1 (R7.pt7 (m + 1) 1 (l.take i)).length 28 2 (encs (R7.pt7 (m + 1) 1 (l.take i))) :: Row a2 c2 (R7.pt7 (m + 1) 2 (l.take i)).length 28 2 (encs (R7.pt7 (m + 1) 2 (l.take i))) :: Row a3 c3 (R7.pt7 (m + 1) 3 (l.take i)).length 28 2 (encs (R7.pt7 (m + 1) 3 (l.take i))) :: Box b3 [pt bx 0] 74 :: IxA bx mb a cap ns room es A ∧ I = J) ?_ ?_
     ·refine tri_draw [0, 1, 2, 4, 3, 5, 6, 7, 8] rfl [_, _] rfl mixed ?_
      refine th_take rfl rfl (by kernel_rfl)  (opv_move rfl) ?_
      refine th_take rfl rfl (by kernel_rfl)  (opv_move rfl) ?_
      refine th_take rfl rfl (by kernel_rfl)  (opv_indexAddrA rfl rfl (by decide) (by decide)) ?_
      refine th_take rfl rfl (by kernel_rfl)  (opv_loadA rfl rfl rfl) ?_
      refine th_two (j := 5) [3, 6, 7, 8] (by kernel_rfl) rfl ?_ ?_
      ·refine (step_m rfl rfl (OpV.toG (opv_load1 rfl rfl rfl)) ?_)
       rintro _ _ _ ⟨rfl, rfl, rfl⟩
       refine ⟨Suf.h, (fun _ h => h), ?_⟩
       refine th_one (by kernel_rfl) (step_m rfl rfl (opg_buildSlice rfl rfl rfl rfl) ?_)
       rintro _ _ _ ⟨b48, rfl, rfl, rfl⟩
       refine ⟨Suf.h, (fun _ h => h), ?_⟩
       refine th_one (by kernel_rfl) (step_m rfl rfl (opg_appendB rfl rfl rfl rfl (by omega) rfl) ?_)
       rintro _ _ _ ⟨aa, cc, rfl, rfl, rfl⟩
       refine ⟨Suf.h, (fun _ h => h), ?_⟩
       refine th_take rfl rfl (by kernel_rfl)  (opv_indexAddrA rfl rfl (by decide) (by decide)) ?_
       refine th_one (by kernel_rfl) (step_m rfl rfl (opg_store rfl rfl rfl rfl rfl rfl) ?_)
       rintro _ _ _ ⟨rfl, rfl⟩
       refine ⟨Suf.h, (fun _ h => h), ?_⟩
       refine th_done (by kernel_rfl) ?_
       exact tri_cutEnd _ ⟨aa, cc, _, _, _, rfl, rfl, rfl⟩ ⟨rfl, rfl, rfl, rfl, rfl, rfl, trivial⟩
      ·refine (step_m rfl rfl (opg_buildSlice rfl rfl rfl rfl) ?_)
       rintro _ _ _ ⟨b48, rfl, rfl, rfl⟩
       refine ⟨Suf.h, (fun _ h => h), ?_⟩
       refine th_one (by kernel_rfl) (step_m rfl rfl (OpV.toG (opv_load1 rfl rfl rfl)) ?_)
       rintro _ _ _ ⟨rfl, rfl, rfl⟩
       refine ⟨Suf.h, (fun _ h => h), ?_⟩
       refine th_one (by kernel_rfl) (step_m rfl rfl (opg_appendB rfl rfl rfl rfl (by omega) rfl) ?_)
       rintro _ _ _ ⟨aa, cc, rfl, rfl, rfl⟩
       refine ⟨Suf.h, (fun _ h => h), ?_⟩
       refine th_take rfl rfl (by kernel_rfl)  (opv_indexAddrA rfl rfl (by decide) (by decide)) ?_
       refine th_one (by kernel_rfl) (step_m rfl rfl (opg_store rfl rfl rfl rfl rfl rfl) ?_)
       rintro _ _ _ ⟨rfl, rfl⟩
       refine ⟨Suf.h, (fun _ h => h), ?_⟩
       refine th_done (by kernel_rfl) ?_
       exact tri_cutEnd _ ⟨aa, cc, _, _, _, rfl, rfl, rfl⟩ ⟨rfl, rfl, rfl, rfl, rfl, rfl, trivial⟩
     rintro _ _ _ ⟨aa, cc, X, Y, Z, rfl, rfl, rfl⟩
     refine tri_inBlock ?_
     refine tT (tR ?_)
     refine tU rfl rfl (by omega) (by omega) rfl ?_
     refine tM rfl rfl (tN (tT ?_))
     refine tri_drop ?_
     refine tri_perm (A := ?a5_0 :: ?a5_1 :: ?a5_2 :: ?a5_3 :: ?a5_4 :: ?a5_5 :: ?a5_6 :: ?T5) (B := ?a5_2 :: ?a5_3 :: ?a5_0 :: ?a5_1 :: ?a5_4 :: ?a5_5 :: ?a5_6 :: ?T5) (by exact permL [2, 3, 0, 1, 4, 5, 6] [?a5_0, ?a5_1, ?a5_2, ?a5_3, ?a5_4, ?a5_5, ?a5_6] ?T5 (by decide) rfl) ?_
     refine tri_drop (tri_drop ?_)
     refine tri_perm (A := ?a6_0 :: ?a6_1 :: ?a6_2 :: ?a6_3 :: ?a6_4 :: ?T6) (B := ?a6_0 :: ?a6_1 :: ?a6_2 :: ?a6_3 :: ?a6_4 :: ?T6) (by exact permL [0, 1, 2, 3, 4] [?a6_0, ?a6_1, ?a6_2, ?a6_3, ?a6_4] ?T6 (by decide) rfl) ?_
     have hh := hK ⟨i + 1, aa, a1, a2, a3, cc, c1, c2, c3⟩ (by simp only; omega) (by simp only; omega)
     simp only [e0, e1, e2, e3, List.length_append, encs_append] at hh
     refine tri_sub ?_ hh
     exact ⟨rfl, rfl, rfl, rfl, rfl, rfl, trivial⟩
    ·rw [hk]
     have e0 := en 0
     rw [if_neg (by omega), List.append_nil] at e0
     have e1 := en 1
     rw [if_pos hk] at e1
     have e2 := en 2
     rw [if_neg (by omega), List.append_nil] at e2
     have e3 := en 3
     rw [if_neg (by omega), List.append_nil] at e3
     clear en
     generalize R7.qd (R7.qh (m + 1)) (l.getD i default) = d at *
     refine tM rfl rfl ?_
     refine tri_v (opv_extract rfl rfl) rfl ?_
     refine tri_v (opv_extract rfl rfl) rfl ?_
     refine tri_g opg_alloc rfl ?_
     rintro _ _ _ ⟨b12, rfl, rfl, rfl⟩
     refine tA rfl rfl ?_
     refine tri_g (opg_store rfl rfl rfl rfl rfl rfl) rfl ?_
     rintro _ _ _ ⟨rfl, rfl⟩
     refine tN (tT ?_)
     refine tri_perm (A := ?a7_0 :: ?a7_1 :: ?a7_2 :: ?a7_3 :: ?a7_4 :: ?a7_5 :: ?a7_6 :: ?T7) (B := ?a7_2 :: ?a7_4 :: ?a7_0 :: ?a7_1 :: ?a7_3 :: ?a7_5 :: ?a7_6 :: ?T7) (by exact permL [2, 4, 0, 1, 3, 5, 6] [?a7_0, ?a7_1, ?a7_2, ?a7_3, ?a7_4, ?a7_5, ?a7_6] ?T7 (by decide) rfl) ?_
     skip
     refine tri_cut (fun F' A' J => ∃ (aa : Option Addr) (cc : Nat) (X Y Z : Asrt), F' = [(2, .int .i64 ((m + 1 : Nat) : Int)), (3, pt b3 0), (8, pt b8 0), (31, .slice bb l.length cap2), (32, .int .i64 (l.length : Nat)), (33, .int .i64 (i : Nat))] ∧ A' = X :: Box b8 [.slice a0 (R7.pt7 (m + 1) 0 (l.take i)).length c0, .slice aa ((R7.pt7 (m + 1) 1 (l.take i)).length + 1) cc, .slice a2 (R7.pt7 (m + 1) 2 (l.take i)).length c2, .slice a3 (R7.pt7 (m + 1) 3 (l.take i)).length c3] 111 :: Row aa cc ((R7.pt7 (m + 1) 1 (l.take i)).length + 1) 28 2 (encs (R7.pt7 (m + 1) 1 (l.take i)) ++ [.int .i64 d.x, .int .i64 d.y]) :: Y :: Z :: Row a0 c0 (R7.pt7 (m + 1) 0 (l.take i)).length 28 2 (encs (R7.pt7 (m + 1) 0 (l.take i))) :: Row a2 c2 (R7.pt7 (m + 1) 2 (l.take i)).length 28 2 (encs (R7.pt7 (m + 1) 2 (l.take i))) :: Row a3 c3 (R7.pt7 (m + 1) 3 (l.take i)).length 28 2 (encs (R7.pt7 (m + 1) 3 (l.take i))) :: Box b3 [pt bx 0] 74 :: IxA bx mb a cap ns room es A ∧ I = J) ?_ ?_
     ·refine tri_draw [0, 1, 2, 4, 3, 5, 6, 7, 8] rfl [_, _] rfl mixed ?_
      refine th_take rfl rfl (by kernel_rfl)  (opv_move rfl) ?_
      refine th_take rfl rfl (by kernel_rfl)  (opv_move rfl) ?_
      refine th_take rfl rfl (by kernel_rfl)  (opv_indexAddrA rfl rfl (by decide) (by decide)) ?_
      refine th_take rfl rfl (by kernel_rfl)  (opv_loadA rfl rfl rfl) ?_
      refine th_two (j := 5) [3, 6, 7, 8] (by kernel_rfl) rfl ?_ ?_
      ·refine (step_m rfl rfl (OpV.toG (opv_load1 rfl rfl rfl)) ?_)
       rintro _ _ _ ⟨rfl, rfl, rfl⟩
       refine ⟨Suf.h, (fun _ h => h), ?_⟩
       refine th_one (by kernel_rfl) (step_m rfl rfl (opg_buildSlice rfl rfl rfl rfl) ?_)
       rintro _ _ _ ⟨b48, rfl, rfl, rfl⟩
       refine ⟨Suf.h, (fun _ h => h), ?_⟩
       refine th_one (by kernel_rfl) (step_m rfl rfl (opg_appendB rfl rfl rfl rfl (by omega) rfl) ?_)
       rintro _ _ _ ⟨aa, cc, rfl, rfl, rfl⟩
       refine ⟨Suf.h, (fun _ h => h), ?_⟩
       refine th_take rfl rfl (by kernel_rfl)  (opv_indexAddrA rfl rfl (by decide) (by decide)) ?_
       refine th_one (by kernel_rfl) (step_m rfl rfl (opg_store rfl rfl rfl rfl rfl rfl) ?_)
       rintro _ _ _ ⟨rfl, rfl⟩
       refine ⟨Suf.h, (fun _ h => h), ?_⟩
       refine th_done (by kernel_rfl) ?_
       exact tri_cutEnd _ ⟨aa, cc, _, _, _, rfl, rfl, rfl⟩ ⟨rfl, rfl, rfl, rfl, rfl, rfl, trivial⟩
      ·refine (step_m rfl rfl (opg_buildSlice rfl rfl rfl rfl) ?_)
       rintro _ _ _ ⟨b48, rfl, rfl, rfl⟩
       refine ⟨Suf.h, (fun _ h => h), ?_⟩
       refine th_one (by kernel_rfl) (step_m rfl rfl (OpV.toG (opv_load1 rfl rfl rfl)) ?_)
       rintro _ _ _ ⟨rfl, rfl, rfl⟩
       refine ⟨Suf.h, (fun _ h => h), ?_⟩
       refine th_one (by kernel_rfl) (step_m rfl rfl (opg_appendB rfl rfl rfl rfl (by omega) rfl) ?_)
       rintro _ _ _ ⟨aa, cc, rfl, rfl, rfl⟩
       refine ⟨Suf.h, (fun _ h => h), ?_⟩
       refine th_take rfl rfl (by kernel_rfl)  (opv_indexAddrA rfl rfl (by decide) (by decide)) ?_
       refine th_one (by kernel_rfl) (step_m rfl rfl (opg_store rfl rfl rfl rfl rfl rfl) ?_)
       rintro _ _ _ ⟨rfl, rfl⟩
       refine ⟨Suf.h, (fun _ h => h), ?_⟩
       refine th_done (by kernel_rfl) ?_
       exact tri_cutEnd _ ⟨aa, cc, _, _, _, rfl, rfl, rfl⟩ ⟨rfl, rfl, rfl, rfl, rfl, rfl, trivial⟩
     rintro _ _ _ ⟨aa, cc, X, Y, Z, rfl, rfl, rfl⟩
     refine tri_inBlock ?_
     refine tT (tR ?_)
     refine tU rfl rfl (by omega) (by omega) rfl ?_
     refine tM rfl rfl (tN (tT ?_))
     refine tri_drop ?_
     refine tri_perm (A := ?a8_0 :: ?a8_1 :: ?a8_2 :: ?a8_3 :: ?a8_4 :: ?a8_5 :: ?a8_6 :: ?T8) (B := ?a8_2 :: ?a8_3 :: ?a8_0 :: ?a8_1 :: ?a8_4 :: ?a8_5 :: ?a8_6 :: ?T8) (by exact permL [2, 3, 0, 1, 4, 5, 6] [?a8_0, ?a8_1, ?a8_2, ?a8_3, ?a8_4, ?a8_5, ?a8_6] ?T8 (by decide) rfl) ?_
     refine tri_drop (tri_drop ?_)
     refine tri_perm (A := ?a9_0 :: ?a9_1 :: ?a9_2 :: ?a9_3 :: ?a9_4 :: ?T9) (B := ?a9_0 :: ?a9_2 :: ?a9_1 :: ?a9_3 :: ?a9_4 :: ?T9) (by exact permL [0, 2, 1, 3, 4] [?a9_0, ?a9_1, ?a9_2, ?a9_3, ?a9_4] ?T9 (by decide) rfl) ?_
     have hh := hK ⟨i + 1, a0, aa, a2, a3, c0, cc, c2, c3⟩ (by simp only; omega) (by simp only; omega)
     simp only [e0, e1, e2, e3, List.length_append, encs_append] at hh
     refine tri_sub ?_ hh
     exact ⟨rfl, rfl, rfl, rfl, rfl, rfl, trivial⟩
    ·rw [hk]
     have e0 := en 0
     rw [if_neg (by omega), List.append_nil] at e0
     have e1 := en 1
     rw [if_neg (by omega), List.append_nil] at e1
     have e2 := en 2
     rw [if_pos hk] at e2
     have e3 := en 3
     rw [if_neg (by omega), List.append_nil] at e3
     clear en
     generalize R7.qd (R7.qh (m + 1)) (l.getD i default) = d at *
     refine tM rfl rfl ?_
     refine tri_v (opv_extract rfl rfl) rfl ?_
     refine tri_v (opv_extract rfl rfl) rfl ?_
     refine tri_g opg_alloc rfl ?_
     rintro _ _ _ ⟨b12, rfl, rfl, rfl⟩
     refine tA rfl rfl ?_
     refine tri_g (opg_store rfl rfl rfl rfl rfl rfl) rfl ?_
     rintro _ _ _ ⟨rfl, rfl⟩
     refine tN (tT ?_)
     refine tri_perm (A := ?a10_0 :: ?a10_1 :: ?a10_2 :: ?a10_3 :: ?a10_4 :: ?a10_5 :: ?a10_6 :: ?T10) (B := ?a10_2 :: ?a10_5 :: ?a10_0 :: ?a10_1 :: ?a10_3 :: ?a10_4 :: ?a10_6 :: ?T10) (by exact permL [2, 5, 0, 1, 3, 4, 6] [?a10_0, ?a10_1, ?a10_2, ?a10_3, ?a10_4, ?a10_5, ?a10_6] ?T10 (by decide) rfl) ?_
     skip
     refine tri_cut (fun F' A' J => ∃ (aa : Option Addr) (cc : Nat) (X Y Z : Asrt), F' = [(2, .int .i64 ((m + 1 : Nat) : Int)), (3, pt b3 0), (8, pt b8 0), (31, .slice bb l.length cap2), (32, .int .i64 (l.length : Nat)), (33, .int .i64 (i : Nat))] ∧ A' = X :: Box b8 [.slice a0 (R7.pt7 (m + 1) 0 (l.take i)).length c0, .slice a1 (R7.pt7 (m + 1) 1 (l.take i)).length c1, .slice aa ((R7.pt7 (m + 1) 2 (l.take i)).length + 1) cc, .slice a3 (R7.pt7 (m + 1) 3 (l.take i)).length c3] 111 :: Row aa cc ((R7.pt7 (m + 1) 2 (l.take i)).length + 1) 28 2 (encs (R7.pt7 (m + 1) 2 (l.take i)) ++ [.int .i64 d.x, .int .i64 d.y]) :: Y :: Z :: Row a0 c0 (R7.pt7 (m + 1) 0 (l.take i)).length 28 2 (encs (R7.pt7 (m + 1) 0 (l.take i))) :: Row a1 c1 (R7.pt7 (m + 1) 1 (l.take i)).length 28 2 (encs (R7.pt7 (m + 1) 1 (l.take i))) :: Row a3 c3 (R7.pt7 (m + 1) 3 (l.take i)).length 28 2 (encs (R7.pt7 (m + 1) 3 (l.take i))) :: Box b3 [pt bx 0] 74 :: IxA bx mb a cap ns room es A ∧ I = J) ?_ ?_
     ·refine tri_draw [0, 1, 2, 4, 3, 5, 6, 7, 8] rfl [_, _] rfl mixed ?_
      refine th_take rfl rfl (by kernel_rfl)  (opv_move rfl) ?_
      refine th_take rfl rfl (by kernel_rfl)  (opv_move rfl) ?_
      refine th_take rfl rfl (by kernel_rfl)  (opv_indexAddrA rfl rfl (by decide) (by decide)) ?_
      refine th_take rfl rfl (by kernel_rfl)  (opv_loadA rfl rfl rfl) ?_
      refine th_two (j := 5) [3, 6, 7, 8] (by kernel_rfl) rfl ?_ ?_
      ·refine (step_m rfl rfl (OpV.toG (opv_load1 rfl rfl rfl)) ?_)
       rintro _ _ _ ⟨rfl, rfl, rfl⟩
       refine ⟨Suf.h, (fun _ h => h), ?_⟩
       refine th_one (by kernel_rfl) (step_m rfl rfl (opg_buildSlice rfl rfl rfl rfl) ?_)
       rintro _ _ _ ⟨b48, rfl, rfl, rfl⟩
       refine ⟨Suf.h, (fun _ h => h), ?_⟩
       refine th_one (by kernel_rfl) (step_m rfl rfl (opg_appendB rfl rfl rfl rfl (by omega) rfl) ?_)
       rintro _ _ _ ⟨aa, cc, rfl, rfl, rfl⟩
       refine ⟨Suf.h, (fun _ h => h), ?_⟩
       refine th_take rfl rfl (by kernel_rfl)  (opv_indexAddrA rfl rfl (by decide) (by decide)) ?_
       refine th_one (by kernel_rfl) (step_m rfl rfl (opg_store rfl rfl rfl rfl rfl rfl) ?_)
       rintro _ _ _ ⟨rfl, rfl⟩
       refine ⟨Suf.h, (fun _ h => h), ?_⟩
       refine th_done (by kernel_rfl) ?_
       exact tri_cutEnd _ ⟨aa, cc, _, _, _, rfl, rfl, rfl⟩ ⟨rfl, rfl, rfl, rfl, rfl, rfl, trivial⟩
      ·refine (step_m rfl rfl (opg_buildSlice rfl rfl rfl rfl) ?_)
       rintro _ _ _ ⟨b48, rfl, rfl, rfl⟩
       refine ⟨Suf.h, (fun _ h => h), ?_⟩
       refine th_one (by kernel_rfl) (step_m rfl rfl (OpV.toG (opv_load1 rfl rfl rfl)) ?_)
       rintro _ _ _ ⟨rfl, rfl, rfl⟩
       refine ⟨Suf.h, (fun _ h => h), ?_⟩
       refine th_one (by kernel_rfl) (step_m rfl rfl (opg_appendB rfl rfl rfl rfl (by omega) rfl) ?_)
       rintro _ _ _ ⟨aa, cc, rfl, rfl, rfl⟩
       refine ⟨Suf.h, (fun _ h => h), ?_⟩
       refine th_take rfl rfl (by kernel_rfl)  (opv_indexAddrA rfl rfl (by decide) (by decide)) ?_
       refine th_one (by kernel_rfl) (step_m rfl rfl (opg_store rfl rfl rfl rfl rfl rfl) ?_)
       rintro _ _ _ ⟨rfl, rfl⟩
       refine ⟨Suf.h, (fun _ h => h), ?_⟩
       refine th_done (by kernel_rfl) ?_
       exact tri_cutEnd _ ⟨aa, cc, _, _, _, rfl, rfl, rfl⟩ ⟨rfl, rfl, rfl, rfl, rfl, rfl, trivial⟩
     rintro _ _ _ ⟨aa, cc, X, Y, Z, rfl, rfl, rfl⟩
     refine tri_inBlock ?_
     refine tT (tR ?_)
     refine tU rfl rfl (by omega) (by omega) rfl ?_
     refine tM rfl rfl (tN (tT ?_))
     refine tri_drop ?_
     refine tri_perm (A := ?a11_0 :: ?a11_1 :: ?a11_2 :: ?a11_3 :: ?a11_4 :: ?a11_5 :: ?a11_6 :: ?T11) (B := ?a11_2 :: ?a11_3 :: ?a11_0 :: ?a11_1 :: ?a11_4 :: ?a11_5 :: ?a11_6 :: ?T11) (by exact permL [2, 3, 0, 1, 4, 5, 6] [?a11_0, ?a11_1, ?a11_2, ?a11_3, ?a11_4, ?a11_5, ?a11_6] ?T11 (by decide) rfl) ?_
     refine tri_drop (tri_drop ?_)
     refine tri_perm (A := ?a12_0 :: ?a12_1 :: ?a12_2 :: ?a12_3 :: ?a12_4 :: ?T12) (B := ?a12_0 :: ?a12_2 :: ?a12_3 :: ?a12_1 :: ?a12_4 :: ?T12) (by exact permL [0, 2, 3, 1, 4] [?a12_0, ?a12_1, ?a12_2, ?a12_3, ?a12_4] ?T12 (by decide) rfl) ?_
     have hh := hK ⟨i + 1, a0, a1, aa, a3, c0, c1, cc, c3⟩ (by simp only; omega) (by simp only; omega)
     simp only [e0, e1, e2, e3, List.length_append, encs_append] at hh
     refine tri_sub ?_ hh
     exact ⟨rfl, rfl, rfl, rfl, rfl, rfl, trivial⟩
    ·rw [hk]
     have e0 := en 0
     rw [if_neg (by omega), List.append_nil] at e0
     have e1 := en 1
     rw [if_neg (by omega), List.append_nil] at e1
     have e2 := en 2
     rw [if_neg (by omega), List.append_nil] at e2
     have e3 := en 3
     rw [if_pos hk] at e3
     clear en
     generalize R7.qd (R7.qh (m + 1)) (l.getD i default) = d at *
     refine tM rfl rfl ?_
     refine tri_v (opv_extract rfl rfl) rfl ?_
     refine tri_v (opv_extract rfl rfl) rfl ?_
     refine tri_g opg_alloc rfl ?_
     rintro _ _ _ ⟨b12, rfl, rfl, rfl⟩
     refine tA rfl rfl ?_
     refine tri_g (opg_store rfl rfl rfl rfl rfl rfl) rfl ?_
     rintro _ _ _ ⟨rfl, rfl⟩
     refine tN (tT ?_)
     refine tri_perm (A := ?a13_0 :: ?a13_1 :: ?a13_2 :: ?a13_3 :: ?a13_4 :: ?a13_5 :: ?a13_6 :: ?T13) (B := ?a13_2 :: ?a13_6 :: ?a13_0 :: ?a13_1 :: ?a13_3 :: ?a13_4 :: ?a13_5 :: ?T13) (by exact permL [2, 6, 0, 1, 3, 4, 5] [?a13_0, ?a13_1, ?a13_2, ?a13_3, ?a13_4, ?a13_5, ?a13_6] ?T13 (by decide) rfl) ?_
     skip
     refine tri_cut (fun F' A' J => ∃ (aa : Option Addr) (cc : Nat) (X Y Z : Asrt), F' = [(2, .int .i64 ((m + 1 : Nat) : Int)), (3, pt b3 0), (8, pt b8 0), (31, .slice bb l.length cap2), (32, .int .i64 (l.length : Nat)), (33, .int .i64 (i : Nat))] ∧ A' = X :: Box b8 [.slice a0 (R7.pt7 (m + 1) 0 (l.take i)).length c0, .slice a1 (R7.pt7 (m + 1) 1 (l.take i)).length c1, .slice a2 (R7.pt7 (m + 1) 2 (l.take i)).length c2, .slice aa ((R7.pt7 (m + 1) 3 (l.take i)).length + 1) cc] 111 :: Row aa cc ((R7.pt7 (m + 1) 3 (l.take i)).length + 1) 28 2 (encs (R7.pt7 (m + 1) 3 (l.take i)) ++ [.int .i64 d.x, .int .i64 d.y]) :: Y :: Z :: Row a0 c0 (R7.pt7 (m + 1) 0 (l.take i)).length 28 2 (encs (R7.pt7 (m + 1) 0 (l.take i))) :: Row a1 c1 (R7.pt7 (m + 1) 1 (l.take i)).length 28 2 (encs (R7.pt7 (m + 1) 1 (l.take i))) :: Row a2 c2 (R7.pt7 (m + 1) 2 (l.take i)).length 28 2 (encs (R7.pt7 (m + 1) 2 (l.take i))) :: Box b3 [pt bx 0] 74 :: IxA bx mb a cap ns room es A ∧ I = J) ?_ ?_
     ·refine tri_draw [0, 1, 2, 4, 3, 5, 6, 7, 8] rfl [_, _] rfl mixed ?_
      refine th_take rfl rfl (by kernel_rfl)  (opv_move rfl) ?_
      refine th_take rfl rfl (by kernel_rfl)  (opv_move rfl) ?_
      refine th_take rfl rfl (by kernel_rfl)  (opv_indexAddrA rfl rfl (by decide) (by decide)) ?_
      refine th_take rfl rfl (by kernel_rfl)  (opv_loadA rfl rfl rfl) ?_
      refine th_two (j := 5) [3, 6, 7, 8] (by kernel_rfl) rfl ?_ ?_
      ·refine (step_m rfl rfl (OpV.toG (opv_load1 rfl rfl rfl)) ?_)
       rintro _ _ _ ⟨rfl, rfl, rfl⟩
       refine ⟨Suf.h, (fun _ h => h), ?_⟩
       refine th_one (by kernel_rfl) (step_m rfl rfl (opg_buildSlice rfl rfl rfl rfl) ?_)
       rintro _ _ _ ⟨b48, rfl, rfl, rfl⟩
       refine ⟨Suf.h, (fun _ h => h), ?_⟩
       refine th_one (by kernel_rfl) (step_m rfl rfl (opg_appendB rfl rfl rfl rfl (by omega) rfl) ?_)
       rintro _ _ _ ⟨aa, cc, rfl, rfl, rfl⟩
       refine ⟨Suf.h, (fun _ h => h), ?_⟩
       refine th_take rfl rfl (by kernel_rfl)  (opv_indexAddrA rfl rfl (by decide) (by decide)) ?_
       refine th_one (by kernel_rfl) (step_m rfl rfl (opg_store rfl rfl rfl rfl rfl rfl) ?_)
       rintro _ _ _ ⟨rfl, rfl⟩
       refine ⟨Suf.h, (fun _ h => h), ?_⟩
       refine th_done (by kernel_rfl) ?_
       exact tri_cutEnd _ ⟨aa, cc, _, _, _, rfl, rfl, rfl⟩ ⟨rfl, rfl, rfl, rfl, rfl, rfl, trivial⟩
      ·refine (step_m rfl rfl (opg_buildSlice rfl rfl rfl rfl) ?_)
       rintro _ _ _ ⟨b48, rfl, rfl, rfl⟩
       refine ⟨Suf.h, (fun _ h => h), ?_⟩
       refine th_one (by kernel_rfl) (step_m rfl rfl (OpV.toG (opv_load1 rfl rfl rfl)) ?_)
       rintro _ _ _ ⟨rfl, rfl, rfl⟩
       refine ⟨Suf.h, (fun _ h => h), ?_⟩
       refine th_one (by kernel_rfl) (step_m rfl rfl (opg_appendB rfl rfl rfl rfl (by omega) rfl) ?_)
       rintro _ _ _ ⟨aa, cc, rfl, rfl, rfl⟩
       refine ⟨Suf.h, (fun _ h => h), ?_⟩
       refine th_take rfl rfl (by kernel_rfl)  (opv_indexAddrA rfl rfl (by decide) (by decide)) ?_
       refine th_one (by kernel_rfl) (step_m rfl rfl (opg_store rfl rfl rfl rfl rfl rfl) ?_)
       rintro _ _ _ ⟨rfl, rfl⟩
       refine ⟨Suf.h, (fun _ h => h), ?_⟩
       refine th_done (by kernel_rfl) ?_
       exact tri_cutEnd _ ⟨aa, cc, _, _, _, rfl, rfl, rfl⟩ ⟨rfl, rfl, rfl, rfl, rfl, rfl, trivial⟩
     rintro _ _ _ ⟨aa, cc, X, Y, Z, rfl, rfl, rfl⟩
     refine tri_inBlock ?_
     refine tT (tR ?_)
     refine tU rfl rfl (by omega) (by omega) rfl ?_
     refine tM rfl rfl (tN (tT ?_))
     refine tri_drop ?_
     refine tri_perm (A := ?a14_0 :: ?a14_1 :: ?a14_2 :: ?a14_3 :: ?a14_4 :: ?a14_5 :: ?a14_6 :: ?T14) (B := ?a14_2 :: ?a14_3 :: ?a14_0 :: ?a14_1 :: ?a14_4 :: ?a14_5 :: ?a14_6 :: ?T14) (by exact permL [2, 3, 0, 1, 4, 5, 6] [?a14_0, ?a14_1, ?a14_2, ?a14_3, ?a14_4, ?a14_5, ?a14_6] ?T14 (by decide) rfl) ?_
     refine tri_drop (tri_drop ?_)
     refine tri_perm (A := ?a15_0 :: ?a15_1 :: ?a15_2 :: ?a15_3 :: ?a15_4 :: ?T15) (B := ?a15_0 :: ?a15_2 :: ?a15_3 :: ?a15_4 :: ?a15_1 :: ?T15) (by exact permL [0, 2, 3, 4, 1] [?a15_0, ?a15_1, ?a15_2, ?a15_3, ?a15_4] ?T15 (by decide) rfl) ?_
     have hh := hK ⟨i + 1, a0, a1, a2, aa, c0, c1, c2, cc⟩ (by simp only; omega) (by simp only; omega)
     simp only [e0, e1, e2, e3, List.length_append, encs_append] at hh
     refine tri_sub ?_ hh
     exact ⟨rfl, rfl, rfl, rfl, rfl, rfl, trivial⟩
   ·have el : l.take i = l := List.take_of_length_le (by omega)
    rw [el]
    clear hK
    have hl0 := pl 0
    have hl1 := pl 1
    have hl2 := pl 2
    have hl3 := pl 3
    refine tri_exit ?_
    refine tri_then_exit ?_
    refine tri_then_exit ?_
    refine tri_inBlock_hit rfl ?_
    refine tT (tS ?_)
    refine tri_perm (A := ?a16_0 :: ?a16_1 :: ?a16_2 :: ?a16_3 :: ?a16_4 :: ?T16) (B := ?a16_1 :: ?a16_2 :: ?a16_3 :: ?a16_4 :: ?a16_0 :: ?T16) (by exact permL [1, 2, 3, 4, 0] [?a16_0, ?a16_1, ?a16_2, ?a16_3, ?a16_4] ?T16 (by decide) rfl) ?_
    refine tri_freezeRow (α := Cell) rfl fun J0 hJ0 hq0 => ?_
    refine tri_freezeRow (α := Cell) rfl fun J1 hJ1 hq1 => ?_
    refine tri_freezeRow (α := Cell) rfl fun J2 hJ2 hq2 => ?_
    refine tri_freezeRow (α := Cell) rfl fun J3 hJ3 hq3 => ?_
    have hq0 := hq0.mono fun _ h => hJ3 (hJ2 (hJ1 h))
    have hq1 := hq1.mono fun _ h => hJ3 (hJ2 h)
    have hq2 := hq2.mono hJ3
    have I03 : I ⊆ J3 := fun _ h => hJ3 (hJ2 (hJ1 (hJ0 h)))
    refine tR ?_
    refine tri_g opg_alloc rfl ?_
    rintro _ _ _ ⟨b13, rfl, rfl, rfl⟩
    refine tN (tT (tS (tS (tR ?_))))
    refine tri_v (opv_loadA rfl rfl rfl) rfl ?_
    refine tM rfl rfl (tN (tT (tri_block ?_)))
    refine tri_rounds 5 ?_
    refine tri_round ?_
    refine tS (tR ?_)
    refine tri_v (opv_lss rfl rfl) rfl ?_
    refine tN (tT (tS ?_))

    refine tri_cond_is rfl (by decide) ?_
    refine tri_skip (tT (tS (tri_block (tS (tR (tM rfl rfl ?_))))))
    refine tri_v (opv_index rfl rfl (by decide) (by decide) rfl rfl) rfl ?_
    refine tA rfl rfl (tA rfl rfl (tN (tT (tS (tR ?_)))))
    refine tri_v (opv_loadA rfl rfl rfl) rfl ?_
    refine tM rfl rfl (tM rfl rfl ?_)
    refine tri_v (opv_sub rfl rfl (w64 (by omega) (by omega))) rfl ?_
    refine tri_perm (A := ?a17_0 :: ?a17_1 :: ?a17_2 :: ?a17_3 :: ?a17_4 :: ?a17_5 :: ?T17) (B := ?a17_3 :: ?a17_4 :: ?a17_5 :: ?a17_0 :: ?a17_1 :: ?a17_2 :: ?T17) (by exact permL [3, 4, 5, 0, 1, 2] [?a17_0, ?a17_1, ?a17_2, ?a17_3, ?a17_4, ?a17_5] ?T17 (by decide) rfl) ?_
    refine tri_g (opg_call (xs := [_, _, _]) rfl (ih m (by omega) _ _ _ _ _ _ _ _ _ _ _ room _ r0 (by omega) (by omega) hg h2n hix hq0 (by omega) (pb 0) hr0)) rfl ?_
    rintro _ _ _ ⟨K0, ⟨d0, f0, es0, ms0, rfl, rfl, hx0, hg0, hl0', hm0, rfl⟩, hK0⟩
    have hq1 := hq1.mono hK0
    have hq2 := hq2.mono hK0
    have hq3 := hq3.mono hK0
    have I03 : I ⊆ K0 := fun _ h => hK0 (I03 h)
    refine tM rfl rfl ?_
    refine tri_v (opv_extract rfl rfl) rfl ?_
    refine tri_v (opv_extract rfl rfl) rfl ?_
    refine tA rfl rfl (tA rfl rfl (tN (tT (tS (tS (tR (tM rfl rfl ?_)))))))
    refine tri_v (opv_neq rfl rfl) rfl ?_
    refine tN (tT ?_)
    refine tri_cond_dec rfl (fun x0 => ?_) (fun x0 => ?_)
    ·rw [if_pos x0] at hb'
     refine tS (tR (tM rfl rfl (tA rfl rfl (tA rfl rfl (tN (tT (tri_ret ?_)))))))
     refine tri_then_ret ?_
     refine tri_inBlock_ret ?_
     refine tri_then_ret (tri_then_ret ?_)
     refine tri_inBlock_ret ?_
     refine tri_then_ret ?_
     refine tri_perm (A := ?a18_0 :: ?a18_1 :: ?a18_2 :: ?a18_3 :: ?a18_4 :: ?a18_5 :: ?T18) (B := ?a18_3 :: ?a18_4 :: ?a18_5 :: ?a18_0 :: ?a18_1 :: ?a18_2 :: ?T18) (by exact permL [3, 4, 5, 0, 1, 2] [?a18_0, ?a18_1, ?a18_2, ?a18_3, ?a18_4, ?a18_5] ?T18 (by decide) rfl) ?_
     refine tri_end _ (⟨[_, _, _], rfl⟩) rfl (.cons (rv_tmp rfl) (.cons (rv_tmp rfl) .nil)) ⟨_, ⟨d0, f0, es0, ms0, by rw [hb']; rfl, rfl, hx0, hg0, hl0', fun h => absurd h (by rw [hb']; exact x0), rfl⟩, I03⟩
    ·have hm0 := hm0 (Decidable.not_not.1 x0)
     subst hm0
     refine tri_skip (tT (tR (tM rfl rfl (tM rfl rfl ?_))))
     refine tri_v (opv_indexAddrA rfl rfl (by decide) (by decide)) rfl ?_
     refine tri_g (opg_store rfl rfl rfl rfl rfl rfl) rfl ?_
     rintro _ _ _ ⟨rfl, rfl⟩
     refine tN ?_
     refine tri_inBlock ?_
     refine tT (tR ?_)
     refine tU rfl rfl (by omega) (by omega) rfl ?_
     refine tM rfl rfl (tN (tT ?_))
     refine tri_round ?_
     refine tS (tR ?_)
     refine tri_v (opv_lss rfl rfl) rfl ?_
     refine tN (tT (tS ?_))
     refine tri_cond_is rfl (by decide) ?_
     refine tri_skip (tT (tS (tri_block (tS (tR (tM rfl rfl ?_))))))
     refine tri_v (opv_index rfl rfl (by decide) (by decide) rfl rfl) rfl ?_
     refine tA rfl rfl (tA rfl rfl (tN (tT (tS (tR ?_)))))
     refine tri_v (opv_loadA rfl rfl rfl) rfl ?_
     refine tM rfl rfl (tM rfl rfl ?_)
     refine tri_v (opv_sub rfl rfl (w64 (by omega) (by omega))) rfl ?_
     refine tri_g (opg_call (xs := [_, _, _]) rfl (ih m (by omega) _ _ _ _ _ _ _ _ _ _ _ room _ r1 (by omega) (by omega) hg0 hl0' hx0 hq1 (by omega) (pb 1) hr1)) rfl ?_
     rintro _ _ _ ⟨K1, ⟨d1, f1, es1, ms1, rfl, rfl, hx1, hg1, hl1', hm1, rfl⟩, hK1⟩
     have hq2 := hq2.mono hK1
     have hq3 := hq3.mono hK1
     have I03 : I ⊆ K1 := fun _ h => hK1 (I03 h)
     refine tM rfl rfl ?_
     refine tri_v (opv_extract rfl rfl) rfl ?_
     refine tri_v (opv_extract rfl rfl) rfl ?_
     refine tA rfl rfl (tA rfl rfl (tN (tT (tS (tS (tR (tM rfl rfl ?_)))))))
     refine tri_v (opv_neq rfl rfl) rfl ?_
     refine tN (tT ?_)
     refine tri_cond_dec rfl (fun x1 => ?_) (fun x1 => ?_)
     ·rw [if_neg x0, if_pos x1] at hb'
      refine tS (tR (tM rfl rfl (tA rfl rfl (tA rfl rfl (tN (tT (tri_ret ?_)))))))
      refine tri_then_ret ?_
      refine tri_inBlock_ret ?_
      refine tri_then_ret (tri_then_ret ?_)
      refine tri_inBlock_ret ?_
      refine tri_then_ret ?_
      refine tri_perm (A := ?a19_0 :: ?a19_1 :: ?a19_2 :: ?a19_3 :: ?a19_4 :: ?a19_5 :: ?T19) (B := ?a19_3 :: ?a19_4 :: ?a19_5 :: ?a19_0 :: ?a19_1 :: ?a19_2 :: ?T19) (by exact permL [3, 4, 5, 0, 1, 2] [?a19_0, ?a19_1, ?a19_2, ?a19_3, ?a19_4, ?a19_5] ?T19 (by decide) rfl) ?_
      refine tri_end _ (⟨[_, _, _], rfl⟩) rfl (.cons (rv_tmp rfl) (.cons (rv_tmp rfl) .nil)) ⟨_, ⟨d1, f1, es1, ms1, by rw [hb']; rfl, rfl, hx1, hg1, hl1', fun h => absurd h (by rw [hb']; exact x1), rfl⟩, I03⟩
     ·have hm1 := hm1 (Decidable.not_not.1 x1)
      subst hm1
      refine tri_skip (tT (tR (tM rfl rfl (tM rfl rfl ?_))))
      refine tri_v (opv_indexAddrA rfl rfl (by decide) (by decide)) rfl ?_
      refine tri_g (opg_store rfl rfl rfl rfl rfl rfl) rfl ?_
      rintro _ _ _ ⟨rfl, rfl⟩
      refine tN ?_
      refine tri_inBlock ?_
      refine tT (tR ?_)
      refine tU rfl rfl (by omega) (by omega) rfl ?_
      refine tM rfl rfl (tN (tT ?_))
      refine tri_round ?_
      refine tS (tR ?_)
      refine tri_v (opv_lss rfl rfl) rfl ?_
      refine tN (tT (tS ?_))
      refine tri_cond_is rfl (by decide) ?_
      refine tri_skip (tT (tS (tri_block (tS (tR (tM rfl rfl ?_))))))
      refine tri_v (opv_index rfl rfl (by decide) (by decide) rfl rfl) rfl ?_
      refine tA rfl rfl (tA rfl rfl (tN (tT (tS (tR ?_)))))
      refine tri_v (opv_loadA rfl rfl rfl) rfl ?_
      refine tM rfl rfl (tM rfl rfl ?_)
      refine tri_v (opv_sub rfl rfl (w64 (by omega) (by omega))) rfl ?_
      refine tri_g (opg_call (xs := [_, _, _]) rfl (ih m (by omega) _ _ _ _ _ _ _ _ _ _ _ room _ r2 (by omega) (by omega) hg1 hl1' hx1 hq2 (by omega) (pb 2) hr2)) rfl ?_
      rintro _ _ _ ⟨K2, ⟨d2, f2, es2, ms2, rfl, rfl, hx2, hg2, hl2', hm2, rfl⟩, hK2⟩
      have hq3 := hq3.mono hK2
      have I03 : I ⊆ K2 := fun _ h => hK2 (I03 h)
      refine tM rfl rfl ?_
      refine tri_v (opv_extract rfl rfl) rfl ?_
      refine tri_v (opv_extract rfl rfl) rfl ?_
      refine tA rfl rfl (tA rfl rfl (tN (tT (tS (tS (tR (tM rfl rfl ?_)))))))
      refine tri_v (opv_neq rfl rfl) rfl ?_
      refine tN (tT ?_)
      refine tri_cond_dec rfl (fun x2 => ?_) (fun x2 => ?_)
      ·rw [if_neg x0, if_neg x1, if_pos x2] at hb'
       refine tS (tR (tM rfl rfl (tA rfl rfl (tA rfl rfl (tN (tT (tri_ret ?_)))))))
       refine tri_then_ret ?_
       refine tri_inBlock_ret ?_
       refine tri_then_ret (tri_then_ret ?_)
       refine tri_inBlock_ret ?_
       refine tri_then_ret ?_
       refine tri_perm (A := ?a20_0 :: ?a20_1 :: ?a20_2 :: ?a20_3 :: ?a20_4 :: ?a20_5 :: ?T20) (B := ?a20_3 :: ?a20_4 :: ?a20_5 :: ?a20_0 :: ?a20_1 :: ?a20_2 :: ?T20) (by exact permL [3, 4, 5, 0, 1, 2] [?a20_0, ?a20_1, ?a20_2, ?a20_3, ?a20_4, ?a20_5] ?T20 (by decide) rfl) ?_
       refine tri_end _ (⟨[_, _, _], rfl⟩) rfl (.cons (rv_tmp rfl) (.cons (rv_tmp rfl) .nil)) ⟨_, ⟨d2, f2, es2, ms2, by rw [hb']; rfl, rfl, hx2, hg2, hl2', fun h => absurd h (by rw [hb']; exact x2), rfl⟩, I03⟩
      ·have hm2 := hm2 (Decidable.not_not.1 x2)
       subst hm2
       refine tri_skip (tT (tR (tM rfl rfl (tM rfl rfl ?_))))
       refine tri_v (opv_indexAddrA rfl rfl (by decide) (by decide)) rfl ?_
       refine tri_g (opg_store rfl rfl rfl rfl rfl rfl) rfl ?_
       rintro _ _ _ ⟨rfl, rfl⟩
       refine tN ?_
       refine tri_inBlock ?_
       refine tT (tR ?_)
       refine tU rfl rfl (by omega) (by omega) rfl ?_
       refine tM rfl rfl (tN (tT ?_))
       refine tri_round ?_
       refine tS (tR ?_)
       refine tri_v (opv_lss rfl rfl) rfl ?_
       refine tN (tT (tS ?_))
       refine tri_cond_is rfl (by decide) ?_
       refine tri_skip (tT (tS (tri_block (tS (tR (tM rfl rfl ?_))))))
       refine tri_v (opv_index rfl rfl (by decide) (by decide) rfl rfl) rfl ?_
       refine tA rfl rfl (tA rfl rfl (tN (tT (tS (tR ?_)))))
       refine tri_v (opv_loadA rfl rfl rfl) rfl ?_
       refine tM rfl rfl (tM rfl rfl ?_)
       refine tri_v (opv_sub rfl rfl (w64 (by omega) (by omega))) rfl ?_
       refine tri_g (opg_call (xs := [_, _, _]) rfl (ih m (by omega) _ _ _ _ _ _ _ _ _ _ _ room _ r3 (by omega) (by omega) hg2 hl2' hx2 hq3 (by omega) (pb 3) hr3)) rfl ?_
       rintro _ _ _ ⟨K3, ⟨d3, f3, es3, ms3, rfl, rfl, hx3, hg3, hl3', hm3, rfl⟩, hK3⟩
       have I03 : I ⊆ K3 := fun _ h => hK3 (I03 h)
       refine tM rfl rfl ?_
       refine tri_v (opv_extract rfl rfl) rfl ?_
       refine tri_v (opv_extract rfl rfl) rfl ?_
       refine tA rfl rfl (tA rfl rfl (tN (tT (tS (tS (tR (tM rfl rfl ?_)))))))
       refine tri_v (opv_neq rfl rfl) rfl ?_
       refine tN (tT ?_)
       refine tri_cond_dec rfl (fun x3 => ?_) (fun x3 => ?_)
       ·rw [if_neg x0, if_neg x1, if_neg x2, if_pos x3] at hb'
        refine tS (tR (tM rfl rfl (tA rfl rfl (tA rfl rfl (tN (tT (tri_ret ?_)))))))
        refine tri_then_ret ?_
        refine tri_inBlock_ret ?_
        refine tri_then_ret (tri_then_ret ?_)
        refine tri_inBlock_ret ?_
        refine tri_then_ret ?_
        refine tri_perm (A := ?a21_0 :: ?a21_1 :: ?a21_2 :: ?a21_3 :: ?a21_4 :: ?a21_5 :: ?T21) (B := ?a21_3 :: ?a21_4 :: ?a21_5 :: ?a21_0 :: ?a21_1 :: ?a21_2 :: ?T21) (by exact permL [3, 4, 5, 0, 1, 2] [?a21_0, ?a21_1, ?a21_2, ?a21_3, ?a21_4, ?a21_5] ?T21 (by decide) rfl) ?_
        refine tri_end _ (⟨[_, _, _], rfl⟩) rfl (.cons (rv_tmp rfl) (.cons (rv_tmp rfl) .nil)) ⟨_, ⟨d3, f3, es3, ms3, by rw [hb']; rfl, rfl, hx3, hg3, hl3', fun h => absurd h (by rw [hb']; exact x3), rfl⟩, I03⟩
       ·have hm3 := hm3 (Decidable.not_not.1 x3)
        subst hm3
        refine tri_skip (tT (tR (tM rfl rfl (tM rfl rfl ?_))))
        refine tri_v (opv_indexAddrA rfl rfl (by decide) (by decide)) rfl ?_
        refine tri_g (opg_store rfl rfl rfl rfl rfl rfl) rfl ?_
        rintro _ _ _ ⟨rfl, rfl⟩
        refine tN ?_
        refine tri_inBlock ?_
        refine tT (tR ?_)
        refine tU rfl rfl (by omega) (by omega) rfl ?_
        refine tM rfl rfl (tN (tT ?_))
        refine tri_round ?_
        refine tS (tR ?_)
        refine tri_v (opv_lss rfl rfl) rfl ?_
        refine tN (tT (tS ?_))
        rw [if_neg x0, if_neg x1, if_neg x2, if_neg x3] at hb'
        refine tri_cond_not rfl (by decide) ?_
        refine tri_exit ?_
        refine tri_then_exit ?_
        refine tri_then_exit ?_
        refine tri_inBlock_hit rfl ?_
        refine tT (tS (tR ?_))
        refine tri_v (opv_fieldAddr rfl rfl) rfl ?_
        refine tri_v (opv_load1 rfl rfl rfl) rfl ?_
        refine tri_v (opv_loadA rfl rfl rfl) rfl ?_
        refine tri_g (opg_call (xs := [_, _]) rfl (node_putR hg3 hl3' hx3 rfl)) rfl ?_
        rintro _ _ _ ⟨d4, f4, es4, rfl, rfl, hx4, rfl⟩
        refine tri_v (opv_extract rfl rfl) rfl ?_
        refine tri_v (opv_extract rfl rfl) rfl ?_
        refine tA rfl rfl (tA rfl rfl (tN (tT (tri_ret ?_))))
        refine tri_perm (A := ?a22_0 :: ?a22_1 :: ?a22_2 :: ?a22_3 :: ?a22_4 :: ?a22_5 :: ?T22) (B := ?a22_3 :: ?a22_4 :: ?a22_5 :: ?a22_0 :: ?a22_1 :: ?a22_2 :: ?T22) (by exact permL [3, 4, 5, 0, 1, 2] [?a22_0, ?a22_1, ?a22_2, ?a22_3, ?a22_4, ?a22_5] ?T22 (by decide) rfl) ?_
        refine tri_end _ (⟨[_, _, _], rfl⟩) rfl (.cons (rv_tmp rfl) (.cons (rv_tmp rfl) .nil)) ⟨_, ⟨d4, f4, es4, _, by rw [hb']; rfl, rfl, hx4, hg3.put _ _ _ _, R6.put_len hl3', fun _ => by rw [hb'], rfl⟩, I03⟩
theorem square_build (lv : Nat) : BuildQ lv := by
 induction lv using Nat.strongRecOn with
 | ind lv ih => exact square_build_step lv ih
end Go.GL


set_option linter.unusedVariables false
namespace Go.GL
/-! ### A sorted list without what stands twice -/
namespace R1
def cmpI (x y : Int) : Int := if x < y then -1 else if y < x then 1 else 0
def cmpC (a b : Cell) : Int := if cmpI a.y b.y ≠ 0 then cmpI a.y b.y else cmpI a.x b.x
theorem cmpC_lt {a b : Cell} : cmpC a b < 0 ↔ less a b := by
 unfold cmpC cmpI less
 rcases Int.lt_trichotomy a.y b.y with h | h | h
 ·rw [if_pos h]
  simp [h]
 ·rw [if_neg (show ¬ a.y < b.y by omega), if_neg (show ¬ b.y < a.y by omega)]
  by_cases h2 : a.x < b.x
  ·simp [h, h2]
  ·by_cases h3 : b.x < a.x
   ·simp [h, h2, h3]
   ·simp [h, h2, h3]
 ·rw [if_neg (show ¬ a.y < b.y by omega), if_pos h]
  simp
  omega
theorem cmpC_ge {a b : Cell} : 0 ≤ cmpC a b ↔ ¬ less a b := by
 rw [← cmpC_lt]
 omega
def compact : List Cell → List Cell
 | [] => []
 | [a] => [a]
 | a :: b :: l => if a = b then compact (b :: l) else a :: compact (b :: l)
theorem compact_snoc (a b : Cell) : ∀ l : List Cell, compact (l ++ [a, b]) = if a = b then compact (l ++ [a]) else compact (l ++ [a]) ++ [b]
 | [] => by
  show (if a = b then [b] else [a, b]) = if a = b then [a] else [a] ++ [b]
  by_cases h : a = b
  ·rw [if_pos h, if_pos h, h]
  ·rw [if_neg h, if_neg h]; rfl
 | [c] => by
  show (if c = a then compact [a, b] else c :: compact [a, b]) = if a = b then (if c = a then [a] else [c, a]) else (if c = a then [a] else [c, a]) ++ [b]
  have e : compact [a, b] = if a = b then [b] else [a, b] := rfl
  rw [e]
  by_cases h : a = b
  ·subst h
   simp
  ·rw [if_neg h, if_neg h]
   by_cases h2 : c = a
   ·rw [if_pos h2, if_pos h2]; rfl
   ·rw [if_neg h2, if_neg h2]; rfl
 | c :: d :: l => by
  have ih := compact_snoc a b (d :: l)
  show (if c = d then compact ((d :: l) ++ [a, b]) else c :: compact ((d :: l) ++ [a, b])) = if a = b then (if c = d then compact ((d :: l) ++ [a]) else c :: compact ((d :: l) ++ [a])) else (if c = d then compact ((d :: l) ++ [a]) else c :: compact ((d :: l) ++ [a])) ++ [b]
  rw [ih]
  by_cases h : a = b
  ·rw [if_pos h, if_pos h]
  ·rw [if_neg h, if_neg h]
   by_cases h2 : c = d
   ·rw [if_pos h2, if_pos h2]
   ·rw [if_neg h2, if_neg h2]; rfl
theorem compact_take (l : List Cell) (i : Nat) (h0 : 0 < i) (hi : i < l.length) : compact (l.take (i + 1)) = if g l (i - 1) = g l i then compact (l.take i) else compact (l.take i) ++ [g l i] := by
 obtain ⟨j, rfl⟩ : ∃ j, i = j + 1 := ⟨i - 1, by omega⟩
 have hj : j < l.length := by omega
 have e1 : l.take (j + 1 + 1) = l.take j ++ [g l j, g l (j + 1)] := by
  have a1 : g l j = l[j] := by simp [g, hj]
  have a2 : g l (j + 1) = l[j + 1] := by simp [g, hi]
  rw [List.take_succ_eq_append_getElem hi, List.take_succ_eq_append_getElem hj, a1, a2, List.append_assoc]
  rfl
 have e2 : l.take (j + 1) = l.take j ++ [g l j] := by
  rw [List.take_succ_eq_append_getElem hj]
  simp [g, hj]
 rw [e1, e2, compact_snoc]
 rfl
theorem compact_ok : ∀ {l : List Cell}, l.Pairwise (fun a b => ¬ less b a) → Srt (compact l) ∧ ∀ d, d ∈ compact l ↔ d ∈ l
 | [], _ => ⟨.nil, fun _ => Iff.rfl⟩
 | [a], _ => ⟨List.pairwise_singleton _ _, fun _ => Iff.rfl⟩
 | a :: b :: l, h => by
  obtain ⟨h1, h2⟩ := List.pairwise_cons.1 h
  obtain ⟨i1, i2⟩ := compact_ok h2
  show Srt (if a = b then compact (b :: l) else a :: compact (b :: l)) ∧ ∀ d, d ∈ (if a = b then compact (b :: l) else a :: compact (b :: l)) ↔ d ∈ a :: b :: l
  by_cases e : a = b
  ·rw [if_pos e]
   refine ⟨i1, fun d => ?_⟩
   rw [i2, e]
   simp
  ·rw [if_neg e]
   refine ⟨List.pairwise_cons.2 ⟨fun d hd => ?_, i1⟩, fun d => ?_⟩
   ·have hd' := (i2 d).1 hd
    have hab : less a b := (less_total e).resolve_right (h1 b List.mem_cons_self)
    rcases List.mem_cons.1 hd' with rfl | hd''
    ·exact hab
    ·have hbd : ¬ less d b := (List.pairwise_cons.1 h2).1 d hd''
     by_cases e2 : b = d
     ·rw [← e2]; exact hab
     ·exact less_trans hab ((less_total e2).resolve_right hbd)
   ·rw [List.mem_cons, i2]
    simp only [List.mem_cons]
/-- What 'Of' makes of a list: it is sorted, and what stands twice is struck. -/
theorem compact_sort {l m : List Cell} (hp : m.Perm l) (hs : m.Pairwise (fun a b => ¬ less b a)) : compact m = puts l := by
 obtain ⟨h1, h2⟩ := compact_ok hs
 exact srt_ext h1 (puts_srt l) fun d => by rw [h2, mem_puts, hp.mem_iff]
theorem inB_iff {l : List Cell} : (∀ i, i < l.length → inB (g l i)) ↔ ∀ d ∈ l, inB d := by
 constructor
 ·intro h d hd
  obtain ⟨i, hi, rfl⟩ := List.getElem_of_mem hd
  have := h i hi
  simpa [g, hi] using this
 ·intro h i hi
  have e : g l i = l[i] := by simp [g, hi]
  rw [e]; exact h _ (List.getElem_mem hi)
end R1
end Go.GL


set_option linter.unusedVariables false
namespace Go.GL
open Enc (enc)
/-! ### An element of a row is written -/
theorem encs_splice {α : Type} [Enc α] [Inhabited α] {vs : List Value} {x' : α} {fo : Nat} : ∀ {xs : List α} {i : Nat}, i < xs.length → spl (enc (xs.getD i default)) fo vs = some (enc x') →
  (encs xs).take (i * Enc.sz α + fo) ++ vs ++ (encs xs).drop (i * Enc.sz α + fo + vs.length) = encs (xs.set i x')
 | [], i, hi, h => absurd hi (by simp)
 | x :: xs, 0, hi, h => by
  obtain ⟨h1, h2⟩ := spl_spec h
  simp only [List.getD_cons_zero] at h1 h2
  rw [Nat.zero_mul, Nat.zero_add, encs_cons, List.set_cons_zero, encs_cons, h2, List.take_append_of_le_length (by omega), List.drop_append_of_le_length (by omega)]
  simp
 | x :: xs, i + 1, hi, h => by
  have ih := encs_splice (xs := xs) (i := i) (by simpa using hi) (by simpa using h)
  have hl : (enc x).length = Enc.sz α := Enc.hlen x
  have e : (i + 1) * Enc.sz α + fo = (enc x).length + (i * Enc.sz α + fo) := by rw [hl, Nat.succ_mul]; omega
  rw [encs_cons, List.set_cons_succ, encs_cons, e, List.take_length_add_append, Nat.add_assoc, List.drop_length_add_append, ← ih]
  simp
section
variable {w0 : World} {n : Nat} {F : Frm} {A : List Asrt} {I : List Chunk} {P : Program}
variable {dst : Option Tmp} {ty : TypeId} {pos : String} {af : Array Edge} {gd : Option (Nat × Bool)} {x y : Operand} {t E : TypeId} {d : TypeDesc} {s by_ : Nat} {z : List Value} {a : Option Addr} {len cap : Nat}
/-- Into an element, or a part of it. -/
theorem opg_storeRX {α : Type} [Enc α] [Inhabited α] {xs : List α} (x' : α) {i fo sz : Nat} {v : Value} {vs : List Value} {u : Asrt → List Asrt} [SelR A a cap len E sz (encs xs) u] [TyI P t d s by_ z] (hx : ev F x = some (epf a sz i fo)) (hy : ev F y = some v) (hz : Enc.sz α = sz) (hi : i < xs.length) (hl : len = xs.length)
  (hv : v.cells = vs.toArray) (hls : vs.length = s) (h0 : Nat.blt 0 s = true) (h : spl (enc (xs.getD i default)) fo vs = some (enc x')) :
  OpG P w0 n ⟨dst, .store t x y, ty, pos, af, gd⟩ F A I (fun _ A' I' => A' = u (Row a cap len E sz (encs (xs.set i x'))) ∧ I = I') := by
 have hspec := spl_spec h
 have hel : (enc (xs.getD i default)).length = Enc.sz α := Enc.hlen _
 have h1 : vs.all (·.oneCell') = true := by
  have := Enc.one x'
  rw [hspec.2] at this
  simp only [List.all_append, Bool.and_eq_true] at this
  exact this.1.2
 refine (opg_storeR (a := a) hx hy hv hls h1 h0 (by omega) (by omega)).mono fun v' A' I' ⟨e1, e2⟩ => ⟨?_, e2⟩
 rw [e1]
 congr 2
 rw [← hz, ← hls, encs_splice hi h]
/-- Where a slice begins that leaves out the first l. -/
def loA (a : Option Addr) (cap l s : Nat) : Option Addr := if cap = l then a else a.map fun q => q.add (l * s)
theorem StA.lo {α : Type} [Enc α] {xs : List α} (hs : StA I a cap xs) {l s : Nat} (h1 : l ≤ xs.length) (hz : Enc.sz α = s) : StA I (loA a cap l s) (cap - l) (xs.drop l) := by
 have hle := hs.le
 have hlen : (xs.drop l).length = xs.length - l := by rw [List.length_drop]
 refine ⟨?_, by rw [hlen]; omega⟩
 unfold loA
 split
 ·left
  exact List.drop_of_length_le (by omega)
 ·rcases hs.sl with rfl | ⟨b, off, rfl, cs, T, fz, hm, hc⟩
  ·exact .inl (by simp)
  ·refine .inr ⟨b, off + l * s, by simp [add_pt], cs, T, fz, hm, fun j v hj => ?_⟩
   rw [encs_drop xs (by omega), hz] at hj
   rw [Nat.add_assoc]
   exact hc _ _ hj
/-- A slice that is nil has no elements. -/
theorem tri_rowSome {α : Type} [Enc α] {xs : List α} {K : Act → World → Prop} (hz : Nat.beq (Enc.sz α) 0 = false) (h : (a = none → xs = []) → Tri w0 n F (Row a cap len E (Enc.sz α) (encs xs) :: A) I K) : Tri w0 n F (Row a cap len E (Enc.sz α) (encs xs) :: A) I K := by
 intro t w hf hs
 have h2 := hs
 obtain ⟨cs, h1, _⟩ := hs
 obtain ⟨c, cs', rfl, ⟨hl, ha⟩, hr⟩ := h1.cons_inv
 refine h (fun e => ?_) t w hf h2
 rcases ha with ⟨_, _, h3, _⟩ | ⟨b, cur, h3, _⟩
 ·rw [encs_length, h3, Nat.zero_mul] at hl
  rcases Nat.mul_eq_zero.1 hl with h4 | h4
  ·exact List.length_eq_zero_iff.1 h4
  ·rw [h4] at hz; cases hz
 ·rw [e] at h3; cases h3
end
end Go.GL


set_option linter.unusedVariables false
namespace Go.GL
section
variable {w0 : World} {n : Nat} {F : Frm} {A : List Asrt} {I : List Chunk} {P : Program}
variable {dst : Option Tmp} {ty : TypeId} {pos : String} {af : Array Edge} {gd : Option (Nat × Bool)} {x y : Operand} {t e E : TypeId} {d d' : TypeDesc} {s by_ s' by' : Nat} {z z' : List Value} {a a2 : Option Addr} {len cap m cap2 : Nat}
theorem opv_sliceLoN {lo : Operand} {k : IntKind} {l : Int} {e : TypeId} [TyI P t (.slice e) s by_ z] [TyI P e d' s' by' z'] (hx : ev F x = some (.slice a len cap)) (hh : ev F lo = some (.int k l)) (h0 : 0 ≤ l) (h1 : l ≤ len) :
  OpV P w0 n ⟨dst, .slice t x (some lo) none none, ty, pos, af, gd⟩ F A I (.slice (loA a cap l.toNat s') (len - l.toNat) (cap - l.toNat)) := by
 intro tt w hf hst
 simp [execOp, hf.eval hx, hf.eval hh, Instr.sliceAt, Instr.slice, run_und (P := P) (t := t), Instr.sliceBounds, Instr.sliceBound, asIntOf, h0, h1, run_size (P := P) (t := e), loA]
theorem opv_sliceHiN {hi : Operand} {k : IntKind} {h : Int} {e : TypeId} {b off : Nat} [TyI P t (.slice e) s by_ z] [TyI P e d' s' by' z'] (hx : ev F x = some (.slice (some ⟨b, off, none⟩) len cap)) (hh : ev F hi = some (.int k h)) (h0 : 0 ≤ h) (h1 : h ≤ cap) :
  OpV P w0 n ⟨dst, .slice t x none (some hi) none, ty, pos, af, gd⟩ F A I (.slice (some ⟨b, off, none⟩) h.toNat cap) := by
 intro tt w hf hst
 have ha : (if cap = 0 then some (⟨b, off, none⟩ : Addr) else some ((⟨b, off, none⟩ : Addr).add (0 * s'))) = some ⟨b, off, none⟩ := by
  split
  ·rfl
  ·simp [add_pt]
 simp [execOp, hf.eval hx, hf.eval hh, Instr.sliceAt, Instr.slice, run_und (P := P) (t := t), Instr.sliceBounds, Instr.sliceBound, asIntOf, h0, h1, run_size (P := P) (t := e)]
 simpa using ha
theorem tri_rowPt {sz : Nat} {cells : List Value} {K : Act → World → Prop} (ha : a ≠ none) (h : ∀ b, a = some ⟨b, 0, none⟩ → Tri w0 n F (Row a cap len E sz cells :: A) I K) : Tri w0 n F (Row a cap len E sz cells :: A) I K := by
 intro t w hf hs
 have h2 := hs
 obtain ⟨cs, h1, _⟩ := hs
 obtain ⟨c, cs', rfl, ⟨hl, ⟨e, _⟩ | ⟨b, cur, e, _⟩⟩, hr⟩ := h1.cons_inv
 ·exact absurd e ha
 ·exact h b e t w hf h2
/-- 'make' of elements of more cells. -/
theorem opg_makeSliceN {k k2 : IntKind} {m : Nat} {e : TypeId} [TyI P t (.slice e) s by_ z] [TyI P e d' s' by' z'] (hs0 : Nat.blt 0 s' = true) (hx : ev F x = some (.int k (m : Int))) (hy : ev F y = some (.int k2 (m : Int))) (h1 : m ≤ 1000000000) (hb : (by' : Int) * (m : Int) ≤ 281474976710656) :
  OpG P w0 n ⟨dst, .makeSlice t x y, ty, pos, af, gd⟩ F A I (fun v A' I' => ∃ a, a ≠ none ∧ v = .slice a m m ∧ A' = Row a m m e s' (reps m z') :: A ∧ I = I') := by
 refine opg_run fun tt w hf hst => ?_
 have hs0' : 0 < s' := Nat.le_of_ble_eq_true hs0
 obtain ⟨inf, hinf, hby⟩ := run_bytes (P := P) (t := e) w
 obtain ⟨zv, hzv, hzc⟩ := run_zero (P := P) (t := e) w
 have hm : IntKind.i64.wrap (m : Int) = m := w64 (by omega) (by omega)
 have hzl : z'.length = s' := Nat.eq_of_beq_eq_true (by simpa using TyI.zl (P := P) (t := e))
 have hzsz : zv.cells.size = s' := by rw [← hzl, ← hzc]; simp
 have hcells : ((Array.range (m * s')).map (fun j => zv.cells[j % zv.cells.size]!)) = (reps m z').toArray := by
  apply Array.ext'
  simp only [Array.toList_map, Array.toList_range]
  apply List.ext_getElem?
  intro j
  by_cases hj : j < m * s'
  ·rw [List.getElem?_map, List.getElem?_range hj, reps_get z' (by omega) m j (by rw [hzl]; exact hj)]
   have hmd : j % s' < s' := Nat.mod_lt _ hs0'
   rw [Option.map_some, hzsz, hzl, ← hzc, Array.getElem?_toList, getElem!_pos zv.cells (j % s') (by omega), Array.getElem?_eq_getElem (by omega)]
  ·rw [List.getElem?_eq_none (by simp; omega), List.getElem?_eq_none (by rw [reps_length, hzl]; omega)]
 have hrl : (reps m z').length = m * s' := by rw [reps_length, hzl]
 refine ⟨.slice (some ⟨w.heap.size, 0, none⟩) m m, w.alloc (.cells (reps m z').toArray e), _, I, ?_, ⟨_, by simp, rfl, rfl, rfl⟩, ?_⟩
 ·have hbb : ¬ (281474976710656 < (by' : Int) * (m : Int)) := by omega
  by_cases hm0 : m = 0
  ·subst hm0
   have hr0 : reps 0 z' = [] := rfl
   rw [hr0]
   simp [execOp, Instr.makeSlice, hf.eval hx, hf.eval hy, run_und (P := P) (t := t), asInt, asIntOf, hinf, hby, run_size (P := P) (t := e), newRow, Array.range_zero', show IntKind.i64.wrap 0 = 0 from rfl]
  ·have hms : m * s' ≠ 0 := by
    have := Nat.mul_pos (Nat.pos_of_ne_zero hm0) hs0'
    omega
   have hs00 : s' ≠ 0 := by omega
   simp [execOp, Instr.makeSlice, hf.eval hx, hf.eval hy, run_und (P := P) (t := t), asInt, asIntOf, hinf, hby, run_size (P := P) (t := e), newRow, hm, hm0, hs00, hzv, hbb, show ¬ ((m : Int) < 0) by omega]
   have hc2 : Array.map (fun x => zv.cells[x % zv.cells.size]!) (Array.range (m * s')) = (reps m z').toArray := hcells
   rw [hc2, if_neg hms]
 ·exact (hst.alloc (.cells (reps m z').toArray e)).weaken (by
   rintro c rfl
   exact ⟨hrl, .inr ⟨_, _, rfl, rfl, by simpa using hrl, Nat.le_refl _, by simp [← hrl]⟩⟩)
/-! #### many things held as one -/
def Stars (L : List Asrt) : Asrt := fun c => Seps L c
theorem opv_indexAddrSP {ix : Operand} {e : TypeId} {k : IntKind} {i : Int} {b off : Nat} [TyI P t (.slice e) s by_ z] [TyI P e d' s' by' z'] (hx : ev F x = some (.slice (some ⟨b, off, none⟩) len cap)) (hi : ev F ix = some (.int k i)) (h0 : 0 ≤ i) (h1 : i < len) :
  OpV P w0 n ⟨dst, .indexAddr t x ix, ty, pos, af, gd⟩ F A I (epf (some ⟨b, off, none⟩) s' i.toNat 0) := by
 intro tt w hf hst
 simp [execOp, hf.eval hx, hf.eval hi, Instr.indexAt, asIntOf, run_und (P := P) (t := t), h0, h1, run_size (P := P) (t := e), add_pt, epf]
end
section
variable {w0 : World} {n : Nat} {F : Frm} {A : List Asrt} {I : List Chunk} {P : Program} {dst : Option Tmp} {ty t : TypeId} {pos : String} {af : Array Edge} {gd : Option (Nat × Bool)} {x y : Operand} {xt yt : TypeId} {a b : Nat}
end
section
variable {w0 : World} {n : Nat} {F : Frm} {A : List Asrt} {I : List Chunk} {P : Program} {Q : Exit → Act → World → Prop} {ops : Array Oper}
def AllSteps (P : Program) (w0 : World) (n : Nat) (ops : Array Oper) (Q : Exit → Act → World → Prop) (B : List Asrt) (J : List Chunk) (listed : Array Bool) (F : Frm) (A : List Asrt) (I : List Chunk) : List (Nat × List Nat) → Prop
 | [] => True
 | x :: xs => Step P w0 n ops Q B J x.1 x.2 listed F A I ∧ AllSteps P w0 n ops Q B J listed F A I xs
theorem AllSteps.get {B : List Asrt} {J : List Chunk} {listed : Array Bool} : ∀ {l : List (Nat × List Nat)}, AllSteps P w0 n ops Q B J listed F A I l → ∀ x ∈ l, Step P w0 n ops Q B J x.1 x.2 listed F A I
 | [], _, x, hx => by simp at hx
 | y :: l, h, x, hx => by
  rcases List.mem_cons.1 hx with rfl | hx
  ·exact h.1
  ·exact AllSteps.get h.2 x hx
end
end Go.GL


set_option linter.unusedVariables false
namespace Go.GL
open Go.Proofs
attribute [local irreducible] wpList Code.wp Exit.then Exit.inBlock Ends Tri TriH OpV OpG FnC epf wpAnyH
variable {A : List Asrt} {I : List Chunk}
set_option maxRecDepth 100000 in
theorem cells_in {c : Cell} : FnC Try.prog 71 [cellV c].toArray A I (fun v A' I' => v = .bool (decide (R1.inB c)) ∧ A = A' ∧ I = I') := by
 refine fn_enter1 Try.func71 rfl Try.ntmps71 rfl fun w0 => ?_
 refine tS (tR ?_)
 refine tri_g (opg_box_agg rfl) rfl ?_
 rintro _ _ _ ⟨b, rfl, rfl, rfl⟩
 refine tA rfl rfl (tN (tT (tS (tR ?_))))
 refine tri_v (opv_fieldAddr rfl rfl) rfl ?_
 refine tri_v (opv_load1 rfl rfl rfl) rfl ?_
 refine tri_v (opv_fieldAddr rfl rfl) rfl ?_
 refine tri_v (opv_load1 rfl rfl rfl) rfl ?_
 refine tri_v (opv_max2 rfl rfl) rfl ?_
 refine tri_v (opv_leq rfl rfl) rfl ?_
 refine tM rfl rfl ?_
 refine tri_split rfl rfl (fun h1 => ?_) (fun h1 => ?_)
 ·refine tri_guard_run rfl rfl rfl ?_
  refine tri_v (opv_fieldAddr rfl rfl) rfl ?_
  refine tri_guard_run rfl rfl rfl ?_
  refine tri_v (opv_load1 rfl rfl rfl) rfl ?_
  refine tri_guard_run rfl rfl rfl ?_
  refine tri_v (opv_fieldAddr rfl rfl) rfl ?_
  refine tri_guard_run rfl rfl rfl ?_
  refine tri_v (opv_load1 rfl rfl rfl) rfl ?_
  refine tri_guard_run rfl rfl rfl ?_
  refine tri_v (opv_min2 rfl rfl) rfl ?_
  refine tri_guard_run rfl rfl rfl ?_
  refine tri_v (opv_geq rfl rfl) rfl ?_
  refine tri_v (opv_pick_t rfl rfl) rfl ?_
  refine tA rfl rfl (tN (tT (tri_ret ?_)))
  refine tri_end A Suf.h rfl (.cons (rv_tmp rfl) .nil) ⟨congrArg Value.bool (decide_eq_decide.2 ?_), rfl, rfl⟩
  unfold R1.inB
  omega
 ·refine tri_guard_skip rfl rfl rfl rfl (tri_guard_skip rfl rfl rfl rfl (tri_guard_skip rfl rfl rfl rfl (tri_guard_skip rfl rfl rfl rfl (tri_guard_skip rfl rfl rfl rfl (tri_guard_skip rfl rfl rfl rfl ?_)))))
  refine tri_v (opv_pick_f rfl rfl) rfl ?_
  refine tA rfl rfl (tN (tT (tri_ret ?_)))
  refine tri_end A Suf.h rfl (.cons (rv_tmp rfl) .nil) ⟨congrArg Value.bool (decide_eq_false fun h => ?_).symm, rfl, rfl⟩
  unfold R1.inB at h
  omega
theorem cmp_isNaN {x : Int} : FnC Try.prog 95 [.int .i64 x].toArray A I (fun v A' I' => v = .bool (decide (x ≠ x)) ∧ A = A' ∧ I = I') := by
 refine fn_enter1 Try.func95 rfl Try.ntmps95 rfl fun w0 => ?_
 refine tS (tR (tA rfl rfl (tN (tT (tS (tR (tM rfl rfl ?_)))))))
 refine tM rfl rfl ?_
 refine tri_v (opv_neq rfl rfl) rfl ?_
 refine tA rfl rfl (tN (tT (tri_ret ?_)))
 refine tri_end A Suf.h rfl (.cons (rv_tmp rfl) .nil) ⟨rfl, rfl, rfl⟩
theorem cmp_compare {x y : Int} : FnC Try.prog 90 [.int .i64 x, .int .i64 y].toArray A I (fun v A' I' => v = .int .i64 (R1.cmpI x y) ∧ A = A' ∧ I = I') := by
 refine fn_enter2 Try.func90 rfl Try.ntmps90 rfl fun w0 => ?_
 refine tS (tR (tA rfl rfl (tN (tT (tS (tR (tM rfl rfl ?_)))))))
 refine tri_g (opg_call (xs := [_]) rfl (cmp_isNaN)) rfl ?_
 rintro _ _ _ ⟨rfl, rfl, rfl⟩
 refine tA rfl rfl (tN (tT (tS (tR (tM rfl rfl ?_)))))
 refine tri_g (opg_call (xs := [_]) rfl (cmp_isNaN)) rfl ?_
 rintro _ _ _ ⟨rfl, rfl, rfl⟩
 refine tA rfl rfl (tN (tT (tS (tS (tR (tM rfl rfl (tN ?_)))))))
 refine tT ?_
 refine tri_cond_not rfl (fun h => h rfl) ?_
 refine tri_skip (tT (tS (tS (tR (tM rfl rfl (tN (tT ?_)))))))
 refine tri_cond_not rfl (fun h => h rfl) ?_
 refine tri_skip (tT (tS (tS (tR (tM rfl rfl (tM rfl rfl ?_))))))
 refine tri_v (opv_lss rfl rfl) rfl ?_
 refine tN (tT ?_)
 refine tri_cond_dec rfl (fun h1 => ?_) (fun h1 => ?_)
 ·refine tS (tR (tA rfl rfl (tN (tT (tri_ret (tri_then_ret ?_))))))
  refine tri_end A Suf.h rfl (.cons (rv_tmp rfl) .nil) ⟨?_, rfl, rfl⟩
  unfold R1.cmpI
  rw [if_pos h1]
  rfl
 ·refine tri_skip (tT (tS (tS (tR (tM rfl rfl (tM rfl rfl ?_))))))
  refine tri_v (opv_gtr rfl rfl) rfl ?_
  refine tN (tT ?_)
  refine tri_cond_dec rfl (fun h2 => ?_) (fun h2 => ?_)
  ·refine tS (tR (tA rfl rfl (tN (tT (tri_ret (tri_then_ret ?_))))))
   refine tri_end A Suf.h rfl (.cons (rv_tmp rfl) .nil) ⟨?_, rfl, rfl⟩
   unfold R1.cmpI
   rw [if_neg h1, if_pos (by omega)]
   rfl
  ·refine tri_skip (tT (tS (tR (tA rfl rfl (tN (tT (tri_ret ?_)))))))
   refine tri_end A Suf.h rfl (.cons (rv_tmp rfl) .nil) ⟨?_, rfl, rfl⟩
   unfold R1.cmpI
   rw [if_neg h1, if_neg (by omega)]
   rfl
set_option maxRecDepth 100000 in
theorem cmp_or2 {u v : Int} {b : Nat} {T : TypeId} : FnC Try.prog 89 [.slice (some ⟨b, 0, none⟩) 2 2].toArray (Box b [.int .i64 u, .int .i64 v] T :: A) I (fun r A' I' => r = .int .i64 (if u ≠ 0 then u else v) ∧ A = A' ∧ I ⊆ I') := by
 skip
 refine fn_enter1 Try.func89 rfl Try.ntmps89 rfl fun w0 => ?_
 refine tri_freezeBoxS [u, v] rfl fun J hJ hs => ?_
 skip
 refine tS (tR (tA rfl rfl (tN (tT (tS (tR (tA rfl rfl ?_)))))))
 refine tN (tT (tS (tS (tR (tM rfl rfl ?_)))))
 refine tri_v (opv_len rfl) rfl ?_
 refine tM rfl rfl (tN (tT (tri_block ?_)))
 refine tri_rounds 3 ?_
 refine tri_round ?_
 refine tS (tR ?_)
 refine tri_v (opv_lss rfl rfl) rfl ?_
 refine tN (tT (tS ?_))
 refine tri_cond_is rfl (by decide) ?_
 refine tri_skip (tT (tS (tri_block (tS (tR ?_)))))
 refine tri_v (opv_indexAddrS rfl rfl (by omega) (by omega) (by assumption) rfl) rfl ?_
 refine tri_v (opv_loadE1 rfl hs rfl (show (0 : Nat) < 2 by decide) rfl rfl) rfl ?_
 refine tA rfl rfl (tN (tT (tS (tR (tM rfl rfl (tM rfl rfl ?_))))))
 refine tri_v (opv_neq rfl rfl) rfl ?_
 refine tN (tT ?_)
 refine tri_cond_dec rfl (fun h1 => ?_) (fun h1 => ?_)
 ·have h1 : u ≠ 0 := h1
  refine tS (tR (tM rfl rfl (tA rfl rfl (tN (tT (tri_ret ?_))))))
  refine tri_inBlock_ret ?_
  refine tri_then_ret (tri_then_ret ?_)
  refine tri_inBlock_ret ?_
  refine tri_then_ret ?_
  refine tri_end A Suf.h rfl (.cons (rv_tmp rfl) .nil) ⟨?_, rfl, hJ⟩
  rw [if_pos h1]
  rfl
 ·have h1 : ¬ u ≠ 0 := h1
  refine tri_skip ?_
  refine tri_inBlock ?_
  refine tT (tR ?_)
  refine tU rfl rfl (by omega) (by omega) rfl ?_
  refine tM rfl rfl (tN (tT ?_))
  refine tri_round ?_
  refine tS (tR ?_)
  refine tri_v (opv_lss rfl rfl) rfl ?_
  refine tN (tT (tS ?_))
  refine tri_cond_is rfl (by decide) ?_
  refine tri_skip (tT (tS (tri_block (tS (tR ?_)))))
  refine tri_v (opv_indexAddrS rfl rfl (by omega) (by omega) (by assumption) rfl) rfl ?_
  refine tri_v (opv_loadE1 rfl hs rfl (show (1 : Nat) < 2 by decide) rfl rfl) rfl ?_
  refine tA rfl rfl (tN (tT (tS (tR (tM rfl rfl (tM rfl rfl ?_))))))
  refine tri_v (opv_neq rfl rfl) rfl ?_
  refine tN (tT ?_)
  refine tri_cond_dec rfl (fun h2 => ?_) (fun h2 => ?_)
  ·refine tS (tR (tM rfl rfl (tA rfl rfl (tN (tT (tri_ret ?_))))))
   refine tri_inBlock_ret ?_
   refine tri_then_ret (tri_then_ret ?_)
   refine tri_inBlock_ret ?_
   refine tri_then_ret ?_
   refine tri_end A Suf.h rfl (.cons (rv_tmp rfl) .nil) ⟨?_, rfl, hJ⟩
   rw [if_neg h1]
   rfl
  ·refine tri_skip ?_
   refine tri_inBlock ?_
   refine tT (tR ?_)
   refine tU rfl rfl (by omega) (by omega) rfl ?_
   refine tM rfl rfl (tN (tT ?_))
   refine tri_round ?_
   refine tS (tR ?_)
   refine tri_v (opv_lss rfl rfl) rfl ?_
   refine tN (tT (tS ?_))
   refine tri_cond_not rfl (by decide) ?_
   refine tri_exit ?_
   refine tri_then_exit ?_
   refine tri_then_exit ?_
   refine tri_inBlock_hit rfl ?_
   refine tT (tS (tR (tM rfl rfl (tA rfl rfl (tN (tT (tri_ret ?_)))))))
   refine tri_end A Suf.h rfl (.cons (rv_tmp rfl) .nil) ⟨?_, rfl, hJ⟩
   have h2 : ¬ v ≠ 0 := h2
   rw [if_neg h1, Decidable.not_not.1 h2]
   rfl
set_option maxRecDepth 100000 in
theorem place_order {p q : Cell} : FnC Try.prog 72 [cellV p, cellV q].toArray A I (fun v A' I' => v = .int .i64 (R1.cmpC p q) ∧ A = A' ∧ I ⊆ I') := by
 skip
 skip
 refine fn_enter2 Try.func72 rfl Try.ntmps72 rfl fun w0 => ?_
 skip
 refine tS (tR ?_)
 refine tri_g (opg_box_agg rfl) rfl ?_
 rintro _ _ _ ⟨b2, rfl, rfl, rfl⟩
 refine tri_g (opg_box_agg rfl) rfl ?_
 rintro _ _ _ ⟨b3, rfl, rfl, rfl⟩
 refine tA rfl rfl (tN (tT (tS ?_)))
 refine tri_draw [0, 1, 2, 3, 5, 6, 7, 8, 4, 9, 10, 11, 12] rfl [] rfl mixed ?_
 refine th_take rfl rfl (by kernel_rfl)  (opv_fieldAddr rfl rfl) ?_
 refine th_take rfl rfl (by kernel_rfl)  (opv_load1 rfl rfl rfl) ?_
 refine th_take rfl rfl (by kernel_rfl)  (opv_fieldAddr rfl rfl) ?_
 refine th_take rfl rfl (by kernel_rfl)  (opv_load1 rfl rfl rfl) ?_
 refine th_take rfl rfl (by kernel_rfl)  (opv_fieldAddr rfl rfl) ?_
 refine th_take rfl rfl (by kernel_rfl)  (opv_load1 rfl rfl rfl) ?_
 refine th_take rfl rfl (by kernel_rfl)  (opv_fieldAddr rfl rfl) ?_
 refine th_take rfl rfl (by kernel_rfl)  (opv_load1 rfl rfl rfl) ?_
 refine th_one (by kernel_rfl) (step_m rfl rfl (opg_call (xs := [_, _]) rfl (cmp_compare)) ?_)
 rintro _ _ _ ⟨rfl, rfl, rfl⟩
 refine ⟨Suf.h, (fun _ h => h), ?_⟩
 skip
 refine th_one (by kernel_rfl) (step_m rfl rfl (opg_call (xs := [_, _]) rfl (cmp_compare)) ?_)
 rintro _ _ _ ⟨rfl, rfl, rfl⟩
 refine ⟨Suf.h, (fun _ h => h), ?_⟩
 refine th_one (by kernel_rfl) (step_m rfl rfl (opg_buildSlice rfl rfl rfl rfl) ?_)
 rintro _ _ _ ⟨b15, rfl, rfl, rfl⟩
 refine ⟨Suf.h, (fun _ h => h), ?_⟩
 refine th_one (by kernel_rfl) (step_m rfl rfl (opg_call (xs := [_]) rfl (cmp_or2)) ?_)
 rintro _ _ I2 ⟨rfl, rfl, hI2⟩
 refine ⟨Suf.h, hI2, ?_⟩
 refine th_take rfl rfl (by kernel_rfl)  (opv_assign rfl) ?_
 refine th_done (by kernel_rfl) ?_
 refine tT (tri_ret ?_)
 refine tri_end A Suf.h rfl (.cons (rv_tmp rfl) .nil) ⟨rfl, rfl, hI2⟩
end Go.GL


set_option linter.unusedVariables false
namespace Go.GL
/-! ### A block that is only read; the part of a row behind some elements -/
section
variable {w0 : World} {n : Nat} {F : Frm} {A : List Asrt} {I : List Chunk} {P : Program} {dst : Option Tmp} {ty t : TypeId} {pos : String} {af : Array Edge} {gd : Option (Nat × Bool)} {x y ix : Operand} {d d' : TypeDesc} {s s' by_ by' : Nat} {z z' : List Value}
theorem opv_loadC {b off : Nat} {cs : Array Value} {T : TypeId} {fz : Nat × Nat} {v : Value} [TyI P t d s by_ z] (hx : ev F x = some (pt b off)) (hI : (b, Obj.cells cs T fz) ∈ I) (hd : isA d = false) (hc : cs[off]? = some v) : OpV P w0 n ⟨dst, .load t x, ty, pos, af, gd⟩ F A I v := by
 intro tt w hf hs
 have h := hs.inI hI
 simp [execOp, hf.eval hx, Instr.loadAt, Instr.sureAddr, run_loadVar1 (P := P) (t := t) hd h hc]
theorem loA_lt {b cap l s : Nat} (h : cap ≠ l) : loA (some ⟨b, 0, none⟩) cap l s = some ⟨b, l * s, none⟩ := by
 unfold loA
 rw [if_neg h, Option.map_some, add_pt, Nat.zero_add]
theorem opv_indexAddrSub {e : TypeId} {k : IntKind} {i : Int} {b l m cap cap' j : Nat} [TyI P t (.slice e) s by_ z] [TyI P e d' s' by' z'] (hx : ev F x = some (.slice (loA (some ⟨b, 0, none⟩) cap l s') m cap')) (hi : ev F ix = some (.int k i)) (h0 : 0 ≤ i) (h1 : i < m) (hne : cap ≠ l) (hj : l + i.toNat = j) :
  OpV P w0 n ⟨dst, .indexAddr t x ix, ty, pos, af, gd⟩ F A I (epf (some ⟨b, 0, none⟩) s' j 0) := by
 intro tt w hf hst
 rw [loA_lt hne] at hx
 subst hj
 simp [execOp, hf.eval hx, hf.eval hi, Instr.indexAt, asIntOf, run_und (P := P) (t := t), h0, h1, run_size (P := P) (t := e), add_pt, epf, Nat.add_mul]
/-- 'clear' behind the first k: they are left. -/
theorem opg_clearTail {α : Type} [Enc α] {e E : TypeId} {b k m cap cap' len sz : Nat} {xs : List α} {u : Asrt → List Asrt} [SelR A (some ⟨b, 0, none⟩) cap len E sz (encs xs) u] [TyI P t (.slice e) s by_ z] [TyI P e d' sz by' z'] (hx : ev F x = some (.slice (loA (some ⟨b, 0, none⟩) cap k sz) m cap')) (hk : k < len) (hl : len = xs.length) (hm : k + m = len) (hz : Enc.sz α = sz) (h1 : z'.all (·.oneCell') = true) :
  OpG P w0 n ⟨dst, .call ⟨.builtin .clear, #[x], #[t]⟩, ty, pos, af, gd⟩ F A I (fun v A' I' => A' = u (Row (some ⟨b, 0, none⟩) cap k E sz (encs (xs.take k))) ∧ I = I') := by
 refine opg_run fun tt w hf hst => ?_
 obtain ⟨hlen, ⟨h, _⟩ | ⟨b', cur, hb', hb, hsz, hle, ht⟩⟩ := SelR.at (a := some ⟨b, 0, none⟩) hst
 ·cases h
 ·simp only [Option.some.injEq, Addr.mk.injEq, and_true] at hb'
  subst hb'
  rw [loA_lt (by omega)] at hx
  obtain ⟨zv, hzv, hzc⟩ := run_zero (P := P) (t := e) w
  have hzl : z'.length = sz := Nat.eq_of_beq_eq_true (by simpa using TyI.zl (P := P) (t := e))
  have hzsz : zv.cells.size = sz := by rw [← hzl, ← hzc]; simp
  obtain ⟨vs, hvs⟩ : ∃ vs, (Builtin.zeroCells zv.cells m).toList = vs := ⟨_, rfl⟩
  have hvl : vs.length = m * sz := by rw [← hvs]; unfold Builtin.zeroCells; simp [hzsz]
  have hv1 : ∀ v ∈ vs, v.oneCell' = true := fun v hv => by
   rw [← hvs] at hv
   unfold Builtin.zeroCells at hv
   simp only [Array.toList_map, List.mem_map, Array.toList_range, List.mem_range] at hv
   obtain ⟨i, hi, rfl⟩ := hv
   have hp : 0 < zv.cells.size := Nat.pos_of_ne_zero fun h0 => by rw [h0] at hi; omega
   have hmod : i % zv.cells.size < zv.cells.size := Nat.mod_lt _ hp
   rw [getElem!_pos zv.cells _ hmod]
   exact List.all_eq_true.1 h1 _ (by rw [← hzc]; simp)
  have hkl : k * sz + m * sz ≤ cap * sz := by rw [← Nat.add_mul]; exact Nat.mul_le_mul_right _ (by omega)
  obtain ⟨w', hr, ho, htp, hout, hdr, hsz', hb2, hne⟩ := run_storeCells_at' (P := P) (k * sz) vs 0 cur w hb (by omega) hv1
  have hw : w' = { w with heap := w'.heap } := by cases w'; cases w; simp_all
  refine ⟨.tuple #[], w', _, I, ?_, ⟨rfl, rfl⟩, ?_⟩
  ·have hm0 : m ≠ 0 := by omega
   simp [execOp, resolve, invoke, builtin, hf.eval hx, Builtin.clear_, run_und (P := P) (t := t), hzv, hm0]
   rw [hvs, hr]
   rfl
  ·rw [hw]
   refine SelR.set hst k _ rfl _ _ hsz' hb2 hne ?_ ?_ (by omega) ?_
   ·rw [encs_length, List.length_take, hz]
    congr 1
    omega
   ·simp only [List.size_toArray, List.length_append, List.length_take, List.length_drop, Array.length_toList, hvl]; omega
   ·simp only [Nat.add_zero]
    rw [List.append_assoc, List.take_append_of_le_length (by simp; omega), List.take_take, Nat.min_self]
    have e1 : (encs xs).take (k * sz) = encs (xs.take k) := by
     have : encs xs = encs (xs.take k) ++ encs (xs.drop k) := by rw [← encs_append, List.take_append_drop]
     rw [this, List.take_append_of_le_length (by rw [encs_length, List.length_take, hz]; exact Nat.mul_le_mul_right _ (by omega)), List.take_of_length_le (by rw [encs_length, List.length_take, hz]; exact Nat.mul_le_mul_right _ (by omega))]
    rw [← e1, ← ht, List.take_take, Nat.min_eq_left (Nat.mul_le_mul_right _ (by omega))]
/-- A row has room for what is in it. -/
theorem tri_rowLe {E : TypeId} {a : Option Addr} {cap len sz : Nat} {cells : List Value} {K : Act → World → Prop} (h : len ≤ cap → Tri w0 n F (Row a cap len E sz cells :: A) I K) : Tri w0 n F (Row a cap len E sz cells :: A) I K := fun t w hf hst => by
 obtain ⟨_, ⟨_, h1, h2⟩ | ⟨_, _, _, _, _, h1, _⟩⟩ := SelR.at (a := a) hst
 ·exact h (by omega) t w hf hst
 ·exact h h1 t w hf hst
end
end Go.GL


set_option linter.unusedVariables false
namespace Go.GL
open Go.Proofs
attribute [local irreducible] wpList Code.wp Exit.then Exit.inBlock Ends Tri TriH OpV OpG FnC epf wpAnyH
variable {A : List Asrt} {I : List Chunk}
theorem place_orderV {p q : Cell} : FnC Try.prog 72 ([] ++ [cellV p, cellV q] ++ []).toArray A I (fun v A' I' => v = .int .i64 (R1.cmpC p q) ∧ A = A' ∧ I ⊆ I') := place_order
set_option maxRecDepth 100000 in
theorem cells_by1 {x y : Cell} {bo : Nat} {Tb : TypeId} {fz : Nat × Nat} (hI : (bo, Obj.cells #[.func (.func 72) #[] #[]] Tb fz) ∈ I) :
  FnC Try.prog 94 [cellV x, cellV y, pt bo 0].toArray A I (fun v A' I' => v = .int .i64 (R1.cmpC x y) ∧ A = A' ∧ I ⊆ I') := by
 skip
 skip
 refine fn_enter3 Try.func94 rfl Try.ntmps94 rfl fun w0 => ?_
 refine tS (tR ?_)
 refine tri_g (opg_box_agg rfl) rfl ?_
 rintro _ _ _ ⟨b3, rfl, rfl, rfl⟩
 refine tri_g (opg_box_agg rfl) rfl ?_
 rintro _ _ _ ⟨b4, rfl, rfl, rfl⟩
 refine tA rfl rfl (tN (tT (tS (tR ?_))))
 refine tri_v (opv_loadC rfl hI rfl rfl) rfl ?_
 refine tri_v (opv_loadA rfl rfl rfl) rfl ?_
 refine tri_v (opv_loadA rfl rfl rfl) rfl ?_
 refine tri_g (opg_callv (xs := [_, _]) rfl rfl (place_orderV (p := x) (q := y))) rfl ?_
 rintro _ _ I2 ⟨rfl, rfl, hI2⟩
 refine tA rfl rfl (tN (tT (tri_ret ?_)))
 refine tri_end A Suf.h rfl (.cons (rv_tmp rfl) .nil) ⟨rfl, rfl, hI2⟩
set_option maxRecDepth 100000 in
theorem cells_by {f : FuncId} : FnC Try.prog 81 [.func (.func f) #[] #[]].toArray A I (fun v A' I' => ∃ b, v = .func (.func 94) #[] #[pt b 0] ∧ A' = Box b [.func (.func f) #[] #[]] 118 :: A ∧ I = I') := by
 skip
 skip
 refine fn_enter1 Try.func81 rfl Try.ntmps81 rfl fun w0 => ?_
 refine tS (tR ?_)
 refine tri_g (opg_box1 rfl rfl) rfl ?_
 rintro _ _ _ ⟨b1, rfl, rfl, rfl⟩
 refine tA rfl rfl (tN (tT (tS (tR ?_))))
 refine tri_v (opv_makeFunc (fs := []) (cs := [_]) (vf := []) (vc := [_]) rfl rfl) rfl ?_
 refine tA rfl rfl (tN (tT (tri_ret ?_)))
 refine tri_end _ (⟨[], rfl⟩) rfl (.cons (rv_tmp rfl) .nil) ⟨_, rfl, rfl, rfl⟩
end Go.GL


set_option linter.unusedVariables false
namespace Go.GL
open Go.Proofs
attribute [local irreducible] wpList Code.wp Exit.then Exit.inBlock Ends Tri TriH OpV OpG FnC epf wpAnyH
variable {A : List Asrt} {I : List Chunk}
set_option maxRecDepth 100000 in
theorem of1 {c : Cell} : FnC Try.prog 78 ([] ++ [cellV c] ++ []).toArray A I (fun v A' I' => v = .bool (decide (¬ R1.inB c)) ∧ A = A' ∧ I = I') := by
 skip
 skip
 show FnC Try.prog _ [cellV c].toArray _ _ _
 refine fn_enter1 Try.func78 rfl Try.ntmps78 rfl fun w0 => ?_
 refine tS (tR ?_)
 refine tri_g (opg_box_agg rfl) rfl ?_
 rintro _ _ _ ⟨b1, rfl, rfl, rfl⟩
 refine tA rfl rfl (tN (tT (tS (tR ?_))))
 refine tri_v (opv_loadA rfl rfl rfl) rfl ?_
 refine tri_g (opg_call (xs := [_]) rfl (cells_in (c := c))) rfl ?_
 rintro _ _ _ ⟨rfl, rfl, rfl⟩
 refine tri_v (opv_notD rfl) rfl ?_
 refine tA rfl rfl (tN (tT (tri_ret ?_)))
 refine tri_end _ (⟨[_], rfl⟩) rfl (.cons (rv_tmp rfl) .nil) ⟨?_, rfl, rfl⟩
 rfl
namespace R1
def idx (p : Cell → Bool) (l : List Cell) : Int := if l.findIdx p < l.length then (l.findIdx p : Nat) else -1
theorem idx_any {p : Cell → Bool} {l : List Cell} : 0 ≤ idx p l ↔ l.any p = true := by
 unfold idx
 rw [List.any_eq_true]
 split
 ·next h => exact ⟨fun _ => List.findIdx_lt_length.1 h, fun _ => by omega⟩
 ·next h => exact ⟨fun h2 => by omega, fun h2 => absurd (List.findIdx_lt_length.2 h2) h⟩
theorem getD_mem {l : List Cell} {i : Nat} (h : i < l.length) : l.getD i default ∈ l := by simp [h]
end R1
set_option maxRecDepth 100000 in
theorem cells_indexFunc {l : List Cell} {p : Cell → Bool} {f : FuncId} {ca : List Value} {a : Option Addr} {cap : Nat} [FnI Try.prog f] (hp : ∀ x ∈ l, FnC Try.prog f ([] ++ [cellV x] ++ ca).toArray A I (fun v A' I' => v = .bool (p x) ∧ A = A' ∧ I = I')) (hs : SlAt I a l) (hn : l.length ≤ 1000000000) :
  FnC Try.prog 91 [.slice a l.length cap, .func (.func f) #[] ca.toArray].toArray A I (fun v A' I' => v = .int .i64 (R1.idx p l) ∧ A = A' ∧ I = I') := by
 skip
 skip
 refine fn_enter2 Try.func91 rfl Try.ntmps91 rfl fun w0 => ?_
 refine tS (tR (tA rfl rfl (tN (tT (tS (tS (tR ?_)))))))
 refine tM rfl rfl ?_
 refine tri_v (opv_len rfl) rfl ?_
 refine tM rfl rfl (tN (tT (tri_block ?_)))
 refine tri_sub (F' := [(0, .slice a l.length cap), (1, .func (.func f) #[] ca.toArray), (6, .slice a l.length cap), (7, .int .i64 (l.length : Nat)), (8, .int .i64 (0 : Nat))]) ⟨rfl, rfl, rfl, rfl, rfl, trivial⟩ ?_
 refine loop_ind (G := Nat) (fun i => l.length - i) (fun i => i ≤ l.length ∧ ∀ j, j < i → p (l.getD j default) = false) (fun i => [(0, .slice a l.length cap), (1, .func (.func f) #[] ca.toArray), (6, .slice a l.length cap), (7, .int .i64 (l.length : Nat)), (8, .int .i64 (i : Nat))]) (fun _ => _) (fun _ => _) ?_ 0 ⟨by omega, fun j h => absurd h (by omega)⟩
 rintro i ⟨hi, hok⟩ K hK
 skip
 refine tS (tR ?_)
 refine tri_v (opv_lss rfl rfl) rfl ?_
 refine tN (tT (tS ?_))
 refine tri_cond_dec rfl (fun h => ?_) (fun h => ?_)
 ·have hlt : i < l.length := by omega
  refine tri_skip (tT (tS (tri_block (tS (tR (tM rfl rfl (tA rfl rfl ?_)))))))
  refine tN (tT (tS (tR (tM rfl rfl (tM rfl rfl (tM rfl rfl ?_))))))
  refine tri_v (opv_indexAddrSN rfl rfl (by omega) (by assumption) rfl) rfl ?_
  refine tri_v (opv_loadEA rfl (by assumption) rfl (by omega) rfl rfl) rfl ?_
  refine tri_g (opg_callv (xs := [_]) rfl rfl (hp (l.getD i default) (R1.getD_mem hlt))) rfl ?_
  rintro _ _ _ ⟨rfl, rfl, rfl⟩
  refine tN (tT ?_)
  refine tri_cond rfl (fun h1 => ?_) (fun h1 => ?_)
  ·refine tS (tR (tM rfl rfl (tA rfl rfl (tN (tT (tri_ret ?_))))))
   refine tri_inBlock_ret ?_
   refine tri_then_ret (tri_then_ret ?_)
   refine tri_inBlock_ret ?_
   refine tri_then_ret ?_
   refine tri_end A Suf.h rfl (.cons (rv_tmp rfl) .nil) ⟨?_, rfl, rfl⟩
   have e : l.findIdx p = i := (List.findIdx_eq hlt).2 ⟨by simpa [hlt] using h1, fun j hj => by have := hok j hj; simpa [Nat.lt_trans hj hlt] using this⟩
   unfold R1.idx
   rw [e, if_pos hlt]
   rfl
  ·refine tri_skip ?_
   refine tri_inBlock ?_
   refine tT (tR ?_)
   refine tU rfl rfl (by omega) (by omega) rfl ?_
   refine tM rfl rfl (tN (tT ?_))
   refine tri_sub ?_ (hK (i + 1) ⟨by omega, fun j hj => ?_⟩ (by omega))
   ·exact ⟨rfl, rfl, rfl, rfl, rfl, trivial⟩
   ·by_cases e : j = i
    ·subst e
     exact h1
    ·exact hok j (by omega)
 ·refine tri_exit ?_
  refine tri_then_exit ?_
  refine tri_then_exit ?_
  refine tri_inBlock_hit rfl ?_
  refine tT (tS (tR (tA rfl rfl (tN (tT (tri_ret ?_))))))
  refine tri_end A Suf.h rfl (.cons (rv_tmp rfl) .nil) ⟨?_, rfl, rfl⟩
  have e : l.findIdx p = l.length := List.findIdx_eq_length.2 fun x hx => by
   obtain ⟨j, hj, rfl⟩ := List.getElem_of_mem hx
   have := hok j (by omega)
   simpa [hj] using this
  unfold R1.idx
  rw [if_neg (by omega)]
  rfl
set_option maxRecDepth 100000 in
theorem cells_containsFunc {l : List Cell} {p : Cell → Bool} {f : FuncId} {ca : List Value} {a : Option Addr} {cap : Nat} [FnI Try.prog f] (hp : ∀ x ∈ l, FnC Try.prog f ([] ++ [cellV x] ++ ca).toArray A I (fun v A' I' => v = .bool (p x) ∧ A = A' ∧ I = I')) (hs : SlAt I a l) (hn : l.length ≤ 1000000000) :
  FnC Try.prog 77 [.slice a l.length cap, .func (.func f) #[] ca.toArray].toArray A I (fun v A' I' => v = .bool (l.any p) ∧ A = A' ∧ I = I') := by
 refine fn_enter2 Try.func77 rfl Try.ntmps77 rfl fun w0 => ?_
 refine tS (tR (tA rfl rfl (tN (tT (tS (tR (tM rfl rfl ?_)))))))
 refine tM rfl rfl ?_
 refine tri_g (opg_call (xs := [_, _]) rfl (cells_indexFunc hp hs hn)) rfl ?_
 rintro _ _ _ ⟨rfl, rfl, rfl⟩
 refine tri_v (opv_geq rfl rfl) rfl ?_
 refine tA rfl rfl (tN (tT (tri_ret ?_)))
 refine tri_end A Suf.h rfl (.cons (rv_tmp rfl) .nil) ⟨?_, rfl, rfl⟩
 show Value.bool (decide (0 ≤ R1.idx p l)) = _
 rw [show decide (0 ≤ R1.idx p l) = l.any p by rw [Bool.eq_iff_iff, decide_eq_true_iff]; exact R1.idx_any]
set_option maxRecDepth 100000 in
theorem clone_cells {l : List Cell} {a : Option Addr} {cap : Nat} (hs : SlAt I a l) (hn : l.length ≤ 1000000000) (h0 : a = none → l = []) :
  FnC Try.prog 79 [.slice a l.length cap].toArray A I (fun v A' I' => ∃ a' cap', v = .slice a' l.length cap' ∧ A' = Row a' cap' l.length 28 2 (encs l) :: A ∧ I = I') := by
 cases a with
 | none =>
  obtain rfl := h0 rfl
  skip
  refine fn_enter1 Try.func79 rfl Try.ntmps79 rfl fun w0 => ?_
  refine tS (tR (tA rfl rfl (tN (tT (tS (tS (tR ?_)))))))
  refine tM rfl rfl ?_
  refine tri_v (opv_eqlNil rfl rfl) rfl ?_
  refine tN (tT ?_)
  refine tri_cond_true (by rfl) ?_
  refine tS (tR (tA rfl rfl (tN (tT (tri_ret (tri_then_ret ?_))))))
  refine tri_nilRow (E := 28) (sz := 2) ?_
  refine tri_end _ (⟨[], rfl⟩) rfl (.cons (rv_tmp rfl) .nil) ⟨none, 0, rfl, rfl, rfl⟩
 | some ad =>
  refine fn_enter1 Try.func79 rfl Try.ntmps79 rfl fun w0 => ?_
  refine tS (tR (tA rfl rfl (tN (tT (tS (tS (tR ?_)))))))
  refine tM rfl rfl ?_
  refine tri_v (opv_eqlNil rfl rfl) rfl ?_
  refine tN (tT ?_)
  refine tri_cond_false (by rfl) ?_
  refine tri_skip (tT (tS (tR ?_)))
  refine tri_g (opg_buildSlice rfl rfl rfl rfl) rfl ?_
  rintro _ _ _ ⟨b5, rfl, rfl, rfl⟩
  refine tM rfl rfl ?_
  refine tri_boxRow (k := 0) (sz := 2) rfl ?_
  refine tri_g (opg_appendS rfl rfl hs rfl rfl (by omega) rfl) rfl ?_
  rintro _ _ _ ⟨a2, cap2, rfl, rfl, rfl⟩
  refine tA rfl rfl (tN (tT (tri_ret ?_)))
  refine tri_rowEq (len' := l.length) (cells' := encs l) (by omega) rfl ?_
  refine tri_end _ (⟨[], rfl⟩) rfl (.cons (rv_tmp rfl) .nil) ⟨a2, cap2, ?_, rfl, rfl⟩
  rw [Nat.zero_add]; rfl
/-- Of a row: no more than 2000. -/
theorem cells_few {l : List Cell} {a : Option Addr} {cap : Nat} :
  FnC Try.prog 82 [.slice a l.length cap].toArray A I (fun v A' I' => v = (if 2000 < l.length then .tuple #[.slice none 0 0, .int .i64 3] else .tuple #[.slice a l.length cap, .int .i64 0]) ∧ A = A' ∧ I = I') := by
 refine fn_enter1 Try.func82 rfl Try.ntmps82 rfl fun w0 => ?_
 refine tS (tR (tA rfl rfl (tA rfl rfl (tN (tT (tS (tS ?_)))))))
 refine tR (tM rfl rfl ?_)
 refine tri_v (opv_len rfl) rfl ?_
 refine tri_v (opv_gtr rfl rfl) rfl ?_
 refine tN (tT ?_)
 refine tri_cond_dec rfl (fun h => ?_) (fun h => ?_)
 ·refine tS (tR (tA rfl rfl (tA rfl rfl (tN (tT (tri_ret (tri_then_ret ?_)))))))
  refine tri_end _ (⟨[], rfl⟩) rfl (.cons (rv_tmp rfl) (.cons (rv_tmp rfl) .nil)) ⟨?_, rfl, rfl⟩
  rw [if_pos (by omega)]
  rfl
 ·refine tri_skip (tT (tS (tR (tM rfl rfl (tA rfl rfl (tA rfl rfl (tN ?_)))))))
  refine tT (tri_ret ?_)
  refine tri_end _ (⟨[], rfl⟩) rfl (.cons (rv_tmp rfl) (.cons (rv_tmp rfl) .nil)) ⟨?_, rfl, rfl⟩
  rw [if_neg (by omega)]
  rfl
end Go.GL


set_option linter.unusedVariables false
namespace Go.GL
open Go.Proofs
attribute [local irreducible] wpList Code.wp Exit.then Exit.inBlock Ends Tri TriH OpV OpG FnC epf wpAnyH
variable {A : List Asrt} {I : List Chunk}
namespace R1
/-- Where k of the l.take j are left, in the list as it stands now. -/
structure Cpt (l cur : List Cell) (k j : Nat) : Prop where
 len : cur.length = l.length
 le : k + 1 ≤ j
 hi : j ≤ l.length
 pos : 0 < k
 tk : cur.take k = compact (l.take j)
 rest : ∀ i, j ≤ i + 1 → cur.getD i default = l.getD i default
theorem Cpt.skip {l cur : List Cell} {k j : Nat} (h : Cpt l cur k j) (hj : j < l.length) (e : cur.getD j default = cur.getD (j - 1) default) : Cpt l cur k (j + 1) := by
 have h1 := h.le
 have h2 := h.pos
 refine ⟨h.len, by omega, by omega, h.pos, ?_, fun i hi => h.rest i (by omega)⟩
 rw [compact_take l j (by omega) hj, if_pos, h.tk]
 rw [h.rest j (by omega), h.rest (j - 1) (by omega)] at e
 exact e.symm
theorem Cpt.put {l cur : List Cell} {k j : Nat} (h : Cpt l cur k j) (hj : j < l.length) (e : cur.getD j default ≠ cur.getD (j - 1) default) : Cpt l (cur.set k (cur.getD j default)) (k + 1) (j + 1) := by
 have h1 := h.le
 have h2 := h.pos
 have h3 := h.len
 refine ⟨by rw [List.length_set, h.len], by omega, by omega, by omega, ?_, fun i hi => ?_⟩
 ·rw [compact_take l j (by omega) hj, if_neg, ← h.tk]
  ·rw [h.rest j (by omega)]
   have : (cur.set k (l.getD j default)).take (k + 1) = cur.take k ++ [l.getD j default] := by
    rw [List.take_succ_eq_append_getElem (by rw [List.length_set]; omega), List.getElem_set_self, List.take_set_of_le (Nat.le_refl _)]
   rw [this]
   rfl
  ·rw [h.rest j (by omega), h.rest (j - 1) (by omega)] at e
   exact fun e2 => e e2.symm
 ·have := h.rest i (by omega)
  rw [← this]
  simp only [List.getD_eq_getElem?_getD]
  rw [List.getElem?_set_ne (by omega)]
theorem Cpt.first {l : List Cell} {k : Nat} (hk : 0 < k) (hl : k < l.length) (h : compact (l.take k) = l.take k) (e : l.getD k default = l.getD (k - 1) default) : Cpt l l k (k + 1) := by
 refine ⟨rfl, by omega, by omega, hk, ?_, fun _ _ => rfl⟩
 rw [compact_take l k hk hl, if_pos (show g l (k - 1) = g l k from e.symm), h]
theorem compact_go {l : List Cell} {k : Nat} (hk : 0 < k) (hl : k < l.length) (h : compact (l.take k) = l.take k) (e : l.getD k default ≠ l.getD (k - 1) default) : compact (l.take (k + 1)) = l.take (k + 1) := by
 rw [compact_take l k hk hl, if_neg (fun e2 => e e2.symm), h, List.take_succ_eq_append_getElem hl]
 congr 2
 unfold g
 simp [hl]
theorem compact_small {l : List Cell} (h : l.length < 2) : compact l = l := by
 match l, h with
 | [], _ => rfl
 | [_], _ => rfl
end R1
set_option maxHeartbeats 1000000 in
set_option maxRecDepth 100000 in
theorem cells_compact {l : List Cell} {a : Option Addr} {cap : Nat} (hn : l.length ≤ 1000000000) :
  FnC Try.prog 83 [.slice a l.length cap].toArray (Row a cap l.length 28 2 (encs l) :: A) I (fun v A' I' => v = .slice a (R1.compact l).length cap ∧ A' = Row a cap (R1.compact l).length 28 2 (encs (R1.compact l)) :: A ∧ I = I') := by
 skip
 skip
 skip
 refine fn_enter1 Try.func83 rfl Try.ntmps83 rfl fun w0 => ?_
 refine tS (tR (tA rfl rfl (tN (tT (tS (tS (tR ?_)))))))
 refine tM rfl rfl ?_
 refine tri_v (opv_len rfl) rfl ?_
 refine tri_v (opv_lss rfl rfl) rfl ?_
 refine tN (tT ?_)
 refine tri_cond_dec rfl (fun h => ?_) (fun h => ?_)
 ·refine tS (tR (tM rfl rfl (tA rfl rfl (tN (tT (tri_ret (tri_then_ret ?_)))))))
  refine tri_end _ (⟨[], rfl⟩) rfl (.cons (rv_tmp rfl) .nil) ?_
  rw [R1.compact_small (by omega)]
  exact ⟨rfl, rfl, rfl⟩
 ·refine tri_rowSome rfl fun hnone => ?_
  refine tri_rowPt (fun e => by have := hnone e; subst this; simp at h) fun bb eb => ?_
  subst eb
  refine tri_skip (tT (tS (tS (tR (tA rfl rfl (tN (tT ?_)))))))
  refine tri_block ?_
  refine tri_sub (F' := [(0, .slice (some ⟨bb, 0, none⟩) l.length cap), (3, .int .i64 (1 : Nat))]) ⟨rfl, rfl, trivial⟩ ?_
  refine loop_ind (G := Nat) (fun k => l.length - k) (fun k => 0 < k ∧ k ≤ l.length ∧ R1.compact (l.take k) = l.take k) (fun k => [(0, .slice (some ⟨bb, 0, none⟩) l.length cap), (3, .int .i64 (k : Nat))]) (fun _ => _) (fun _ => _) ?_ 1 ⟨by omega, by omega, R1.compact_small (by rw [List.length_take]; omega)⟩
  rintro k ⟨hk0, hk, hc⟩ K hK
  skip
  refine tS (tS (tR (tM rfl rfl (tM rfl rfl ?_))))
  refine tri_v (opv_len rfl) rfl ?_
  refine tri_v (opv_lss rfl rfl) rfl ?_
  refine tN (tT ?_)
  refine tri_cond_dec rfl (fun h1 => ?_) (fun h1 => ?_)
  ·have hlt : k < l.length := by omega
   refine tri_skip (tT (tS (tri_block (tS ?_))))
   refine tri_draw [0, 1, 2, 3, 4, 5, 6, 7, 8, 9] rfl [] rfl mixed ?_
   refine th_take rfl rfl (by kernel_rfl)  (opv_move rfl) ?_
   refine th_take rfl rfl (by kernel_rfl)  (opv_move rfl) ?_
   refine th_take rfl rfl (by kernel_rfl)  (opv_indexAddrRN rfl rfl (by omega)) ?_
   refine th_take rfl rfl (by kernel_rfl)  (opv_loadRXA rfl rfl (by omega) rfl rfl rfl) ?_
   refine th_take rfl rfl (by kernel_rfl)  (opv_move rfl) ?_
   refine th_take rfl rfl (by kernel_rfl)  (opv_move rfl) ?_
   refine th_take rfl rfl (by kernel_rfl)  (opv_sub rfl rfl (w64 (by omega) (by omega))) ?_
   refine th_take rfl rfl (by kernel_rfl)  (opv_indexAddrR rfl rfl (by omega) (by omega)) ?_
   refine th_take rfl rfl (by kernel_rfl)  (opv_loadRXA rfl rfl (by omega) rfl rfl rfl) ?_
   refine th_take rfl rfl (by kernel_rfl)  (opv_eqlI rfl rfl rfl rfl rfl rfl) ?_
   refine th_done (by kernel_rfl) ?_
   refine tT ?_
   refine tri_cond_dec rfl (fun h2 => ?_) (fun h2 => ?_)
   ·have h2 : l.getD k default = l.getD (k - 1) default := by
     have := Cell.ext_iff'.2 h2
     rwa [show ((k : Int) - 1).toNat = k - 1 by omega] at this
    refine tri_rowLe fun hcap => ?_
    refine tS (tR (tM rfl rfl (tM rfl rfl ?_)))
    refine tri_v (opv_sliceLoN rfl rfl (by omega) (by omega)) rfl ?_
    refine tA rfl rfl (tN (tT (tS (tS (tR (tA rfl rfl (tN ?_)))))))
    refine tT (tri_block ?_)
    refine tri_sub (F' := [(0, .slice (some ⟨bb, 0, none⟩) l.length cap), (3, .int .i64 (k : Nat)), (4, .slice (loA (some ⟨bb, 0, none⟩) cap k 2) (l.length - k) (cap - k)), (5, .int .i64 ((k + 1 - k : Nat) : Int))]) (by rw [show k + 1 - k = 1 by omega]; exact ⟨rfl, rfl, rfl, rfl, trivial⟩) ?_
    refine loop_ind (G := Nat × Nat × List Cell) (fun g => l.length - g.1) (fun g => R1.Cpt l g.2.2 g.2.1 g.1 ∧ k < g.1) (fun g => [(0, .slice (some ⟨bb, 0, none⟩) l.length cap), (3, .int .i64 (g.2.1 : Nat)), (4, .slice (loA (some ⟨bb, 0, none⟩) cap k 2) (l.length - k) (cap - k)), (5, .int .i64 ((g.1 - k : Nat) : Int))]) (fun g => Row (some ⟨bb, 0, none⟩) cap l.length 28 2 (encs g.2.2) :: A) (fun _ => I) ?_ (k + 1, k, l) ⟨R1.Cpt.first hk0 hlt hc h2, by simp only; omega⟩
    rintro ⟨j, m, cur⟩ ⟨hC, hj⟩ K2 hK2
    simp only at hC hj hK2 ⊢
    have hm := hC.le
    have hjl := hC.hi
    have hcl := hC.len
    have hm0 := hC.pos
    skip
    refine tS (tS (tR (tM rfl rfl (tM rfl rfl ?_))))
    refine tri_v (opv_len rfl) rfl ?_
    refine tri_v (opv_lss rfl rfl) rfl ?_
    refine tN (tT ?_)
    refine tri_cond_dec rfl (fun h3 => ?_) (fun h3 => ?_)
    ·have hjlt : j < l.length := by omega
     refine tri_skip (tT (tS (tri_block (tS ?_))))
     refine tri_draw [0, 1, 2, 3, 4, 5, 6, 7, 8, 9] rfl [] rfl mixed ?_
     refine th_take rfl rfl (by kernel_rfl)  (opv_move rfl) ?_
     refine th_take rfl rfl (by kernel_rfl)  (opv_move rfl) ?_
     refine th_take rfl rfl (by kernel_rfl)  (opv_indexAddrSub (j := j) rfl rfl (by omega) (by omega) (by omega) (by omega)) ?_
     refine th_take rfl rfl (by kernel_rfl)  (opv_loadRXA rfl rfl (by omega) rfl rfl rfl) ?_
     refine th_take rfl rfl (by kernel_rfl)  (opv_move rfl) ?_
     refine th_take rfl rfl (by kernel_rfl)  (opv_move rfl) ?_
     refine th_take rfl rfl (by kernel_rfl)  (opv_sub rfl rfl (w64 (by omega) (by omega))) ?_
     refine th_take rfl rfl (by kernel_rfl)  (opv_indexAddrSub (j := j - 1) rfl rfl (by omega) (by omega) (by omega) (by omega)) ?_
     refine th_take rfl rfl (by kernel_rfl)  (opv_loadRXA rfl rfl (by omega) rfl rfl rfl) ?_
     refine th_take rfl rfl (by kernel_rfl)  (opv_neqI rfl rfl rfl rfl rfl rfl) ?_
     refine th_done (by kernel_rfl) ?_
     refine tT ?_
     refine tri_cond_dec rfl (fun h4 => ?_) (fun h4 => ?_)
     ·have h4 : cur.getD j default ≠ cur.getD (j - 1) default := fun e => h4 (Cell.ext_iff'.1 e)
      refine tS (tR (tM rfl rfl (tM rfl rfl (tM rfl rfl (tM rfl rfl ?_)))))
      refine tri_v (opv_indexAddrSub (j := j) rfl rfl (by omega) (by omega) (by omega) (by omega)) rfl ?_
      refine tri_v (opv_loadRXA rfl rfl (by omega) rfl rfl rfl) rfl ?_
      refine tri_v (opv_indexAddrRN rfl rfl (by omega)) rfl ?_
      refine tri_g (opg_storeRX (cur.getD j default) rfl rfl rfl (by omega) hcl.symm rfl rfl rfl rfl) rfl ?_
      rintro _ _ _ ⟨rfl, rfl⟩
      refine tN (tT (tR (tM rfl rfl ?_)))
      refine tU rfl rfl (by omega) (by omega) rfl ?_
      refine tA rfl rfl (tN ?_)
      refine tri_inBlock ?_
      refine tT (tR (tM rfl rfl ?_))
      refine tU rfl rfl (by omega) (by omega) rfl ?_
      refine tA rfl rfl (tN (tT ?_))
      refine tri_sub ?_ (hK2 (j + 1, m + 1, cur.set m (cur.getD j default)) ⟨hC.put hjlt h4, by simp only; omega⟩ (by simp only; omega))
      simp only [show j + 1 - k = j - k + 1 by omega]
      exact ⟨rfl, rfl, rfl, rfl, trivial⟩
     ·have h4 : cur.getD j default = cur.getD (j - 1) default := Cell.ext_iff'.2 (Decidable.not_not.1 h4)
      refine tri_skip ?_
      refine tri_inBlock ?_
      refine tT (tR (tM rfl rfl ?_))
      refine tU rfl rfl (by omega) (by omega) rfl ?_
      refine tA rfl rfl (tN (tT ?_))
      refine tri_sub ?_ (hK2 (j + 1, m, cur) ⟨hC.skip hjlt h4, by simp only; omega⟩ (by simp only; omega))
      simp only [show j + 1 - k = j - k + 1 by omega]
      exact ⟨rfl, rfl, rfl, rfl, trivial⟩
    ·refine tri_exit ?_
     refine tri_then_exit ?_
     refine tri_then_exit ?_
     refine tri_inBlock_hit rfl ?_
     refine tT (tS (tR (tM rfl rfl (tM rfl rfl ?_))))
     have ej : j = l.length := by omega
     subst ej
     refine tri_v (opv_sliceLoN rfl rfl (by omega) (by omega)) rfl ?_
     skip
     refine tri_g (opg_clearTail (k := m) (m := l.length - m) rfl (by omega) hcl.symm (by omega) rfl rfl) rfl ?_
     rintro _ _ _ ⟨rfl, rfl⟩
     refine tN (tT (tS (tR (tM rfl rfl (tM rfl rfl ?_)))))
     refine tri_v (opv_sliceHiN rfl rfl (by omega) (by omega)) rfl ?_
     refine tA rfl rfl (tN (tT (tri_ret ?_)))
     refine tri_inBlock_ret ?_
     refine tri_then_ret (tri_then_ret ?_)
     refine tri_inBlock_ret ?_
     refine tri_then_ret ?_
     have etk : cur.take m = R1.compact l := by rw [hC.tk, List.take_of_length_le (Nat.le_refl _)]
     have eml : m = (R1.compact l).length := by rw [← etk, List.length_take]; omega
     refine tri_end _ (⟨[], rfl⟩) rfl (.cons (rv_tmp rfl) .nil) ?_
     rw [etk, ← eml]
     exact ⟨rfl, rfl, rfl⟩
   ·have h2 : l.getD k default ≠ l.getD (k - 1) default := fun e => h2 (by
     rw [show ((k : Int) - 1).toNat = k - 1 by omega]
     exact Cell.ext_iff'.1 e)
    refine tri_skip ?_
    refine tri_inBlock ?_
    refine tT (tR (tM rfl rfl ?_))
    refine tU rfl rfl (by omega) (by omega) rfl ?_
    refine tA rfl rfl (tN (tT ?_))
    refine tri_sub ?_ (hK (k + 1) ⟨by omega, by omega, R1.compact_go hk0 hlt hc h2⟩ (by omega))
    exact ⟨rfl, rfl, trivial⟩
  ·refine tri_exit ?_
   refine tri_then_exit ?_
   refine tri_then_exit ?_
   refine tri_inBlock_hit rfl ?_
   refine tT (tS (tR (tM rfl rfl (tA rfl rfl (tN (tT (tri_ret ?_)))))))
   refine tri_end _ (⟨[], rfl⟩) rfl (.cons (rv_tmp rfl) .nil) ?_
   have e : k = l.length := by omega
   subst e
   rw [List.take_of_length_le (Nat.le_refl _)] at hc
   rw [hc]
   exact ⟨rfl, rfl, rfl⟩
end Go.GL


set_option linter.unusedVariables false
namespace Go.GL
open Go.Proofs
attribute [local irreducible] wpList Code.wp Exit.then Exit.inBlock Ends Tri TriH OpV OpG FnC epf wpAnyH
variable {A : List Asrt} {I : List Chunk}
set_option maxHeartbeats 1000000 in
set_option maxRecDepth 100000 in
theorem cells_right {l : List Cell} {a : Option Addr} {cap : Nat} (hs : SlAt I a l) (hn : l.length ≤ 1000000000) :
  FnC Try.prog 39 [.slice a l.length cap].toArray A I (fun v A' I' => v = .bool (decide (R1.right l)) ∧ A = A' ∧ I ⊆ I') := by
 skip
 skip
 refine fn_enter1 Try.func39 rfl Try.ntmps39 rfl fun w0 => ?_
 refine tS (tR (tA rfl rfl (tN (tT (tS (tS (tR ?_)))))))
 refine tM rfl rfl ?_
 refine tri_v (opv_len rfl) rfl ?_
 refine tM rfl rfl (tN (tT (tri_block ?_)))
 refine tri_sub (F' := [(0, .slice a l.length cap), (5, .slice a l.length cap), (6, .int .i64 (l.length : Nat)), (7, .int .i64 (0 : Nat))]) ⟨rfl, rfl, rfl, rfl, trivial⟩ ?_
 refine loop_ind (G := Nat × List Chunk) (fun g => l.length - g.1) (fun g => g.1 ≤ l.length ∧ (∀ j, j < g.1 → R1.okAt l j) ∧ I ⊆ g.2) (fun g => [(0, .slice a l.length cap), (5, .slice a l.length cap), (6, .int .i64 (l.length : Nat)), (7, .int .i64 (g.1 : Nat))]) (fun _ => A) (fun g => g.2) ?_ (0, I) ⟨by simp only; omega, fun j h => absurd h (by simp only; omega), fun _ h => h⟩
 rintro ⟨i, J⟩ ⟨hi, hok, hJ⟩ K hK
 simp only at hi hok hJ hK ⊢
 have hsm : SlAt J a l := hs.mono hJ
 skip
 refine tS (tR ?_)
 refine tri_v (opv_lss rfl rfl) rfl ?_
 refine tN (tT (tS ?_))
 refine tri_cond_dec rfl (fun h => ?_) (fun h => ?_)
 ·have hlt : i < l.length := by omega
  have bad : ¬ R1.okAt l i → ¬ R1.right l := fun h2 h3 => h2 (h3.1 i (by omega))
  refine tri_skip (tT (tS (tri_block (tS (tR (tM rfl rfl ?_))))))
  refine tri_v (opv_indexAddrSN rfl rfl (by omega) (by assumption) rfl) rfl ?_
  refine tri_v (opv_loadEA rfl (by assumption) rfl (by omega) rfl rfl) rfl ?_
  refine tri_g opg_alloc rfl ?_
  rintro _ _ _ ⟨b4, rfl, rfl, rfl⟩
  refine tA rfl rfl ?_
  refine tri_g (opg_store rfl rfl rfl rfl rfl rfl) rfl ?_
  rintro _ _ _ ⟨rfl, rfl⟩
  refine tN (tT (tS ?_))
  refine tri_draw [0, 1, 2, 3, 4, 5, 6, 7, 8, 9, 10, 11, 12, 13, 14, 15, 16] rfl [] rfl mixed ?_
  refine th_take rfl rfl (by kernel_rfl)  (opv_loadA rfl rfl rfl) ?_
  refine th_one (by kernel_rfl) (step_m rfl rfl (opg_call (xs := [_]) rfl (cells_in (c := R1.g l i))) ?_)
  rintro _ _ _ ⟨rfl, rfl, rfl⟩
  refine ⟨Suf.h, (fun _ h => h), ?_⟩
  refine th_take rfl rfl (by kernel_rfl)  (opv_notD rfl) ?_
  refine th_take rfl rfl (by kernel_rfl)  (opv_move rfl) ?_
  refine th_split rfl rfl rfl (fun h1 => ?_) (fun h1 => ?_)
  ·refine th_skip rfl rfl rfl rfl rfl (by kernel_rfl)  ?_
   refine th_skip rfl rfl rfl rfl rfl (by kernel_rfl)  ?_
   refine th_skip rfl rfl rfl rfl rfl (by kernel_rfl)  ?_
   refine th_skip_u rfl rfl rfl rfl (by kernel_rfl)  ?_
   refine th_skip_u rfl rfl rfl rfl (by kernel_rfl)  ?_
   refine th_skip_u rfl rfl rfl rfl (by kernel_rfl)  ?_
   refine th_skip_u rfl rfl rfl rfl (by kernel_rfl)  ?_
   refine th_skip_u rfl rfl rfl rfl (by kernel_rfl)  ?_
   refine th_skip_u rfl rfl rfl rfl (by kernel_rfl)  ?_
   refine th_one (by kernel_rfl) (step_skip_u rfl rfl rfl rfl ?_)
   refine th_skip_u rfl rfl rfl rfl (by kernel_rfl)  ?_
   refine th_skip rfl rfl rfl rfl rfl (by kernel_rfl)  ?_
   refine th_take rfl rfl (by kernel_rfl)  (opv_pick_t rfl rfl) ?_
   refine th_done (by kernel_rfl) ?_
   refine tT ?_
   refine tri_cond_true rfl ?_
   refine tS (tR (tA rfl rfl (tN (tT (tri_ret ?_)))))
   refine tri_inBlock_ret ?_
   refine tri_then_ret (tri_then_ret ?_)
   refine tri_inBlock_ret ?_
   refine tri_then_ret ?_
   refine tri_end A Suf.h rfl (.cons (rv_tmp rfl) .nil) ⟨congrArg Value.bool ?_, rfl, hJ⟩
   exact (decide_eq_false (bad fun h2 => h1 h2.1)).symm
  ·have h1 := Decidable.not_not.1 h1
   refine th_take_g rfl rfl rfl rfl rfl (by kernel_rfl)  (opv_move rfl) ?_
   refine th_take_g rfl rfl rfl rfl rfl (by kernel_rfl)  (opv_gtr rfl rfl) ?_
   refine th_take_g rfl rfl rfl rfl rfl (by kernel_rfl)  (opv_move rfl) ?_
   refine th_split rfl rfl rfl (fun h2 => ?_) (fun h2 => ?_)
   ·have h2 : 0 < i := by omega
    refine th_take_g rfl rfl rfl rfl rfl (by kernel_rfl)  (opv_move rfl) ?_
    refine th_take_g rfl rfl rfl rfl rfl (by kernel_rfl)  (opv_move rfl) ?_
    refine th_take_g rfl rfl rfl rfl rfl (by kernel_rfl)  (opv_sub rfl rfl (w64 (by omega) (by omega))) ?_
    refine th_take_g rfl rfl rfl rfl rfl (by kernel_rfl)  (opv_indexAddrS rfl rfl (by omega) (by omega) (by assumption) rfl) ?_
    refine th_take_g rfl rfl rfl rfl rfl (by kernel_rfl)  (opv_loadEA rfl (by assumption) rfl (by omega) rfl rfl) ?_
    refine th_take_g rfl rfl rfl rfl rfl (by kernel_rfl)  (opv_loadA rfl rfl rfl) ?_
    refine th_one (by kernel_rfl) (step_mg rfl rfl rfl rfl rfl (opg_call (xs := [_, _]) rfl (place_order (p := R1.g l ((i:Int)-1).toNat) (q := R1.g l i))) ?_)
    rintro _ _ J2 ⟨rfl, rfl, hJ2⟩
    refine ⟨Suf.h, hJ2, ?_⟩
    rw [show ((i : Int) - 1).toNat = i - 1 by omega]
    refine th_take_g rfl rfl rfl rfl rfl (by kernel_rfl)  (opv_geq rfl rfl) ?_
    refine th_take_g rfl rfl rfl rfl rfl (by kernel_rfl)  (opv_pick_t rfl rfl) ?_
    refine th_take rfl rfl (by kernel_rfl)  (opv_pick_f rfl rfl) ?_
    refine th_done (by kernel_rfl) ?_
    refine tT ?_
    refine tri_cond_dec rfl (fun h3 => ?_) (fun h3 => ?_)
    ·have h3 : ¬ R1.less (R1.g l (i - 1)) (R1.g l i) := R1.cmpC_ge.1 h3
     refine tS (tR (tA rfl rfl (tN (tT (tri_ret ?_)))))
     refine tri_inBlock_ret ?_
     refine tri_then_ret (tri_then_ret ?_)
     refine tri_inBlock_ret ?_
     refine tri_then_ret ?_
     refine tri_end A Suf.h rfl (.cons (rv_tmp rfl) .nil) ⟨congrArg Value.bool ?_, rfl, fun _ h => hJ2 (hJ h)⟩
     exact (decide_eq_false (bad fun h4 => h3 (h4.2 h2))).symm
    ·have h3 : R1.less (R1.g l (i - 1)) (R1.g l i) := Decidable.byContradiction fun e => h3 (R1.cmpC_ge.2 e)
     refine tri_skip ?_
     refine tri_inBlock ?_
     refine tT (tR ?_)
     refine tU rfl rfl (by omega) (by omega) rfl ?_
     refine tM rfl rfl (tN (tT ?_))
     refine tri_drop ?_
     refine tri_sub ?_ (hK (i + 1, J2) ⟨by simp only; omega, fun j hj => ?_, fun _ h => hJ2 (hJ h)⟩ (by simp only; omega))
     ·exact ⟨rfl, rfl, rfl, rfl, trivial⟩
     ·by_cases e : j = i
      ·subst e
       exact ⟨h1, fun _ => h3⟩
      ·exact hok j (by simp only at hj; omega)
   ·refine th_skip rfl rfl rfl rfl rfl (by kernel_rfl)  ?_
    refine th_skip rfl rfl rfl rfl rfl (by kernel_rfl)  ?_
    refine th_skip rfl rfl rfl rfl rfl (by kernel_rfl)  ?_
    refine th_skip rfl rfl rfl rfl rfl (by kernel_rfl)  ?_
    refine th_skip rfl rfl rfl rfl rfl (by kernel_rfl)  ?_
    refine th_skip rfl rfl rfl rfl rfl (by kernel_rfl)  ?_
    refine th_one (by kernel_rfl) (step_skip rfl rfl rfl rfl rfl ?_)
    refine th_skip rfl rfl rfl rfl rfl (by kernel_rfl)  ?_
    refine th_take_g rfl rfl rfl rfl rfl (by kernel_rfl)  (opv_pick_f rfl rfl) ?_
    refine th_take rfl rfl (by kernel_rfl)  (opv_pick_f rfl rfl) ?_
    refine th_done (by kernel_rfl) ?_
    refine tT ?_
    refine tri_cond_false rfl ?_
    refine tri_skip ?_
    refine tri_inBlock ?_
    refine tT (tR ?_)
    refine tU rfl rfl (by omega) (by omega) rfl ?_
    refine tM rfl rfl (tN (tT ?_))
    refine tri_drop ?_
    refine tri_sub ?_ (hK (i + 1, J) ⟨by simp only; omega, fun j hj => ?_, hJ⟩ (by simp only; omega))
    ·exact ⟨rfl, rfl, rfl, rfl, trivial⟩
    ·by_cases e : j = i
     ·subst e
      exact ⟨h1, fun h => absurd h (by omega)⟩
     ·exact hok j (by simp only at hj; omega)
 ·refine tri_exit ?_
  refine tri_then_exit ?_
  refine tri_then_exit ?_
  refine tri_inBlock_hit rfl ?_
  refine tT (tS (tR (tM rfl rfl ?_)))
  refine tri_v (opv_len rfl) rfl ?_
  refine tri_v (opv_leq rfl rfl) rfl ?_
  refine tA rfl rfl (tN (tT (tri_ret ?_)))
  refine tri_end A Suf.h rfl (.cons (rv_tmp rfl) .nil) ⟨congrArg Value.bool (decide_eq_decide.2 ?_), rfl, hJ⟩
  unfold R1.right
  constructor
  ·intro h2; exact ⟨fun j hj => hok j (by omega), by omega⟩
  ·rintro ⟨_, h2⟩; omega
end Go.GL


set_option linter.unusedVariables false
namespace Go.GL
namespace R6
/-- A store behind what was made in it, or as it was. -/
def told (ns : List Node) (room : Int) (r : List Node × Int × Int) : List Node × Int × Int := if right ns room then (if r.2.2 ≠ 0 then (ns, 0, r.2.2) else r) else (ns, 0, 1)
theorem put_err {ns : List Node} {room q0 q1 q2 q3 : Int} (h : (put ns room q0 q1 q2 q3).2.2 ≠ 0) : put ns room q0 q1 q2 q3 = (ns, 0, (put ns room q0 q1 q2 q3).2.2) := by
 unfold put at *
 split
 ·rename_i h1
  rw [if_pos h1] at h
  split
  ·rename_i h2
   rw [if_pos h2] at h
   exact absurd rfl h
  ·rename_i h2
   rw [if_neg h2] at h
   split
   ·rfl
   ·rename_i h3
    rw [if_neg h3] at h
    exact absurd rfl h
 ·rfl
def emptyT (ns : List Node) (room lv : Int) : List Node × Int × Int := if lv < 0 ∨ 42 < lv then (ns, 0, 1) else told ns room (R7.empty ns room lv.toNat)
/-! #### what is live -/
def keepKids (keep : List Bool) (x : Node) : List Bool := (((keep.set x.k0.toNat true).set x.k1.toNat true).set x.k2.toNat true).set x.k3.toNat true
/-- From the node m + 1 down. -/
def keepDown (ns : List Node) : Nat → List Bool → List Bool
 | 0, keep => keep
 | m + 1, keep => keepDown ns m (if keep.getD (m + 2) default = true then keepKids keep (ns.getD (m + 2) default) else keep)
def keepRoots (n : Nat) (roots : List Int) : List Bool := roots.foldl (fun keep r => keep.set r.toNat true) (((List.replicate n false).set 0 true).set 1 true)
def kept (ns : List Node) (roots : List Int) : List Bool := keepDown ns (ns.length - 2) (keepRoots ns.length roots)
def mapKids (to : List Int) (x : Node) : Node := ⟨x.lv, to.getD x.k0.toNat default, to.getD x.k1.toNat default, to.getD x.k2.toNat default, to.getD x.k3.toNat default, x.pop⟩
def liveStep (ns : List Node) (keep : List Bool) (s : List Int × List Node) (i : Nat) : List Int × List Node := if keep.getD i default = true then (s.1.set i (s.2.length : Nat), s.2 ++ [mapKids s.1 (ns.getD i default)]) else s
def liveAll (ns : List Node) (keep : List Bool) : List Int × List Node := (List.range ns.length).foldl (liveStep ns keep) (List.replicate ns.length 0, [])
/-- A store, places, an error. -/
def live (ns : List Node) (room : Int) (roots : List Int) : List Node × List Int × Int :=
 if right ns room ∧ ∀ i, i < roots.length → inS ns (roots.getD i default) then ((liveAll ns (kept ns roots)).2, roots.map fun r => (liveAll ns (kept ns roots)).1.getD r.toNat default, 0) else (ns, [], 1)
end R6
end Go.GL
namespace Go.GL
namespace R6
theorem right.kid {ns : List Node} {room : Int} (h : right ns room) {i : Nat} (hi : i < ns.length) :
  (0 ≤ (ns.getD i default).k0 ∧ (ns.getD i default).k0 < ns.length ∧ (2 ≤ i → (ns.getD i default).k0 < i)) ∧ (0 ≤ (ns.getD i default).k1 ∧ (ns.getD i default).k1 < ns.length ∧ (2 ≤ i → (ns.getD i default).k1 < i)) ∧
  (0 ≤ (ns.getD i default).k2 ∧ (ns.getD i default).k2 < ns.length ∧ (2 ≤ i → (ns.getD i default).k2 < i)) ∧ (0 ≤ (ns.getD i default).k3 ∧ (ns.getD i default).k3 < ns.length ∧ (2 ≤ i → (ns.getD i default).k3 < i)) := by
 have h2 := h.1.2.2.1
 by_cases hi2 : 2 ≤ i
 ·obtain ⟨⟨a0, b0, _⟩, ⟨a1, b1, _⟩, ⟨a2, b2, _⟩, ⟨a3, b3, _⟩, _⟩ := h.2 i hi hi2
  refine ⟨⟨a0, by omega, fun _ => b0⟩, ⟨a1, by omega, fun _ => b1⟩, ⟨a2, by omega, fun _ => b2⟩, ⟨a3, by omega, fun _ => b3⟩⟩
 ·rcases (by omega : i = 0 ∨ i = 1) with rfl | rfl
  ·rw [h.1.2.2.2.2.1]
   refine ⟨⟨?_, ?_, ?_⟩, ⟨?_, ?_, ?_⟩, ⟨?_, ?_, ?_⟩, ⟨?_, ?_, ?_⟩⟩ <;> simp [n0] <;> omega
  ·rw [h.1.2.2.2.2.2]
   refine ⟨⟨?_, ?_, ?_⟩, ⟨?_, ?_, ?_⟩, ⟨?_, ?_, ?_⟩, ⟨?_, ?_, ?_⟩⟩ <;> simp [n1] <;> omega
end R6
/-- What a function that tells a store, places and an error comes to. -/
def LiveR (r : List Node × List Int × Int) (room : Int) (A : List Asrt) (I : List Chunk) : Value → List Asrt → List Chunk → Prop :=
 fun v A' I' => ∃ a' c' a2 c2, v = .tuple [storeV a' r.1.length c' room, .slice a2 r.2.1.length c2, .int .i64 r.2.2].toArray ∧ StA I' a' c' r.1 ∧ SlAt I' a2 r.2.1 ∧ A = A' ∧ I ⊆ I'
end Go.GL


set_option linter.unusedVariables false
namespace Go.GL
open Go.Proofs
attribute [local irreducible] wpList Code.wp Exit.then Exit.inBlock Ends Tri TriH OpV OpG FnC epf wpAnyH
variable {A : List Asrt} {I : List Chunk}
/-- What a function that makes something in an index comes to. -/
def IxM (bx mb : Nat) (r : List Node × Int × Int) (room : Int) (A : List Asrt) (I : List Chunk) : Value → List Asrt → List Chunk → Prop := fun v A' I' => ∃ J, IxQ bx mb r room A J v A' I' ∧ I ⊆ J
set_option maxHeartbeats 1000000 in
set_option maxRecDepth 100000 in
theorem square_told {ns : List Node} {a : Option Addr} {cap f1 : Nat} {room : Int} {ca1 : List Value} {r : List Node × Int × Int} [FnI Try.prog f1] (hs : StA I a cap ns) (hn : ns.length ≤ 1000000000)
  (hc1 : R6.right ns room → ∀ bx mb a cap es (X Y : Asrt), Idx ns es → FnC Try.prog f1 ([] ++ [mkV bx] ++ ca1).toArray (IxA bx mb a cap ns room es (X :: Y :: A)) I (IxM bx mb r room (X :: Y :: A) I)) :
  FnC Try.prog 37 [storeV a ns.length cap room, .func (.func f1) [].toArray ca1.toArray].toArray A I (StoreR (R6.told ns room r) room A I) := by
 skip
 skip
 refine fn_enter2 Try.func37 rfl Try.ntmps37 rfl fun w0 => ?_
 refine tS (tR ?_)
 refine tri_g (opg_box_agg rfl) rfl ?_
 rintro _ _ _ ⟨b2, rfl, rfl, rfl⟩
 refine tri_g opg_alloc rfl ?_
 rintro _ _ _ ⟨b4, rfl, rfl, rfl⟩
 refine tA rfl rfl (tA rfl rfl (tN (tT (tS (tR ?_)))))
 refine tri_v (opv_loadA rfl rfl rfl) rfl ?_
 refine tri_g (opg_call (xs := [_]) rfl (node_of hs hn)) rfl ?_
 rintro v A1 I1 hR
 rcases hR with ⟨hr, bx, mb, a1, c1, es, rfl, rfl, hix, rfl⟩ | ⟨hr, rfl, rfl, rfl⟩
 ·refine tM rfl rfl ?_
  refine tri_v (opv_extract rfl rfl) rfl ?_
  refine tri_v (opv_extract rfl rfl) rfl ?_
  refine tA rfl rfl (tA rfl rfl (tN (tT (tS (tS (tR (tM rfl rfl ?_)))))))
  refine tri_v (opv_not rfl) rfl ?_
  refine tN (tT ?_)
  refine tri_cond_false (by rfl) ?_
  refine tri_skip (tT (tS (tR (tM rfl rfl (tM rfl rfl ?_)))))
  refine tri_v (opv_buildS rfl rfl) rfl ?_
  refine tri_g (opg_callv (xs := [_]) rfl rfl (hc1 hr bx mb a1 c1 es _ _ hix)) rfl ?_
  rintro _ _ _ ⟨J, ⟨a2, c2, es2, ms, rfl, rfl, hi2, hg2, hl2, hm2, rfl⟩, hJ⟩
  refine tM rfl rfl ?_
  refine tri_v (opv_extract rfl rfl) rfl ?_
  refine tri_v (opv_extract rfl rfl) rfl ?_
  refine tA rfl rfl (tA rfl rfl (tN (tT (tS (tS (tR (tM rfl rfl ?_)))))))
  refine tri_v (opv_neq rfl rfl) rfl ?_
  refine tN (tT ?_)
  refine tri_cond_dec rfl (fun h => ?_) (fun h => ?_)
  ·refine tS (tR ?_)
   refine tri_v (opv_loadA rfl rfl rfl) rfl ?_
   refine tM rfl rfl ?_
   refine tri_g (opg_store rfl rfl rfl rfl rfl rfl) rfl ?_
   rintro _ _ _ ⟨rfl, rfl⟩
   refine tA rfl rfl (tA rfl rfl (tN (tT (tri_ret (tri_then_ret ?_)))))
   refine tri_end A Suf.h rfl (.cons (rv_cellA rfl rfl rfl) (.cons (rv_tmp rfl) (.cons (rv_tmp rfl) .nil))) ?_
   rw [show R6.told ns room r = (ns, 0, r.2.2) from (if_pos hr).trans (if_pos h)]
   exact ⟨a, cap, rfl, hs.mono hJ, rfl, hJ⟩
  ·have h0 : r.2.2 = 0 := Decidable.not_not.1 h
   have hm2 := hm2 h0
   subst hm2
   refine tri_skip (tT (tS (tR (tM rfl rfl ?_))))
   refine tri_v (opv_nilCheck rfl) rfl ?_
   refine tri_v (opv_fieldAddr rfl rfl) rfl ?_
   refine tri_v (opv_loadA rfl rfl rfl) rfl ?_
   refine tM rfl rfl ?_
   refine tri_g (opg_store rfl rfl rfl rfl rfl rfl) rfl ?_
   rintro _ _ _ ⟨rfl, rfl⟩
   refine tA rfl rfl (tA rfl rfl (tN (tT (tri_ret ?_))))
   refine tri_perm (A := ?a1_0 :: ?a1_1 :: ?T1) (B := ?a1_1 :: ?a1_0 :: ?T1) (by exact permL [1, 0] [?a1_0, ?a1_1] ?T1 (by decide) rfl) ?_
   refine tri_freezeRowC rfl fun I' hI' hs' => ?_
   refine tri_end A Suf.h rfl (.cons (rv_cellA rfl rfl rfl) (.cons (rv_tmp rfl) (.cons (rv_tmp rfl) .nil))) ?_
   rw [show R6.told ns room r = r from (if_pos hr).trans (if_neg h)]
   exact ⟨a2, c2, by rw [h0]; rfl, hs', rfl, fun _ h => hI' (hJ h)⟩
 ·refine tM rfl rfl ?_
  refine tri_v (opv_extract rfl rfl) rfl ?_
  refine tri_v (opv_extract rfl rfl) rfl ?_
  refine tA rfl rfl (tA rfl rfl (tN (tT (tS (tS (tR (tM rfl rfl ?_)))))))
  refine tri_v (opv_not rfl) rfl ?_
  refine tN (tT ?_)
  refine tri_cond_true (by rfl) ?_
  refine tS (tR ?_)
  refine tri_v (opv_loadA rfl rfl rfl) rfl ?_
  refine tri_g (opg_store rfl rfl rfl rfl rfl rfl) rfl ?_
  rintro _ _ _ ⟨rfl, rfl⟩
  refine tA rfl rfl (tA rfl rfl (tN (tT (tri_ret (tri_then_ret ?_)))))
  refine tri_end A Suf.h rfl (.cons (rv_cellA rfl rfl rfl) (.cons (rv_tmp rfl) (.cons (rv_tmp rfl) .nil))) ?_
  rw [show R6.told ns room r = (ns, 0, 1) from if_neg hr]
  exact ⟨a, cap, rfl, hs, rfl, fun _ h => h⟩
end Go.GL


set_option linter.unusedVariables false
namespace Go.GL
open Go.Proofs
attribute [local irreducible] wpList Code.wp Exit.then Exit.inBlock Ends Tri TriH OpV OpG FnC epf wpAnyH
variable {A : List Asrt} {I : List Chunk}
namespace R7
def make1 (ns : List Node) (room : Int) (l : List Cell) (z : Int) : List Node × Int × Int :=
 if z < 1 ∨ 42 < z ∨ ¬ R1.right l then (ns, 0, 1) else if ∀ i, i < l.length → inL z (R1.g l i) then build room z.toNat ns (cor z.toNat l) else (ns, 0, 2)
theorem told_make1 (ns : List Node) (room : Int) (l : List Cell) (z : Int) : R6.told ns room (make1 ns room l z) = make ns room l z := by
 by_cases hr : R6.right ns room
 ·have e0 : ∀ r, R6.told ns room r = if r.2.2 ≠ 0 then (ns, 0, r.2.2) else r := fun r => if_pos hr
  rw [e0]
  by_cases hz : z < 1 ∨ 42 < z ∨ ¬ R1.right l
  ·have e1 : make1 ns room l z = (ns, 0, 1) := if_pos hz
   have e2 : make ns room l z = (ns, 0, 1) := if_neg (fun h => hz.elim (fun k => by omega) fun k => k.elim (fun k => by omega) fun k => k h.2.2.2)
   rw [e1, e2]
   rfl
  ·have h1 : ¬ z < 1 := fun k => hz (.inl k)
   have h2 : ¬ 42 < z := fun k => hz (.inr (.inl k))
   have h3 : R1.right l := Decidable.byContradiction fun k => hz (.inr (.inr k))
   have e1 : make1 ns room l z = if ∀ i, i < l.length → inL z (R1.g l i) then build room z.toNat ns (cor z.toNat l) else (ns, 0, 2) := if_neg hz
   have e2 : make ns room l z = if ∀ i, i < l.length → inL z (R1.g l i) then (if (build room z.toNat ns (corner (side z) l)).2.2 ≠ 0 then (ns, 0, (build room z.toNat ns (corner (side z) l)).2.2) else build room z.toNat ns (corner (side z) l)) else (ns, 0, 2) := if_pos ⟨hr, by omega, by omega, h3⟩
   have e : cor z.toNat l = corner (side z) l := by
    obtain ⟨m, hm⟩ : ∃ m : Nat, z = ((m + 1 : Nat) : Int) := ⟨(z - 1).toNat, by omega⟩
    rw [hm, Int.toNat_natCast, R7.side_nat rfl]
    rfl
   rw [e1, e2, e]
   by_cases hall : ∀ i, i < l.length → inL z (R1.g l i)
   ·rw [if_pos hall, if_pos hall]
   ·rw [if_neg hall, if_neg hall]
    rfl
 ·have e1 : R6.told ns room (make1 ns room l z) = (ns, 0, 1) := if_neg hr
  have e2 : make ns room l z = (ns, 0, 1) := if_neg (fun h => hr h.1)
  rw [e1, e2]
end R7
theorem right_good7 {ns : List Node} {room : Int} (h : R6.right ns room) : R6.Good ns room ∧ 2 ≤ ns.length := ⟨h.good (by have := h.1.2.1; omega), h.1.2.2.1⟩
set_option maxHeartbeats 2000000 in
set_option maxRecDepth 100000 in
theorem square_make1 {ns : List Node} {a bb : Option Addr} {cap cap2 bx mb b4 b5 : Nat} {room z : Int} {l : List Cell} {es : KVs} {T1 T2 : TypeId} {X Y Z : Asrt} (hg : R6.Good ns room) (h2n : 2 ≤ ns.length) (hix : Idx ns es) (hsl : SlAt I bb l) (hn : l.length ≤ 1000000) :
  FnC Try.prog 38 ([] ++ [mkV bx] ++ [pt b5 0, pt b4 0]).toArray (IxA bx mb a cap ns room es (X :: Y :: Z :: Box b5 [.int .i64 z] T1 :: Box b4 [.slice bb l.length cap2] T2 :: A)) I (IxM bx mb (R7.make1 ns room l z) room (X :: Y :: Z :: Box b5 [.int .i64 z] T1 :: Box b4 [.slice bb l.length cap2] T2 :: A) I) := by
 show FnC Try.prog _ [mkV bx, pt b5 0, pt b4 0].toArray _ _ _
 have bad : ∀ {J : List Chunk}, I ⊆ J → (z < 1 ∨ 42 < z ∨ ¬ R1.right l) → IxM bx mb (R7.make1 ns room l z) room (X :: Y :: Z :: Box b5 [.int .i64 z] T1 :: Box b4 [.slice bb l.length cap2] T2 :: A) I (.tuple [.int .i64 0, .int .i64 1].toArray) (IxA bx mb a cap ns room es (X :: Y :: Z :: Box b5 [.int .i64 z] T1 :: Box b4 [.slice bb l.length cap2] T2 :: A)) J := fun hJ h => by
  rw [show R7.make1 ns room l z = (ns, 0, 1) from if_pos h]
  exact ⟨_, ⟨a, cap, es, ns, rfl, rfl, hix, hg, h2n, fun _ => rfl, rfl⟩, hJ⟩
 skip
 skip
 refine fn_enter3 Try.func38 rfl Try.ntmps38 rfl fun w0 => ?_
 refine tS (tR ?_)
 refine tri_g (opg_box_agg rfl) rfl ?_
 rintro _ _ _ ⟨b3, rfl, rfl, rfl⟩
 refine tA rfl rfl (tA rfl rfl (tN (tT (tS (tS (tR ?_))))))
 refine tri_v (opv_load1 rfl rfl rfl) rfl ?_
 refine tri_v (opv_lss rfl rfl) rfl ?_
 refine tM rfl rfl ?_
 refine tri_split rfl rfl (fun h1 => ?_) (fun h1 => ?_)
 ·refine tri_guard_skip rfl rfl rfl rfl (tri_guard_skip rfl rfl rfl rfl ?_)
  refine tri_v (opv_pick_t rfl rfl) rfl ?_
  refine tM rfl rfl (tri_guard_skip rfl rfl rfl rfl (tri_guard_skip rfl rfl rfl rfl (tri_guard_skip rfl rfl rfl rfl ?_)))
  refine tri_v (opv_pick_t rfl rfl) rfl ?_
  refine tN (tT ?_)
  refine tri_cond_true rfl ?_
  refine tS (tR (tA rfl rfl (tA rfl rfl (tN (tT (tri_ret (tri_then_ret ?_)))))))
  refine tri_end _ (⟨[_], rfl⟩) rfl (.cons (rv_tmp rfl) (.cons (rv_tmp rfl) .nil)) (bad (fun _ h => h) (.inl h1))
 ·refine tri_guard_run rfl rfl rfl ?_
  refine tri_v (opv_load1 rfl rfl rfl) rfl ?_
  refine tri_guard_run rfl rfl rfl ?_
  refine tri_v (opv_gtr rfl rfl) rfl ?_
  refine tri_v (opv_pick_f rfl rfl) rfl ?_
  refine tM rfl rfl ?_
  refine tri_split rfl rfl (fun h2 => ?_) (fun h2 => ?_)
  ·refine tri_guard_skip rfl rfl rfl rfl (tri_guard_skip rfl rfl rfl rfl (tri_guard_skip rfl rfl rfl rfl ?_))
   refine tri_v (opv_pick_t rfl rfl) rfl ?_
   refine tN (tT ?_)
   refine tri_cond_true rfl ?_
   refine tS (tR (tA rfl rfl (tA rfl rfl (tN (tT (tri_ret (tri_then_ret ?_)))))))
   refine tri_end _ (⟨[_], rfl⟩) rfl (.cons (rv_tmp rfl) (.cons (rv_tmp rfl) .nil)) (bad (fun _ h => h) (.inr (.inl h2)))
  ·refine tri_guard_run rfl rfl rfl ?_
   refine tri_v (opv_load1 rfl rfl rfl) rfl ?_
   refine tri_guard_run rfl rfl rfl ?_
   refine tri_g (opg_call (xs := [_]) rfl (cells_right hsl (by omega))) rfl ?_
   rintro _ _ I1 ⟨rfl, rfl, hI1⟩
   refine tri_guard_run rfl rfl rfl ?_
   refine tri_v (opv_notD rfl) rfl ?_
   refine tri_v (opv_pick_f rfl rfl) rfl ?_
   refine tN (tT ?_)
   refine tri_cond_dec rfl (fun h3 => ?_) (fun h3 => ?_)
   ·refine tS (tR (tA rfl rfl (tA rfl rfl (tN (tT (tri_ret (tri_then_ret ?_)))))))
    refine tri_end _ (⟨[_], rfl⟩) rfl (.cons (rv_tmp rfl) (.cons (rv_tmp rfl) .nil)) (bad hI1 (.inr (.inr h3)))
   ·have hr : R1.right l := Decidable.not_not.1 h3
    have hmk : R7.make1 ns room l z = if ∀ i, i < l.length → R7.inL z (R1.g l i) then R7.build room z.toNat ns (R7.cor z.toNat l) else (ns, 0, 2) := if_neg (fun h => h.elim h1 fun h => h.elim h2 h3)
    obtain ⟨lv, hlv⟩ : ∃ lv : Nat, z = lv := ⟨z.toNat, by omega⟩
    have hsl := hsl.mono hI1
    have hbd : ∀ d ∈ l, R2.bd d := fun d hd => by
     have := R1.right_inB hr d hd
     unfold R1.inB at this
     unfold R2.bd
     omega
    subst hlv
    refine tri_skip (tT (tS (tS (tR ?_))))
    refine tri_v (opv_load1 rfl rfl rfl) rfl ?_
    refine tri_v (opv_len rfl) rfl ?_
    refine tM rfl rfl (tN (tT (tri_block ?_)))
    refine tri_sub (F' := [(1, pt b5 0), (2, pt b4 0), (3, pt b3 0), (19, .slice bb l.length cap2), (20, .int .i64 (l.length : Nat)), (21, .int .i64 ((0 : Nat) : Int))]) ⟨rfl, rfl, rfl, rfl, rfl, rfl, trivial⟩ ?_
    refine loop_ind (G := Nat) (fun i => l.length - i) (fun i => i ≤ l.length ∧ ∀ j, j < i → R7.inL lv (R1.g l j)) (fun i => [(1, pt b5 0), (2, pt b4 0), (3, pt b3 0), (19, .slice bb l.length cap2), (20, .int .i64 (l.length : Nat)), (21, .int .i64 (i : Nat))]) (fun _ => _) (fun _ => _) ?_ 0 ⟨Nat.zero_le _, fun j h => absurd h (Nat.not_lt_zero _)⟩
    rintro i ⟨hi, hok⟩ K hK
    skip
    refine tS (tR ?_)
    refine tri_v (opv_lss rfl rfl) rfl ?_
    refine tN (tT (tS ?_))
    refine tri_cond_dec rfl (fun h4 => ?_) (fun h4 => ?_)
    ·have hlt : i < l.length := by omega
     refine tri_skip (tT (tS (tri_block (tS (tR ?_)))))
     refine tri_v (opv_indexAddrSN rfl rfl (by omega) (by assumption) rfl) rfl ?_
     refine tri_v (opv_loadEA rfl (by assumption) rfl (by omega) rfl rfl) rfl ?_
     refine tri_g opg_alloc rfl ?_
     rintro _ _ _ ⟨b7, rfl, rfl, rfl⟩
     refine tri_g (opg_store rfl rfl rfl rfl rfl rfl) rfl ?_
     rintro _ _ _ ⟨rfl, rfl⟩
     refine tN (tT (tS (tR ?_)))
     refine tri_v (opv_load1 rfl rfl rfl) rfl ?_
     refine tri_v (opv_loadA rfl rfl rfl) rfl ?_
     refine tri_g (opg_call (xs := [_, _]) rfl (square_in (lv := lv) (c := l.getD i default) (by omega) (by omega))) rfl ?_
     rintro _ _ _ ⟨rfl, rfl, rfl⟩
     refine tri_v (opv_notD rfl) rfl ?_
     refine tN (tT ?_)
     refine tri_cond_dec rfl (fun h5 => ?_) (fun h5 => ?_)
     ·refine tS (tR (tA rfl rfl (tA rfl rfl (tN (tT (tri_ret ?_))))))
      refine tri_inBlock_ret ?_
      refine tri_then_ret (tri_then_ret ?_)
      refine tri_inBlock_ret ?_
      refine tri_then_ret ?_
      refine tri_drop (tri_drop ?_)
      refine tri_end _ (⟨[], rfl⟩) rfl (.cons (rv_tmp rfl) (.cons (rv_tmp rfl) .nil)) ?_
      rw [hmk, if_neg (fun k => h5 (k i hlt))]
      exact ⟨_, ⟨a, cap, es, ns, rfl, rfl, hix, hg, h2n, fun _ => rfl, rfl⟩, hI1⟩
     ·have h5 : R7.inL lv (R1.g l i) := Decidable.not_not.1 h5
      refine tri_skip ?_
      refine tri_inBlock ?_
      refine tT (tR ?_)
      refine tU rfl rfl (by omega) (by omega) rfl ?_
      refine tM rfl rfl (tN (tT ?_))
      refine tri_drop ?_
      refine tri_sub ?_ (hK (i + 1) ⟨by omega, fun j hj => ?_⟩ (by omega))
      ·exact ⟨rfl, rfl, rfl, rfl, rfl, rfl, trivial⟩
      ·by_cases e : j = i
       ·subst e; exact h5
       ·exact hok j (by omega)
    ·have hall : ∀ i, i < l.length → R7.inL lv (R1.g l i) := fun j hj => hok j (by omega)
     rw [if_pos hall] at hmk
     rw [Int.toNat_natCast] at hmk
     clear hK
     refine tri_exit ?_
     refine tri_then_exit ?_
     refine tri_then_exit ?_
     refine tri_inBlock_hit rfl ?_
     refine tT (tS (tR ?_))
     refine tri_v (opv_loadA rfl rfl rfl) rfl ?_
     refine tri_v (opv_load1 rfl rfl rfl) rfl ?_
     refine tri_v (opv_load1 rfl rfl rfl) rfl ?_
     refine tri_perm (A := ?a1_0 :: ?a1_1 :: ?a1_2 :: ?a1_3 :: ?T1) (B := ?a1_1 :: ?a1_2 :: ?a1_3 :: ?a1_0 :: ?T1) (by exact permL [1, 2, 3, 0] [?a1_0, ?a1_1, ?a1_2, ?a1_3] ?T1 (by decide) rfl) ?_
     refine tri_g (opg_call (xs := [_, _, _]) rfl (square_build lv lv _ _ _ _ _ _ _ _ _ _ room _ _ rfl (by omega) hg h2n hix hsl hn hbd hmk.symm)) rfl ?_
     rintro _ _ _ ⟨J2, ⟨d0, f0, es0, ms0, rfl, rfl, hx0, hg0, hl0, hm0, rfl⟩, hJ2⟩
     refine tri_v (opv_extract rfl rfl) rfl ?_
     refine tri_v (opv_extract rfl rfl) rfl ?_
     refine tA rfl rfl (tA rfl rfl (tN (tT (tri_ret ?_))))
     refine tri_perm (A := ?a2_0 :: ?a2_1 :: ?a2_2 :: ?a2_3 :: ?T2) (B := ?a2_3 :: ?a2_0 :: ?a2_1 :: ?a2_2 :: ?T2) (by exact permL [3, 0, 1, 2] [?a2_0, ?a2_1, ?a2_2, ?a2_3] ?T2 (by decide) rfl) ?_
     refine tri_end _ (⟨[_], rfl⟩) rfl (.cons (rv_tmp rfl) (.cons (rv_tmp rfl) .nil)) ⟨_, ⟨d0, f0, es0, ms0, rfl, rfl, hx0, hg0, hl0, hm0, rfl⟩, fun _ h => hJ2 (hI1 h)⟩
set_option maxHeartbeats 1000000 in
set_option maxRecDepth 100000 in
theorem square_make {ns : List Node} {a bb : Option Addr} {cap cap2 : Nat} {room z : Int} {l : List Cell} (hs : StA I a cap ns) (hn : ns.length ≤ 1000000000) (hsl : SlAt I bb l) (hl : l.length ≤ 1000000) :
  FnC Try.prog 14 [storeV a ns.length cap room, .slice bb l.length cap2, .int .i64 z].toArray A I (StoreR (R7.make ns room l z) room A I) := by
 rw [← R7.told_make1]
 skip
 skip
 refine fn_enter3 Try.func14 rfl Try.ntmps14 rfl fun w0 => ?_
 refine tS (tR ?_)
 refine tri_g (opg_box_agg rfl) rfl ?_
 rintro _ _ _ ⟨b3, rfl, rfl, rfl⟩
 refine tri_g (opg_box1 rfl rfl) rfl ?_
 rintro _ _ _ ⟨b4, rfl, rfl, rfl⟩
 refine tri_g (opg_box1 rfl rfl) rfl ?_
 rintro _ _ _ ⟨b5, rfl, rfl, rfl⟩
 refine tri_g opg_alloc rfl ?_
 rintro _ _ _ ⟨b6, rfl, rfl, rfl⟩
 refine tA rfl rfl (tA rfl rfl (tN (tT (tS (tR ?_)))))
 refine tri_v (opv_loadA rfl rfl rfl) rfl ?_
 refine tri_v (opv_makeFunc (fs := []) (cs := [_, _]) (vf := []) (vc := [_, _]) rfl rfl) rfl ?_
 refine tri_g (opg_call (xs := [_, _]) rfl (square_told (r := R7.make1 ns room l z) (ca1 := [pt b5 0, pt b4 0]) hs hn (fun hr bx mb a cap es X Y hi => square_make1 (right_good7 hr).1 (right_good7 hr).2 hi hsl hl))) rfl ?_
 rintro _ _ I1 ⟨a1, c1, rfl, hs1, rfl, hI1⟩
 refine tri_v (opv_extract rfl rfl) rfl ?_
 refine tri_v (opv_extract rfl rfl) rfl ?_
 refine tri_v (opv_extract rfl rfl) rfl ?_
 refine tri_g (opg_store rfl rfl rfl rfl rfl rfl) rfl ?_
 rintro _ _ _ ⟨rfl, rfl⟩
 refine tA rfl rfl (tA rfl rfl (tN (tT (tri_ret ?_))))
 refine tri_end A Suf.h rfl (.cons (rv_cellA rfl rfl rfl) (.cons (rv_tmp rfl) (.cons (rv_tmp rfl) .nil))) ⟨a1, c1, rfl, hs1, rfl, hI1⟩
end Go.GL


set_option linter.unusedVariables false
namespace Go.GL
open Go.Proofs Go.Shelf Go.RowKit Go.Lib Go.Sort
/-! ### The kit's contract of slices.SortFunc, in this logic -/
theorem grow_of_st {W w' : World} {A' : List Asrt} {I' : List Chunk} (h : St W w' A' I') (hI : worldI W ⊆ I') : ∃ q os', w' = grow (W.drewN q) os' := by
 obtain ⟨cs, _, hw⟩ := h
 have hh : w'.heap = W.heap ++ w'.heap.extract W.heap.size w'.heap.size := by
  apply Array.ext_getElem?
  intro k
  rw [Array.getElem?_append]
  by_cases hk : k < W.heap.size
  ·rw [if_pos hk]
   have h1 : W.heap[k]? = some W.heap[k] := Array.getElem?_eq_getElem hk
   rw [h1]
   exact hw.has (k, _) (List.mem_append_right _ (hI (mem_worldI.2 h1)))
  ·rw [if_neg hk, Array.getElem?_extract]
   have := hw.size
   by_cases h2 : k < w'.heap.size
   ·rw [if_pos (by omega), show W.heap.size + (k - W.heap.size) = k by omega]
   ·rw [if_neg (by omega), Array.getElem?_eq_none (by omega)]
 have h1 := hw.os
 have h2 := hw.tape
 have h3 := hw.output
 have h4 := hw.dr
 refine ⟨w'.drawn - W.drawn, w'.heap.extract W.heap.size w'.heap.size, ?_⟩
 obtain ⟨hp, tp, dr, o, out⟩ := w'
 simp only at h1 h2 h3 h4 hh ⊢
 unfold grow World.drewN
 simp only [World.mk.injEq]
 exact ⟨hh, h2, by omega, h1, h3⟩
theorem Wd.grow {w0 w : World} {L : List Chunk} (h : Wd w0 w L) (os : Array Obj) : Wd w0 (Go.Sort.grow w os) L :=
 ⟨h.os, h.tape, h.output, by have := h.size; unfold Go.Sort.grow; rw [Array.size_append]; omega, h.nd, fun c hc => by
  have h1 := h.lt hc
  show (w.heap ++ os)[c.1]? = some c.2
  rw [Array.getElem?_append_left h1]
  exact h.has c hc, h.dr⟩
theorem swo_cells : SWO (ltOf R1.cmpC) := by
 have key : ∀ x y, ltOf R1.cmpC x y = decide (R1.less x y) := fun x y => decide_eq_decide.2 R1.cmpC_lt
 refine ⟨fun x => ?_, fun x y z h1 h2 => ?_, fun x y z h1 h2 => ?_⟩
 ·rw [key]; exact decide_eq_false (R1.less_irrefl x)
 ·rw [key] at *
  exact decide_eq_true (R1.less_trans (of_decide_eq_true h1) (of_decide_eq_true h2))
 ·rw [key] at *
  have a := of_decide_eq_false h1
  have b := of_decide_eq_false h2
  refine decide_eq_false ?_
  unfold R1.less at *
  omega
theorem enters_of {P : Program} {f : FuncId} [h : FnI P f] (args : Array Value) (w : World) : (callFunc f args).run P w = .ok (.enter f args) w := by
 obtain ⟨fn, h1, h2, h3⟩ := h.fn
 simp only [callFunc, Sem.run_bind, run_program, Result.andThen_ok, h1, h2, h3]
 rfl
section
variable {P : Program} {ρ : Ren} {A : List Asrt} {I : List Chunk}
theorem flat_cells (l : List Cell) (j : Nat) (hj : j < l.length * 2) : (flatK (Enc.enc (α := Cell)) 2 l.toArray)[j]! = ((encs l)[j]?).getD default := by
 rw [get_flatK _ _ _ _ (by simpa using hj)]
 have h := encs_get l (j / 2) (j % 2) (by omega) (by show j % 2 < 2; omega)
 rw [show Enc.sz Cell = 2 from rfl, show j / 2 * 2 + j % 2 = j by omega] at h
 rw [h]
 have e1 : l.toArray[j / 2]! = l.getD (j / 2) default := by
  rw [getElem!_def]
  simp [List.getD_eq_getElem?_getD]
  cases l[j / 2]? <;> rfl
 rw [e1, getElem!_def]
 cases (Enc.enc (l.getD (j / 2) default))[j % 2]? <;> rfl
/-- Sorted by 'by(place.order)': the closure's one captured variable is the box b. -/
theorem fnc_sort (L : SlLaysF0.n6 P ρ) (aE : ∀ w, (isAgg (ρ.t 24)).run P w = .ok true w) (zE : ∀ w, (Go.sizeOf (ρ.t 24)).run P w = .ok 2 w) {g b : Nat} {fv : Value} {Tb E : TypeId} {l : List Cell} {a : Option Addr} {cap : Nat} (eg : ∀ args w, (callFunc g args).run P w = .ok (.enter g args) w)
  (hc : ∀ (J : List Chunk), (b, Obj.cells #[fv] Tb (0, 0)) ∈ J → ∀ x y : Cell, FnC P g #[cellV x, cellV y, pt b 0] [] J (fun v A' I' => v = .int .i64 (R1.cmpC x y) ∧ [] = A' ∧ J ⊆ I')) (hn : l.length ≤ 1000000000) :
  FnC P (ρ.f 6) #[.slice a l.length cap, .func (.func g) #[] #[pt b 0]] (Row a cap l.length E 2 (encs l) :: Box b [fv] Tb :: A) I (fun v A' I' => ∃ m, v = .tuple #[] ∧ m.Perm l ∧ m.Pairwise (fun x y => ¬ R1.less y x) ∧ A' = Row a cap m.length E 2 (encs m) :: Box b [fv] Tb :: A ∧ I = I') := by
 intro w0 w hs
 cases l with
 | nil => exact (AnyF.slices_SortFunc_none L a cap _ w).mono fun e w' ⟨he, hw⟩ => ⟨_, _, _, he, ⟨[], rfl, .refl _, .nil, rfl, rfl⟩, hw ▸ hs⟩
 | cons l0 lr =>
  generalize hl : l0 :: lr = l at *
  have hne : 0 < l.length := by rw [← hl]; simp
  clear hl
  obtain ⟨cs, h1, h2⟩ := hs
  obtain ⟨c, cs', rfl, ⟨hlen, hrow⟩, hr⟩ := h1.cons_inv
  obtain ⟨c2, cs2, rfl, hbox, hr2⟩ := hr.cons_inv
  have hbox : c2 = [(b, .cells #[fv] Tb (0, 0))] := hbox
  subst hbox
  rcases hrow with ⟨_, _, h0, _⟩ | ⟨blk, cur, rfl, rfl, hsz, hle, htk⟩
  ·omega
  have hblk : w.heap[blk]? = some (.cells cur E (0, 0)) := h2.has (blk, _) (by simp)
  have hbb : w.heap[b]? = some (.cells #[fv] Tb (0, 0)) := h2.has (b, _) (by simp)
  have hlt : blk < w.heap.size := (Array.getElem?_eq_some_iff.1 hblk).1
  have hltb : b < w.heap.size := (Array.getElem?_eq_some_iff.1 hbb).1
  have hbne : b ≠ blk := by
   have := h2.nd
   simp only [List.cons_append, List.nil_append, List.map_cons, List.nodup_cons, List.mem_cons, not_or] at this
   exact fun e => this.1.1 e.symm
  have hcur : l.length * 2 ≤ cur.size := by rw [hsz]; omega
  have hget : ∀ j, j < l.length * 2 → cur[j]? = some (((encs l)[j]?).getD default) := fun j hj => by
   have e : (encs l)[j]? = cur[j]? := by
    rw [← htk, List.getElem?_take_of_lt hj]
    simp
   have : j < cur.size := by omega
   rw [e, Array.getElem?_eq_getElem this]
   rfl
  have hother : ∀ (m : Nat) (dk : Array Cell) (os : Array Obj) (k : Nat) (o : Obj), k ≠ blk → w.heap[k]? = some o → (sortWorldK (Enc.enc (α := Cell)) 2 w blk 0 m dk os).heap[k]? = some o := fun m dk os k o hk hko => by
   have hk1 : k < w.heap.size := (Array.getElem?_eq_some_iff.1 hko).1
   show ((w.heap.modify blk _) ++ os)[k]? = some o
   rw [Array.getElem?_append_left (by simpa using hk1), Array.getElem?_modify, if_neg (fun e => hk e.symm)]
   exact hko
  have hcmp : CmpLays P g #[pt b 0] (Enc.enc (α := Cell)) 2 R1.cmpC blk 0 l.toArray.size w := fun m os dk _ x y => by
   have hm : (b, Obj.cells #[fv] Tb (0, 0)) ∈ worldI (sortWorldK (Enc.enc (α := Cell)) 2 w blk 0 m dk os) := mem_worldI.2 (hother m dk os b _ hbne hbb)
   exact (hc _ hm x y _ _ (st_world _)).mono fun e w' ⟨v, A', I', he, ⟨hv, _, hI⟩, hS⟩ => ⟨hv ▸ he, grow_of_st hS hI⟩
  have hH : HoldsK (Enc.enc (α := Cell)) 2 w blk 0 l.toArray := fun j hj => by
   have hj2 : j < l.length * 2 := by simpa using hj
   rw [flat_cells l j hj2, Nat.zero_add]
   refine ⟨?_, ?_⟩
   ·rw [cell_at hblk]; exact hget j hj2
   ·simp [World.frozen?, hblk]
  refine (AnyQ.slices_SortFunc_total L 2 aE zE (Enc.enc (α := Cell)) (fun _ => rfl) (fun x v hv => by have := Enc.one x; exact List.all_eq_true.1 this v hv) R1.cmpC swo_cells g #[pt b 0] blk 0 cap l.toArray w eg hcmp hH hlt (by simp; omega) (fun x y h1 h2 => ?_)).mono ?_
  ·have a := of_decide_eq_false h1
   have b := of_decide_eq_false h2
   rw [R1.cmpC_lt] at a b
   exact Decidable.byContradiction fun e => (R1.less_total e).elim a b
  rintro e w' ⟨rfl, n, os, rfl⟩
  obtain ⟨m, hm⟩ : ∃ m, l.toArray.toList.mergeSort (fun x y => !(ltOf R1.cmpC) y x) = m := ⟨_, rfl⟩
  rw [hm]
  have hperm : m.Perm l := by rw [← hm]; exact List.mergeSort_perm _ _
  have hml : m.length = l.length := hperm.length_eq
  have hsrt : m.Pairwise (fun x y => ¬ R1.less y x) := by
   have hle : ∀ x y : Cell, (!(ltOf R1.cmpC) y x) = true ↔ ¬ R1.less y x := fun x y => by
    unfold ltOf
    rw [Bool.not_eq_true', decide_eq_false_iff_not, R1.cmpC_lt]
   have := List.pairwise_mergeSort (le := fun x y => !(ltOf R1.cmpC) y x) (fun x y z h1 h2 => by
    rw [hle] at *
    unfold R1.less at *
    omega) (fun x y => by
    rw [Bool.or_eq_true, hle, hle]
    unfold R1.less
    omega) l.toArray.toList
   rw [hm] at this
   exact this.imp fun h => (hle _ _).1 h
  refine ⟨_, _, _, rfl, ⟨m, rfl, hperm, hsrt, rfl, rfl⟩, ?_⟩
  -- the world behind the sort
  obtain ⟨cur', hcur'⟩ : ∃ cur', putCells id 0 (flatK (Enc.enc (α := Cell)) 2 m.toArray) cur = cur' := ⟨_, rfl⟩
  have hsz' : cur'.size = cur.size := by rw [← hcur']; simp [putCells]
  have htk' : cur'.toList.take (m.length * 2) = encs m := by
   apply List.ext_getElem?
   intro j
   by_cases hj : j < m.length * 2
   ·rw [List.getElem?_take_of_lt hj, ← hcur']
    have hj2 : j < cur.size := by omega
    simp only [Array.getElem?_toList]
    unfold putCells
    rw [Array.getElem?_mapIdx, Array.getElem?_eq_getElem hj2, Option.map_some, if_pos ⟨Nat.zero_le _, by simp; omega⟩, Nat.sub_zero, flat_cells m j hj]
    have hlt2 : j < (encs m).length := by rw [encs_length]; exact hj
    rw [List.getElem?_eq_getElem hlt2]
    rfl
   ·rw [List.getElem?_eq_none (by rw [List.length_take]; omega), List.getElem?_eq_none (by rw [encs_length]; exact Nat.le_of_not_lt hj)]
  have hw := Wd.setObj (by simpa using h2) (.cells cur' E (0, 0)) (w.heap.modify blk (onCells (putCells id 0 (flatK (Enc.enc (α := Cell)) 2 m.toArray)))) (by simp) (by
   rw [Array.getElem?_modify, if_pos rfl, hblk]
   show some (Obj.cells (putCells id 0 _ cur) E (0, 0)) = _
   rw [hcur']) (fun k hk => by rw [Array.getElem?_modify, if_neg (fun e => hk e.symm)])
  have hw2 := (hw.drawn (w.drawn + n) (Nat.le_add_right _ _)).grow os
  have hw3 : Wd w0 (sortWorldK (Enc.enc (α := Cell)) 2 w blk 0 n m.toArray os) _ := hw2
  exact ⟨[(blk, .cells cur' E (0, 0))] ++ ([(b, .cells #[fv] Tb (0, 0))] ++ cs2), .cons ⟨by rw [encs_length]; rfl, .inr ⟨blk, cur', rfl, rfl, by rw [hsz', hsz], by omega, htk'⟩⟩ hr, by simpa using hw3⟩
end
end Go.GL


set_option linter.unusedVariables false
namespace Go.GL
open Go.Proofs Go.Shelf
/-! ### slices.SortFunc at cells: the kit's laying (lay-plain.mjs wrote it) -/
def lays40_ren : Go.Shelf.Ren := ⟨fun | 6 => 80 | 15 => 93 | 14 => 92 | 28 => 104 | 29 => 105 | 20 => 96 | 21 => 97 | 22 => 98 | 23 => 99 | 24 => 100 | 25 => 101 | 26 => 102 | 27 => 103 | 46 => 106 | 47 => 107 | 48 => 108 | 49 => 109 | 50 => 110 | 57 => 111 | n => n, fun | 22 => 29 | 24 => 28 | 25 => 116 | 3 => 3 | 39 => 88 | 0 => 0 | 53 => 138 | 55 => 140 | 4 => 4 | 46 => 132 | 45 => 131 | 50 => 122 | 5 => 5 | 9 => 9 | 66 => 141 | 70 => 145 | 76 => 147 | 77 => 148 | n => n, fun | n => n⟩
theorem lays40 : Go.Proofs.SlLaysF0.n6 Try.prog lays40_ren := {
 mixed := by kernel_rfl
 f6 := ⟨Try.f80.name, by decide, Try.func80.trans (congrArg some (by kernel_rfl))⟩
 f14 := ⟨Try.f92.name, by decide, Try.func92.trans (congrArg some (by kernel_rfl))⟩
 f15 := Try.func93.trans (congrArg some (by kernel_rfl))
 f20 := ⟨Try.f96.name, by decide, Try.func96.trans (congrArg some (by kernel_rfl))⟩
 f21 := ⟨Try.f97.name, by decide, Try.func97.trans (congrArg some (by kernel_rfl))⟩
 f22 := ⟨Try.f98.name, by decide, Try.func98.trans (congrArg some (by kernel_rfl))⟩
 f23 := ⟨Try.f99.name, by decide, Try.func99.trans (congrArg some (by kernel_rfl))⟩
 f24 := ⟨Try.f100.name, by decide, Try.func100.trans (congrArg some (by kernel_rfl))⟩
 f25 := ⟨Try.f101.name, by decide, Try.func101.trans (congrArg some (by kernel_rfl))⟩
 f26 := ⟨Try.f102.name, by decide, Try.func102.trans (congrArg some (by kernel_rfl))⟩
 f27 := ⟨Try.f103.name, by decide, Try.func103.trans (congrArg some (by kernel_rfl))⟩
 f28 := Try.func104.trans (congrArg some (by kernel_rfl))
 f29 := Try.func105.trans (congrArg some (by kernel_rfl))
 f46 := ⟨Try.f106.name, by decide, Try.func106.trans (congrArg some (by kernel_rfl))⟩
 f47 := Try.func107.trans (congrArg some (by kernel_rfl))
 f48 := Try.func108.trans (congrArg some (by kernel_rfl))
 f49 := ⟨Try.f109.name, by decide, Try.func109.trans (congrArg some (by kernel_rfl))⟩
 f50 := ⟨Try.f110.name, by decide, Try.func110.trans (congrArg some (by kernel_rfl))⟩
 f57 := ⟨Try.f111.name, by decide, Try.func111.trans (congrArg some (by kernel_rfl))⟩
 t0 := Try.underlying0
 a0 := Try.isAgg0
 z0 := Try.sizeOf0
 v0 := Try.zeroValue0
 t3 := Try.underlying3
 a3 := Try.isAgg3
 z3 := Try.sizeOf3
 v3 := Try.zeroValue3
 t4 := Try.underlying4
 a4 := Try.isAgg4
 z4 := Try.sizeOf4
 v4 := Try.zeroValue4
 t5 := Try.underlying5
 a5 := Try.isAgg5
 z5 := Try.sizeOf5
 v5 := Try.zeroValue5
 t9 := Try.underlying9
 a9 := Try.isAgg9
 z9 := Try.sizeOf9
 v9 := Try.zeroValue9
 t22 := Try.underlying29
 a22 := Try.isAgg29
 z22 := Try.sizeOf29
 v22 := Try.zeroValue29
 t25 := Try.underlying116
 a25 := Try.isAgg116
 z25 := Try.sizeOf116
 v25 := Try.zeroValue116
 t39 := Try.underlying88
 a39 := Try.isAgg88
 z39 := Try.sizeOf88
 v39 := Try.zeroValue88
 t45 := Try.underlying131
 a45 := Try.isAgg131
 z45 := Try.sizeOf131
 v45 := Try.zeroValue131
 t46 := Try.underlying132
 a46 := Try.isAgg132
 z46 := Try.sizeOf132
 v46 := Try.zeroValue132
 t50 := Try.underlying122
 a50 := Try.isAgg122
 z50 := Try.sizeOf122
 v50 := Try.zeroValue122
 t53 := Try.underlying138
 a53 := Try.isAgg138
 z53 := Try.sizeOf138
 v53 := Try.zeroValue138
 t55 := Try.underlying140
 a55 := Try.isAgg140
 z55 := Try.sizeOf140
 v55 := Try.zeroValue140
 t66 := Try.underlying141
 a66 := Try.isAgg141
 z66 := Try.sizeOf141
 v66 := Try.zeroValue141
 t70 := Try.underlying145
 a70 := Try.isAgg145
 z70 := Try.sizeOf145
 v70 := Try.zeroValue145
 t76 := Try.underlying147
 a76 := Try.isAgg147
 z76 := Try.sizeOf147
 v76 := Try.zeroValue147
 t77 := Try.underlying148
 a77 := Try.isAgg148
 z77 := Try.sizeOf148
 v77 := Try.zeroValue148 }
end Go.GL


set_option linter.unusedVariables false
namespace Go.GL
open Go.Proofs
attribute [local irreducible] wpList Code.wp Exit.then Exit.inBlock Ends Tri TriH OpV OpG FnC epf wpAnyH
variable {A : List Asrt} {I : List Chunk}
theorem cells_sort {l : List Cell} {a : Option Addr} {cap b : Nat} {Tb : TypeId} (hn : l.length ≤ 1000000000) :
  FnC Try.prog 80 #[.slice a l.length cap, .func (.func 94) #[] #[pt b 0]] (Row a cap l.length 28 2 (encs l) :: Box b [.func (.func 72) #[] #[]] Tb :: A) I (fun v A' I' => ∃ m, v = .tuple #[] ∧ m.Perm l ∧ m.Pairwise (fun x y => ¬ R1.less y x) ∧ A' = Row a cap m.length 28 2 (encs m) :: Box b [.func (.func 72) #[] #[]] Tb :: A ∧ I = I') :=
 fnc_sort lays40 (fun w => run_isA (P := Try.prog) (t := 28) w) (fun w => run_size (P := Try.prog) (t := 28) w) (enters_of (f := 94)) (fun J hJ x y => cells_by1 hJ) hn
end Go.GL


set_option linter.unusedVariables false
namespace Go.GL
open Go.Proofs
attribute [local irreducible] wpList Code.wp Exit.then Exit.inBlock Ends Tri TriH OpV OpG FnC epf wpAnyH
variable {A : List Asrt} {I : List Chunk}
theorem SlAt.none0 {α : Type} [Enc α] {xs : List α} {a : Option Addr} (h : SlAt I a xs) (e : a = none) : xs = [] := by
 rcases h with h | ⟨b, off, h, _⟩
 ·exact h
 ·rw [e] at h; cases h
theorem few_tuple {l : List Cell} {a : Option Addr} {cap : Nat} :
  FnC Try.prog 82 [.slice a l.length cap].toArray A I (fun v A' I' => v = .tuple [.slice (if 2000 < l.length then none else a) (if 2000 < l.length then 0 else l.length) (if 2000 < l.length then 0 else cap), .int .i64 (if 2000 < l.length then 3 else 0)].toArray ∧ A = A' ∧ I = I') :=
 cells_few.mono fun v A' I' ⟨h1, h2, h3⟩ => ⟨by
  rw [h1]
  split
  ·rfl
  ·rfl, h2, h3⟩
set_option maxHeartbeats 1000000 in
set_option maxRecDepth 100000 in
theorem cells_of {l : List Cell} {a : Option Addr} {cap : Nat} (hs : SlAt I a l) (hn : l.length ≤ 1000000000) :
  FnC Try.prog 47 [.slice a l.length cap].toArray A I (fun v A' I' => ∃ a' cap', v = .tuple [.slice a' (R1.of l).1.length cap', .int .i64 (R1.of l).2].toArray ∧ SlAt I' a' (R1.of l).1 ∧ A = A' ∧ I ⊆ I') := by
 skip
 skip
 refine fn_enter1 Try.func47 rfl Try.ntmps47 rfl fun w0 => ?_
 refine tS (tR (tA rfl rfl (tA rfl rfl (tN (tT (tS (tS ?_)))))))
 refine tR (tM rfl rfl ?_)
 refine tri_g (opg_call (xs := [_, _]) rfl (cells_containsFunc (p := fun c => decide (¬ R1.inB c)) (ca := []) (fun x _ => of1) hs hn)) rfl ?_
 rintro _ _ _ ⟨rfl, rfl, rfl⟩
 refine tN (tT ?_)
 refine tri_cond rfl (fun h1 => ?_) (fun h1 => ?_)
 ·have h1 : (l.any fun c => decide (¬ R1.inB c)) = true := h1
  refine tS (tR (tA rfl rfl (tA rfl rfl (tN (tT (tri_ret (tri_then_ret ?_)))))))
  refine tri_end A Suf.h rfl (.cons (rv_tmp rfl) (.cons (rv_tmp rfl) .nil)) ?_
  obtain ⟨d, hd, hd2⟩ := List.any_eq_true.1 h1
  rw [show R1.of l = ([], 2) from if_neg fun h2 => (of_decide_eq_true hd2) (R1.inB_iff.1 h2 d hd)]
  exact ⟨none, 0, rfl, SlAt.nil, rfl, fun _ h => h⟩
 ·have h1 : (l.any fun c => decide (¬ R1.inB c)) = false := h1
  have hin : ∀ d ∈ l, R1.inB d := fun d hd => Decidable.byContradiction fun e => by
   have := List.any_eq_false.1 h1 d hd
   exact this (decide_eq_true e)
  have hof : R1.of l = if 2000 < (R1.puts l).length then ([], 3) else (R1.puts l, 0) := if_pos (R1.inB_iff.2 hin)
  refine tri_skip (tT (tS (tR (tM rfl rfl ?_))))
  refine tri_g (opg_call (xs := [_]) rfl (clone_cells hs hn hs.none0)) rfl ?_
  rintro _ _ _ ⟨a2, cap2, rfl, rfl, rfl⟩
  refine tA rfl rfl (tN (tT (tS (tR (tM rfl rfl ?_)))))
  refine tri_g (opg_call (xs := [_]) rfl (cells_by)) rfl ?_
  rintro _ _ _ ⟨bo, rfl, rfl, rfl⟩
  skip
  refine tri_perm (A := ?a1_0 :: ?a1_1 :: ?T1) (B := ?a1_1 :: ?a1_0 :: ?T1) (by exact permL [1, 0] [?a1_0, ?a1_1] ?T1 (by decide) rfl) ?_
  refine tri_g (opg_call (xs := [_, _]) rfl (cells_sort hn)) rfl ?_
  rintro _ _ _ ⟨m, rfl, hperm, hsort, rfl, rfl⟩
  have hml : m.length = l.length := hperm.length_eq
  rw [← hml]
  refine tN (tT (tS (tR (tM rfl rfl ?_))))
  refine tri_g (opg_call (xs := [_]) rfl (cells_compact (by omega))) rfl ?_
  rintro _ _ _ ⟨rfl, rfl, rfl⟩
  rw [R1.compact_sort hperm hsort]
  skip
  refine tri_g (opg_call (xs := [_]) rfl (few_tuple)) rfl ?_
  rintro _ _ _ ⟨rfl, rfl, rfl⟩
  refine tri_v (opv_extract rfl rfl) rfl ?_
  refine tri_v (opv_extract rfl rfl) rfl ?_
  refine tA rfl rfl (tA rfl rfl (tN (tT (tri_ret ?_))))
  refine tri_freezeRow (α := Cell) rfl fun J hJ hs2 => ?_
  refine tri_end A Suf.h rfl (.cons (rv_tmp rfl) (.cons (rv_tmp rfl) .nil)) ?_
  rw [hof]
  by_cases h2 : 2000 < (R1.puts l).length
  ·rw [if_pos h2, if_pos h2, if_pos h2, if_pos h2, if_pos h2]
   exact ⟨none, 0, rfl, SlAt.nil, rfl, hJ⟩
  ·rw [if_neg h2, if_neg h2, if_neg h2, if_neg h2, if_neg h2]
   exact ⟨a2, cap2, rfl, hs2, rfl, hJ⟩
end Go.GL

