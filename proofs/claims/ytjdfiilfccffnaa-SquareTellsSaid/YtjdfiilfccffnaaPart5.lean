/- Part 5: contracts of the functions that the law reaches: each answers as its model does. No condition beyond those that each theorem states. -/
import Derived.Test.YtjdfiilfccffnaaPart4
set_option linter.unusedVariables false
namespace Go.GL
open Go.Proofs
attribute [local irreducible] wpList Code.wp Exit.then Exit.inBlock Ends Tri TriH OpV OpG FnC epf wpAnyH
variable {A : List Asrt} {I : List Chunk}
namespace R7
/-- The edges of the first nodes; nothing for the others. -/
def edl (ns : List Node) (ax : Bool) (N i : Nat) : List Cell := (List.range N).map fun j => if j < i then ex ns ax (ns.getD j default).lv.toNat j else ⟨0, 0⟩
theorem edl_len (ns : List Node) (ax : Bool) (N i : Nat) : (edl ns ax N i).length = N := by simp [edl]
theorem edl_zero (ns : List Node) (ax : Bool) (N : Nat) : edl ns ax N 0 = List.replicate N ⟨0, 0⟩ := by
 apply List.ext_getElem
 ·simp [edl]
 ·intro j h1 h2; simp [edl]
theorem edl_at {ns : List Node} {ax : Bool} {N i j : Nat} (hj : j < N) : (edl ns ax N i).getD j default = if j < i then ex ns ax (ns.getD j default).lv.toNat j else ⟨0, 0⟩ := by
 simp [edl, hj]
theorem edl_set {ns : List Node} {ax : Bool} {N i : Nat} {v : Cell} (h : ex ns ax (ns.getD i default).lv.toNat i = v) : (edl ns ax N i).set i v = edl ns ax N (i + 1) := by
 subst h
 apply List.ext_getElem
 ·simp [edl]
 ·intro j h1 h2
  simp only [edl, List.length_set, List.length_map, List.length_range] at h1
  rw [List.getElem_set]
  by_cases e : i = j
  ·subst e
   simp [edl]
  ·rw [if_neg e]
   simp only [edl, List.getElem_map, List.getElem_range]
   by_cases k : j < i
   ·rw [if_pos k, if_pos (by omega)]
   ·rw [if_neg k, if_neg (by omega)]
theorem edl_self {ns : List Node} {ax : Bool} {N i : Nat} : (edl ns ax N i).set i ⟨0, 0⟩ = edl ns ax N i := by
 apply List.ext_getElem
 ·simp
 ·intro j h1 h2
  rw [List.getElem_set]
  by_cases e : i = j
  ·subst e; simp [edl]
  ·rw [if_neg e]
theorem set_at {l : List Cell} {i : Nat} {v : Cell} (h : i < l.length) : (l.set i v).getD i default = v := by simp [h]
theorem set_ne {l : List Cell} {i j : Nat} {v : Cell} (h : i ≠ j) : (l.set i v).getD j default = l.getD j default := by simp [h]
end R7
set_option maxHeartbeats 8000000 in
set_option maxRecDepth 100000 in
theorem square_box {ns : List Node} {a : Option Addr} {cap : Nat} {room n : Int} (hs : StA I a cap ns) (hn : ns.length ≤ 1000000000) :
  FnC Try.prog 19 [storeV a ns.length cap room, .int .i64 n].toArray A I (fun v A' I' => v = .tuple [rectV (R7.boxM ns room n).1, .bool (R7.boxM ns room n).2].toArray ∧ A = A' ∧ I = I') := by
 have hss := hs.sl
 skip
 skip
 skip
 refine fn_enter2 Try.func19 rfl Try.ntmps19 rfl fun w0 => ?_
 refine tS (tR ?_)
 refine tri_g (opg_box_agg rfl) rfl ?_
 rintro _ _ _ ⟨b2, rfl, rfl, rfl⟩
 refine tri_g opg_alloc rfl ?_
 rintro _ _ _ ⟨b4, rfl, rfl, rfl⟩
 refine tA rfl rfl (tN (tT (tS (tS (tR ?_)))))
 refine tri_v (opv_loadA rfl rfl rfl) rfl ?_
 refine tM rfl rfl ?_
 refine tri_g (opg_call (xs := [_, _]) rfl (square_may hs hn)) rfl ?_
 rintro _ _ _ ⟨rfl, rfl, rfl⟩
 refine tri_v (opv_notD rfl) rfl ?_
 refine tM rfl rfl ?_
 refine tri_split rfl rfl (fun g0 => ?_) (fun g0 => ?_)
 ·refine tri_guard_skip rfl rfl rfl rfl (tri_guard_skip rfl rfl rfl rfl (tri_guard_skip rfl rfl rfl rfl (tri_guard_skip rfl rfl rfl rfl (tri_guard_skip rfl rfl rfl rfl (tri_guard_skip rfl rfl rfl rfl (tri_guard_skip rfl rfl rfl rfl ?_))))))
  refine tri_v (opv_pick_t rfl rfl) rfl ?_
  refine tN (tT ?_)
  refine tri_cond_true rfl ?_
  refine tS (tR ?_)
  refine tri_v (opv_buildS rfl rfl) rfl ?_
  refine tri_g (opg_store rfl rfl rfl rfl rfl rfl) rfl ?_
  rintro _ _ _ ⟨rfl, rfl⟩
  refine tA rfl rfl (tN (tT (tri_ret (tri_then_ret ?_))))
  have e : R7.boxM ns room n = (⟨0, 0, 0, 0⟩, false) := if_neg (fun h => g0 h.1)
  skip
  refine tri_end A Suf.h rfl (.cons (rv_cellA rfl rfl rfl) (.cons (rv_tmp rfl) .nil)) ⟨by rw [e]; rfl, rfl, rfl⟩
 ·have h1 : R7.may ns room n := Decidable.not_not.1 g0
  obtain ⟨⟨hn0, hn1⟩, lv, hlv1, hlv2, hlv⟩ := h1.is
  have hr := h1.1
  have hw := (R6.right_iff.1 hr).2
  refine tri_guard_run rfl rfl rfl ?_
  refine tri_v (opv_fieldAddr rfl rfl) rfl ?_
  refine tri_guard_run rfl rfl rfl ?_
  refine tri_v (opv_load1 rfl rfl rfl) rfl ?_
  refine tri_guard_run rfl rfl rfl (tM rfl rfl (tri_guard_run rfl rfl rfl ?_))
  refine tri_v (opv_indexAddrS rfl rfl (by omega) (by omega) (by assumption) rfl) rfl ?_
  refine tri_guard_run rfl rfl rfl ?_
  refine tri_v (opv_fieldAddrE rfl (by assumption) (by omega) rfl) rfl ?_
  refine tri_guard_run rfl rfl rfl ?_
  refine tri_v (opv_loadE1 rfl (by assumption) rfl (by omega) rfl rfl) rfl ?_
  refine tri_guard_run rfl rfl rfl ?_
  refine tri_v (opv_eql rfl rfl) rfl ?_
  refine tri_v (opv_pick_f rfl rfl) rfl ?_
  refine tN (tT ?_)
  refine tri_cond rfl (fun h2 => ?_) (fun h2 => ?_)
  ·have h2 : (R6.nd ns n).pop = 0 := of_decide_eq_true h2
   have e : R7.boxM ns room n = (⟨0, 0, 0, 0⟩, false) := if_neg (fun h => h.2 h2)
   refine tS (tR ?_)
   refine tri_v (opv_buildS rfl rfl) rfl ?_
   refine tri_g (opg_store rfl rfl rfl rfl rfl rfl) rfl ?_
   rintro _ _ _ ⟨rfl, rfl⟩
   refine tA rfl rfl (tN (tT (tri_ret (tri_then_ret ?_))))
   refine tri_end A Suf.h rfl (.cons (rv_cellA rfl rfl rfl) (.cons (rv_tmp rfl) .nil)) ⟨by rw [e]; rfl, rfl, rfl⟩
  have h2 : ¬ (R6.nd ns n).pop = 0 := of_decide_eq_false h2
  have hbx : R7.boxM ns room n = (⟨(R7.ex ns true lv n).x - R7.side lv, (R7.ex ns false lv n).x - R7.side lv, (R7.ex ns true lv n).y - (R7.ex ns true lv n).x, (R7.ex ns false lv n).y - (R7.ex ns false lv n).x⟩, true) := by
   unfold R7.boxM
   rw [if_pos ⟨h1, h2⟩, hlv, Int.toNat_natCast]
  have hsd := R7.side_bd (lv := lv) (by omega)
  have hp2 := R7.side_p2 hlv1
  rw [hbx]
  clear hbx h2
  obtain ⟨k, rfl⟩ : ∃ k : Nat, n = k := ⟨n.toNat, by omega⟩
  have hlen : ns.length ≤ 100000 := by have := hr.1.2.1; have := hr.1.2.2.2.1; omega
  have hkn : k < ns.length := by omega
  skip
  refine tri_skip (tT (tS ?_))
  skip
  refine tri_cut (fun F' A' J => ∃ (ac dn : Option Addr) (L : List Asrt), F' = [(1, .int .i64 (k : Nat)), (2, pt b2 0), (4, pt b4 0), (6, .slice ac (k + 1) (k + 1)), (7, .slice dn (k + 1) (k + 1))] ∧ A' = L ++ Box b4 [.int .i64 0, .int .i64 0, .int .i64 0, .int .i64 0] 45 :: Box b2 [.slice a ns.length cap, .int .i64 room] 26 :: A ∧ L.Perm [Row ac (k + 1) (k + 1) 87 2 (reps (k + 1) [.int .i64 0, .int .i64 0]), Row dn (k + 1) (k + 1) 87 2 (reps (k + 1) [.int .i64 0, .int .i64 0])] ∧ (ac ≠ none ∧ dn ≠ none) ∧ I = J) ?_ ?_
  ·refine tri_draw [0, 1, 3, 4, 2, 6, 5, 7] rfl [] rfl mixed ?_
   refine th_take rfl rfl (by kernel_rfl)  (opv_move rfl) ?_
   refine th_take rfl rfl (by kernel_rfl)  (opv_add rfl rfl (w64 (by omega) (by omega))) ?_
   refine th_take rfl rfl (by kernel_rfl)  (opv_move rfl) ?_
   refine th_take rfl rfl (by kernel_rfl)  (opv_add rfl rfl (w64 (by omega) (by omega))) ?_
   refine th_two (j := 5) [2, 6, 7] (by kernel_rfl) rfl ?_ ?_
   ·refine (step_m rfl rfl (opg_makeSliceN (m := k + 1) rfl rfl rfl (by omega) (by omega)) ?_)
    rintro _ _ _ ⟨ac, hac, rfl, rfl, rfl⟩
    refine ⟨Suf.h, (fun _ h => h), ?_⟩
    refine th_take rfl rfl (by kernel_rfl)  (opv_assign rfl) ?_
    refine th_one (by kernel_rfl) (step_m rfl rfl (opg_makeSliceN (m := k + 1) rfl rfl rfl (by omega) (by omega)) ?_)
    rintro _ _ _ ⟨dn, hdn, rfl, rfl, rfl⟩
    refine ⟨Suf.h, (fun _ h => h), ?_⟩
    refine th_take rfl rfl (by kernel_rfl)  (opv_assign rfl) ?_
    refine th_done (by kernel_rfl) ?_
    exact tri_cutEnd _ ⟨ac, dn, [_, _], rfl, rfl, (List.Perm.swap _ _ _), ⟨hac, hdn⟩, rfl⟩ ⟨rfl, rfl, rfl, rfl, rfl, trivial⟩
   ·refine (step_m rfl rfl (opg_makeSliceN (m := k + 1) rfl rfl rfl (by omega) (by omega)) ?_)
    rintro _ _ _ ⟨dn, hdn, rfl, rfl, rfl⟩
    refine ⟨Suf.h, (fun _ h => h), ?_⟩
    refine th_one (by kernel_rfl) (step_m rfl rfl (opg_makeSliceN (m := k + 1) rfl rfl rfl (by omega) (by omega)) ?_)
    rintro _ _ _ ⟨ac, hac, rfl, rfl, rfl⟩
    refine ⟨Suf.h, (fun _ h => h), ?_⟩
    refine th_take rfl rfl (by kernel_rfl)  (opv_assign rfl) ?_
    refine th_take rfl rfl (by kernel_rfl)  (opv_assign rfl) ?_
    refine th_done (by kernel_rfl) ?_
    exact tri_cutEnd _ ⟨ac, dn, [_, _], rfl, rfl, (List.Perm.refl _), ⟨hac, hdn⟩, rfl⟩ ⟨rfl, rfl, rfl, rfl, rfl, trivial⟩
  rintro _ _ _ ⟨ac0, dn0, L, rfl, rfl, hL, ⟨hac, hdn⟩, rfl⟩
  refine tri_perm (B := Row ac0 (k + 1) (k + 1) 87 2 (reps (k + 1) [.int .i64 0, .int .i64 0]) :: Row dn0 (k + 1) (k + 1) 87 2 (reps (k + 1) [.int .i64 0, .int .i64 0]) :: Box b4 [.int .i64 0, .int .i64 0, .int .i64 0, .int .i64 0] 45 :: Box b2 [.slice a ns.length cap, .int .i64 room] 26 :: A) (hL.append_right _) ?_
  have ez := fun ax => (reps_cell0 (k + 1)).trans (congrArg encs (R7.edl_zero ns ax (k + 1)).symm)
  refine tri_rowEq rfl (ez true) ?_
  refine tri_rowPt hac fun ac e1 => ?_
  subst e1
  refine tri_pull1 ?_
  refine tri_rowEq rfl (ez false) ?_
  refine tri_rowPt hdn fun dn e1 => ?_
  subst e1
  refine tri_pull1 ?_
  clear hL hac hdn
  refine tT (tS (tS (tR ?_)))
  refine tri_v (opv_fieldAddr rfl rfl) rfl ?_
  refine tri_v (opv_load1 rfl rfl rfl) rfl ?_
  refine tM rfl rfl ?_
  refine tU rfl rfl (by omega) (by omega) rfl ?_
  skip
  refine tri_v (opv_sliceHi rfl rfl (by omega) (by omega) hs rfl) rfl ?_
  rw [show (ns.take ((k : Int) + 1).toNat).length = k + 1 by rw [List.length_take]; omega]
  have hst := hss.take (k + 1)
  have htl : (ns.take (k + 1)).length = k + 1 := by rw [List.length_take]; omega
  refine tri_v (opv_len rfl) rfl ?_
  refine tM rfl rfl (tN (tT (tri_block ?_)))
  refine tri_sub (F' := [(1, .int .i64 (k : Nat)), (2, pt b2 0), (4, pt b4 0), (6, .slice (some ⟨ac, 0, none⟩) (k + 1) (k + 1)), (7, .slice (some ⟨dn, 0, none⟩) (k + 1) (k + 1)), (38, .slice a (k + 1) cap), (39, .int .i64 ((k + 1 : Nat) : Int)), (40, .int .i64 (0 : Nat))]) ⟨rfl, rfl, rfl, rfl, rfl, rfl, rfl, rfl, trivial⟩ ?_
  refine loop_ind (G := Nat) (fun i => k + 1 - i) (fun i => i ≤ k + 1) (fun i => [(1, .int .i64 (k : Nat)), (2, pt b2 0), (4, pt b4 0), (6, .slice (some ⟨ac, 0, none⟩) (k + 1) (k + 1)), (7, .slice (some ⟨dn, 0, none⟩) (k + 1) (k + 1)), (38, .slice a (k + 1) cap), (39, .int .i64 ((k + 1 : Nat) : Int)), (40, .int .i64 (i : Nat))]) (fun i => Row (some ⟨ac, 0, none⟩) (k + 1) (k + 1) 87 2 (encs (R7.edl ns true (k + 1) i)) :: Row (some ⟨dn, 0, none⟩) (k + 1) (k + 1) 87 2 (encs (R7.edl ns false (k + 1) i)) :: Box b4 [.int .i64 0, .int .i64 0, .int .i64 0, .int .i64 0] 45 :: Box b2 [.slice a ns.length cap, .int .i64 room] 26 :: A) (fun _ => I) ?_ 0 (Nat.zero_le _)
  rintro i hi K hK
  skip
  refine tS (tR ?_)
  refine tri_v (opv_lss rfl rfl) rfl ?_
  refine tN (tT (tS ?_))
  refine tri_cond_dec rfl (fun h3 => ?_) (fun h3 => ?_)
  ·have hlt : i < k + 1 := by omega
   have hil : i < ns.length := by omega
   have htk : (ns.take (k + 1)).getD i default = ns.getD i default := by
    simp [hlt]
   have hnd : R6.nd ns ((i : Nat) : Int) = ns.getD i default := by
    unfold R6.nd
    rw [Int.toNat_natCast]
   obtain ⟨x, hx⟩ : ∃ x, ns.getD i default = x := ⟨_, rfl⟩
   rw [hx] at hnd htk
   have hin : R6.inS ns ((i : Nat) : Int) := ⟨by omega, by omega⟩
   have hmd := hr.modTo.mod.nd hin
   rw [hnd] at hmd
   obtain ⟨lvi, hlvi⟩ : ∃ lvi : Nat, x.lv = lvi := ⟨x.lv.toNat, by omega⟩
   refine tri_skip (tT (tS (tri_block (tS (tR (tM rfl rfl ?_))))))
   refine tri_v (opv_indexAddrSN rfl rfl (by omega) (by assumption) (by omega)) rfl ?_
   refine tri_v (opv_loadEA rfl (by assumption) rfl (by omega) rfl rfl) rfl ?_
   refine tri_g opg_alloc rfl ?_
   rintro _ _ _ ⟨b9, rfl, rfl, rfl⟩
   refine tA rfl rfl ?_
   refine tri_g (opg_store rfl rfl rfl rfl rfl rfl) rfl ?_
   rintro _ _ _ ⟨rfl, rfl⟩
   refine tN (tT (tS (tS (tR ?_))))
   refine tri_v (opv_fieldAddr rfl rfl) rfl ?_
   refine tri_v (opv_load1 rfl rfl rfl) rfl ?_
   refine tri_v (opv_eql rfl rfl) rfl ?_
   refine tN (tT ?_)
   rw [htk]
   refine tri_perm (A := ?a1_0 :: ?a1_1 :: ?a1_2 :: ?T1) (B := ?a1_1 :: ?a1_2 :: ?a1_0 :: ?T1) (by exact permL [1, 2, 0] [?a1_0, ?a1_1, ?a1_2] ?T1 (by decide) rfl) ?_
   refine tri_cond_dec rfl (fun h4 => ?_) (fun h4 => ?_)
   ·have e0 : lvi = 0 := by omega
    subst e0
    have ev : ∀ ax, R7.ex ns ax (ns.getD i default).lv.toNat i = ⟨0, x.pop⟩ := fun ax => by
     rw [hx, hlvi]
     show (⟨0, (R6.nd ns (i : Nat)).pop⟩ : Cell) = _
     rw [hnd]
    refine tS ?_
    skip
    refine tri_cut (fun F' A' J => F' = [(1, .int .i64 (k : Nat)), (2, pt b2 0), (4, pt b4 0), (6, .slice (some ⟨ac, 0, none⟩) (k + 1) (k + 1)), (7, .slice (some ⟨dn, 0, none⟩) (k + 1) (k + 1)), (38, .slice a (k + 1) cap), (39, .int .i64 ((k + 1 : Nat) : Int)), (40, .int .i64 (i : Nat))] ∧ A' = Row (some ⟨ac, 0, none⟩) (k + 1) (k + 1) 87 2 (encs ((R7.edl ns true (k + 1) i).set i ⟨0, x.pop⟩)) :: Row (some ⟨dn, 0, none⟩) (k + 1) (k + 1) 87 2 (encs ((R7.edl ns false (k + 1) i).set i ⟨0, x.pop⟩)) :: Box b9 [.int .i64 x.lv, .int .i64 x.k0, .int .i64 x.k1, .int .i64 x.k2, .int .i64 x.k3, .int .i64 x.pop] 63 :: Box b4 [.int .i64 0, .int .i64 0, .int .i64 0, .int .i64 0] 45 :: Box b2 [.slice a ns.length cap, .int .i64 room] 26 :: A ∧ I = J) ?_ ?_
    ·refine tri_draw [0, 1, 2, 3, 4, 5, 6, 7, 8, 9, 10, 11, 12, 13] rfl [_, _] rfl mixed ?_
     refine th_take rfl rfl (by kernel_rfl)  (opv_move rfl) ?_
     refine th_take rfl rfl (by kernel_rfl)  (opv_move rfl) ?_
     refine th_take rfl rfl (by kernel_rfl)  (opv_move rfl) ?_
     refine th_take rfl rfl (by kernel_rfl)  (opv_move rfl) ?_
     refine th_take rfl rfl (by kernel_rfl)  (opv_fieldAddr rfl rfl) ?_
     refine th_take rfl rfl (by kernel_rfl)  (opv_load1 rfl rfl rfl) ?_
     refine th_take rfl rfl (by kernel_rfl)  (opv_buildS rfl rfl) ?_
     refine th_take rfl rfl (by kernel_rfl)  (opv_fieldAddr rfl rfl) ?_
     refine th_take rfl rfl (by kernel_rfl)  (opv_load1 rfl rfl rfl) ?_
     refine th_take rfl rfl (by kernel_rfl)  (opv_buildS rfl rfl) ?_
     refine th_take rfl rfl (by kernel_rfl)  (opv_indexAddrSP rfl rfl (by omega) (by omega)) ?_
     refine th_one (by kernel_rfl) (step_m rfl rfl (opg_storeRX (⟨0, x.pop⟩ : Cell) rfl rfl rfl (by rw [R7.edl_len]; omega) (by rw [R7.edl_len]) rfl rfl rfl rfl) ?_)
     rintro _ _ _ ⟨rfl, rfl⟩
     refine ⟨Suf.h, (fun _ h => h), ?_⟩
     refine th_take rfl rfl (by kernel_rfl)  (opv_indexAddrSP rfl rfl (by omega) (by omega)) ?_
     refine th_one (by kernel_rfl) (step_m rfl rfl (opg_storeRX (⟨0, x.pop⟩ : Cell) rfl rfl rfl (by rw [R7.edl_len]; omega) (by rw [R7.edl_len]) rfl rfl rfl rfl) ?_)
     rintro _ _ _ ⟨rfl, rfl⟩
     refine ⟨Suf.h, (fun _ h => h), ?_⟩
     refine th_done (by kernel_rfl) ?_
     exact tri_cutEnd _ ⟨rfl, rfl, rfl⟩ ⟨rfl, rfl, rfl, rfl, rfl, rfl, rfl, rfl, trivial⟩
    rintro _ _ _ ⟨rfl, rfl, rfl⟩
    rw [R7.edl_set (ev true), R7.edl_set (ev false)]
    refine tT ?_
    refine tri_exit ?_
    refine tri_then_exit ?_
    refine tri_inBlock_hit rfl ?_
    refine tT (tR ?_)
    refine tU rfl rfl (by omega) (by omega) rfl ?_
    refine tM rfl rfl (tN (tT ?_))
    skip
    refine tri_perm (A := ?a2_0 :: ?a2_1 :: ?a2_2 :: ?T2) (B := ?a2_2 :: ?a2_0 :: ?a2_1 :: ?T2) (by exact permL [2, 0, 1] [?a2_0, ?a2_1, ?a2_2] ?T2 (by decide) rfl) ?_
    refine tri_drop ?_
    refine tri_sub ?_ (hK (i + 1) (by omega) (by omega))
    exact ⟨rfl, rfl, rfl, rfl, rfl, rfl, rfl, rfl, trivial⟩
   ·obtain ⟨m, rfl⟩ : ∃ m, lvi = m + 1 := ⟨lvi - 1, by omega⟩
    have kid := fun q hq => hr.kidN hin (m := m) (by rw [hnd]; exact hlvi) (q := q) hq
    rw [hnd] at kid
    have hpow : (2:Int) ^ (m + 1) = 2 ^ m * 2 := Int.pow_succ 2 m
    have hpos : (0:Int) < 2 ^ m := Int.pow_pos (by omega)
    have hple : (2:Int) ^ m ≤ 2199023255552 := by
     have h3 : (2:Nat) ^ m ≤ 2 ^ 41 := Nat.pow_le_pow_right (by omega) (by omega)
     have h4 : (2:Int) ^ m = ((2 ^ m : Nat) : Int) := by simp
     rw [h4]
     generalize (2:Nat) ^ m = k at h3
     omega
    have kk := fun q (hq : q ∈ x.kids) => R7.ex_ok hw true m q ⟨(kid q hq).1, (kid q hq).2.2⟩
    have kf := fun q (hq : q ∈ x.kids) => R7.ex_ok hw false m q ⟨(kid q hq).1, (kid q hq).2.2⟩
    have kg : ∀ ax q, q ∈ x.kids → q.toNat < i ∧ (R7.edl ns ax (k + 1) i).getD q.toNat default = R7.ex ns ax m q := fun ax q hq => by
     obtain ⟨⟨k1, _⟩, k2, k3⟩ := kid q hq
     refine ⟨by omega, ?_⟩
     rw [R7.edl_at (by omega), if_pos (by omega)]
     have e1 : ns.getD q.toNat default = R6.nd ns q := rfl
     rw [e1, k3, Int.toNat_natCast, Int.toNat_of_nonneg k1]
    have q0 := kg true x.k0 (by simp [Node.kids])
    have p0 := (kg false x.k0 (by simp [Node.kids])).2
    obtain ⟨q0, g0⟩ := q0
    have w0 := (kid x.k0 (by simp [Node.kids])).1
    obtain ⟨w0, v0⟩ := w0
    have bt0 := (kk x.k0 (by simp [Node.kids])).1
    have bf0 := (kf x.k0 (by simp [Node.kids])).1
    have q1 := kg true x.k1 (by simp [Node.kids])
    have p1 := (kg false x.k1 (by simp [Node.kids])).2
    obtain ⟨q1, g1⟩ := q1
    have w1 := (kid x.k1 (by simp [Node.kids])).1
    obtain ⟨w1, v1⟩ := w1
    have bt1 := (kk x.k1 (by simp [Node.kids])).1
    have bf1 := (kf x.k1 (by simp [Node.kids])).1
    have q2 := kg true x.k2 (by simp [Node.kids])
    have p2 := (kg false x.k2 (by simp [Node.kids])).2
    obtain ⟨q2, g2⟩ := q2
    have w2 := (kid x.k2 (by simp [Node.kids])).1
    obtain ⟨w2, v2⟩ := w2
    have bt2 := (kk x.k2 (by simp [Node.kids])).1
    have bf2 := (kf x.k2 (by simp [Node.kids])).1
    have q3 := kg true x.k3 (by simp [Node.kids])
    have p3 := (kg false x.k3 (by simp [Node.kids])).2
    obtain ⟨q3, g3⟩ := q3
    have w3 := (kid x.k3 (by simp [Node.kids])).1
    obtain ⟨w3, v3⟩ := w3
    have bt3 := (kk x.k3 (by simp [Node.kids])).1
    have bf3 := (kf x.k3 (by simp [Node.kids])).1
    have ext : R7.ex ns true (m + 1) (i : Nat) = R7.jn (R7.jn (R7.jn (R7.jn ⟨0, 0⟩ (R7.ex ns true m x.k0) 0) (R7.ex ns true m x.k1) (2 ^ m)) (R7.ex ns true m x.k2) 0) (R7.ex ns true m x.k3) (2 ^ m) := by
     rw [R7.ex, hnd]; rfl
    have exf : R7.ex ns false (m + 1) (i : Nat) = R7.jn (R7.jn (R7.jn (R7.jn ⟨0, 0⟩ (R7.ex ns false m x.k0) 0) (R7.ex ns false m x.k1) 0) (R7.ex ns false m x.k2) (2 ^ m)) (R7.ex ns false m x.k3) (2 ^ m) := by
     rw [R7.ex, hnd]; rfl
    generalize R7.ex ns true m x.k0 = et0 at *
    generalize R7.ex ns true m x.k1 = et1 at *
    generalize R7.ex ns true m x.k2 = et2 at *
    generalize R7.ex ns true m x.k3 = et3 at *
    generalize R7.ex ns false m x.k0 = ef0 at *
    generalize R7.ex ns false m x.k1 = ef1 at *
    generalize R7.ex ns false m x.k2 = ef2 at *
    generalize R7.ex ns false m x.k3 = ef3 at *
    have z : R7.Eg (2 ^ m * 2) ⟨0, 0⟩ := .inr ⟨rfl, rfl⟩
    have t0 := (z.jn (d := 0) bt0 (by omega) (by omega)).1
    have t1 := (t0.jn (d := 2 ^ m) bt1 (by omega) (by omega)).1
    have t2 := (t1.jn (d := 0) bt2 (by omega) (by omega)).1
    have f0 := (z.jn (d := 0) bf0 (by omega) (by omega)).1
    have f1 := (f0.jn (d := 0) bf1 (by omega) (by omega)).1
    have f2 := (f1.jn (d := 2 ^ m) bf2 (by omega) (by omega)).1
    have evt : R7.ex ns true (ns.getD i default).lv.toNat i = _ := (by rw [hx, hlvi, Int.toNat_natCast] : _ = R7.ex ns true (m + 1) i).trans ext
    have evf : R7.ex ns false (ns.getD i default).lv.toNat i = _ := (by rw [hx, hlvi, Int.toNat_natCast] : _ = R7.ex ns false (m + 1) i).trans exf
    refine tri_skip (tT (tS (tR ?_)))
    refine tri_v (opv_fieldAddr rfl rfl) rfl ?_
    refine tri_v (opv_load1 rfl rfl rfl) rfl ?_
    refine tri_v (opv_shl1 rfl rfl (by omega) (by omega)) rfl ?_
    skip
    refine tri_v (opv_shrN (k := 1) rfl rfl (by exact Int.le_of_lt (Int.pow_pos (by decide))) rfl (by decide)) rfl ?_
    rw [show (2:Int) ^ x.lv.toNat / 2 ^ 1 = 2 ^ m by rw [hlvi, Int.toNat_natCast, hpow]; omega]
    refine tri_rowEq rfl (congrArg encs R7.edl_self.symm) ?_
    refine tri_pull1 ?_
    refine tri_rowEq rfl (congrArg encs R7.edl_self.symm) ?_
    refine tri_pull1 ?_
    refine tA rfl rfl (tN (tT (tS (tR ?_))))
    refine tri_v (opv_fieldAddr rfl rfl) rfl ?_
    refine tri_v (opv_loadA rfl rfl rfl) rfl ?_
    refine tM rfl rfl (tN (tT (tri_block ?_)))
    refine tri_sub (F' := [(1, .int .i64 (k : Nat)), (2, pt b2 0), (4, pt b4 0), (6, .slice (some ⟨ac, 0, none⟩) (k + 1) (k + 1)), (7, .slice (some ⟨dn, 0, none⟩) (k + 1) (k + 1)), (38, .slice a (k + 1) cap), (39, .int .i64 ((k + 1 : Nat) : Int)), (40, .int .i64 (i : Nat)), (8, .int .i64 (i : Nat)), (9, pt b9 0), (10, .int .i64 (2 ^ m)), (65, .agg [.int .i64 x.k0, .int .i64 x.k1, .int .i64 x.k2, .int .i64 x.k3].toArray), (66, .int .i64 0)]) ⟨rfl, rfl, rfl, rfl, rfl, rfl, rfl, rfl, rfl, rfl, rfl, rfl, rfl, trivial⟩ ?_
    refine tri_rounds 5 ?_
    refine tri_round ?_
    refine tS (tR ?_)
    refine tri_v (opv_lss rfl rfl) rfl ?_
    refine tN (tT (tS ?_))
    refine tri_cond_is rfl (by decide) ?_
    refine tri_skip (tT (tS (tri_block (tS (tR (tM rfl rfl ?_))))))
    refine tri_v (opv_index rfl rfl (by decide) (by decide) rfl rfl) rfl ?_
    refine tA rfl rfl (tA rfl rfl (tN (tT (tS ?_))))
    skip
    have ln : ((R7.edl ns true (k + 1) i).set i ⟨0, 0⟩).length = k + 1 := by rw [List.length_set, R7.edl_len]
    have gg1 : ((R7.edl ns true (k + 1) i).set i ⟨0, 0⟩).getD i default = ⟨0, 0⟩ := R7.set_at (by rw [R7.edl_len]; omega)
    have gg2 : ((R7.edl ns true (k + 1) i).set i ⟨0, 0⟩).getD x.k0.toNat default = et0 := (R7.set_ne (by omega)).trans g0
    have ha : R7.Eg (2 ^ m * 2) (((R7.edl ns true (k + 1) i).set i ⟨0, 0⟩).getD i default) := by rw [gg1]; exact z
    have hb : R7.Eg (2 ^ m * 2) (((R7.edl ns true (k + 1) i).set i ⟨0, 0⟩).getD x.k0.toNat default) := by rw [gg2]; exact bt0.mono (by omega)
    have es : ((R7.edl ns true (k + 1) i).set i ⟨0, 0⟩).set i (R7.jn (((R7.edl ns true (k + 1) i).set i ⟨0, 0⟩).getD i default) (((R7.edl ns true (k + 1) i).set i ⟨0, 0⟩).getD x.k0.toNat default) 0) = (R7.edl ns true (k + 1) i).set i (R7.jn ⟨0, 0⟩ et0 0) := by rw [gg1, gg2, List.set_set]
    skip
    refine tri_cut (fun F' A' J => F' = [(1, .int .i64 (k : Nat)), (2, pt b2 0), (4, pt b4 0), (6, .slice (some ⟨ac, 0, none⟩) (k + 1) (k + 1)), (7, .slice (some ⟨dn, 0, none⟩) (k + 1) (k + 1)), (38, .slice a (k + 1) cap), (39, .int .i64 ((k + 1 : Nat) : Int)), (40, .int .i64 (i : Nat)), (8, .int .i64 (i : Nat)), (9, pt b9 0), (10, .int .i64 (2 ^ m)), (11, .int .i64 0), (12, .int .i64 x.k0), (65, .agg [.int .i64 x.k0, .int .i64 x.k1, .int .i64 x.k2, .int .i64 x.k3].toArray), (66, .int .i64 0)] ∧ A' = Row (some ⟨ac, 0, none⟩) (k + 1) (k + 1) 87 2 (encs (((R7.edl ns true (k + 1) i).set i ⟨0, 0⟩).set i (R7.jn (((R7.edl ns true (k + 1) i).set i ⟨0, 0⟩).getD i default) (((R7.edl ns true (k + 1) i).set i ⟨0, 0⟩).getD x.k0.toNat default) 0))) :: Row (some ⟨dn, 0, none⟩) (k + 1) (k + 1) 87 2 (encs ((R7.edl ns false (k + 1) i).set i ⟨0, 0⟩)) :: Box b9 [.int .i64 x.lv, .int .i64 x.k0, .int .i64 x.k1, .int .i64 x.k2, .int .i64 x.k3, .int .i64 x.pop] 63 :: Box b4 [.int .i64 0, .int .i64 0, .int .i64 0, .int .i64 0] 45 :: Box b2 [.slice a ns.length cap, .int .i64 room] 26 :: A ∧ I = J) ?_ ?_
    ·refine tri_draw [0, 1, 2, 3, 4, 6, 7, 8, 10, 11, 12, 13, 5, 9, 14, 15, 16] rfl [_] rfl mixed ?_
     refine th_take rfl rfl (by kernel_rfl)  (opv_move rfl) ?_
     refine th_take rfl rfl (by kernel_rfl)  (opv_move rfl) ?_
     refine th_take rfl rfl (by kernel_rfl)  (opv_move rfl) ?_
     refine th_take rfl rfl (by kernel_rfl)  (opv_move rfl) ?_
     refine th_take rfl rfl (by kernel_rfl)  (opv_indexAddrSP rfl rfl (by omega) (by omega)) ?_
     refine th_take rfl rfl (by kernel_rfl)  (opv_move rfl) ?_
     refine th_take rfl rfl (by kernel_rfl)  (opv_move rfl) ?_
     refine th_take rfl rfl (by kernel_rfl)  (opv_indexAddrSP rfl rfl (by omega) (by omega)) ?_
     refine th_take rfl rfl (by kernel_rfl)  (opv_move rfl) ?_
     refine th_take rfl rfl (by kernel_rfl)  (opv_remE rfl rfl (by omega) (by omega)) ?_
     refine th_take rfl rfl (by kernel_rfl)  (opv_move rfl) ?_
     refine th_take rfl rfl (by kernel_rfl)  (opv_mul rfl rfl (w64 (by omega) (by omega))) ?_
     refine th_two (j := 9) [5, 14, 15, 16] (by kernel_rfl) rfl ?_ ?_
     ·refine (step_m rfl rfl (OpV.toG (opv_loadRXA rfl rfl (by omega) rfl rfl rfl)) ?_)
      rintro _ _ _ ⟨rfl, rfl, rfl⟩
      refine ⟨Suf.h, (fun _ h => h), ?_⟩
      refine th_one (by kernel_rfl) (step_m rfl rfl (OpV.toG (opv_loadRXA rfl rfl (by omega) rfl rfl rfl)) ?_)
      rintro _ _ _ ⟨rfl, rfl, rfl⟩
      refine ⟨Suf.h, (fun _ h => h), ?_⟩
      refine th_one (by kernel_rfl) (step_m rfl rfl (opg_call (xs := [_, _, _]) rfl (edge_join (e := 0) (by omega) ha hb (by omega) (by omega) (by omega))) ?_)
      rintro _ _ _ ⟨rfl, rfl, rfl⟩
      refine ⟨Suf.h, (fun _ h => h), ?_⟩
      refine th_take rfl rfl (by kernel_rfl)  (opv_indexAddrSP rfl rfl (by omega) (by omega)) ?_
      refine th_one (by kernel_rfl) (step_m rfl rfl (opg_storeRX (R7.jn (((R7.edl ns true (k + 1) i).set i ⟨0, 0⟩).getD i default) (((R7.edl ns true (k + 1) i).set i ⟨0, 0⟩).getD x.k0.toNat default) 0) rfl rfl rfl (by omega) ln.symm rfl rfl rfl rfl) ?_)
      rintro _ _ _ ⟨rfl, rfl⟩
      refine ⟨Suf.h, (fun _ h => h), ?_⟩
      refine th_done (by kernel_rfl) ?_
      exact tri_cutEnd _ ⟨rfl, rfl, rfl⟩ ⟨rfl, rfl, rfl, rfl, rfl, rfl, rfl, rfl, rfl, rfl, rfl, rfl, rfl, rfl, rfl, trivial⟩
     ·refine (step_m rfl rfl (OpV.toG (opv_loadRXA rfl rfl (by omega) rfl rfl rfl)) ?_)
      rintro _ _ _ ⟨rfl, rfl, rfl⟩
      refine ⟨Suf.h, (fun _ h => h), ?_⟩
      refine th_one (by kernel_rfl) (step_m rfl rfl (OpV.toG (opv_loadRXA rfl rfl (by omega) rfl rfl rfl)) ?_)
      rintro _ _ _ ⟨rfl, rfl, rfl⟩
      refine ⟨Suf.h, (fun _ h => h), ?_⟩
      refine th_one (by kernel_rfl) (step_m rfl rfl (opg_call (xs := [_, _, _]) rfl (edge_join (e := 0) (by omega) ha hb (by omega) (by omega) (by omega))) ?_)
      rintro _ _ _ ⟨rfl, rfl, rfl⟩
      refine ⟨Suf.h, (fun _ h => h), ?_⟩
      refine th_take rfl rfl (by kernel_rfl)  (opv_indexAddrSP rfl rfl (by omega) (by omega)) ?_
      refine th_one (by kernel_rfl) (step_m rfl rfl (opg_storeRX (R7.jn (((R7.edl ns true (k + 1) i).set i ⟨0, 0⟩).getD i default) (((R7.edl ns true (k + 1) i).set i ⟨0, 0⟩).getD x.k0.toNat default) 0) rfl rfl rfl (by omega) ln.symm rfl rfl rfl rfl) ?_)
      rintro _ _ _ ⟨rfl, rfl⟩
      refine ⟨Suf.h, (fun _ h => h), ?_⟩
      refine th_done (by kernel_rfl) ?_
      exact tri_cutEnd _ ⟨rfl, rfl, rfl⟩ ⟨rfl, rfl, rfl, rfl, rfl, rfl, rfl, rfl, rfl, rfl, rfl, rfl, rfl, rfl, rfl, trivial⟩
    rintro _ _ _ ⟨rfl, rfl, rfl⟩
    rw [es]
    clear ln gg1 gg2 ha hb es
    refine tT ?_
    have ln : ((R7.edl ns false (k + 1) i).set i ⟨0, 0⟩).length = k + 1 := by rw [List.length_set, R7.edl_len]
    have gg1 : ((R7.edl ns false (k + 1) i).set i ⟨0, 0⟩).getD i default = ⟨0, 0⟩ := R7.set_at (by rw [R7.edl_len]; omega)
    have gg2 : ((R7.edl ns false (k + 1) i).set i ⟨0, 0⟩).getD x.k0.toNat default = ef0 := (R7.set_ne (by omega)).trans p0
    have ha : R7.Eg (2 ^ m * 2) (((R7.edl ns false (k + 1) i).set i ⟨0, 0⟩).getD i default) := by rw [gg1]; exact z
    have hb : R7.Eg (2 ^ m * 2) (((R7.edl ns false (k + 1) i).set i ⟨0, 0⟩).getD x.k0.toNat default) := by rw [gg2]; exact bf0.mono (by omega)
    have es : ((R7.edl ns false (k + 1) i).set i ⟨0, 0⟩).set i (R7.jn (((R7.edl ns false (k + 1) i).set i ⟨0, 0⟩).getD i default) (((R7.edl ns false (k + 1) i).set i ⟨0, 0⟩).getD x.k0.toNat default) 0) = (R7.edl ns false (k + 1) i).set i (R7.jn ⟨0, 0⟩ ef0 0) := by rw [gg1, gg2, List.set_set]
    refine tri_perm (A := ?a3_0 :: ?a3_1 :: ?T3) (B := ?a3_1 :: ?a3_0 :: ?T3) (by exact permL [1, 0] [?a3_0, ?a3_1] ?T3 (by decide) rfl) ?_
    skip
    refine tri_cut (fun F' A' J => F' = [(1, .int .i64 (k : Nat)), (2, pt b2 0), (4, pt b4 0), (6, .slice (some ⟨ac, 0, none⟩) (k + 1) (k + 1)), (7, .slice (some ⟨dn, 0, none⟩) (k + 1) (k + 1)), (38, .slice a (k + 1) cap), (39, .int .i64 ((k + 1 : Nat) : Int)), (40, .int .i64 (i : Nat)), (8, .int .i64 (i : Nat)), (9, pt b9 0), (10, .int .i64 (2 ^ m)), (11, .int .i64 0), (12, .int .i64 x.k0), (65, .agg [.int .i64 x.k0, .int .i64 x.k1, .int .i64 x.k2, .int .i64 x.k3].toArray), (66, .int .i64 0)] ∧ A' = Row (some ⟨dn, 0, none⟩) (k + 1) (k + 1) 87 2 (encs (((R7.edl ns false (k + 1) i).set i ⟨0, 0⟩).set i (R7.jn (((R7.edl ns false (k + 1) i).set i ⟨0, 0⟩).getD i default) (((R7.edl ns false (k + 1) i).set i ⟨0, 0⟩).getD x.k0.toNat default) 0))) :: Row (some ⟨ac, 0, none⟩) (k + 1) (k + 1) 87 2 (encs ((R7.edl ns true (k + 1) i).set i (R7.jn ⟨0, 0⟩ et0 0))) :: Box b9 [.int .i64 x.lv, .int .i64 x.k0, .int .i64 x.k1, .int .i64 x.k2, .int .i64 x.k3, .int .i64 x.pop] 63 :: Box b4 [.int .i64 0, .int .i64 0, .int .i64 0, .int .i64 0] 45 :: Box b2 [.slice a ns.length cap, .int .i64 room] 26 :: A ∧ I = J) ?_ ?_
    ·refine tri_draw [0, 1, 2, 3, 4, 6, 7, 8, 10, 11, 12, 13, 5, 9, 14, 15, 16] rfl [_] rfl mixed ?_
     refine th_take rfl rfl (by kernel_rfl)  (opv_move rfl) ?_
     refine th_take rfl rfl (by kernel_rfl)  (opv_move rfl) ?_
     refine th_take rfl rfl (by kernel_rfl)  (opv_move rfl) ?_
     refine th_take rfl rfl (by kernel_rfl)  (opv_move rfl) ?_
     refine th_take rfl rfl (by kernel_rfl)  (opv_indexAddrSP rfl rfl (by omega) (by omega)) ?_
     refine th_take rfl rfl (by kernel_rfl)  (opv_move rfl) ?_
     refine th_take rfl rfl (by kernel_rfl)  (opv_move rfl) ?_
     refine th_take rfl rfl (by kernel_rfl)  (opv_indexAddrSP rfl rfl (by omega) (by omega)) ?_
     refine th_take rfl rfl (by kernel_rfl)  (opv_move rfl) ?_
     refine th_take rfl rfl (by kernel_rfl)  (opv_quoE rfl rfl (by omega) (by omega) (by omega)) ?_
     refine th_take rfl rfl (by kernel_rfl)  (opv_move rfl) ?_
     refine th_take rfl rfl (by kernel_rfl)  (opv_mul rfl rfl (w64 (by omega) (by omega))) ?_
     refine th_two (j := 9) [5, 14, 15, 16] (by kernel_rfl) rfl ?_ ?_
     ·refine (step_m rfl rfl (OpV.toG (opv_loadRXA rfl rfl (by omega) rfl rfl rfl)) ?_)
      rintro _ _ _ ⟨rfl, rfl, rfl⟩
      refine ⟨Suf.h, (fun _ h => h), ?_⟩
      refine th_one (by kernel_rfl) (step_m rfl rfl (OpV.toG (opv_loadRXA rfl rfl (by omega) rfl rfl rfl)) ?_)
      rintro _ _ _ ⟨rfl, rfl, rfl⟩
      refine ⟨Suf.h, (fun _ h => h), ?_⟩
      refine th_one (by kernel_rfl) (step_m rfl rfl (opg_call (xs := [_, _, _]) rfl (edge_join (e := 0) (by omega) ha hb (by omega) (by omega) (by omega))) ?_)
      rintro _ _ _ ⟨rfl, rfl, rfl⟩
      refine ⟨Suf.h, (fun _ h => h), ?_⟩
      refine th_take rfl rfl (by kernel_rfl)  (opv_indexAddrSP rfl rfl (by omega) (by omega)) ?_
      refine th_one (by kernel_rfl) (step_m rfl rfl (opg_storeRX (R7.jn (((R7.edl ns false (k + 1) i).set i ⟨0, 0⟩).getD i default) (((R7.edl ns false (k + 1) i).set i ⟨0, 0⟩).getD x.k0.toNat default) 0) rfl rfl rfl (by omega) ln.symm rfl rfl rfl rfl) ?_)
      rintro _ _ _ ⟨rfl, rfl⟩
      refine ⟨Suf.h, (fun _ h => h), ?_⟩
      refine th_done (by kernel_rfl) ?_
      exact tri_cutEnd _ ⟨rfl, rfl, rfl⟩ ⟨rfl, rfl, rfl, rfl, rfl, rfl, rfl, rfl, rfl, rfl, rfl, rfl, rfl, rfl, rfl, trivial⟩
     ·refine (step_m rfl rfl (OpV.toG (opv_loadRXA rfl rfl (by omega) rfl rfl rfl)) ?_)
      rintro _ _ _ ⟨rfl, rfl, rfl⟩
      refine ⟨Suf.h, (fun _ h => h), ?_⟩
      refine th_one (by kernel_rfl) (step_m rfl rfl (OpV.toG (opv_loadRXA rfl rfl (by omega) rfl rfl rfl)) ?_)
      rintro _ _ _ ⟨rfl, rfl, rfl⟩
      refine ⟨Suf.h, (fun _ h => h), ?_⟩
      refine th_one (by kernel_rfl) (step_m rfl rfl (opg_call (xs := [_, _, _]) rfl (edge_join (e := 0) (by omega) ha hb (by omega) (by omega) (by omega))) ?_)
      rintro _ _ _ ⟨rfl, rfl, rfl⟩
      refine ⟨Suf.h, (fun _ h => h), ?_⟩
      refine th_take rfl rfl (by kernel_rfl)  (opv_indexAddrSP rfl rfl (by omega) (by omega)) ?_
      refine th_one (by kernel_rfl) (step_m rfl rfl (opg_storeRX (R7.jn (((R7.edl ns false (k + 1) i).set i ⟨0, 0⟩).getD i default) (((R7.edl ns false (k + 1) i).set i ⟨0, 0⟩).getD x.k0.toNat default) 0) rfl rfl rfl (by omega) ln.symm rfl rfl rfl rfl) ?_)
      rintro _ _ _ ⟨rfl, rfl⟩
      refine ⟨Suf.h, (fun _ h => h), ?_⟩
      refine th_done (by kernel_rfl) ?_
      exact tri_cutEnd _ ⟨rfl, rfl, rfl⟩ ⟨rfl, rfl, rfl, rfl, rfl, rfl, rfl, rfl, rfl, rfl, rfl, rfl, rfl, rfl, rfl, trivial⟩
    rintro _ _ _ ⟨rfl, rfl, rfl⟩
    rw [es]
    clear ln gg1 gg2 ha hb es
    refine tri_inBlock ?_
    refine tT (tR ?_)
    refine tU rfl rfl (by omega) (by omega) rfl ?_
    refine tM rfl rfl (tN (tT ?_))
    refine tri_round ?_
    refine tS (tR ?_)
    refine tri_v (opv_lss rfl rfl) rfl ?_
    refine tN (tT (tS ?_))
    refine tri_perm (A := ?a4_0 :: ?a4_1 :: ?T4) (B := ?a4_1 :: ?a4_0 :: ?T4) (by exact permL [1, 0] [?a4_0, ?a4_1] ?T4 (by decide) rfl) ?_
    skip
    refine tri_cond_is rfl (by decide) ?_
    refine tri_skip (tT (tS (tri_block (tS (tR (tM rfl rfl ?_))))))
    refine tri_v (opv_index rfl rfl (by decide) (by decide) rfl rfl) rfl ?_
    refine tA rfl rfl (tA rfl rfl (tN (tT (tS ?_))))
    skip
    have ln : ((R7.edl ns true (k + 1) i).set i (R7.jn ⟨0, 0⟩ et0 0)).length = k + 1 := by rw [List.length_set, R7.edl_len]
    have gg1 : ((R7.edl ns true (k + 1) i).set i (R7.jn ⟨0, 0⟩ et0 0)).getD i default = (R7.jn ⟨0, 0⟩ et0 0) := R7.set_at (by rw [R7.edl_len]; omega)
    have gg2 : ((R7.edl ns true (k + 1) i).set i (R7.jn ⟨0, 0⟩ et0 0)).getD x.k1.toNat default = et1 := (R7.set_ne (by omega)).trans g1
    have ha : R7.Eg (2 ^ m * 2) (((R7.edl ns true (k + 1) i).set i (R7.jn ⟨0, 0⟩ et0 0)).getD i default) := by rw [gg1]; exact t0
    have hb : R7.Eg (2 ^ m * 2) (((R7.edl ns true (k + 1) i).set i (R7.jn ⟨0, 0⟩ et0 0)).getD x.k1.toNat default) := by rw [gg2]; exact bt1.mono (by omega)
    have es : ((R7.edl ns true (k + 1) i).set i (R7.jn ⟨0, 0⟩ et0 0)).set i (R7.jn (((R7.edl ns true (k + 1) i).set i (R7.jn ⟨0, 0⟩ et0 0)).getD i default) (((R7.edl ns true (k + 1) i).set i (R7.jn ⟨0, 0⟩ et0 0)).getD x.k1.toNat default) (2 ^ m)) = (R7.edl ns true (k + 1) i).set i (R7.jn (R7.jn ⟨0, 0⟩ et0 0) et1 (2 ^ m)) := by rw [gg1, gg2, List.set_set]
    skip
    refine tri_cut (fun F' A' J => F' = [(1, .int .i64 (k : Nat)), (2, pt b2 0), (4, pt b4 0), (6, .slice (some ⟨ac, 0, none⟩) (k + 1) (k + 1)), (7, .slice (some ⟨dn, 0, none⟩) (k + 1) (k + 1)), (38, .slice a (k + 1) cap), (39, .int .i64 ((k + 1 : Nat) : Int)), (40, .int .i64 (i : Nat)), (8, .int .i64 (i : Nat)), (9, pt b9 0), (10, .int .i64 (2 ^ m)), (11, .int .i64 1), (12, .int .i64 x.k1), (65, .agg [.int .i64 x.k0, .int .i64 x.k1, .int .i64 x.k2, .int .i64 x.k3].toArray), (66, .int .i64 1)] ∧ A' = Row (some ⟨ac, 0, none⟩) (k + 1) (k + 1) 87 2 (encs (((R7.edl ns true (k + 1) i).set i (R7.jn ⟨0, 0⟩ et0 0)).set i (R7.jn (((R7.edl ns true (k + 1) i).set i (R7.jn ⟨0, 0⟩ et0 0)).getD i default) (((R7.edl ns true (k + 1) i).set i (R7.jn ⟨0, 0⟩ et0 0)).getD x.k1.toNat default) (2 ^ m)))) :: Row (some ⟨dn, 0, none⟩) (k + 1) (k + 1) 87 2 (encs ((R7.edl ns false (k + 1) i).set i (R7.jn ⟨0, 0⟩ ef0 0))) :: Box b9 [.int .i64 x.lv, .int .i64 x.k0, .int .i64 x.k1, .int .i64 x.k2, .int .i64 x.k3, .int .i64 x.pop] 63 :: Box b4 [.int .i64 0, .int .i64 0, .int .i64 0, .int .i64 0] 45 :: Box b2 [.slice a ns.length cap, .int .i64 room] 26 :: A ∧ I = J) ?_ ?_
    ·refine tri_draw [0, 1, 2, 3, 4, 6, 7, 8, 10, 11, 12, 13, 5, 9, 14, 15, 16] rfl [_] rfl mixed ?_
     refine th_take rfl rfl (by kernel_rfl)  (opv_move rfl) ?_
     refine th_take rfl rfl (by kernel_rfl)  (opv_move rfl) ?_
     refine th_take rfl rfl (by kernel_rfl)  (opv_move rfl) ?_
     refine th_take rfl rfl (by kernel_rfl)  (opv_move rfl) ?_
     refine th_take rfl rfl (by kernel_rfl)  (opv_indexAddrSP rfl rfl (by omega) (by omega)) ?_
     refine th_take rfl rfl (by kernel_rfl)  (opv_move rfl) ?_
     refine th_take rfl rfl (by kernel_rfl)  (opv_move rfl) ?_
     refine th_take rfl rfl (by kernel_rfl)  (opv_indexAddrSP rfl rfl (by omega) (by omega)) ?_
     refine th_take rfl rfl (by kernel_rfl)  (opv_move rfl) ?_
     refine th_take rfl rfl (by kernel_rfl)  (opv_remE rfl rfl (by omega) (by omega)) ?_
     refine th_take rfl rfl (by kernel_rfl)  (opv_move rfl) ?_
     refine th_take rfl rfl (by kernel_rfl)  (opv_mul rfl rfl (w64 (by omega) (by omega))) ?_
     refine th_two (j := 9) [5, 14, 15, 16] (by kernel_rfl) rfl ?_ ?_
     ·refine (step_m rfl rfl (OpV.toG (opv_loadRXA rfl rfl (by omega) rfl rfl rfl)) ?_)
      rintro _ _ _ ⟨rfl, rfl, rfl⟩
      refine ⟨Suf.h, (fun _ h => h), ?_⟩
      refine th_one (by kernel_rfl) (step_m rfl rfl (OpV.toG (opv_loadRXA rfl rfl (by omega) rfl rfl rfl)) ?_)
      rintro _ _ _ ⟨rfl, rfl, rfl⟩
      refine ⟨Suf.h, (fun _ h => h), ?_⟩
      refine th_one (by kernel_rfl) (step_m rfl rfl (opg_call (xs := [_, _, _]) rfl (edge_join (e := (2 ^ m)) (by omega) ha hb (by omega) (by omega) (by omega))) ?_)
      rintro _ _ _ ⟨rfl, rfl, rfl⟩
      refine ⟨Suf.h, (fun _ h => h), ?_⟩
      refine th_take rfl rfl (by kernel_rfl)  (opv_indexAddrSP rfl rfl (by omega) (by omega)) ?_
      refine th_one (by kernel_rfl) (step_m rfl rfl (opg_storeRX (R7.jn (((R7.edl ns true (k + 1) i).set i (R7.jn ⟨0, 0⟩ et0 0)).getD i default) (((R7.edl ns true (k + 1) i).set i (R7.jn ⟨0, 0⟩ et0 0)).getD x.k1.toNat default) (2 ^ m)) rfl rfl rfl (by omega) ln.symm rfl rfl rfl rfl) ?_)
      rintro _ _ _ ⟨rfl, rfl⟩
      refine ⟨Suf.h, (fun _ h => h), ?_⟩
      refine th_done (by kernel_rfl) ?_
      exact tri_cutEnd _ ⟨rfl, rfl, rfl⟩ ⟨rfl, rfl, rfl, rfl, rfl, rfl, rfl, rfl, rfl, rfl, rfl, rfl, rfl, rfl, rfl, trivial⟩
     ·refine (step_m rfl rfl (OpV.toG (opv_loadRXA rfl rfl (by omega) rfl rfl rfl)) ?_)
      rintro _ _ _ ⟨rfl, rfl, rfl⟩
      refine ⟨Suf.h, (fun _ h => h), ?_⟩
      refine th_one (by kernel_rfl) (step_m rfl rfl (OpV.toG (opv_loadRXA rfl rfl (by omega) rfl rfl rfl)) ?_)
      rintro _ _ _ ⟨rfl, rfl, rfl⟩
      refine ⟨Suf.h, (fun _ h => h), ?_⟩
      refine th_one (by kernel_rfl) (step_m rfl rfl (opg_call (xs := [_, _, _]) rfl (edge_join (e := (2 ^ m)) (by omega) ha hb (by omega) (by omega) (by omega))) ?_)
      rintro _ _ _ ⟨rfl, rfl, rfl⟩
      refine ⟨Suf.h, (fun _ h => h), ?_⟩
      refine th_take rfl rfl (by kernel_rfl)  (opv_indexAddrSP rfl rfl (by omega) (by omega)) ?_
      refine th_one (by kernel_rfl) (step_m rfl rfl (opg_storeRX (R7.jn (((R7.edl ns true (k + 1) i).set i (R7.jn ⟨0, 0⟩ et0 0)).getD i default) (((R7.edl ns true (k + 1) i).set i (R7.jn ⟨0, 0⟩ et0 0)).getD x.k1.toNat default) (2 ^ m)) rfl rfl rfl (by omega) ln.symm rfl rfl rfl rfl) ?_)
      rintro _ _ _ ⟨rfl, rfl⟩
      refine ⟨Suf.h, (fun _ h => h), ?_⟩
      refine th_done (by kernel_rfl) ?_
      exact tri_cutEnd _ ⟨rfl, rfl, rfl⟩ ⟨rfl, rfl, rfl, rfl, rfl, rfl, rfl, rfl, rfl, rfl, rfl, rfl, rfl, rfl, rfl, trivial⟩
    rintro _ _ _ ⟨rfl, rfl, rfl⟩
    rw [es]
    clear ln gg1 gg2 ha hb es
    refine tT ?_
    have ln : ((R7.edl ns false (k + 1) i).set i (R7.jn ⟨0, 0⟩ ef0 0)).length = k + 1 := by rw [List.length_set, R7.edl_len]
    have gg1 : ((R7.edl ns false (k + 1) i).set i (R7.jn ⟨0, 0⟩ ef0 0)).getD i default = (R7.jn ⟨0, 0⟩ ef0 0) := R7.set_at (by rw [R7.edl_len]; omega)
    have gg2 : ((R7.edl ns false (k + 1) i).set i (R7.jn ⟨0, 0⟩ ef0 0)).getD x.k1.toNat default = ef1 := (R7.set_ne (by omega)).trans p1
    have ha : R7.Eg (2 ^ m * 2) (((R7.edl ns false (k + 1) i).set i (R7.jn ⟨0, 0⟩ ef0 0)).getD i default) := by rw [gg1]; exact f0
    have hb : R7.Eg (2 ^ m * 2) (((R7.edl ns false (k + 1) i).set i (R7.jn ⟨0, 0⟩ ef0 0)).getD x.k1.toNat default) := by rw [gg2]; exact bf1.mono (by omega)
    have es : ((R7.edl ns false (k + 1) i).set i (R7.jn ⟨0, 0⟩ ef0 0)).set i (R7.jn (((R7.edl ns false (k + 1) i).set i (R7.jn ⟨0, 0⟩ ef0 0)).getD i default) (((R7.edl ns false (k + 1) i).set i (R7.jn ⟨0, 0⟩ ef0 0)).getD x.k1.toNat default) 0) = (R7.edl ns false (k + 1) i).set i (R7.jn (R7.jn ⟨0, 0⟩ ef0 0) ef1 0) := by rw [gg1, gg2, List.set_set]
    refine tri_perm (A := ?a5_0 :: ?a5_1 :: ?T5) (B := ?a5_1 :: ?a5_0 :: ?T5) (by exact permL [1, 0] [?a5_0, ?a5_1] ?T5 (by decide) rfl) ?_
    skip
    refine tri_cut (fun F' A' J => F' = [(1, .int .i64 (k : Nat)), (2, pt b2 0), (4, pt b4 0), (6, .slice (some ⟨ac, 0, none⟩) (k + 1) (k + 1)), (7, .slice (some ⟨dn, 0, none⟩) (k + 1) (k + 1)), (38, .slice a (k + 1) cap), (39, .int .i64 ((k + 1 : Nat) : Int)), (40, .int .i64 (i : Nat)), (8, .int .i64 (i : Nat)), (9, pt b9 0), (10, .int .i64 (2 ^ m)), (11, .int .i64 1), (12, .int .i64 x.k1), (65, .agg [.int .i64 x.k0, .int .i64 x.k1, .int .i64 x.k2, .int .i64 x.k3].toArray), (66, .int .i64 1)] ∧ A' = Row (some ⟨dn, 0, none⟩) (k + 1) (k + 1) 87 2 (encs (((R7.edl ns false (k + 1) i).set i (R7.jn ⟨0, 0⟩ ef0 0)).set i (R7.jn (((R7.edl ns false (k + 1) i).set i (R7.jn ⟨0, 0⟩ ef0 0)).getD i default) (((R7.edl ns false (k + 1) i).set i (R7.jn ⟨0, 0⟩ ef0 0)).getD x.k1.toNat default) 0))) :: Row (some ⟨ac, 0, none⟩) (k + 1) (k + 1) 87 2 (encs ((R7.edl ns true (k + 1) i).set i (R7.jn (R7.jn ⟨0, 0⟩ et0 0) et1 (2 ^ m)))) :: Box b9 [.int .i64 x.lv, .int .i64 x.k0, .int .i64 x.k1, .int .i64 x.k2, .int .i64 x.k3, .int .i64 x.pop] 63 :: Box b4 [.int .i64 0, .int .i64 0, .int .i64 0, .int .i64 0] 45 :: Box b2 [.slice a ns.length cap, .int .i64 room] 26 :: A ∧ I = J) ?_ ?_
    ·refine tri_draw [0, 1, 2, 3, 4, 6, 7, 8, 10, 11, 12, 13, 5, 9, 14, 15, 16] rfl [_] rfl mixed ?_
     refine th_take rfl rfl (by kernel_rfl)  (opv_move rfl) ?_
     refine th_take rfl rfl (by kernel_rfl)  (opv_move rfl) ?_
     refine th_take rfl rfl (by kernel_rfl)  (opv_move rfl) ?_
     refine th_take rfl rfl (by kernel_rfl)  (opv_move rfl) ?_
     refine th_take rfl rfl (by kernel_rfl)  (opv_indexAddrSP rfl rfl (by omega) (by omega)) ?_
     refine th_take rfl rfl (by kernel_rfl)  (opv_move rfl) ?_
     refine th_take rfl rfl (by kernel_rfl)  (opv_move rfl) ?_
     refine th_take rfl rfl (by kernel_rfl)  (opv_indexAddrSP rfl rfl (by omega) (by omega)) ?_
     refine th_take rfl rfl (by kernel_rfl)  (opv_move rfl) ?_
     refine th_take rfl rfl (by kernel_rfl)  (opv_quoE rfl rfl (by omega) (by omega) (by omega)) ?_
     refine th_take rfl rfl (by kernel_rfl)  (opv_move rfl) ?_
     refine th_take rfl rfl (by kernel_rfl)  (opv_mul rfl rfl (w64 (by omega) (by omega))) ?_
     refine th_two (j := 9) [5, 14, 15, 16] (by kernel_rfl) rfl ?_ ?_
     ·refine (step_m rfl rfl (OpV.toG (opv_loadRXA rfl rfl (by omega) rfl rfl rfl)) ?_)
      rintro _ _ _ ⟨rfl, rfl, rfl⟩
      refine ⟨Suf.h, (fun _ h => h), ?_⟩
      refine th_one (by kernel_rfl) (step_m rfl rfl (OpV.toG (opv_loadRXA rfl rfl (by omega) rfl rfl rfl)) ?_)
      rintro _ _ _ ⟨rfl, rfl, rfl⟩
      refine ⟨Suf.h, (fun _ h => h), ?_⟩
      refine th_one (by kernel_rfl) (step_m rfl rfl (opg_call (xs := [_, _, _]) rfl (edge_join (e := 0) (by omega) ha hb (by omega) (by omega) (by omega))) ?_)
      rintro _ _ _ ⟨rfl, rfl, rfl⟩
      refine ⟨Suf.h, (fun _ h => h), ?_⟩
      refine th_take rfl rfl (by kernel_rfl)  (opv_indexAddrSP rfl rfl (by omega) (by omega)) ?_
      refine th_one (by kernel_rfl) (step_m rfl rfl (opg_storeRX (R7.jn (((R7.edl ns false (k + 1) i).set i (R7.jn ⟨0, 0⟩ ef0 0)).getD i default) (((R7.edl ns false (k + 1) i).set i (R7.jn ⟨0, 0⟩ ef0 0)).getD x.k1.toNat default) 0) rfl rfl rfl (by omega) ln.symm rfl rfl rfl rfl) ?_)
      rintro _ _ _ ⟨rfl, rfl⟩
      refine ⟨Suf.h, (fun _ h => h), ?_⟩
      refine th_done (by kernel_rfl) ?_
      exact tri_cutEnd _ ⟨rfl, rfl, rfl⟩ ⟨rfl, rfl, rfl, rfl, rfl, rfl, rfl, rfl, rfl, rfl, rfl, rfl, rfl, rfl, rfl, trivial⟩
     ·refine (step_m rfl rfl (OpV.toG (opv_loadRXA rfl rfl (by omega) rfl rfl rfl)) ?_)
      rintro _ _ _ ⟨rfl, rfl, rfl⟩
      refine ⟨Suf.h, (fun _ h => h), ?_⟩
      refine th_one (by kernel_rfl) (step_m rfl rfl (OpV.toG (opv_loadRXA rfl rfl (by omega) rfl rfl rfl)) ?_)
      rintro _ _ _ ⟨rfl, rfl, rfl⟩
      refine ⟨Suf.h, (fun _ h => h), ?_⟩
      refine th_one (by kernel_rfl) (step_m rfl rfl (opg_call (xs := [_, _, _]) rfl (edge_join (e := 0) (by omega) ha hb (by omega) (by omega) (by omega))) ?_)
      rintro _ _ _ ⟨rfl, rfl, rfl⟩
      refine ⟨Suf.h, (fun _ h => h), ?_⟩
      refine th_take rfl rfl (by kernel_rfl)  (opv_indexAddrSP rfl rfl (by omega) (by omega)) ?_
      refine th_one (by kernel_rfl) (step_m rfl rfl (opg_storeRX (R7.jn (((R7.edl ns false (k + 1) i).set i (R7.jn ⟨0, 0⟩ ef0 0)).getD i default) (((R7.edl ns false (k + 1) i).set i (R7.jn ⟨0, 0⟩ ef0 0)).getD x.k1.toNat default) 0) rfl rfl rfl (by omega) ln.symm rfl rfl rfl rfl) ?_)
      rintro _ _ _ ⟨rfl, rfl⟩
      refine ⟨Suf.h, (fun _ h => h), ?_⟩
      refine th_done (by kernel_rfl) ?_
      exact tri_cutEnd _ ⟨rfl, rfl, rfl⟩ ⟨rfl, rfl, rfl, rfl, rfl, rfl, rfl, rfl, rfl, rfl, rfl, rfl, rfl, rfl, rfl, trivial⟩
    rintro _ _ _ ⟨rfl, rfl, rfl⟩
    rw [es]
    clear ln gg1 gg2 ha hb es
    refine tri_inBlock ?_
    refine tT (tR ?_)
    refine tU rfl rfl (by omega) (by omega) rfl ?_
    refine tM rfl rfl (tN (tT ?_))
    refine tri_round ?_
    refine tS (tR ?_)
    refine tri_v (opv_lss rfl rfl) rfl ?_
    refine tN (tT (tS ?_))
    refine tri_perm (A := ?a6_0 :: ?a6_1 :: ?T6) (B := ?a6_1 :: ?a6_0 :: ?T6) (by exact permL [1, 0] [?a6_0, ?a6_1] ?T6 (by decide) rfl) ?_
    skip
    refine tri_cond_is rfl (by decide) ?_
    refine tri_skip (tT (tS (tri_block (tS (tR (tM rfl rfl ?_))))))
    refine tri_v (opv_index rfl rfl (by decide) (by decide) rfl rfl) rfl ?_
    refine tA rfl rfl (tA rfl rfl (tN (tT (tS ?_))))
    skip
    have ln : ((R7.edl ns true (k + 1) i).set i (R7.jn (R7.jn ⟨0, 0⟩ et0 0) et1 (2 ^ m))).length = k + 1 := by rw [List.length_set, R7.edl_len]
    have gg1 : ((R7.edl ns true (k + 1) i).set i (R7.jn (R7.jn ⟨0, 0⟩ et0 0) et1 (2 ^ m))).getD i default = (R7.jn (R7.jn ⟨0, 0⟩ et0 0) et1 (2 ^ m)) := R7.set_at (by rw [R7.edl_len]; omega)
    have gg2 : ((R7.edl ns true (k + 1) i).set i (R7.jn (R7.jn ⟨0, 0⟩ et0 0) et1 (2 ^ m))).getD x.k2.toNat default = et2 := (R7.set_ne (by omega)).trans g2
    have ha : R7.Eg (2 ^ m * 2) (((R7.edl ns true (k + 1) i).set i (R7.jn (R7.jn ⟨0, 0⟩ et0 0) et1 (2 ^ m))).getD i default) := by rw [gg1]; exact t1
    have hb : R7.Eg (2 ^ m * 2) (((R7.edl ns true (k + 1) i).set i (R7.jn (R7.jn ⟨0, 0⟩ et0 0) et1 (2 ^ m))).getD x.k2.toNat default) := by rw [gg2]; exact bt2.mono (by omega)
    have es : ((R7.edl ns true (k + 1) i).set i (R7.jn (R7.jn ⟨0, 0⟩ et0 0) et1 (2 ^ m))).set i (R7.jn (((R7.edl ns true (k + 1) i).set i (R7.jn (R7.jn ⟨0, 0⟩ et0 0) et1 (2 ^ m))).getD i default) (((R7.edl ns true (k + 1) i).set i (R7.jn (R7.jn ⟨0, 0⟩ et0 0) et1 (2 ^ m))).getD x.k2.toNat default) 0) = (R7.edl ns true (k + 1) i).set i (R7.jn (R7.jn (R7.jn ⟨0, 0⟩ et0 0) et1 (2 ^ m)) et2 0) := by rw [gg1, gg2, List.set_set]
    skip
    refine tri_cut (fun F' A' J => F' = [(1, .int .i64 (k : Nat)), (2, pt b2 0), (4, pt b4 0), (6, .slice (some ⟨ac, 0, none⟩) (k + 1) (k + 1)), (7, .slice (some ⟨dn, 0, none⟩) (k + 1) (k + 1)), (38, .slice a (k + 1) cap), (39, .int .i64 ((k + 1 : Nat) : Int)), (40, .int .i64 (i : Nat)), (8, .int .i64 (i : Nat)), (9, pt b9 0), (10, .int .i64 (2 ^ m)), (11, .int .i64 2), (12, .int .i64 x.k2), (65, .agg [.int .i64 x.k0, .int .i64 x.k1, .int .i64 x.k2, .int .i64 x.k3].toArray), (66, .int .i64 2)] ∧ A' = Row (some ⟨ac, 0, none⟩) (k + 1) (k + 1) 87 2 (encs (((R7.edl ns true (k + 1) i).set i (R7.jn (R7.jn ⟨0, 0⟩ et0 0) et1 (2 ^ m))).set i (R7.jn (((R7.edl ns true (k + 1) i).set i (R7.jn (R7.jn ⟨0, 0⟩ et0 0) et1 (2 ^ m))).getD i default) (((R7.edl ns true (k + 1) i).set i (R7.jn (R7.jn ⟨0, 0⟩ et0 0) et1 (2 ^ m))).getD x.k2.toNat default) 0))) :: Row (some ⟨dn, 0, none⟩) (k + 1) (k + 1) 87 2 (encs ((R7.edl ns false (k + 1) i).set i (R7.jn (R7.jn ⟨0, 0⟩ ef0 0) ef1 0))) :: Box b9 [.int .i64 x.lv, .int .i64 x.k0, .int .i64 x.k1, .int .i64 x.k2, .int .i64 x.k3, .int .i64 x.pop] 63 :: Box b4 [.int .i64 0, .int .i64 0, .int .i64 0, .int .i64 0] 45 :: Box b2 [.slice a ns.length cap, .int .i64 room] 26 :: A ∧ I = J) ?_ ?_
    ·refine tri_draw [0, 1, 2, 3, 4, 6, 7, 8, 10, 11, 12, 13, 5, 9, 14, 15, 16] rfl [_] rfl mixed ?_
     refine th_take rfl rfl (by kernel_rfl)  (opv_move rfl) ?_
     refine th_take rfl rfl (by kernel_rfl)  (opv_move rfl) ?_
     refine th_take rfl rfl (by kernel_rfl)  (opv_move rfl) ?_
     refine th_take rfl rfl (by kernel_rfl)  (opv_move rfl) ?_
     refine th_take rfl rfl (by kernel_rfl)  (opv_indexAddrSP rfl rfl (by omega) (by omega)) ?_
     refine th_take rfl rfl (by kernel_rfl)  (opv_move rfl) ?_
     refine th_take rfl rfl (by kernel_rfl)  (opv_move rfl) ?_
     refine th_take rfl rfl (by kernel_rfl)  (opv_indexAddrSP rfl rfl (by omega) (by omega)) ?_
     refine th_take rfl rfl (by kernel_rfl)  (opv_move rfl) ?_
     refine th_take rfl rfl (by kernel_rfl)  (opv_remE rfl rfl (by omega) (by omega)) ?_
     refine th_take rfl rfl (by kernel_rfl)  (opv_move rfl) ?_
     refine th_take rfl rfl (by kernel_rfl)  (opv_mul rfl rfl (w64 (by omega) (by omega))) ?_
     refine th_two (j := 9) [5, 14, 15, 16] (by kernel_rfl) rfl ?_ ?_
     ·refine (step_m rfl rfl (OpV.toG (opv_loadRXA rfl rfl (by omega) rfl rfl rfl)) ?_)
      rintro _ _ _ ⟨rfl, rfl, rfl⟩
      refine ⟨Suf.h, (fun _ h => h), ?_⟩
      refine th_one (by kernel_rfl) (step_m rfl rfl (OpV.toG (opv_loadRXA rfl rfl (by omega) rfl rfl rfl)) ?_)
      rintro _ _ _ ⟨rfl, rfl, rfl⟩
      refine ⟨Suf.h, (fun _ h => h), ?_⟩
      refine th_one (by kernel_rfl) (step_m rfl rfl (opg_call (xs := [_, _, _]) rfl (edge_join (e := 0) (by omega) ha hb (by omega) (by omega) (by omega))) ?_)
      rintro _ _ _ ⟨rfl, rfl, rfl⟩
      refine ⟨Suf.h, (fun _ h => h), ?_⟩
      refine th_take rfl rfl (by kernel_rfl)  (opv_indexAddrSP rfl rfl (by omega) (by omega)) ?_
      refine th_one (by kernel_rfl) (step_m rfl rfl (opg_storeRX (R7.jn (((R7.edl ns true (k + 1) i).set i (R7.jn (R7.jn ⟨0, 0⟩ et0 0) et1 (2 ^ m))).getD i default) (((R7.edl ns true (k + 1) i).set i (R7.jn (R7.jn ⟨0, 0⟩ et0 0) et1 (2 ^ m))).getD x.k2.toNat default) 0) rfl rfl rfl (by omega) ln.symm rfl rfl rfl rfl) ?_)
      rintro _ _ _ ⟨rfl, rfl⟩
      refine ⟨Suf.h, (fun _ h => h), ?_⟩
      refine th_done (by kernel_rfl) ?_
      exact tri_cutEnd _ ⟨rfl, rfl, rfl⟩ ⟨rfl, rfl, rfl, rfl, rfl, rfl, rfl, rfl, rfl, rfl, rfl, rfl, rfl, rfl, rfl, trivial⟩
     ·refine (step_m rfl rfl (OpV.toG (opv_loadRXA rfl rfl (by omega) rfl rfl rfl)) ?_)
      rintro _ _ _ ⟨rfl, rfl, rfl⟩
      refine ⟨Suf.h, (fun _ h => h), ?_⟩
      refine th_one (by kernel_rfl) (step_m rfl rfl (OpV.toG (opv_loadRXA rfl rfl (by omega) rfl rfl rfl)) ?_)
      rintro _ _ _ ⟨rfl, rfl, rfl⟩
      refine ⟨Suf.h, (fun _ h => h), ?_⟩
      refine th_one (by kernel_rfl) (step_m rfl rfl (opg_call (xs := [_, _, _]) rfl (edge_join (e := 0) (by omega) ha hb (by omega) (by omega) (by omega))) ?_)
      rintro _ _ _ ⟨rfl, rfl, rfl⟩
      refine ⟨Suf.h, (fun _ h => h), ?_⟩
      refine th_take rfl rfl (by kernel_rfl)  (opv_indexAddrSP rfl rfl (by omega) (by omega)) ?_
      refine th_one (by kernel_rfl) (step_m rfl rfl (opg_storeRX (R7.jn (((R7.edl ns true (k + 1) i).set i (R7.jn (R7.jn ⟨0, 0⟩ et0 0) et1 (2 ^ m))).getD i default) (((R7.edl ns true (k + 1) i).set i (R7.jn (R7.jn ⟨0, 0⟩ et0 0) et1 (2 ^ m))).getD x.k2.toNat default) 0) rfl rfl rfl (by omega) ln.symm rfl rfl rfl rfl) ?_)
      rintro _ _ _ ⟨rfl, rfl⟩
      refine ⟨Suf.h, (fun _ h => h), ?_⟩
      refine th_done (by kernel_rfl) ?_
      exact tri_cutEnd _ ⟨rfl, rfl, rfl⟩ ⟨rfl, rfl, rfl, rfl, rfl, rfl, rfl, rfl, rfl, rfl, rfl, rfl, rfl, rfl, rfl, trivial⟩
    rintro _ _ _ ⟨rfl, rfl, rfl⟩
    rw [es]
    clear ln gg1 gg2 ha hb es
    refine tT ?_
    have ln : ((R7.edl ns false (k + 1) i).set i (R7.jn (R7.jn ⟨0, 0⟩ ef0 0) ef1 0)).length = k + 1 := by rw [List.length_set, R7.edl_len]
    have gg1 : ((R7.edl ns false (k + 1) i).set i (R7.jn (R7.jn ⟨0, 0⟩ ef0 0) ef1 0)).getD i default = (R7.jn (R7.jn ⟨0, 0⟩ ef0 0) ef1 0) := R7.set_at (by rw [R7.edl_len]; omega)
    have gg2 : ((R7.edl ns false (k + 1) i).set i (R7.jn (R7.jn ⟨0, 0⟩ ef0 0) ef1 0)).getD x.k2.toNat default = ef2 := (R7.set_ne (by omega)).trans p2
    have ha : R7.Eg (2 ^ m * 2) (((R7.edl ns false (k + 1) i).set i (R7.jn (R7.jn ⟨0, 0⟩ ef0 0) ef1 0)).getD i default) := by rw [gg1]; exact f1
    have hb : R7.Eg (2 ^ m * 2) (((R7.edl ns false (k + 1) i).set i (R7.jn (R7.jn ⟨0, 0⟩ ef0 0) ef1 0)).getD x.k2.toNat default) := by rw [gg2]; exact bf2.mono (by omega)
    have es : ((R7.edl ns false (k + 1) i).set i (R7.jn (R7.jn ⟨0, 0⟩ ef0 0) ef1 0)).set i (R7.jn (((R7.edl ns false (k + 1) i).set i (R7.jn (R7.jn ⟨0, 0⟩ ef0 0) ef1 0)).getD i default) (((R7.edl ns false (k + 1) i).set i (R7.jn (R7.jn ⟨0, 0⟩ ef0 0) ef1 0)).getD x.k2.toNat default) (2 ^ m)) = (R7.edl ns false (k + 1) i).set i (R7.jn (R7.jn (R7.jn ⟨0, 0⟩ ef0 0) ef1 0) ef2 (2 ^ m)) := by rw [gg1, gg2, List.set_set]
    refine tri_perm (A := ?a7_0 :: ?a7_1 :: ?T7) (B := ?a7_1 :: ?a7_0 :: ?T7) (by exact permL [1, 0] [?a7_0, ?a7_1] ?T7 (by decide) rfl) ?_
    skip
    refine tri_cut (fun F' A' J => F' = [(1, .int .i64 (k : Nat)), (2, pt b2 0), (4, pt b4 0), (6, .slice (some ⟨ac, 0, none⟩) (k + 1) (k + 1)), (7, .slice (some ⟨dn, 0, none⟩) (k + 1) (k + 1)), (38, .slice a (k + 1) cap), (39, .int .i64 ((k + 1 : Nat) : Int)), (40, .int .i64 (i : Nat)), (8, .int .i64 (i : Nat)), (9, pt b9 0), (10, .int .i64 (2 ^ m)), (11, .int .i64 2), (12, .int .i64 x.k2), (65, .agg [.int .i64 x.k0, .int .i64 x.k1, .int .i64 x.k2, .int .i64 x.k3].toArray), (66, .int .i64 2)] ∧ A' = Row (some ⟨dn, 0, none⟩) (k + 1) (k + 1) 87 2 (encs (((R7.edl ns false (k + 1) i).set i (R7.jn (R7.jn ⟨0, 0⟩ ef0 0) ef1 0)).set i (R7.jn (((R7.edl ns false (k + 1) i).set i (R7.jn (R7.jn ⟨0, 0⟩ ef0 0) ef1 0)).getD i default) (((R7.edl ns false (k + 1) i).set i (R7.jn (R7.jn ⟨0, 0⟩ ef0 0) ef1 0)).getD x.k2.toNat default) (2 ^ m)))) :: Row (some ⟨ac, 0, none⟩) (k + 1) (k + 1) 87 2 (encs ((R7.edl ns true (k + 1) i).set i (R7.jn (R7.jn (R7.jn ⟨0, 0⟩ et0 0) et1 (2 ^ m)) et2 0))) :: Box b9 [.int .i64 x.lv, .int .i64 x.k0, .int .i64 x.k1, .int .i64 x.k2, .int .i64 x.k3, .int .i64 x.pop] 63 :: Box b4 [.int .i64 0, .int .i64 0, .int .i64 0, .int .i64 0] 45 :: Box b2 [.slice a ns.length cap, .int .i64 room] 26 :: A ∧ I = J) ?_ ?_
    ·refine tri_draw [0, 1, 2, 3, 4, 6, 7, 8, 10, 11, 12, 13, 5, 9, 14, 15, 16] rfl [_] rfl mixed ?_
     refine th_take rfl rfl (by kernel_rfl)  (opv_move rfl) ?_
     refine th_take rfl rfl (by kernel_rfl)  (opv_move rfl) ?_
     refine th_take rfl rfl (by kernel_rfl)  (opv_move rfl) ?_
     refine th_take rfl rfl (by kernel_rfl)  (opv_move rfl) ?_
     refine th_take rfl rfl (by kernel_rfl)  (opv_indexAddrSP rfl rfl (by omega) (by omega)) ?_
     refine th_take rfl rfl (by kernel_rfl)  (opv_move rfl) ?_
     refine th_take rfl rfl (by kernel_rfl)  (opv_move rfl) ?_
     refine th_take rfl rfl (by kernel_rfl)  (opv_indexAddrSP rfl rfl (by omega) (by omega)) ?_
     refine th_take rfl rfl (by kernel_rfl)  (opv_move rfl) ?_
     refine th_take rfl rfl (by kernel_rfl)  (opv_quoE rfl rfl (by omega) (by omega) (by omega)) ?_
     refine th_take rfl rfl (by kernel_rfl)  (opv_move rfl) ?_
     refine th_take rfl rfl (by kernel_rfl)  (opv_mul rfl rfl (w64 (by omega) (by omega))) ?_
     refine th_two (j := 9) [5, 14, 15, 16] (by kernel_rfl) rfl ?_ ?_
     ·refine (step_m rfl rfl (OpV.toG (opv_loadRXA rfl rfl (by omega) rfl rfl rfl)) ?_)
      rintro _ _ _ ⟨rfl, rfl, rfl⟩
      refine ⟨Suf.h, (fun _ h => h), ?_⟩
      refine th_one (by kernel_rfl) (step_m rfl rfl (OpV.toG (opv_loadRXA rfl rfl (by omega) rfl rfl rfl)) ?_)
      rintro _ _ _ ⟨rfl, rfl, rfl⟩
      refine ⟨Suf.h, (fun _ h => h), ?_⟩
      refine th_one (by kernel_rfl) (step_m rfl rfl (opg_call (xs := [_, _, _]) rfl (edge_join (e := (2 ^ m)) (by omega) ha hb (by omega) (by omega) (by omega))) ?_)
      rintro _ _ _ ⟨rfl, rfl, rfl⟩
      refine ⟨Suf.h, (fun _ h => h), ?_⟩
      refine th_take rfl rfl (by kernel_rfl)  (opv_indexAddrSP rfl rfl (by omega) (by omega)) ?_
      refine th_one (by kernel_rfl) (step_m rfl rfl (opg_storeRX (R7.jn (((R7.edl ns false (k + 1) i).set i (R7.jn (R7.jn ⟨0, 0⟩ ef0 0) ef1 0)).getD i default) (((R7.edl ns false (k + 1) i).set i (R7.jn (R7.jn ⟨0, 0⟩ ef0 0) ef1 0)).getD x.k2.toNat default) (2 ^ m)) rfl rfl rfl (by omega) ln.symm rfl rfl rfl rfl) ?_)
      rintro _ _ _ ⟨rfl, rfl⟩
      refine ⟨Suf.h, (fun _ h => h), ?_⟩
      refine th_done (by kernel_rfl) ?_
      exact tri_cutEnd _ ⟨rfl, rfl, rfl⟩ ⟨rfl, rfl, rfl, rfl, rfl, rfl, rfl, rfl, rfl, rfl, rfl, rfl, rfl, rfl, rfl, trivial⟩
     ·refine (step_m rfl rfl (OpV.toG (opv_loadRXA rfl rfl (by omega) rfl rfl rfl)) ?_)
      rintro _ _ _ ⟨rfl, rfl, rfl⟩
      refine ⟨Suf.h, (fun _ h => h), ?_⟩
      refine th_one (by kernel_rfl) (step_m rfl rfl (OpV.toG (opv_loadRXA rfl rfl (by omega) rfl rfl rfl)) ?_)
      rintro _ _ _ ⟨rfl, rfl, rfl⟩
      refine ⟨Suf.h, (fun _ h => h), ?_⟩
      refine th_one (by kernel_rfl) (step_m rfl rfl (opg_call (xs := [_, _, _]) rfl (edge_join (e := (2 ^ m)) (by omega) ha hb (by omega) (by omega) (by omega))) ?_)
      rintro _ _ _ ⟨rfl, rfl, rfl⟩
      refine ⟨Suf.h, (fun _ h => h), ?_⟩
      refine th_take rfl rfl (by kernel_rfl)  (opv_indexAddrSP rfl rfl (by omega) (by omega)) ?_
      refine th_one (by kernel_rfl) (step_m rfl rfl (opg_storeRX (R7.jn (((R7.edl ns false (k + 1) i).set i (R7.jn (R7.jn ⟨0, 0⟩ ef0 0) ef1 0)).getD i default) (((R7.edl ns false (k + 1) i).set i (R7.jn (R7.jn ⟨0, 0⟩ ef0 0) ef1 0)).getD x.k2.toNat default) (2 ^ m)) rfl rfl rfl (by omega) ln.symm rfl rfl rfl rfl) ?_)
      rintro _ _ _ ⟨rfl, rfl⟩
      refine ⟨Suf.h, (fun _ h => h), ?_⟩
      refine th_done (by kernel_rfl) ?_
      exact tri_cutEnd _ ⟨rfl, rfl, rfl⟩ ⟨rfl, rfl, rfl, rfl, rfl, rfl, rfl, rfl, rfl, rfl, rfl, rfl, rfl, rfl, rfl, trivial⟩
    rintro _ _ _ ⟨rfl, rfl, rfl⟩
    rw [es]
    clear ln gg1 gg2 ha hb es
    refine tri_inBlock ?_
    refine tT (tR ?_)
    refine tU rfl rfl (by omega) (by omega) rfl ?_
    refine tM rfl rfl (tN (tT ?_))
    refine tri_round ?_
    refine tS (tR ?_)
    refine tri_v (opv_lss rfl rfl) rfl ?_
    refine tN (tT (tS ?_))
    refine tri_perm (A := ?a8_0 :: ?a8_1 :: ?T8) (B := ?a8_1 :: ?a8_0 :: ?T8) (by exact permL [1, 0] [?a8_0, ?a8_1] ?T8 (by decide) rfl) ?_
    skip
    refine tri_cond_is rfl (by decide) ?_
    refine tri_skip (tT (tS (tri_block (tS (tR (tM rfl rfl ?_))))))
    refine tri_v (opv_index rfl rfl (by decide) (by decide) rfl rfl) rfl ?_
    refine tA rfl rfl (tA rfl rfl (tN (tT (tS ?_))))
    skip
    have ln : ((R7.edl ns true (k + 1) i).set i (R7.jn (R7.jn (R7.jn ⟨0, 0⟩ et0 0) et1 (2 ^ m)) et2 0)).length = k + 1 := by rw [List.length_set, R7.edl_len]
    have gg1 : ((R7.edl ns true (k + 1) i).set i (R7.jn (R7.jn (R7.jn ⟨0, 0⟩ et0 0) et1 (2 ^ m)) et2 0)).getD i default = (R7.jn (R7.jn (R7.jn ⟨0, 0⟩ et0 0) et1 (2 ^ m)) et2 0) := R7.set_at (by rw [R7.edl_len]; omega)
    have gg2 : ((R7.edl ns true (k + 1) i).set i (R7.jn (R7.jn (R7.jn ⟨0, 0⟩ et0 0) et1 (2 ^ m)) et2 0)).getD x.k3.toNat default = et3 := (R7.set_ne (by omega)).trans g3
    have ha : R7.Eg (2 ^ m * 2) (((R7.edl ns true (k + 1) i).set i (R7.jn (R7.jn (R7.jn ⟨0, 0⟩ et0 0) et1 (2 ^ m)) et2 0)).getD i default) := by rw [gg1]; exact t2
    have hb : R7.Eg (2 ^ m * 2) (((R7.edl ns true (k + 1) i).set i (R7.jn (R7.jn (R7.jn ⟨0, 0⟩ et0 0) et1 (2 ^ m)) et2 0)).getD x.k3.toNat default) := by rw [gg2]; exact bt3.mono (by omega)
    have es : ((R7.edl ns true (k + 1) i).set i (R7.jn (R7.jn (R7.jn ⟨0, 0⟩ et0 0) et1 (2 ^ m)) et2 0)).set i (R7.jn (((R7.edl ns true (k + 1) i).set i (R7.jn (R7.jn (R7.jn ⟨0, 0⟩ et0 0) et1 (2 ^ m)) et2 0)).getD i default) (((R7.edl ns true (k + 1) i).set i (R7.jn (R7.jn (R7.jn ⟨0, 0⟩ et0 0) et1 (2 ^ m)) et2 0)).getD x.k3.toNat default) (2 ^ m)) = (R7.edl ns true (k + 1) i).set i (R7.jn (R7.jn (R7.jn (R7.jn ⟨0, 0⟩ et0 0) et1 (2 ^ m)) et2 0) et3 (2 ^ m)) := by rw [gg1, gg2, List.set_set]
    skip
    refine tri_cut (fun F' A' J => F' = [(1, .int .i64 (k : Nat)), (2, pt b2 0), (4, pt b4 0), (6, .slice (some ⟨ac, 0, none⟩) (k + 1) (k + 1)), (7, .slice (some ⟨dn, 0, none⟩) (k + 1) (k + 1)), (38, .slice a (k + 1) cap), (39, .int .i64 ((k + 1 : Nat) : Int)), (40, .int .i64 (i : Nat)), (8, .int .i64 (i : Nat)), (9, pt b9 0), (10, .int .i64 (2 ^ m)), (11, .int .i64 3), (12, .int .i64 x.k3), (65, .agg [.int .i64 x.k0, .int .i64 x.k1, .int .i64 x.k2, .int .i64 x.k3].toArray), (66, .int .i64 3)] ∧ A' = Row (some ⟨ac, 0, none⟩) (k + 1) (k + 1) 87 2 (encs (((R7.edl ns true (k + 1) i).set i (R7.jn (R7.jn (R7.jn ⟨0, 0⟩ et0 0) et1 (2 ^ m)) et2 0)).set i (R7.jn (((R7.edl ns true (k + 1) i).set i (R7.jn (R7.jn (R7.jn ⟨0, 0⟩ et0 0) et1 (2 ^ m)) et2 0)).getD i default) (((R7.edl ns true (k + 1) i).set i (R7.jn (R7.jn (R7.jn ⟨0, 0⟩ et0 0) et1 (2 ^ m)) et2 0)).getD x.k3.toNat default) (2 ^ m)))) :: Row (some ⟨dn, 0, none⟩) (k + 1) (k + 1) 87 2 (encs ((R7.edl ns false (k + 1) i).set i (R7.jn (R7.jn (R7.jn ⟨0, 0⟩ ef0 0) ef1 0) ef2 (2 ^ m)))) :: Box b9 [.int .i64 x.lv, .int .i64 x.k0, .int .i64 x.k1, .int .i64 x.k2, .int .i64 x.k3, .int .i64 x.pop] 63 :: Box b4 [.int .i64 0, .int .i64 0, .int .i64 0, .int .i64 0] 45 :: Box b2 [.slice a ns.length cap, .int .i64 room] 26 :: A ∧ I = J) ?_ ?_
    ·refine tri_draw [0, 1, 2, 3, 4, 6, 7, 8, 10, 11, 12, 13, 5, 9, 14, 15, 16] rfl [_] rfl mixed ?_
     refine th_take rfl rfl (by kernel_rfl)  (opv_move rfl) ?_
     refine th_take rfl rfl (by kernel_rfl)  (opv_move rfl) ?_
     refine th_take rfl rfl (by kernel_rfl)  (opv_move rfl) ?_
     refine th_take rfl rfl (by kernel_rfl)  (opv_move rfl) ?_
     refine th_take rfl rfl (by kernel_rfl)  (opv_indexAddrSP rfl rfl (by omega) (by omega)) ?_
     refine th_take rfl rfl (by kernel_rfl)  (opv_move rfl) ?_
     refine th_take rfl rfl (by kernel_rfl)  (opv_move rfl) ?_
     refine th_take rfl rfl (by kernel_rfl)  (opv_indexAddrSP rfl rfl (by omega) (by omega)) ?_
     refine th_take rfl rfl (by kernel_rfl)  (opv_move rfl) ?_
     refine th_take rfl rfl (by kernel_rfl)  (opv_remE rfl rfl (by omega) (by omega)) ?_
     refine th_take rfl rfl (by kernel_rfl)  (opv_move rfl) ?_
     refine th_take rfl rfl (by kernel_rfl)  (opv_mul rfl rfl (w64 (by omega) (by omega))) ?_
     refine th_two (j := 9) [5, 14, 15, 16] (by kernel_rfl) rfl ?_ ?_
     ·refine (step_m rfl rfl (OpV.toG (opv_loadRXA rfl rfl (by omega) rfl rfl rfl)) ?_)
      rintro _ _ _ ⟨rfl, rfl, rfl⟩
      refine ⟨Suf.h, (fun _ h => h), ?_⟩
      refine th_one (by kernel_rfl) (step_m rfl rfl (OpV.toG (opv_loadRXA rfl rfl (by omega) rfl rfl rfl)) ?_)
      rintro _ _ _ ⟨rfl, rfl, rfl⟩
      refine ⟨Suf.h, (fun _ h => h), ?_⟩
      refine th_one (by kernel_rfl) (step_m rfl rfl (opg_call (xs := [_, _, _]) rfl (edge_join (e := (2 ^ m)) (by omega) ha hb (by omega) (by omega) (by omega))) ?_)
      rintro _ _ _ ⟨rfl, rfl, rfl⟩
      refine ⟨Suf.h, (fun _ h => h), ?_⟩
      refine th_take rfl rfl (by kernel_rfl)  (opv_indexAddrSP rfl rfl (by omega) (by omega)) ?_
      refine th_one (by kernel_rfl) (step_m rfl rfl (opg_storeRX (R7.jn (((R7.edl ns true (k + 1) i).set i (R7.jn (R7.jn (R7.jn ⟨0, 0⟩ et0 0) et1 (2 ^ m)) et2 0)).getD i default) (((R7.edl ns true (k + 1) i).set i (R7.jn (R7.jn (R7.jn ⟨0, 0⟩ et0 0) et1 (2 ^ m)) et2 0)).getD x.k3.toNat default) (2 ^ m)) rfl rfl rfl (by omega) ln.symm rfl rfl rfl rfl) ?_)
      rintro _ _ _ ⟨rfl, rfl⟩
      refine ⟨Suf.h, (fun _ h => h), ?_⟩
      refine th_done (by kernel_rfl) ?_
      exact tri_cutEnd _ ⟨rfl, rfl, rfl⟩ ⟨rfl, rfl, rfl, rfl, rfl, rfl, rfl, rfl, rfl, rfl, rfl, rfl, rfl, rfl, rfl, trivial⟩
     ·refine (step_m rfl rfl (OpV.toG (opv_loadRXA rfl rfl (by omega) rfl rfl rfl)) ?_)
      rintro _ _ _ ⟨rfl, rfl, rfl⟩
      refine ⟨Suf.h, (fun _ h => h), ?_⟩
      refine th_one (by kernel_rfl) (step_m rfl rfl (OpV.toG (opv_loadRXA rfl rfl (by omega) rfl rfl rfl)) ?_)
      rintro _ _ _ ⟨rfl, rfl, rfl⟩
      refine ⟨Suf.h, (fun _ h => h), ?_⟩
      refine th_one (by kernel_rfl) (step_m rfl rfl (opg_call (xs := [_, _, _]) rfl (edge_join (e := (2 ^ m)) (by omega) ha hb (by omega) (by omega) (by omega))) ?_)
      rintro _ _ _ ⟨rfl, rfl, rfl⟩
      refine ⟨Suf.h, (fun _ h => h), ?_⟩
      refine th_take rfl rfl (by kernel_rfl)  (opv_indexAddrSP rfl rfl (by omega) (by omega)) ?_
      refine th_one (by kernel_rfl) (step_m rfl rfl (opg_storeRX (R7.jn (((R7.edl ns true (k + 1) i).set i (R7.jn (R7.jn (R7.jn ⟨0, 0⟩ et0 0) et1 (2 ^ m)) et2 0)).getD i default) (((R7.edl ns true (k + 1) i).set i (R7.jn (R7.jn (R7.jn ⟨0, 0⟩ et0 0) et1 (2 ^ m)) et2 0)).getD x.k3.toNat default) (2 ^ m)) rfl rfl rfl (by omega) ln.symm rfl rfl rfl rfl) ?_)
      rintro _ _ _ ⟨rfl, rfl⟩
      refine ⟨Suf.h, (fun _ h => h), ?_⟩
      refine th_done (by kernel_rfl) ?_
      exact tri_cutEnd _ ⟨rfl, rfl, rfl⟩ ⟨rfl, rfl, rfl, rfl, rfl, rfl, rfl, rfl, rfl, rfl, rfl, rfl, rfl, rfl, rfl, trivial⟩
    rintro _ _ _ ⟨rfl, rfl, rfl⟩
    rw [es]
    clear ln gg1 gg2 ha hb es
    refine tT ?_
    have ln : ((R7.edl ns false (k + 1) i).set i (R7.jn (R7.jn (R7.jn ⟨0, 0⟩ ef0 0) ef1 0) ef2 (2 ^ m))).length = k + 1 := by rw [List.length_set, R7.edl_len]
    have gg1 : ((R7.edl ns false (k + 1) i).set i (R7.jn (R7.jn (R7.jn ⟨0, 0⟩ ef0 0) ef1 0) ef2 (2 ^ m))).getD i default = (R7.jn (R7.jn (R7.jn ⟨0, 0⟩ ef0 0) ef1 0) ef2 (2 ^ m)) := R7.set_at (by rw [R7.edl_len]; omega)
    have gg2 : ((R7.edl ns false (k + 1) i).set i (R7.jn (R7.jn (R7.jn ⟨0, 0⟩ ef0 0) ef1 0) ef2 (2 ^ m))).getD x.k3.toNat default = ef3 := (R7.set_ne (by omega)).trans p3
    have ha : R7.Eg (2 ^ m * 2) (((R7.edl ns false (k + 1) i).set i (R7.jn (R7.jn (R7.jn ⟨0, 0⟩ ef0 0) ef1 0) ef2 (2 ^ m))).getD i default) := by rw [gg1]; exact f2
    have hb : R7.Eg (2 ^ m * 2) (((R7.edl ns false (k + 1) i).set i (R7.jn (R7.jn (R7.jn ⟨0, 0⟩ ef0 0) ef1 0) ef2 (2 ^ m))).getD x.k3.toNat default) := by rw [gg2]; exact bf3.mono (by omega)
    have es : ((R7.edl ns false (k + 1) i).set i (R7.jn (R7.jn (R7.jn ⟨0, 0⟩ ef0 0) ef1 0) ef2 (2 ^ m))).set i (R7.jn (((R7.edl ns false (k + 1) i).set i (R7.jn (R7.jn (R7.jn ⟨0, 0⟩ ef0 0) ef1 0) ef2 (2 ^ m))).getD i default) (((R7.edl ns false (k + 1) i).set i (R7.jn (R7.jn (R7.jn ⟨0, 0⟩ ef0 0) ef1 0) ef2 (2 ^ m))).getD x.k3.toNat default) (2 ^ m)) = (R7.edl ns false (k + 1) i).set i (R7.jn (R7.jn (R7.jn (R7.jn ⟨0, 0⟩ ef0 0) ef1 0) ef2 (2 ^ m)) ef3 (2 ^ m)) := by rw [gg1, gg2, List.set_set]
    refine tri_perm (A := ?a9_0 :: ?a9_1 :: ?T9) (B := ?a9_1 :: ?a9_0 :: ?T9) (by exact permL [1, 0] [?a9_0, ?a9_1] ?T9 (by decide) rfl) ?_
    skip
    refine tri_cut (fun F' A' J => F' = [(1, .int .i64 (k : Nat)), (2, pt b2 0), (4, pt b4 0), (6, .slice (some ⟨ac, 0, none⟩) (k + 1) (k + 1)), (7, .slice (some ⟨dn, 0, none⟩) (k + 1) (k + 1)), (38, .slice a (k + 1) cap), (39, .int .i64 ((k + 1 : Nat) : Int)), (40, .int .i64 (i : Nat)), (8, .int .i64 (i : Nat)), (9, pt b9 0), (10, .int .i64 (2 ^ m)), (11, .int .i64 3), (12, .int .i64 x.k3), (65, .agg [.int .i64 x.k0, .int .i64 x.k1, .int .i64 x.k2, .int .i64 x.k3].toArray), (66, .int .i64 3)] ∧ A' = Row (some ⟨dn, 0, none⟩) (k + 1) (k + 1) 87 2 (encs (((R7.edl ns false (k + 1) i).set i (R7.jn (R7.jn (R7.jn ⟨0, 0⟩ ef0 0) ef1 0) ef2 (2 ^ m))).set i (R7.jn (((R7.edl ns false (k + 1) i).set i (R7.jn (R7.jn (R7.jn ⟨0, 0⟩ ef0 0) ef1 0) ef2 (2 ^ m))).getD i default) (((R7.edl ns false (k + 1) i).set i (R7.jn (R7.jn (R7.jn ⟨0, 0⟩ ef0 0) ef1 0) ef2 (2 ^ m))).getD x.k3.toNat default) (2 ^ m)))) :: Row (some ⟨ac, 0, none⟩) (k + 1) (k + 1) 87 2 (encs ((R7.edl ns true (k + 1) i).set i (R7.jn (R7.jn (R7.jn (R7.jn ⟨0, 0⟩ et0 0) et1 (2 ^ m)) et2 0) et3 (2 ^ m)))) :: Box b9 [.int .i64 x.lv, .int .i64 x.k0, .int .i64 x.k1, .int .i64 x.k2, .int .i64 x.k3, .int .i64 x.pop] 63 :: Box b4 [.int .i64 0, .int .i64 0, .int .i64 0, .int .i64 0] 45 :: Box b2 [.slice a ns.length cap, .int .i64 room] 26 :: A ∧ I = J) ?_ ?_
    ·refine tri_draw [0, 1, 2, 3, 4, 6, 7, 8, 10, 11, 12, 13, 5, 9, 14, 15, 16] rfl [_] rfl mixed ?_
     refine th_take rfl rfl (by kernel_rfl)  (opv_move rfl) ?_
     refine th_take rfl rfl (by kernel_rfl)  (opv_move rfl) ?_
     refine th_take rfl rfl (by kernel_rfl)  (opv_move rfl) ?_
     refine th_take rfl rfl (by kernel_rfl)  (opv_move rfl) ?_
     refine th_take rfl rfl (by kernel_rfl)  (opv_indexAddrSP rfl rfl (by omega) (by omega)) ?_
     refine th_take rfl rfl (by kernel_rfl)  (opv_move rfl) ?_
     refine th_take rfl rfl (by kernel_rfl)  (opv_move rfl) ?_
     refine th_take rfl rfl (by kernel_rfl)  (opv_indexAddrSP rfl rfl (by omega) (by omega)) ?_
     refine th_take rfl rfl (by kernel_rfl)  (opv_move rfl) ?_
     refine th_take rfl rfl (by kernel_rfl)  (opv_quoE rfl rfl (by omega) (by omega) (by omega)) ?_
     refine th_take rfl rfl (by kernel_rfl)  (opv_move rfl) ?_
     refine th_take rfl rfl (by kernel_rfl)  (opv_mul rfl rfl (w64 (by omega) (by omega))) ?_
     refine th_two (j := 9) [5, 14, 15, 16] (by kernel_rfl) rfl ?_ ?_
     ·refine (step_m rfl rfl (OpV.toG (opv_loadRXA rfl rfl (by omega) rfl rfl rfl)) ?_)
      rintro _ _ _ ⟨rfl, rfl, rfl⟩
      refine ⟨Suf.h, (fun _ h => h), ?_⟩
      refine th_one (by kernel_rfl) (step_m rfl rfl (OpV.toG (opv_loadRXA rfl rfl (by omega) rfl rfl rfl)) ?_)
      rintro _ _ _ ⟨rfl, rfl, rfl⟩
      refine ⟨Suf.h, (fun _ h => h), ?_⟩
      refine th_one (by kernel_rfl) (step_m rfl rfl (opg_call (xs := [_, _, _]) rfl (edge_join (e := (2 ^ m)) (by omega) ha hb (by omega) (by omega) (by omega))) ?_)
      rintro _ _ _ ⟨rfl, rfl, rfl⟩
      refine ⟨Suf.h, (fun _ h => h), ?_⟩
      refine th_take rfl rfl (by kernel_rfl)  (opv_indexAddrSP rfl rfl (by omega) (by omega)) ?_
      refine th_one (by kernel_rfl) (step_m rfl rfl (opg_storeRX (R7.jn (((R7.edl ns false (k + 1) i).set i (R7.jn (R7.jn (R7.jn ⟨0, 0⟩ ef0 0) ef1 0) ef2 (2 ^ m))).getD i default) (((R7.edl ns false (k + 1) i).set i (R7.jn (R7.jn (R7.jn ⟨0, 0⟩ ef0 0) ef1 0) ef2 (2 ^ m))).getD x.k3.toNat default) (2 ^ m)) rfl rfl rfl (by omega) ln.symm rfl rfl rfl rfl) ?_)
      rintro _ _ _ ⟨rfl, rfl⟩
      refine ⟨Suf.h, (fun _ h => h), ?_⟩
      refine th_done (by kernel_rfl) ?_
      exact tri_cutEnd _ ⟨rfl, rfl, rfl⟩ ⟨rfl, rfl, rfl, rfl, rfl, rfl, rfl, rfl, rfl, rfl, rfl, rfl, rfl, rfl, rfl, trivial⟩
     ·refine (step_m rfl rfl (OpV.toG (opv_loadRXA rfl rfl (by omega) rfl rfl rfl)) ?_)
      rintro _ _ _ ⟨rfl, rfl, rfl⟩
      refine ⟨Suf.h, (fun _ h => h), ?_⟩
      refine th_one (by kernel_rfl) (step_m rfl rfl (OpV.toG (opv_loadRXA rfl rfl (by omega) rfl rfl rfl)) ?_)
      rintro _ _ _ ⟨rfl, rfl, rfl⟩
      refine ⟨Suf.h, (fun _ h => h), ?_⟩
      refine th_one (by kernel_rfl) (step_m rfl rfl (opg_call (xs := [_, _, _]) rfl (edge_join (e := (2 ^ m)) (by omega) ha hb (by omega) (by omega) (by omega))) ?_)
      rintro _ _ _ ⟨rfl, rfl, rfl⟩
      refine ⟨Suf.h, (fun _ h => h), ?_⟩
      refine th_take rfl rfl (by kernel_rfl)  (opv_indexAddrSP rfl rfl (by omega) (by omega)) ?_
      refine th_one (by kernel_rfl) (step_m rfl rfl (opg_storeRX (R7.jn (((R7.edl ns false (k + 1) i).set i (R7.jn (R7.jn (R7.jn ⟨0, 0⟩ ef0 0) ef1 0) ef2 (2 ^ m))).getD i default) (((R7.edl ns false (k + 1) i).set i (R7.jn (R7.jn (R7.jn ⟨0, 0⟩ ef0 0) ef1 0) ef2 (2 ^ m))).getD x.k3.toNat default) (2 ^ m)) rfl rfl rfl (by omega) ln.symm rfl rfl rfl rfl) ?_)
      rintro _ _ _ ⟨rfl, rfl⟩
      refine ⟨Suf.h, (fun _ h => h), ?_⟩
      refine th_done (by kernel_rfl) ?_
      exact tri_cutEnd _ ⟨rfl, rfl, rfl⟩ ⟨rfl, rfl, rfl, rfl, rfl, rfl, rfl, rfl, rfl, rfl, rfl, rfl, rfl, rfl, rfl, trivial⟩
    rintro _ _ _ ⟨rfl, rfl, rfl⟩
    rw [es]
    clear ln gg1 gg2 ha hb es
    refine tri_inBlock ?_
    refine tT (tR ?_)
    refine tU rfl rfl (by omega) (by omega) rfl ?_
    refine tM rfl rfl (tN (tT ?_))
    refine tri_round ?_
    refine tS (tR ?_)
    refine tri_v (opv_lss rfl rfl) rfl ?_
    refine tN (tT (tS ?_))
    refine tri_perm (A := ?a10_0 :: ?a10_1 :: ?T10) (B := ?a10_1 :: ?a10_0 :: ?T10) (by exact permL [1, 0] [?a10_0, ?a10_1] ?T10 (by decide) rfl) ?_
    rw [R7.edl_set evt, R7.edl_set evf]
    skip
    refine tri_cond_not rfl (by decide) ?_
    refine tri_exit ?_
    refine tri_then_exit ?_
    refine tri_then_exit ?_
    refine tri_inBlock_hit rfl ?_
    refine tri_inBlock ?_
    refine tT (tR ?_)
    refine tU rfl rfl (by omega) (by omega) rfl ?_
    refine tM rfl rfl (tN (tT ?_))
    refine tri_perm (A := ?a11_0 :: ?a11_1 :: ?a11_2 :: ?T11) (B := ?a11_2 :: ?a11_0 :: ?a11_1 :: ?T11) (by exact permL [2, 0, 1] [?a11_0, ?a11_1, ?a11_2] ?T11 (by decide) rfl) ?_
    refine tri_drop ?_
    refine tri_sub ?_ (hK (i + 1) (by omega) (by omega))
    exact ⟨rfl, rfl, rfl, rfl, rfl, rfl, rfl, rfl, trivial⟩
  ·have ei : i = k + 1 := by omega
   subst ei
   clear hK
   have hlk : (ns.getD k default).lv = lv := hlv
   have hg : ∀ ax, (R7.edl ns ax (k + 1) (k + 1)).getD k default = R7.ex ns ax lv (k : Nat) := fun ax => by
    rw [R7.edl_at (by omega), if_pos (by omega), hlk, Int.toNat_natCast]
   have hl1 := R7.edl_len ns true (k + 1) (k + 1)
   have hl2 := R7.edl_len ns false (k + 1) (k + 1)
   have hgt := hg true
   have hgf := hg false
   have kt := (R7.ex_ok hw true lv (k : Nat) ⟨⟨hn0, hn1⟩, hlv⟩).1
   have kf := (R7.ex_ok hw false lv (k : Nat) ⟨⟨hn0, hn1⟩, hlv⟩).1
   rw [← hgt] at kt ⊢
   rw [← hgf] at kf ⊢
   unfold R7.Eg at kt kf
   clear hgt hgf hg hst htl
   refine tri_exit ?_
   refine tri_then_exit ?_
   refine tri_then_exit ?_
   refine tri_inBlock_hit rfl ?_
   refine tT (tS (tR ?_))
   refine tri_v (opv_fieldAddr rfl rfl) rfl ?_
   refine tri_v (opv_load1 rfl rfl rfl) rfl ?_
   refine tM rfl rfl ?_
   refine tri_v (opv_indexAddrSN rfl rfl (by omega) (by assumption) rfl) rfl ?_
   refine tri_v (opv_fieldAddrE rfl (by assumption) (by omega) rfl) rfl ?_
   refine tri_v (opv_loadE1 rfl (by assumption) rfl (by omega) rfl rfl) rfl ?_
   refine tri_v (opv_shl1 rfl rfl (by omega) (by omega)) rfl ?_
   skip
   refine tri_v (opv_shrN (k := 1) rfl rfl (by exact Int.le_of_lt (Int.pow_pos (by decide))) rfl (by decide)) rfl ?_
   rw [show (2:Int) ^ (ns.getD k default).lv.toNat / 2 ^ 1 = R7.side lv by rw [hlk, Int.toNat_natCast, hp2]; omega]
   refine tA rfl rfl (tN (tT (tS ?_)))
   refine tri_perm (A := ?a12_0 :: ?a12_1 :: ?a12_2 :: ?T12) (B := ?a12_2 :: ?a12_0 :: ?a12_1 :: ?T12) (by exact permL [2, 0, 1] [?a12_0, ?a12_1, ?a12_2] ?T12 (by decide) rfl) ?_
   skip
   refine tri_draw [0, 1, 2, 3, 4, 5, 6, 7, 8, 9, 10, 11, 12, 13, 14, 15, 16, 17, 18, 19, 20, 21, 22, 23, 24, 25, 26, 27, 28, 29, 30, 31, 32, 33, 34, 35, 36, 37, 38] rfl [_] rfl mixed ?_
   refine th_take rfl rfl (by kernel_rfl)  (opv_move rfl) ?_
   refine th_take rfl rfl (by kernel_rfl)  (opv_move rfl) ?_
   refine th_take rfl rfl (by kernel_rfl)  (opv_indexAddrRN rfl rfl (by omega)) ?_
   refine th_take rfl rfl (by kernel_rfl)  (opv_fieldAddrR rfl (by omega) rfl) ?_
   refine th_take rfl rfl (by kernel_rfl)  (opv_loadRX1 rfl rfl (by omega) rfl rfl) ?_
   refine th_take rfl rfl (by kernel_rfl)  (opv_move rfl) ?_
   refine th_take rfl rfl (by kernel_rfl)  (opv_sub rfl rfl (w64 (by omega) (by omega))) ?_
   refine th_take rfl rfl (by kernel_rfl)  (opv_move rfl) ?_
   refine th_take rfl rfl (by kernel_rfl)  (opv_move rfl) ?_
   refine th_take rfl rfl (by kernel_rfl)  (opv_indexAddrRN rfl rfl (by omega)) ?_
   refine th_take rfl rfl (by kernel_rfl)  (opv_fieldAddrR rfl (by omega) rfl) ?_
   refine th_take rfl rfl (by kernel_rfl)  (opv_loadRX1 rfl rfl (by omega) rfl rfl) ?_
   refine th_take rfl rfl (by kernel_rfl)  (opv_move rfl) ?_
   refine th_take rfl rfl (by kernel_rfl)  (opv_sub rfl rfl (w64 (by omega) (by omega))) ?_
   refine th_take rfl rfl (by kernel_rfl)  (opv_move rfl) ?_
   refine th_take rfl rfl (by kernel_rfl)  (opv_move rfl) ?_
   refine th_take rfl rfl (by kernel_rfl)  (opv_indexAddrRN rfl rfl (by omega)) ?_
   refine th_take rfl rfl (by kernel_rfl)  (opv_fieldAddrR rfl (by omega) rfl) ?_
   refine th_take rfl rfl (by kernel_rfl)  (opv_loadRX1 rfl rfl (by omega) rfl rfl) ?_
   refine th_take rfl rfl (by kernel_rfl)  (opv_move rfl) ?_
   refine th_take rfl rfl (by kernel_rfl)  (opv_move rfl) ?_
   refine th_take rfl rfl (by kernel_rfl)  (opv_indexAddrRN rfl rfl (by omega)) ?_
   refine th_take rfl rfl (by kernel_rfl)  (opv_fieldAddrR rfl (by omega) rfl) ?_
   refine th_take rfl rfl (by kernel_rfl)  (opv_loadRX1 rfl rfl (by omega) rfl rfl) ?_
   refine th_take rfl rfl (by kernel_rfl)  (opv_sub rfl rfl (w64 (by omega) (by omega))) ?_
   refine th_take rfl rfl (by kernel_rfl)  (opv_move rfl) ?_
   refine th_take rfl rfl (by kernel_rfl)  (opv_move rfl) ?_
   refine th_take rfl rfl (by kernel_rfl)  (opv_indexAddrRN rfl rfl (by omega)) ?_
   refine th_take rfl rfl (by kernel_rfl)  (opv_fieldAddrR rfl (by omega) rfl) ?_
   refine th_take rfl rfl (by kernel_rfl)  (opv_loadRX1 rfl rfl (by omega) rfl rfl) ?_
   refine th_take rfl rfl (by kernel_rfl)  (opv_move rfl) ?_
   refine th_take rfl rfl (by kernel_rfl)  (opv_move rfl) ?_
   refine th_take rfl rfl (by kernel_rfl)  (opv_indexAddrRN rfl rfl (by omega)) ?_
   refine th_take rfl rfl (by kernel_rfl)  (opv_fieldAddrR rfl (by omega) rfl) ?_
   refine th_take rfl rfl (by kernel_rfl)  (opv_loadRX1 rfl rfl (by omega) rfl rfl) ?_
   refine th_take rfl rfl (by kernel_rfl)  (opv_sub rfl rfl (w64 (by omega) (by omega))) ?_
   refine th_take rfl rfl (by kernel_rfl)  (opv_buildS rfl rfl) ?_
   refine th_one (by kernel_rfl) (step_m rfl rfl (opg_store rfl rfl rfl rfl rfl rfl) ?_)
   rintro _ _ _ ⟨rfl, rfl⟩
   refine ⟨Suf.h, (fun _ h => h), ?_⟩
   refine th_take rfl rfl (by kernel_rfl)  (opv_assign rfl) ?_
   refine th_done (by kernel_rfl) ?_
   refine tT (tri_ret ?_)
   refine tri_end A Suf.h rfl (.cons (rv_cellA rfl rfl rfl) (.cons (rv_tmp rfl) .nil)) ⟨rfl, rfl, rfl⟩
end Go.GL


set_option linter.unusedVariables false
namespace Go.GL
open Go.Proofs
attribute [local irreducible] wpList Code.wp Exit.then Exit.inBlock Ends Tri TriH OpV OpG FnC epf wpAnyH
variable {A : List Asrt} {I : List Chunk}
set_option maxRecDepth 100000 in
theorem law07_pick {c n : Int} (h0 : -9223372036854775808 ≤ c) (h1 : c ≤ 9223372036854775807) (hn : 0 < n) : FnC Try.prog 12 [.int .i64 c, .int .i64 n].toArray A I (fun v A' I' => v = .int .i64 (pk c n) ∧ A = A' ∧ I = I') := by
 refine fn_enter2 Try.func12 rfl Try.ntmps12 rfl fun w0 => ?_
 refine tS (tR (tA rfl rfl (tN (tT (tS (tS (tR ?_)))))))
 refine tM rfl rfl ?_
 refine tri_v (opv_lss rfl rfl) rfl ?_
 refine tN (tT ?_)
 refine tri_cond_dec rfl (fun h => ?_) (fun h => ?_)
 ·refine tR (tM rfl rfl ?_)
  refine tU rfl rfl (by omega) (by omega) rfl ?_
  refine tri_v (opv_negE rfl (by omega) (by omega)) rfl ?_
  refine tA rfl rfl (tN (tT (tS (tR (tM rfl rfl (tM rfl rfl ?_))))))
  refine tri_v (opv_remE rfl rfl (by omega) (by omega)) rfl ?_
  refine tA rfl rfl (tN (tT (tri_ret ?_)))
  refine tri_end A Suf.h rfl (.cons (rv_tmp rfl) .nil) ⟨?_, rfl, rfl⟩
  rw [pk, if_pos h]; rfl
 ·refine tri_skip (tT (tS (tR (tM rfl rfl (tM rfl rfl ?_)))))
  refine tri_v (opv_remE rfl rfl (by omega) (by omega)) rfl ?_
  refine tA rfl rfl (tN (tT (tri_ret ?_)))
  refine tri_end A Suf.h rfl (.cons (rv_tmp rfl) .nil) ⟨?_, rfl, rfl⟩
  rw [pk, if_neg h]; rfl
namespace RL
theorem set_len7 (raw : List Cell) : (set raw).length ≤ 60 := by
 unfold set
 have h := R1.puts_len ((raw.take 60).map cell16)
 rw [List.length_map, List.length_take] at h
 omega
theorem store_good7 {rm : Int} (h2 : 2 ≤ rm) (h3 : rm ≤ 100000) (l : List Five) : R6.Good (store rm l) rm := foldl_good h2 h3 _ _ (store0_good h2 h3)
end RL
set_option maxRecDepth 100000 in
theorem law07_square {nodes : List Five} {raw : List Cell} {a a2 : Option Addr} {cap cap2 : Nat} {c level : Int} (h0 : I64 c) (hs : SlAt I a nodes) (hf : RL.Fs nodes) (hs2 : SlAt I a2 raw) (hc : RL.Cs raw) (hl : I64 level) :
  FnC Try.prog 11 [.int .i64 c, .slice a nodes.length cap, .slice a2 raw.length cap2, .int .i64 level].toArray A I (fun v A' I' => ∃ a' cap', v = .tuple [storeV a' (RL.square c nodes raw level).1.length cap' (RL.room c + 500), .int .i64 (RL.square c nodes raw level).2.1].toArray ∧ StA I' a' cap' (RL.square c nodes raw level).1 ∧ A = A' ∧ I ⊆ I') := by
 have hrm := RL.room_bd c
 have hpk := pk_bd (c := level) (n := 4) (by decide)
 have hg := RL.store_good7 (rm := RL.room c) (by omega) (by omega) nodes
 have hsl := RL.set_len7 raw
 skip
 refine fn_enter4 Try.func11 rfl Try.ntmps11 rfl fun w0 => ?_
 refine tS (tR ?_)
 refine tri_g opg_alloc rfl ?_
 rintro _ _ _ ⟨b8, rfl, rfl, rfl⟩
 refine tA rfl rfl (tN (tT (tS (tR (tM rfl rfl (tM rfl rfl ?_))))))
 refine tri_g (opg_call (xs := [_, _]) rfl (law06_store h0 hs hf)) rfl ?_
 rintro _ _ I0 ⟨a0, cap0, rfl, hs0, rfl, hI0⟩
 refine tri_g opg_alloc rfl ?_
 rintro _ _ _ ⟨b10, rfl, rfl, rfl⟩
 refine tri_g (opg_store rfl rfl rfl rfl rfl rfl) rfl ?_
 rintro _ _ _ ⟨rfl, rfl⟩
 refine tN (tT (tS (tR ?_)))
 refine tri_v (opv_fieldAddr rfl rfl) rfl ?_
 refine tri_v (opv_load1 rfl rfl rfl) rfl ?_
 refine tU rfl rfl (by omega) (by omega) rfl ?_
 refine tri_v (opv_fieldAddr rfl rfl) rfl ?_
 refine tri_g (opg_store rfl rfl rfl rfl rfl rfl) rfl ?_
 rintro _ _ _ ⟨rfl, rfl⟩
 refine tN (tT (tS ?_))
 refine tri_draw [0, 1, 3, 2, 4, 5, 6, 7, 8, 9, 10, 11, 12, 13, 14] rfl [] rfl mixed ?_
 refine th_take rfl rfl (by kernel_rfl)  (opv_loadA rfl rfl rfl) ?_
 refine th_take rfl rfl (by kernel_rfl)  (opv_move rfl) ?_
 refine th_take rfl rfl (by kernel_rfl)  (opv_move rfl) ?_
 refine th_two (j := 11) [2, 4, 5, 6, 7, 8, 9, 10, 12, 13, 14] (by kernel_rfl) rfl ?_ ?_
 ·refine (step_m rfl rfl (opg_call (xs := [_]) rfl (law01_set (hs2.mono hI0) hc)) ?_)
  rintro _ _ I1 ⟨a1, cap1, rfl, hs1, rfl, hI1⟩
  refine ⟨Suf.h, hI1, ?_⟩
  refine th_two (j := 11) [4, 5, 6, 7, 8, 9, 10, 12, 13, 14] (by kernel_rfl) rfl ?_ ?_
  ·refine (step_m rfl rfl (opg_call (xs := [_, _]) rfl (law07_pick hl.1 hl.2 (by decide))) ?_)
   rintro _ _ _ ⟨rfl, rfl, rfl⟩
   refine ⟨Suf.h, fun _ h => hI1 h, ?_⟩
   refine th_take rfl rfl (by kernel_rfl)  (opv_add rfl rfl (w64 (by omega) (by omega))) ?_
   refine th_two (j := 11) [6, 7, 8, 9, 10, 12, 13, 14] (by kernel_rfl) rfl ?_ ?_
   ·refine (step_m rfl rfl (opg_call (xs := [_, _, _]) rfl (ref07_make (room := RL.room c + 500) (lv := 4 + pk level 4) (hs0.mono hI1) hg.len hg.mod.rng hs1 (by omega))) ?_)
    rintro _ _ I2 ⟨a3, cap3, rfl, hs3, rfl, hI2⟩
    refine ⟨Suf.h, fun _ h => hI2 (hI1 h), ?_⟩
    have hI12 : I0 ⊆ I2 := fun _ h => hI2 (hI1 h)
    refine th_take rfl rfl (by kernel_rfl)  (opv_move rfl) ?_
    refine th_take rfl rfl (by kernel_rfl)  (opv_extract rfl rfl) ?_
    refine th_take rfl rfl (by kernel_rfl)  (opv_extract rfl rfl) ?_
    refine th_take rfl rfl (by kernel_rfl)  (opv_extract rfl rfl) ?_
    refine th_one (by kernel_rfl) (step_m rfl rfl opg_alloc ?_)
    rintro _ _ _ ⟨b11, rfl, rfl, rfl⟩
    refine ⟨Suf.h, (by assumption), ?_⟩
    refine th_one (by kernel_rfl) (step_m rfl rfl (opg_store rfl rfl rfl rfl rfl rfl) ?_)
    rintro _ _ _ ⟨rfl, rfl⟩
    refine ⟨Suf.h, (by assumption), ?_⟩
    refine th_take rfl rfl (by kernel_rfl)  (opv_assign rfl) ?_
    refine th_take rfl rfl (by kernel_rfl)  (opv_assign rfl) ?_
    refine th_done (by kernel_rfl) ?_
    refine tT (tS (tR ?_))
    refine tri_v (opv_loadA rfl rfl rfl) rfl ?_
    refine tM rfl rfl ?_
    refine tri_g (opg_store rfl rfl rfl rfl rfl rfl) rfl ?_
    rintro _ _ _ ⟨rfl, rfl⟩
    refine tA rfl rfl (tN (tT (tri_ret ?_)))
    refine tri_end A Suf.h rfl (.cons (rv_cellA rfl rfl rfl) (.cons (rv_tmp rfl) .nil)) ⟨a3, cap3, rfl, hs3, rfl, fun _ h => hI2 (hI1 (hI0 h))⟩
   ·refine (step_m rfl rfl opg_alloc ?_)
    rintro _ _ _ ⟨b11, rfl, rfl, rfl⟩
    refine ⟨Suf.h, (by assumption), ?_⟩
    refine th_one (by kernel_rfl) (step_m rfl rfl (opg_call (xs := [_, _, _]) rfl (ref07_make (room := RL.room c + 500) (lv := 4 + pk level 4) (hs0.mono hI1) hg.len hg.mod.rng hs1 (by omega))) ?_)
    rintro _ _ I2 ⟨a3, cap3, rfl, hs3, rfl, hI2⟩
    refine ⟨Suf.h, fun _ h => hI2 (hI1 h), ?_⟩
    have hI12 : I0 ⊆ I2 := fun _ h => hI2 (hI1 h)
    refine th_take rfl rfl (by kernel_rfl)  (opv_move rfl) ?_
    refine th_take rfl rfl (by kernel_rfl)  (opv_extract rfl rfl) ?_
    refine th_take rfl rfl (by kernel_rfl)  (opv_extract rfl rfl) ?_
    refine th_take rfl rfl (by kernel_rfl)  (opv_extract rfl rfl) ?_
    refine th_one (by kernel_rfl) (step_m rfl rfl (opg_store rfl rfl rfl rfl rfl rfl) ?_)
    rintro _ _ _ ⟨rfl, rfl⟩
    refine ⟨Suf.h, (by assumption), ?_⟩
    refine th_take rfl rfl (by kernel_rfl)  (opv_assign rfl) ?_
    refine th_take rfl rfl (by kernel_rfl)  (opv_assign rfl) ?_
    refine th_done (by kernel_rfl) ?_
    refine tT (tS (tR ?_))
    refine tri_v (opv_loadA rfl rfl rfl) rfl ?_
    refine tM rfl rfl ?_
    refine tri_g (opg_store rfl rfl rfl rfl rfl rfl) rfl ?_
    rintro _ _ _ ⟨rfl, rfl⟩
    refine tA rfl rfl (tN (tT (tri_ret ?_)))
    refine tri_end A Suf.h rfl (.cons (rv_cellA rfl rfl rfl) (.cons (rv_tmp rfl) .nil)) ⟨a3, cap3, rfl, hs3, rfl, fun _ h => hI2 (hI1 (hI0 h))⟩
  ·refine (step_m rfl rfl opg_alloc ?_)
   rintro _ _ _ ⟨b11, rfl, rfl, rfl⟩
   refine ⟨Suf.h, (by assumption), ?_⟩
   refine th_one (by kernel_rfl) (step_m rfl rfl (opg_call (xs := [_, _]) rfl (law07_pick hl.1 hl.2 (by decide))) ?_)
   rintro _ _ _ ⟨rfl, rfl, rfl⟩
   refine ⟨Suf.h, fun _ h => hI1 h, ?_⟩
   refine th_take rfl rfl (by kernel_rfl)  (opv_add rfl rfl (w64 (by omega) (by omega))) ?_
   refine th_one (by kernel_rfl) (step_m rfl rfl (opg_call (xs := [_, _, _]) rfl (ref07_make (room := RL.room c + 500) (lv := 4 + pk level 4) (hs0.mono hI1) hg.len hg.mod.rng hs1 (by omega))) ?_)
   rintro _ _ I2 ⟨a3, cap3, rfl, hs3, rfl, hI2⟩
   refine ⟨Suf.h, fun _ h => hI2 (hI1 h), ?_⟩
   have hI12 : I0 ⊆ I2 := fun _ h => hI2 (hI1 h)
   refine th_take rfl rfl (by kernel_rfl)  (opv_move rfl) ?_
   refine th_take rfl rfl (by kernel_rfl)  (opv_extract rfl rfl) ?_
   refine th_take rfl rfl (by kernel_rfl)  (opv_extract rfl rfl) ?_
   refine th_take rfl rfl (by kernel_rfl)  (opv_extract rfl rfl) ?_
   refine th_one (by kernel_rfl) (step_m rfl rfl (opg_store rfl rfl rfl rfl rfl rfl) ?_)
   rintro _ _ _ ⟨rfl, rfl⟩
   refine ⟨Suf.h, (by assumption), ?_⟩
   refine th_take rfl rfl (by kernel_rfl)  (opv_assign rfl) ?_
   refine th_take rfl rfl (by kernel_rfl)  (opv_assign rfl) ?_
   refine th_done (by kernel_rfl) ?_
   refine tT (tS (tR ?_))
   refine tri_v (opv_loadA rfl rfl rfl) rfl ?_
   refine tM rfl rfl ?_
   refine tri_g (opg_store rfl rfl rfl rfl rfl rfl) rfl ?_
   rintro _ _ _ ⟨rfl, rfl⟩
   refine tA rfl rfl (tN (tT (tri_ret ?_)))
   refine tri_end A Suf.h rfl (.cons (rv_cellA rfl rfl rfl) (.cons (rv_tmp rfl) .nil)) ⟨a3, cap3, rfl, hs3, rfl, fun _ h => hI2 (hI1 (hI0 h))⟩
 ·refine (step_m rfl rfl opg_alloc ?_)
  rintro _ _ _ ⟨b11, rfl, rfl, rfl⟩
  refine ⟨Suf.h, (fun _ h => h), ?_⟩
  refine th_one (by kernel_rfl) (step_m rfl rfl (opg_call (xs := [_]) rfl (law01_set (hs2.mono hI0) hc)) ?_)
  rintro _ _ I1 ⟨a1, cap1, rfl, hs1, rfl, hI1⟩
  refine ⟨Suf.h, hI1, ?_⟩
  refine th_one (by kernel_rfl) (step_m rfl rfl (opg_call (xs := [_, _]) rfl (law07_pick hl.1 hl.2 (by decide))) ?_)
  rintro _ _ _ ⟨rfl, rfl, rfl⟩
  refine ⟨Suf.h, fun _ h => hI1 h, ?_⟩
  refine th_take rfl rfl (by kernel_rfl)  (opv_add rfl rfl (w64 (by omega) (by omega))) ?_
  refine th_one (by kernel_rfl) (step_m rfl rfl (opg_call (xs := [_, _, _]) rfl (ref07_make (room := RL.room c + 500) (lv := 4 + pk level 4) (hs0.mono hI1) hg.len hg.mod.rng hs1 (by omega))) ?_)
  rintro _ _ I2 ⟨a3, cap3, rfl, hs3, rfl, hI2⟩
  refine ⟨Suf.h, fun _ h => hI2 (hI1 h), ?_⟩
  have hI12 : I0 ⊆ I2 := fun _ h => hI2 (hI1 h)
  refine th_take rfl rfl (by kernel_rfl)  (opv_move rfl) ?_
  refine th_take rfl rfl (by kernel_rfl)  (opv_extract rfl rfl) ?_
  refine th_take rfl rfl (by kernel_rfl)  (opv_extract rfl rfl) ?_
  refine th_take rfl rfl (by kernel_rfl)  (opv_extract rfl rfl) ?_
  refine th_one (by kernel_rfl) (step_m rfl rfl (opg_store rfl rfl rfl rfl rfl rfl) ?_)
  rintro _ _ _ ⟨rfl, rfl⟩
  refine ⟨Suf.h, (by assumption), ?_⟩
  refine th_take rfl rfl (by kernel_rfl)  (opv_assign rfl) ?_
  refine th_take rfl rfl (by kernel_rfl)  (opv_assign rfl) ?_
  refine th_done (by kernel_rfl) ?_
  refine tT (tS (tR ?_))
  refine tri_v (opv_loadA rfl rfl rfl) rfl ?_
  refine tM rfl rfl ?_
  refine tri_g (opg_store rfl rfl rfl rfl rfl rfl) rfl ?_
  rintro _ _ _ ⟨rfl, rfl⟩
  refine tA rfl rfl (tN (tT (tri_ret ?_)))
  refine tri_end A Suf.h rfl (.cons (rv_cellA rfl rfl rfl) (.cons (rv_tmp rfl) .nil)) ⟨a3, cap3, rfl, hs3, rfl, fun _ h => hI2 (hI1 (hI0 h))⟩
set_option maxHeartbeats 4000000 in
set_option maxRecDepth 100000 in
theorem law07_awake : FnC Try.prog 10 [].toArray A I (fun v A' I' => v = .bool true ∧ A = A' ∧ I ⊆ I') := by
 have fn : R6.new 50 = ([R6.n0, R6.n1], 50) := rfl
 obtain ⟨ms, hms⟩ : ∃ l : List Node, l = [R6.n0, R6.n1, ⟨1, 0, 0, 0, 1, 1⟩] := ⟨_, rfl⟩
 obtain ⟨ts, hts⟩ : ∃ l : List Node, l = [R6.n0, R6.n1, ⟨1, 0, 0, 0, 1, 1⟩, ⟨1, 0, 0, 0, 0, 0⟩, ⟨1, 1, 0, 0, 0, 1⟩, ⟨2, 3, 3, 3, 4, 1⟩] := ⟨_, rfl⟩
 obtain ⟨us, hus⟩ : ∃ l : List Node, l = [R6.n0, R6.n1, ⟨1, 0, 0, 0, 1, 1⟩, ⟨1, 0, 0, 0, 0, 0⟩, ⟨1, 1, 0, 0, 0, 1⟩, ⟨2, 3, 3, 3, 4, 1⟩, ⟨1, 0, 0, 1, 0, 1⟩, ⟨2, 3, 3, 6, 4, 2⟩] := ⟨_, rfl⟩
 obtain ⟨cs, hcs⟩ : ∃ l : List Cell, l = [⟨0, 0⟩] := ⟨_, rfl⟩
 have lcs : cs.length = 1 := by subst hcs; rfl
 have vcs : cs.getD 0 default = ⟨0, 0⟩ := by subst hcs; rfl
 have lms : ms.length = 3 := by subst hms; rfl
 have lts : ts.length = 6 := by subst hts; rfl
 have lus : us.length = 8 := by subst hus; rfl
 have fmk : R7.make [R6.n0, R6.n1] 50 [⟨0, 0⟩] 1 = (ms, 2, 0) := by subst hms; decide +kernel
 have fgr : R7.growM ms 50 2 = (ts, 5, 0) := by subst hms; subst hts; decide +kernel
 have fce : R7.cells ts 50 5 = (cs, 0) := by subst hcs; subst hts; decide +kernel
 have fge : R7.getM ts 50 5 ⟨0, 0⟩ = (true, 0) := by subst hts; decide +kernel
 have fse : R7.setM ts 50 5 ⟨-2, 1⟩ true = (us, 7, 0) := by subst hts; subst hus; decide +kernel
 have fbo : R7.boxM us 50 7 = (⟨-2, 0, 3, 2⟩, true) := by subst hus; decide +kernel
 have fmb : R7.make ms 50 [⟨1, 0⟩] 1 = (ms, 0, 2) := by subst hms; decide +kernel
 have fno : R7.boxM ms 50 0 = (⟨0, 0, 0, 0⟩, false) := by subst hms; decide +kernel
 have kms : (ms.getD 2 default).k0 = 0 ∧ (ms.getD 2 default).k1 = 0 ∧ (ms.getD 2 default).k2 = 0 ∧ (ms.getD 2 default).k3 = 1 := by subst hms; decide
 have vts : (ts.getD 5 default).lv = 2 := by subst hts; rfl
 clear hms hts hus hcs
 skip
 skip
 refine fn_enter0 Try.func10 rfl Try.ntmps10 rfl fun w0 => ?_
 refine tS (tR (tA rfl rfl (tN (tT (tS (tR ?_))))))
 refine tri_g (opg_call (xs := [_]) rfl (ref06_new)) rfl ?_
 rintro _ _ I0 ⟨a0, c0, rfl, hs0, rfl, hI0⟩
 rw [fn] at hs0 ⊢
 refine tri_v (opv_buildS rfl rfl) rfl ?_
 refine tri_g (opg_buildSlice rfl rfl rfl rfl) rfl ?_
 rintro _ _ _ ⟨b24, rfl, rfl, rfl⟩
 refine tri_freezeBoxS ([⟨0, 0⟩] : List Cell) rfl fun J1 hJ1 hl1 => ?_
 refine tri_g (opg_call (xs := [_, _, _]) rfl (square_make (hs0.mono hJ1) (by decide) hl1 (by decide))) rfl ?_
 rintro _ _ I1 ⟨a1, c1, rfl, hs1, rfl, hI1⟩
 rw [fmk] at hs1 ⊢
 simp only at hs1 ⊢
 refine tM rfl rfl ?_
 refine tri_v (opv_extract rfl rfl) rfl ?_
 refine tri_v (opv_extract rfl rfl) rfl ?_
 refine tri_v (opv_extract rfl rfl) rfl ?_
 refine tri_g opg_alloc rfl ?_
 rintro _ _ _ ⟨b1, rfl, rfl, rfl⟩
 refine tri_g (opg_store rfl rfl rfl rfl rfl rfl) rfl ?_
 rintro _ _ _ ⟨rfl, rfl⟩
 refine tA rfl rfl (tA rfl rfl (tN (tT (tS (tR ?_)))))
 refine tri_v (opv_loadA rfl rfl rfl) rfl ?_
 refine tM rfl rfl ?_
 refine tri_g (opg_call (xs := [_, _]) rfl (square_grow hs1 (by omega))) rfl ?_
 rintro _ _ I2 ⟨a2, c2, rfl, hs2, rfl, hI2⟩
 rw [fgr] at hs2 ⊢
 simp only at hs2 ⊢
 refine tM rfl rfl ?_
 refine tri_v (opv_extract rfl rfl) rfl ?_
 refine tri_v (opv_extract rfl rfl) rfl ?_
 refine tri_v (opv_extract rfl rfl) rfl ?_
 refine tri_g opg_alloc rfl ?_
 rintro _ _ _ ⟨b4, rfl, rfl, rfl⟩
 refine tri_g (opg_store rfl rfl rfl rfl rfl rfl) rfl ?_
 rintro _ _ _ ⟨rfl, rfl⟩
 refine tA rfl rfl (tA rfl rfl (tN (tT (tS (tR ?_)))))
 refine tri_v (opv_loadA rfl rfl rfl) rfl ?_
 refine tM rfl rfl ?_
 refine tri_g (opg_call (xs := [_, _]) rfl (square_cells hs2 (by omega))) rfl ?_
 rintro _ _ I3 ⟨a3, c3, rfl, hs3, rfl, hI3⟩
 rw [fce] at hs3 ⊢
 simp only at hs3 ⊢
 refine tM rfl rfl ?_
 refine tri_v (opv_extract rfl rfl) rfl ?_
 refine tri_v (opv_extract rfl rfl) rfl ?_
 refine tA rfl rfl (tA rfl rfl (tN (tT (tS (tR ?_)))))
 refine tri_v (opv_loadA rfl rfl rfl) rfl ?_
 refine tM rfl rfl ?_
 refine tri_v (opv_buildS rfl rfl) rfl ?_
 refine tri_g (opg_call (xs := [_, _, _]) rfl (square_get (c := (⟨0, 0⟩ : Cell)) (hs2.mono hI3) (by omega))) rfl ?_
 rintro _ _ _ ⟨rfl, rfl, rfl⟩
 rw [fge]
 refine tM rfl rfl ?_
 refine tri_v (opv_extract rfl rfl) rfl ?_
 refine tri_v (opv_extract rfl rfl) rfl ?_
 refine tA rfl rfl (tA rfl rfl (tN (tT (tS (tR ?_)))))
 refine tri_v (opv_loadA rfl rfl rfl) rfl ?_
 refine tM rfl rfl ?_
 refine tri_v (opv_buildS rfl rfl) rfl ?_
 refine tri_g (opg_call (xs := [_, _, _, _]) rfl (square_setT (c := (⟨-2, 1⟩ : Cell)) (alive := true) (hs2.mono hI3) (by omega))) rfl ?_
 rintro _ _ I4 ⟨a4, c4, rfl, hs4, rfl, hI4⟩
 rw [fse] at hs4 ⊢
 simp only at hs4 ⊢
 refine tM rfl rfl ?_
 refine tri_v (opv_extract rfl rfl) rfl ?_
 refine tri_v (opv_extract rfl rfl) rfl ?_
 refine tri_v (opv_extract rfl rfl) rfl ?_
 refine tri_g opg_alloc rfl ?_
 rintro _ _ _ ⟨b11, rfl, rfl, rfl⟩
 refine tri_g (opg_store rfl rfl rfl rfl rfl rfl) rfl ?_
 rintro _ _ _ ⟨rfl, rfl⟩
 refine tA rfl rfl (tA rfl rfl (tN (tT (tS (tR ?_)))))
 refine tri_v (opv_loadA rfl rfl rfl) rfl ?_
 refine tM rfl rfl ?_
 refine tri_g (opg_call (xs := [_, _]) rfl (square_box hs4 (by omega))) rfl ?_
 rintro _ _ _ ⟨rfl, rfl, rfl⟩
 rw [fbo]
 refine tM rfl rfl ?_
 refine tri_v (opv_extract rfl rfl) rfl ?_
 refine tri_v (opv_extract rfl rfl) rfl ?_
 refine tri_g opg_alloc rfl ?_
 rintro _ _ _ ⟨b14, rfl, rfl, rfl⟩
 refine tri_g (opg_store rfl rfl rfl rfl rfl rfl) rfl ?_
 rintro _ _ _ ⟨rfl, rfl⟩
 refine tA rfl rfl (tN (tT (tS (tR ?_))))
 refine tri_v (opv_loadA rfl rfl rfl) rfl ?_
 refine tri_v (opv_buildS rfl rfl) rfl ?_
 refine tri_g (opg_buildSlice rfl rfl rfl rfl) rfl ?_
 rintro _ _ _ ⟨b66, rfl, rfl, rfl⟩
 refine tri_freezeBoxS ([⟨1, 0⟩] : List Cell) rfl fun J5 hJ5 hl5 => ?_
 have hs1 := hs1.mono fun _ h => hJ5 (hI4 (hI3 (hI2 h)))
 refine tri_g (opg_call (xs := [_, _, _]) rfl (square_make hs1 (by omega) hl5 (by decide))) rfl ?_
 rintro _ _ I5 ⟨a5, c5, rfl, hs5, rfl, hI5⟩
 rw [fmb] at hs5 ⊢
 simp only at hs5 ⊢
 have hs1 := hs1.mono hI5
 refine tM rfl rfl ?_
 refine tri_v (opv_extract rfl rfl) rfl ?_
 refine tri_v (opv_extract rfl rfl) rfl ?_
 refine tri_v (opv_extract rfl rfl) rfl ?_
 refine tri_g opg_alloc rfl ?_
 rintro _ _ _ ⟨b16, rfl, rfl, rfl⟩
 refine tri_g (opg_store rfl rfl rfl rfl rfl rfl) rfl ?_
 rintro _ _ _ ⟨rfl, rfl⟩
 refine tA rfl rfl (tA rfl rfl (tN (tT (tS (tR ?_)))))
 refine tri_v (opv_loadA rfl rfl rfl) rfl ?_
 refine tri_g (opg_call (xs := [_, _]) rfl (square_box hs1 (by omega))) rfl ?_
 rintro _ _ _ ⟨rfl, rfl, rfl⟩
 rw [fno]
 have hs2 := hs2.mono fun _ h => hI5 (hJ5 (hI4 (hI3 h)))
 have hs3 := hs3.mono fun _ h => hI5 (hJ5 (hI4 h))
 have hI06 : I ⊆ I5 := fun _ h => hI5 (hJ5 (hI4 (hI3 (hI2 (hI1 (hJ1 (hI0 h)))))))
 have hr1 := hs1.sl
 have hr2 := hs2.sl
 refine tM rfl rfl ?_
 refine tri_v (opv_extract rfl rfl) rfl ?_
 refine tri_v (opv_extract rfl rfl) rfl ?_
 refine tri_g opg_alloc rfl ?_
 rintro _ _ _ ⟨b19, rfl, rfl, rfl⟩
 refine tri_g (opg_store rfl rfl rfl rfl rfl rfl) rfl ?_
 rintro _ _ _ ⟨rfl, rfl⟩
 refine tA rfl rfl (tN (tT (tS (tS (tR ?_)))))
 refine tri_v (opv_fieldAddr rfl rfl) rfl ?_
 refine tri_v (opv_load1 rfl rfl rfl) rfl ?_
 refine tri_v (opv_len rfl) rfl ?_
 refine tri_v (opv_neq rfl rfl) rfl ?_
 refine tM rfl rfl ?_
 refine tri_false rfl rfl (by omega) ?_
 refine tri_guard_run rfl rfl rfl (tM rfl rfl (tri_guard_run rfl rfl rfl ?_))
 refine tri_v (opv_len rfl) rfl ?_
 refine tri_guard_run rfl rfl rfl ?_
 refine tri_v (opv_neq rfl rfl) rfl ?_
 refine tri_v (opv_pick_f rfl rfl) rfl ?_
 refine tN (tT ?_)
 refine tri_cond_not rfl (by omega) ?_
 refine tri_skip (tT (tS (tR (tM rfl rfl ?_))))
 refine tri_v (opv_eql rfl rfl) rfl ?_
 refine tM rfl rfl ?_
 refine tri_true rfl rfl (rfl) ?_
 refine tri_guard_run rfl rfl rfl (tM rfl rfl (tri_guard_run rfl rfl rfl ?_))
 refine tri_v (opv_eql rfl rfl) rfl ?_
 refine tri_v (opv_pick_t rfl rfl) rfl ?_
 refine tM rfl rfl ?_
 refine tri_true rfl rfl (rfl) ?_
 refine tri_guard_run rfl rfl rfl ?_
 refine tri_v (opv_fieldAddr rfl rfl) rfl ?_
 refine tri_guard_run rfl rfl rfl ?_
 refine tri_v (opv_load1 rfl rfl rfl) rfl ?_
 refine tri_guard_run rfl rfl rfl ?_
 refine tri_v (opv_indexAddrS rfl rfl (by omega) (by omega) (by assumption) rfl) rfl ?_
 refine tri_guard_run rfl rfl rfl ?_
 refine tri_v (opv_fieldAddrE rfl (by assumption) (by omega) rfl) rfl ?_
 refine tri_guard_run rfl rfl rfl ?_
 refine tri_v (opv_loadEA rfl (by assumption) rfl (by omega) rfl rfl) rfl ?_
 refine tri_guard_run rfl rfl rfl ?_
 refine tri_v (opv_buildA rfl rfl) rfl ?_
 refine tri_guard_run rfl rfl rfl ?_
 refine tri_v (opv_eqlI rfl rfl rfl rfl rfl rfl) rfl ?_
 refine tri_v (opv_pick_t rfl rfl) rfl ?_
 refine tM rfl rfl ?_
 refine tri_true rfl rfl (by show [(ms.getD 2 default).k0, (ms.getD 2 default).k1, (ms.getD 2 default).k2, (ms.getD 2 default).k3] = _; rw [kms.1, kms.2.1, kms.2.2.1, kms.2.2.2]) ?_
 refine tri_guard_run rfl rfl rfl (tM rfl rfl (tri_guard_run rfl rfl rfl ?_))
 refine tri_v (opv_eql rfl rfl) rfl ?_
 refine tri_v (opv_pick_t rfl rfl) rfl ?_
 refine tM rfl rfl ?_
 refine tri_true rfl rfl (rfl) ?_
 refine tri_guard_run rfl rfl rfl ?_
 refine tri_v (opv_fieldAddr rfl rfl) rfl ?_
 refine tri_guard_run rfl rfl rfl ?_
 refine tri_v (opv_load1 rfl rfl rfl) rfl ?_
 refine tri_guard_run rfl rfl rfl (tM rfl rfl (tri_guard_run rfl rfl rfl ?_))
 refine tri_v (opv_indexAddrS rfl rfl (by omega) (by omega) (by assumption) rfl) rfl ?_
 refine tri_guard_run rfl rfl rfl ?_
 refine tri_v (opv_fieldAddrE rfl (by assumption) (by omega) rfl) rfl ?_
 refine tri_guard_run rfl rfl rfl ?_
 refine tri_v (opv_loadE1 rfl (by assumption) rfl (by omega) rfl rfl) rfl ?_
 refine tri_guard_run rfl rfl rfl ?_
 refine tri_v (opv_eql rfl rfl) rfl ?_
 refine tri_v (opv_pick_t rfl rfl) rfl ?_
 refine tM rfl rfl ?_
 refine tri_true rfl rfl (by show (ts.getD 5 default).lv = 2; exact vts) ?_
 refine tri_guard_run rfl rfl rfl (tM rfl rfl (tri_guard_run rfl rfl rfl ?_))
 refine tri_v (opv_eql rfl rfl) rfl ?_
 refine tri_v (opv_pick_t rfl rfl) rfl ?_
 refine tM rfl rfl ?_
 refine tri_true rfl rfl (rfl) ?_
 refine tri_guard_run rfl rfl rfl (tM rfl rfl (tri_guard_run rfl rfl rfl ?_))
 refine tri_v (opv_indexAddrS rfl rfl (by omega) (by omega) (by assumption) rfl) rfl ?_
 refine tri_guard_run rfl rfl rfl ?_
 refine tri_v (opv_loadEA rfl (by assumption) rfl (by omega) rfl rfl) rfl ?_
 refine tri_guard_run rfl rfl rfl ?_
 refine tri_v (opv_buildS rfl rfl) rfl ?_
 refine tri_guard_run rfl rfl rfl ?_
 refine tri_v (opv_eqlI rfl rfl rfl rfl rfl rfl) rfl ?_
 refine tri_v (opv_pick_t rfl rfl) rfl ?_
 refine tM rfl rfl ?_
 refine tri_true rfl rfl (by show [(cs.getD 0 default).x, (cs.getD 0 default).y] = _; rw [vcs]) ?_
 refine tri_guard_run rfl rfl rfl (tM rfl rfl ?_)
 refine tri_v (opv_pick_t rfl rfl) rfl ?_
 refine tM rfl rfl ?_
 refine tri_bool 127 rfl (fun _ => ?_) (fun h => absurd h (by decide))
 refine tri_guard_run rfl rfl rfl (tM rfl rfl (tri_guard_run rfl rfl rfl ?_))
 refine tri_v (opv_eql rfl rfl) rfl ?_
 refine tri_v (opv_pick_t rfl rfl) rfl ?_
 refine tM rfl rfl ?_
 refine tri_true rfl rfl (rfl) ?_
 refine tri_guard_run rfl rfl rfl (tM rfl rfl (tri_guard_run rfl rfl rfl ?_))
 refine tri_v (opv_eql rfl rfl) rfl ?_
 refine tri_v (opv_pick_t rfl rfl) rfl ?_
 refine tM rfl rfl ?_
 refine tri_true rfl rfl (rfl) ?_
 refine tri_guard_run rfl rfl rfl ?_
 refine tri_v (opv_loadA rfl rfl rfl) rfl ?_
 refine tri_guard_run rfl rfl rfl ?_
 refine tri_v (opv_buildS rfl rfl) rfl ?_
 refine tri_guard_run rfl rfl rfl ?_
 refine tri_v (opv_eqlI rfl rfl rfl rfl rfl rfl) rfl ?_
 refine tri_v (opv_pick_t rfl rfl) rfl ?_
 refine tM rfl rfl ?_
 refine tri_true rfl rfl (rfl) ?_
 refine tri_guard_run rfl rfl rfl (tM rfl rfl ?_)
 refine tri_v (opv_pick_t rfl rfl) rfl ?_
 refine tM rfl rfl ?_
 refine tri_bool 143 rfl (fun _ => ?_) (fun h => absurd h (by decide))
 refine tri_guard_run rfl rfl rfl (tM rfl rfl (tri_guard_run rfl rfl rfl ?_))
 refine tri_v (opv_eql rfl rfl) rfl ?_
 refine tri_v (opv_pick_t rfl rfl) rfl ?_
 refine tM rfl rfl ?_
 refine tri_true rfl rfl (rfl) ?_
 refine tri_guard_run rfl rfl rfl (tM rfl rfl (tri_guard_run rfl rfl rfl ?_))
 refine tri_v (opv_not rfl) rfl ?_
 refine tri_v (opv_pick_t rfl rfl) rfl ?_
 refine tA rfl rfl (tN (tT (tri_ret ?_)))
 refine tri_end A Suf.h rfl (.cons (rv_tmp rfl) .nil) ⟨rfl, rfl, hI06⟩
end Go.GL


set_option linter.unusedVariables false
namespace Go.GL
/-! ### Layer 9, as the document has it -/
namespace R9
/-- What was leapt: a node, an exponent, what it came to. -/
abbrev Memo := List (Int × Int × Int)
structure LS where
 ns : List Node
 mm : Memo
/-- A state, a node, an error. -/
abbrev L9 := LS × Int × Int
def look9 : Memo → Int → Int → Option Int
 | [], _, _ => none
 | p :: mm, n, j => if p.1 = n ∧ p.2.1 = j then some p.2.2 else look9 mm n j
def putS (room : Int) (s : LS) (q0 q1 q2 q3 : Int) : L9 := (⟨(R6.put s.ns room q0 q1 q2 q3).1, s.mm⟩, (R6.put s.ns room q0 q1 q2 q3).2.1, (R6.put s.ns room q0 q1 q2 q3).2.2)
def midS (room : Int) (s : LS) (n : Int) : L9 := putS room s (R8.g (R8.s16 s.ns n) 5) (R8.g (R8.s16 s.ns n) 6) (R8.g (R8.s16 s.ns n) 9) (R8.g (R8.s16 s.ns n) 10)
def oneS (room : Int) (s : LS) (n : Int) : L9 := (⟨(R8.one s.ns room n).1, s.mm⟩, (R8.one s.ns room n).2.1, (R8.one s.ns room n).2.2)
def mapS (f : LS → Int → L9) : LS → List Int → LS × List Int × Int
 | s, [] => (s, [], 0)
 | s, q :: qs => if (f s q).2.2 ≠ 0 then ((f s q).1, [], (f s q).2.2) else ((mapS f (f s q).1 qs).1, (f s q).2.1 :: (mapS f (f s q).1 qs).2.1, (mapS f (f s q).1 qs).2.2)
def fourP (room : Int) (l : List Int) (s : LS) (k : Int) : L9 := putS room s (R8.g l k) (R8.g l (k + 1)) (R8.g l (k + 3)) (R8.g l (k + 4))
def fourE : List Int := [0, 1, 3, 4]
def halfF (lp : LS → Int → Int → L9) (room : Int) (full : Bool) (j : Int) : LS → Int → L9 := fun s q => if full = true then lp s q (j - 1) else midS room s q
/-- The nine squares of a node, each behind half of a leap, or where it stands. -/
def half (lp : LS → Int → Int → L9) (room : Int) (full : Bool) (s : LS) (n j : Int) : LS × List Int × Int :=
 if (R8.all s.ns room n).2.2 ≠ 0 then (s, [], (R8.all s.ns room n).2.2) else mapS (halfF lp room full j) ⟨(R8.all s.ns room n).1, s.mm⟩ (R8.all s.ns room n).2.1
def bindM (r : LS × List Int × Int) (f : LS → List Int → L9) : L9 := if r.2.2 ≠ 0 then (r.1, 0, r.2.2) else f r.1 r.2.1
def put4 (room : Int) (s : LS) (l : List Int) : L9 := putS room s (R8.g l 0) (R8.g l 1) (R8.g l 2) (R8.g l 3)
def lastF (lp : LS → Int → Int → L9) (j : Int) : LS → Int → L9 := fun s q => lp s q j
def far (lp : LS → Int → Int → L9) (room : Int) (full : Bool) (s : LS) (n j : Int) : L9 :=
 bindM (half lp room full s n j) fun t l => bindM (mapS (fourP room l) t fourE) fun t l => bindM (mapS (lastF lp (if full = true then j - 1 else j)) t l) (put4 room)
/-- What was leapt is kept. -/
def keep (n j : Int) (r : L9) : L9 := if r.2.2 ≠ 0 then (r.1, 0, r.2.2) else (⟨r.1.ns, r.1.mm ++ [(n, j, r.2.1)]⟩, r.2.1, 0)
/-- A leap of a node of the level k + 2. -/
def leap (room : Int) : Nat → LS → Int → Int → L9
 | 0, s, n, j => match look9 s.mm n j with
  | some to => (s, to, 0)
  | none => keep n j (oneS room s n)
 | k + 1, s, n, j => match look9 s.mm n j with
  | some to => (s, to, 0)
  | none => keep n j (far (leap room k) room (decide (j = k + 1)) s n j)
/-- Is one of the sixteen, but the four in the middle, not dead? -/
def edged (ns : List Node) (n : Int) : Bool := [0, 1, 2, 3, 4, 7, 8, 11, 12, 13, 14, 15].any fun i => decide ((R6.nd ns (R8.g (R8.s16 ns n) i)).pop ≠ 0)
/-- Of a node of the level k + 2. -/
def trim (room : Int) : Nat → LS → Int → L9
 | 0, s, n => (s, n, 0)
 | k + 1, s, n => if edged s.ns n = true then (s, n, 0) else if (midS room s n).2.2 ≠ 0 then ((midS room s n).1, 0, (midS room s n).2.2) else trim room k (midS room s n).1 (midS room s n).2.1
/-- A kid of the larger node. -/
def bigK (dead : Int) (k : Nat) (kid : Int) (i : Nat) : Int := if i + k = 3 then kid else dead
def grow (room : Int) (s : LS) (n : Int) : L9 :=
 let x := R6.nd s.ns n
 if 42 ≤ x.lv then (s, 0, 2) else
 let d := R7.empty s.ns room (x.lv - 1).toNat
 if d.2.2 ≠ 0 then (s, 0, d.2.2) else
 let r := mapS (fun s k => putS room s (bigK d.2.1 k.toNat (x.kids.getD k.toNat default) 0) (bigK d.2.1 k.toNat (x.kids.getD k.toNat default) 1) (bigK d.2.1 k.toNat (x.kids.getD k.toNat default) 2) (bigK d.2.1 k.toNat (x.kids.getD k.toNat default) 3)) ⟨d.1, s.mm⟩ [0, 1, 2, 3]
 if r.2.2 ≠ 0 then (r.1, 0, r.2.2) else
 putS room r.1 (R8.g r.2.1 0) (R8.g r.2.1 1) (R8.g r.2.1 2) (R8.g r.2.1 3)
def bindS (r : L9) (f : LS → Int → L9) : L9 := if r.2.2 ≠ 0 then (r.1, 0, r.2.2) else f r.1 r.2.1
def lvS (s : LS) (n : Int) : Nat := ((R6.nd s.ns n).lv - 2).toNat
def trimS (room : Int) (s : LS) (n : Int) : L9 := trim room (lvS s n) s n
/-- Grown while it is too small (at most so often). -/
def growTo (room : Int) (j : Int) : Nat → LS → Int → L9
 | 0, s, n => (s, n, 0)
 | i + 1, s, n => if (R6.nd s.ns n).lv < j + 3 then bindS (grow room s n) (growTo room j i) else (s, n, 0)
def power (room : Int) (s : LS) (n j : Int) : L9 :=
 bindS (bindS (bindS (bindS (trimS room s n) (grow room)) (grow room)) (growTo room j 64)) fun s m => leap room (lvS s m) s m j
def runL (room : Int) : List Int → LS → Int → L9
 | [], s, n => trimS room s n
 | j :: js, s, n => bindS (power room s n j) (runL room js)
def bits (c : Int) : List Int := ((List.range 62).filter fun i => decide (c / 2 ^ i % 2 = 1)).map fun i => ((i : Nat) : Int)
/-- A store behind what was made in it, or as it was. -/
def out (ns : List Node) (r : L9) : List Node × Int × Int := if r.2.2 ≠ 0 then (ns, 0, r.2.2) else (r.1.ns, r.2.1, 0)
def leapT (ns : List Node) (room n j : Int) : List Node × Int × Int := if R8.may ns room n 2 ∧ 0 ≤ j ∧ j ≤ (R6.nd ns n).lv - 2 then out ns (leap room (lvS ⟨ns, []⟩ n) ⟨ns, []⟩ n j) else (ns, 0, 1)
def trimT (ns : List Node) (room n : Int) : List Node × Int × Int := if R8.may ns room n 2 then out ns (trimS room ⟨ns, []⟩ n) else (ns, 0, 1)
def runT (ns : List Node) (room n c : Int) : List Node × Int × Int := if R8.may ns room n 2 ∧ 0 ≤ c ∧ c ≤ 4611686018427387903 then out ns (runL room (bits c) ⟨ns, []⟩ n) else (ns, 0, 1)
end R9
end Go.GL


set_option linter.unusedVariables false
namespace Go.GL
open R6 R7
/-! ### What leaps keep to -/
namespace R9
def MemOk (ns : List Node) (mm : Memo) : Prop := ∀ p ∈ mm, ∃ lv : Nat, IsN ns (lv + 2) p.1 ∧ IsN ns (lv + 1) p.2.2
theorem MemOk.pre {ns ms : List Node} (hp : ns <+: ms) {mm : Memo} (h : MemOk ns mm) : MemOk ms mm := fun p hm => by
 obtain ⟨lv, a, b⟩ := h p hm
 exact ⟨lv, a.pre hp, b.pre hp⟩
structure Lk (room : Int) (s : LS) : Prop where
 right : R6.right s.ns room
 mem : MemOk s.ns s.mm
theorem Lk.wf {room : Int} {s : LS} (h : Lk room s) : Wf s.ns := (right_iff.1 h.right).2
/-- What came of a state without an error. -/
structure Gd (room : Int) (s : LS) (r : L9) (lv : Nat) : Prop where
 lk : Lk room r.1
 pre : s.ns <+: r.1.ns
 is : IsN r.1.ns lv r.2.1
theorem s16_isN {ns : List Node} (h : Wf ns) {lv : Nat} {n : Int} (hn : IsN ns (lv + 2) n) : ∀ i : Int, 0 ≤ i → i < 16 → IsN ns lv (R8.g (R8.s16 ns n) i) := by
 obtain ⟨a, b, c, d⟩ := kids4 h hn
 obtain ⟨a0, a1, a2, a3⟩ := kids4 h a
 obtain ⟨b0, b1, b2, b3⟩ := kids4 h b
 obtain ⟨c0, c1, c2, c3⟩ := kids4 h c
 obtain ⟨d0, d1, d2, d3⟩ := kids4 h d
 intro i h0 h16
 obtain ⟨k, rfl⟩ : ∃ k : Nat, i = k := ⟨i.toNat, by omega⟩
 have hk : k < 16 := by omega
 unfold R8.g R8.s16
 rw [Int.toNat_natCast]
 match k, hk with
 | 0, _ => exact a0
 | 1, _ => exact a1
 | 2, _ => exact b0
 | 3, _ => exact b1
 | 4, _ => exact a2
 | 5, _ => exact a3
 | 6, _ => exact b2
 | 7, _ => exact b3
 | 8, _ => exact c0
 | 9, _ => exact c1
 | 10, _ => exact d0
 | 11, _ => exact d1
 | 12, _ => exact c2
 | 13, _ => exact c3
 | 14, _ => exact d2
 | 15, _ => exact d3
/-! #### what is new of what was leapt -/
/-- What came to be kept is of nodes of the levels to K + 2. -/
def New (K : Nat) (mm mm' : Memo) (ns' : List Node) : Prop := ∃ add, mm' = mm ++ add ∧ ∀ p ∈ add, ∃ lv, lv ≤ K ∧ IsN ns' (lv + 2) p.1
theorem New.refl (K : Nat) (mm : Memo) (ns' : List Node) : New K mm mm ns' := ⟨[], by simp, by simp⟩
theorem New.trans {K : Nat} {a b c : Memo} {ns ms : List Node} (h : New K a b ns) (hp : ns <+: ms) (k : New K b c ms) : New K a c ms := by
 obtain ⟨x, rfl, hx⟩ := h
 obtain ⟨y, rfl, hy⟩ := k
 refine ⟨x ++ y, by rw [List.append_assoc], fun p hm => ?_⟩
 rcases List.mem_append.1 hm with hm | hm
 ·obtain ⟨lv, h1, h2⟩ := hx p hm
  exact ⟨lv, h1, h2.pre hp⟩
 ·exact hy p hm
theorem look9_app : ∀ {mm add : Memo} {n j : Int}, (∀ p ∈ add, p.1 ≠ n) → look9 (mm ++ add) n j = look9 mm n j
 | [], [], n, j, _ => rfl
 | [], p :: add, n, j, h => by
  have h1 := h p List.mem_cons_self
  have ih := look9_app (mm := []) (n := n) (j := j) fun q hq => h q (List.mem_cons_of_mem _ hq)
  simp only [List.nil_append] at ih ⊢
  unfold look9
  rw [if_neg (fun e => h1 e.1), ih]
  rfl
 | p :: mm, add, n, j, h => by
  simp only [List.cons_append]
  unfold look9
  split
  ·rfl
  ·exact look9_app h
theorem New.look {K : Nat} {mm mm' : Memo} {ns' : List Node} (h : New K mm mm' ns') {lv : Nat} {n j : Int} (hn : IsN ns' (lv + 2) n) (hlv : K < lv) (hl : look9 mm n j = none) : look9 mm' n j = none := by
 obtain ⟨add, rfl, ha⟩ := h
 rw [look9_app, hl]
 rintro p hp rfl
 obtain ⟨lv', h1, h2⟩ := ha p hp
 have e1 := h2.2
 have e2 := hn.2
 omega
end R9
end Go.GL


set_option linter.unusedVariables false
namespace Go.GL
open R6 R7
namespace R9
/-! #### empty, grow -/
def growF (room d : Int) (ks : List Int) : LS → Int → L9 := fun s k => putS room s (bigK d k.toNat (ks.getD k.toNat default) 0) (bigK d k.toNat (ks.getD k.toNat default) 1) (bigK d k.toNat (ks.getD k.toNat default) 2) (bigK d k.toNat (ks.getD k.toNat default) 3)
def k4 : List Int := [0, 1, 2, 3]
theorem kids_getD {ns : List Node} (h : Wf ns) {lv : Nat} {n : Int} (hn : IsN ns (lv + 1) n) {k : Nat} (hk : k < 4) : IsN ns lv ((nd ns n).kids.getD k default) := by
 obtain ⟨a, b, c, d⟩ := kids4 h hn
 match k, hk with
 | 0, _ => exact a
 | 1, _ => exact b
 | 2, _ => exact c
 | 3, _ => exact d
/-! #### trim, power, run -/
/-- As Gd, of some level from 2 on. -/
structure Ge (room : Int) (s : LS) (r : L9) : Prop where
 lk : Lk room r.1
 pre : s.ns <+: r.1.ns
 is : ∃ k : Nat, IsN r.1.ns (k + 2) r.2.1
theorem Ge.trans {room : Int} {s t : LS} {r : L9} (h : Ge room t r) (hp : s.ns <+: t.ns) : Ge room s r := ⟨h.lk, hp.trans h.pre, h.is⟩
/-- The loop of power: grown i times. -/
def more (room : Int) (j : Int) : Nat → LS → Int → L9
 | 0, s, n => bindS (bindS (grow room s n) (grow room)) (growTo room j 64)
 | 1, s, n => bindS (grow room s n) (growTo room j 64)
 | i + 2, s, n => growTo room j (64 - i) s n
/-- As Ge, of some level from k + 2 on. -/
def Gk (room : Int) (s : LS) (r : L9) (k : Nat) : Prop := Lk room r.1 ∧ s.ns <+: r.1.ns ∧ ∃ k' : Nat, k ≤ k' ∧ IsN r.1.ns (k' + 2) r.2.1
theorem Gk.le {room : Int} {s : LS} {r : L9} {k k2 : Nat} (h : Gk room s r k) (hk : k2 ≤ k) : Gk room s r k2 := by
 obtain ⟨a, b, k', c, d⟩ := h
 exact ⟨a, b, k', by omega, d⟩
end R9
end Go.GL


set_option linter.unusedVariables false
namespace Go.GL
/-! ### What is made of cells -/
namespace R7
open R6
def deadB (ns : List Node) (j : Nat) : Bool := ns.any fun x => decide (x.lv = (j : Int) ∧ x.pop = 0)
/-- Of how many levels there is no node yet in which all is dead. -/
def E (ns : List Node) : Nat → Nat
 | 0 => 0
 | L + 1 => E ns L + if deadB ns (L + 1) = true then 0 else 1
theorem deadB_iff {ns : List Node} {j : Nat} : deadB ns j = true ↔ ∃ n, IsN ns j n ∧ (nd ns n).pop = 0 := by
 unfold deadB
 rw [List.any_eq_true]
 constructor
 ·rintro ⟨x, hx, h⟩
  obtain ⟨i, hi, rfl⟩ := List.getElem_of_mem hx
  have h' := of_decide_eq_true h
  have e : nd ns (i : Int) = ns[i] := by simp [nd, hi]
  exact ⟨i, ⟨⟨by omega, by omega⟩, by rw [e]; exact h'.1⟩, by rw [e]; exact h'.2⟩
 ·rintro ⟨n, ⟨⟨h0, h1⟩, h2⟩, h3⟩
  have hlt : n.toNat < ns.length := by omega
  have e : nd ns n = ns[n.toNat] := by simp [nd, hlt]
  rw [e] at h2 h3
  exact ⟨_, List.getElem_mem hlt, by simp [h2, h3]⟩
theorem deadB_pre {ns ms : List Node} (h : ns <+: ms) {j : Nat} (hd : deadB ns j = true) : deadB ms j = true := by
 obtain ⟨t, rfl⟩ := h
 unfold deadB at *
 rw [List.any_append, hd]; rfl
theorem E_pre {ns ms : List Node} (h : ns <+: ms) : ∀ L, E ms L ≤ E ns L
 | 0 => Nat.le_refl _
 | L + 1 => by
  have := E_pre h L
  simp only [E]
  by_cases hd : deadB ns (L + 1) = true
  ·rw [if_pos hd, if_pos (deadB_pre h hd)]; omega
  ·rw [if_neg hd]; split <;> omega
theorem E_new {ns ms : List Node} (h : ns <+: ms) {j : Nat} (h0 : ¬ deadB ns (j + 1) = true) (h1 : deadB ms (j + 1) = true) : ∀ L, j < L → E ms L + 1 ≤ E ns L
 | 0, hj => absurd hj (by omega)
 | L + 1, hj => by
  simp only [E]
  by_cases e : j = L
  ·subst e
   have := E_pre h j
   rw [if_neg h0, if_pos h1]; omega
  ·have := E_new h h0 h1 L (by omega)
   by_cases hd : deadB ns (L + 1) = true
   ·rw [if_pos hd, if_pos (deadB_pre h hd)]; omega
   ·rw [if_neg hd]; split <;> omega
theorem E_le (ns : List Node) : ∀ L, E ns L ≤ L
 | 0 => Nat.le_refl _
 | L + 1 => by have := E_le ns L; simp only [E]; split <;> omega
theorem E_pos {ns : List Node} {j L : Nat} (hj : j < L) (h0 : ¬ deadB ns (j + 1) = true) : 1 ≤ E ns L := by
 induction L with
 | zero => omega
 | succ L ih =>
  simp only [E]
  by_cases e : j = L
  ·subst e; rw [if_neg h0]; omega
  ·have := ih (by omega); omega
/-- A node of a level is made; it cost so many nodes, and what was dead of the levels to L. -/
structure Mk (ns : List Node) (L cost lv : Nat) (ms : List Node) (m : Int) : Prop where
 wf : Wf ms
 pre : ns <+: ms
 is : IsN ms lv m
 len : ms.length + E ms L ≤ ns.length + E ns L + cost
theorem fit4_of {ns : List Node} {lv : Nat} (hl : lv + 1 ≤ 42) {a b c d : Int} (ha : IsN ns lv a) (hb : IsN ns lv b) (hc : IsN ns lv c) (hd : IsN ns lv d) : fit4 ns a b c d := by
 refine ⟨ha.1, ⟨hb.1, ?_⟩, ⟨hc.1, ?_⟩, ⟨hd.1, ?_⟩, ?_⟩
 ·rw [hb.2, ha.2]
 ·rw [hc.2, ha.2]
 ·rw [hd.2, ha.2]
 ·rw [ha.2]; omega
theorem dead_found {ns : List Node} (h : Wf ns) {j : Nat} {n d : Int} (hn : IsN ns j n) (hp : (nd ns n).pop = 0) (hd : IsN ns (j + 1) d) (hdp : (nd ns d).pop = 0) : R6.at_ ns [n, n, n, n] = d := by
 obtain ⟨a, b, c, e⟩ := kids4 h hd
 obtain ⟨a', b', c', e'⟩ := (dead_kids h hd).1 hdp
 have := h.at_ hd.1 (by rw [hd.2]; omega)
 unfold Node.kids at this
 rwa [dead_uniq h a hn a' hp, dead_uniq h b hn b' hp, dead_uniq h c hn c' hp, dead_uniq h e hn e' hp] at this
theorem emptyF_ok {room : Int} {L : Nat} (hL : L ≤ 42) : ∀ (k : Nat) (ns : List Node) (n : Int) (j : Nat), Wf ns → IsN ns j n → (nd ns n).pop = 0 → j + k ≤ L → ((ns.length + E ns L : Nat) : Int) ≤ room →
  ∃ ms m, emptyF room k ns n = (ms, m, 0) ∧ Mk ns L 0 (j + k) ms m ∧ (nd ms m).pop = 0
 | 0, ns, n, j, h, hn, hp, hj, hr => ⟨ns, n, rfl, ⟨h, List.prefix_refl _, hn, Nat.le_refl _⟩, hp⟩
 | k + 1, ns, n, j, h, hn, hp, hj, hr => by
  have hf := fit4_of (by omega) hn hn hn hn
  have hroom : 0 ≤ R6.at_ ns [n, n, n, n] ∨ (ns.length : Int) < room := by
   by_cases hd : deadB ns (j + 1) = true
   ·obtain ⟨d, hd1, hd2⟩ := deadB_iff.1 hd
    rw [dead_found h hn hp hd1 hd2]; exact .inl hd1.1.1
   ·have := E_pos (L := L) (by omega) hd
    exact .inr (by omega)
  obtain ⟨ms, m, e, ok⟩ := put_ok h hf hroom
  have him : IsN ms (j + 1) m := ⟨ok.mem, by rw [ok.lv, hn.2]; omega⟩
  have hpm : (nd ms m).pop = 0 := by rw [ok.nd]; exact (pop4_zero (by omega) (by omega) (by omega) (by omega)).2 ⟨hp, hp, hp, hp⟩
  have hlen : ms.length + E ms L ≤ ns.length + E ns L := by
   by_cases hd : deadB ns (j + 1) = true
   ·obtain ⟨d, hd1, hd2⟩ := deadB_iff.1 hd
    have hat := dead_found h hn hp hd1 hd2
    have : put ns room n n n n = (ns, d, 0) := put_again h hf hd1.1 (by rw [hd1.2]; omega) (by rw [← hat]; exact (at_found (by rw [hat]; exact hd1.1.1)).2.2)
    rw [this] at e
    cases e
    exact Nat.le_refl _
   ·have := E_new ok.pre hd (deadB_iff.2 ⟨m, him, hpm⟩) L (by omega)
    have := ok.len
    omega
  obtain ⟨ms2, m2, e2, ok2, hp2⟩ := emptyF_ok (room := room) hL k ms m (j + 1) ok.wf him hpm (by omega) (by omega)
  refine ⟨ms2, m2, ?_, ⟨ok2.wf, ok.pre.trans ok2.pre, by rw [show j + (k + 1) = j + 1 + k by omega]; exact ok2.is, by have := ok2.len; omega⟩, hp2⟩
  simp only [emptyF, e]
  rw [if_neg (by omega)]
  exact e2
theorem empty_ok {room : Int} {L : Nat} (hL : L ≤ 42) {ns : List Node} {lv : Nat} (h : Wf ns) (hlv : lv ≤ L) (hr : ((ns.length + E ns L : Nat) : Int) ≤ room) : ∃ ms m, empty ns room lv = (ms, m, 0) ∧ Mk ns L 0 lv ms m ∧ (nd ms m).pop = 0 := by
 have := emptyF_ok (room := room) hL lv ns 0 0 h ⟨h.in0, by rw [h.nd0]; rfl⟩ (by rw [h.nd0]; rfl) (by omega) hr
 unfold empty
 simpa using this
/-! #### the quarters of a list of cells -/
def qx' (h : Int) (c : Cell) : Nat := qx h c
theorem part_sum (h : Int) (l : List Cell) : (part h 0 l).length + (part h 1 l).length + (part h 2 l).length + (part h 3 l).length = l.length := by
 induction l with
 | nil => rfl
 | cons c l ih =>
  unfold part at *
  simp only [List.length_map] at *
  have hk : qx h c = 0 ∨ qx h c = 1 ∨ qx h c = 2 ∨ qx h c = 3 := by unfold qx; split <;> split <;> simp
  rcases hk with e | e | e | e <;> simp only [List.filter_cons, e] <;> simp <;> omega
theorem part_in {lv : Nat} {l : List Cell} (hb : ∀ c ∈ l, inQ (lv + 1) c.x c.y) (k : Nat) : ∀ c ∈ part (2 ^ lv) k l, inQ lv c.x c.y := by
 intro c hc
 obtain ⟨d, hd, rfl⟩ := List.mem_map.1 hc
 have := hb d (List.mem_filter.1 hd).1
 unfold inQ at *
 rw [p2s] at this
 have := p2pos lv
 unfold qc
 simp only
 split <;> split <;> omega
theorem mem_part {lv : Nat} {l : List Cell} (hb : ∀ c ∈ l, inQ (lv + 1) c.x c.y) {x y : Int} (hq : inQ lv x y) :
  ((⟨x, y⟩ : Cell) ∈ part (2 ^ lv) 0 l ↔ (⟨x, y⟩ : Cell) ∈ l) ∧ ((⟨x, y⟩ : Cell) ∈ part (2 ^ lv) 1 l ↔ (⟨x + 2 ^ lv, y⟩ : Cell) ∈ l) ∧ ((⟨x, y⟩ : Cell) ∈ part (2 ^ lv) 2 l ↔ (⟨x, y + 2 ^ lv⟩ : Cell) ∈ l) ∧ ((⟨x, y⟩ : Cell) ∈ part (2 ^ lv) 3 l ↔ (⟨x + 2 ^ lv, y + 2 ^ lv⟩ : Cell) ∈ l) := by
 have hp := p2pos lv
 unfold inQ at hq
 have key : ∀ k (X Y : Int), qx (2 ^ lv) ⟨X, Y⟩ = k → qc (2 ^ lv) ⟨X, Y⟩ = ⟨x, y⟩ → (∀ c ∈ l, qx (2 ^ lv) c = k → qc (2 ^ lv) c = ⟨x, y⟩ → c = ⟨X, Y⟩) → ((⟨x, y⟩ : Cell) ∈ part (2 ^ lv) k l ↔ (⟨X, Y⟩ : Cell) ∈ l) := by
  intro k X Y h1 h2 h3
  unfold part
  rw [List.mem_map]
  constructor
  ·rintro ⟨c, hc, e⟩
   obtain ⟨hc1, hc2⟩ := List.mem_filter.1 hc
   have := h3 c hc1 (by simpa using hc2) e
   rwa [this] at hc1
  ·intro hm
   exact ⟨_, List.mem_filter.2 ⟨hm, by simp [h1]⟩, h2⟩
 refine ⟨key 0 x y ?_ ?_ ?_, key 1 _ _ ?_ ?_ ?_, key 2 _ _ ?_ ?_ ?_, key 3 _ _ ?_ ?_ ?_⟩
 all_goals simp only [qx, qc]
 all_goals first
  | (rintro ⟨cx, cy⟩ hc; have := hb _ hc; unfold inQ at this; simp only [Cell.mk.injEq] at *; intro h1 h2; revert h1 h2; split <;> split <;> intro h1 h2 <;> omega)
  | (split <;> split <;> omega)
  | (simp only [Cell.mk.injEq]; constructor <;> split <;> omega)
end R7
end Go.GL


set_option linter.unusedVariables false
namespace Go.GL
namespace R7
open R6
theorem build_nl (room : Int) (lv : Nat) (ns : List Node) : build room lv ns [] = empty ns room lv := by cases lv <;> rfl
theorem build_sc (room : Int) (lv : Nat) (ns : List Node) {l : List Cell} (h : l ≠ []) {a0 a1 a2 a3 : List Node} {m0 m1 m2 m3 : Int} (h0 : build room lv ns (part (2 ^ lv) 0 l) = (a0, m0, 0)) (h1 : build room lv a0 (part (2 ^ lv) 1 l) = (a1, m1, 0)) (h2 : build room lv a1 (part (2 ^ lv) 2 l) = (a2, m2, 0)) (h3 : build room lv a2 (part (2 ^ lv) 3 l) = (a3, m3, 0)) :
  build room (lv + 1) ns l = R6.put a3 room m0 m1 m2 m3 := by
 cases l with
 | nil => exact absurd rfl h
 | cons c l =>
  simp only [build, h0, h1, h2, h3]
  rfl
theorem al_put {ns ms : List Node} {lv : Nat} {a b c d m : Int} (h : Wf ns) (ha : IsN ns lv a) (hb : IsN ns lv b) (hc : IsN ns lv c) (hd : IsN ns lv d) (ok : PutOk ns a b c d ms m) (x y : Int) :
  al ms (lv + 1) m x y = if y < 2 ^ lv then (if x < 2 ^ lv then al ns lv a x y else al ns lv b (x - 2 ^ lv) y) else (if x < 2 ^ lv then al ns lv c x (y - 2 ^ lv) else al ns lv d (x - 2 ^ lv) (y - 2 ^ lv)) := by
 simp only [al, ok.nd, mk4]
 rw [al_pre h ok.pre _ _ _ _ ha, al_pre h ok.pre _ _ _ _ hb, al_pre h ok.pre _ _ _ _ hc, al_pre h ok.pre _ _ _ _ hd]
theorem build_ok {room : Int} {L : Nat} (hL : L ≤ 42) : ∀ (lv : Nat) (ns : List Node) (l : List Cell), lv ≤ L → Wf ns → (∀ c ∈ l, inQ lv c.x c.y) → ((ns.length + E ns L + l.length * lv : Nat) : Int) ≤ room →
  ∃ ms m, build room lv ns l = (ms, m, 0) ∧ Mk ns L (l.length * lv) lv ms m ∧ ∀ x y, inQ lv x y → al ms lv m x y = decide ((⟨x, y⟩ : Cell) ∈ l)
 | lv, ns, [], hlv, h, hb, hr => by
  obtain ⟨ms, m, e, ok, hp⟩ := empty_ok (room := room) hL h hlv (by simpa using hr)
  refine ⟨ms, m, by rw [build_nl]; exact e, ?_, fun x y _ => ?_⟩
  ·simpa using ok
  ·rw [al_dead ok.wf lv m x y ok.is hp]; simp
 | 0, ns, c :: l, hlv, h, hb, hr => by
  refine ⟨ns, 1, rfl, ⟨h, List.prefix_refl _, ⟨h.in1, by rw [h.nd1]; rfl⟩, by omega⟩, fun x y hq => ?_⟩
  have hc := hb c List.mem_cons_self
  unfold inQ at hq hc
  simp only [Int.pow_zero] at hq hc
  have e : (⟨x, y⟩ : Cell) = c := by cases c; simp only [Cell.mk.injEq] at *; omega
  rw [e]
  simp [al]
 | lv + 1, ns, c :: l, hlv, h, hb, hr => by
  have hne : c :: l ≠ [] := by simp
  generalize hls : c :: l = ls at *
  have hpl := part_sum (2 ^ lv) ls
  have hlpos : 1 ≤ ls.length := by rw [← hls]; simp
  have hpb := part_in hb
  have hmul : (part (2 ^ lv) 0 ls).length * lv + (part (2 ^ lv) 1 ls).length * lv + (part (2 ^ lv) 2 ls).length * lv + (part (2 ^ lv) 3 ls).length * lv = ls.length * lv := by rw [← Nat.add_mul, ← Nat.add_mul, ← Nat.add_mul, hpl]
  have hmul2 : ls.length * (lv + 1) = ls.length * lv + ls.length := Nat.mul_succ _ _
  rw [hmul2] at hr
  obtain ⟨a0, m0, e0, k0, s0⟩ := build_ok (room := room) hL lv ns (part (2 ^ lv) 0 ls) (by omega) h (hpb 0) (by omega)
  have l0 := k0.len
  obtain ⟨a1, m1, e1, k1, s1⟩ := build_ok (room := room) hL lv a0 (part (2 ^ lv) 1 ls) (by omega) k0.wf (hpb 1) (by omega)
  have l1 := k1.len
  obtain ⟨a2, m2, e2, k2, s2⟩ := build_ok (room := room) hL lv a1 (part (2 ^ lv) 2 ls) (by omega) k1.wf (hpb 2) (by omega)
  have l2 := k2.len
  obtain ⟨a3, m3, e3, k3, s3⟩ := build_ok (room := room) hL lv a2 (part (2 ^ lv) 3 ls) (by omega) k2.wf (hpb 3) (by omega)
  have l3 := k3.len
  have i0 : IsN a3 lv m0 := ((k0.is.pre k1.pre).pre k2.pre).pre k3.pre
  have i1 : IsN a3 lv m1 := (k1.is.pre k2.pre).pre k3.pre
  have i2 : IsN a3 lv m2 := k2.is.pre k3.pre
  have i3 : IsN a3 lv m3 := k3.is
  obtain ⟨ms, m, e, ok⟩ := put_ok k3.wf (room := room) (fit4_of (by omega) i0 i1 i2 i3) (.inr (by omega))
  refine ⟨ms, m, by rw [build_sc room lv ns hne e0 e1 e2 e3]; exact e, ⟨ok.wf, ((((k0.pre.trans k1.pre).trans k2.pre).trans k3.pre).trans ok.pre), ⟨ok.mem, by rw [ok.lv, i0.2]; omega⟩, ?_⟩, fun x y hq => ?_⟩
  ·have := E_pre ok.pre L
   have := ok.len
   omega
  ·rw [al_put k3.wf i0 i1 i2 i3 ok]
   obtain ⟨q0, q1, q2, q3⟩ := inQ_succ hq
   by_cases hy : y < 2 ^ lv
   ·rw [if_pos hy]
    by_cases hx : x < 2 ^ lv
    ·rw [if_pos hx, al_pre k2.wf k3.pre _ _ _ _ ((k0.is.pre k1.pre).pre k2.pre), al_pre k1.wf k2.pre _ _ _ _ (k0.is.pre k1.pre), al_pre k0.wf k1.pre _ _ _ _ k0.is, s0 _ _ (q0 hy hx)]
     exact decide_eq_decide.2 (mem_part hb (q0 hy hx)).1
    ·rw [if_neg hx, al_pre k2.wf k3.pre _ _ _ _ (k1.is.pre k2.pre), al_pre k1.wf k2.pre _ _ _ _ k1.is, s1 _ _ (q1 hy hx)]
     have := (mem_part hb (q1 hy hx)).2.1
     rw [show x - 2 ^ lv + 2 ^ lv = x by omega] at this
     exact decide_eq_decide.2 this
   ·rw [if_neg hy]
    by_cases hx : x < 2 ^ lv
    ·rw [if_pos hx, al_pre k2.wf k3.pre _ _ _ _ k2.is, s2 _ _ (q2 hy hx)]
     have := (mem_part hb (q2 hy hx)).2.2.1
     rw [show y - 2 ^ lv + 2 ^ lv = y by omega] at this
     exact decide_eq_decide.2 this
    ·rw [if_neg hx, s3 _ _ (q3 hy hx)]
     have := (mem_part hb (q3 hy hx)).2.2.2
     rw [show y - 2 ^ lv + 2 ^ lv = y by omega, show x - 2 ^ lv + 2 ^ lv = x by omega] at this
     exact decide_eq_decide.2 this
theorem side_succ (lv : Nat) : side ((lv + 1 : Nat) : Int) = 2 ^ lv := by
 unfold side
 have : (((lv + 1 : Nat) : Int) - 1).toNat = lv := by omega
 rw [this]
/-- What 'make' comes to. -/
theorem make_ok {ns : List Node} {room : Int} {l : List Cell} {lv : Nat} {L : Nat} (hL : L ≤ 42) (hlv : lv + 1 ≤ L) (h : R6.right ns room) (hl : R1.right l) (hb : ∀ c ∈ l, inL ((lv + 1 : Nat) : Int) c) (hr : ((ns.length + E ns L + l.length * (lv + 1) : Nat) : Int) ≤ room) :
  ∃ ms m, make ns room l ((lv + 1 : Nat) : Int) = (ms, m, 0) ∧ Mk ns L (l.length * (lv + 1)) (lv + 1) ms m ∧ ∀ c : Cell, inL ((lv + 1 : Nat) : Int) c → al ms (lv + 1) m (c.x + 2 ^ lv) (c.y + 2 ^ lv) = decide (c ∈ l) := by
 have hw := (right_iff.1 h).2
 have hs := side_succ lv
 have hp := p2pos lv
 have hcb : ∀ c ∈ corner (side ((lv + 1 : Nat) : Int)) l, inQ (lv + 1) c.x c.y := fun c hc => by
  obtain ⟨d, hd, rfl⟩ := List.mem_map.1 hc
  have := hb d hd
  unfold inL at this
  rw [hs] at this
  unfold inQ
  rw [p2s, hs]
  simp only
  omega
 obtain ⟨ms, m, e, ok, sem⟩ := build_ok (room := room) hL (lv + 1) ns (corner (side ((lv + 1 : Nat) : Int)) l) hlv hw hcb (by unfold corner; rw [List.length_map]; exact hr)
 have hlen : (corner (side ((lv + 1 : Nat) : Int)) l).length = l.length := by unfold corner; rw [List.length_map]
 rw [hlen] at ok
 refine ⟨ms, m, ?_, ok, fun c hc => ?_⟩
 ·unfold make
  rw [if_pos ⟨h, by omega, by omega, hl⟩, if_pos (fun i hi => ?_)]
  ·have e3 : ((lv + 1 : Nat) : Int).toNat = lv + 1 := by omega
   rw [e3, e]
   simp
  ·have e4 : R1.g l i = l[i] := by simp [R1.g, hi]
   rw [e4]; exact hb _ (List.getElem_mem hi)
 ·unfold inL at hc
  rw [hs] at hc
  rw [sem _ _ (by unfold inQ; rw [p2s]; omega)]
  refine decide_eq_decide.2 ?_
  unfold corner
  rw [List.mem_map, hs]
  constructor
  ·rintro ⟨d, hd, e⟩
   have : d = c := by cases d; cases c; simp only [Cell.mk.injEq] at *; omega
   rwa [this] at hd
  ·intro hc
   exact ⟨c, hc, rfl⟩
/-- What 'of' tells. -/
theorem mem_of {ns : List Node} (h : Wf ns) {lv : Nat} {n : Int} (hn : IsN ns (lv + 1) n) (c : Cell) : c ∈ of ns n ↔ inL ((lv + 1 : Nat) : Int) c ∧ al ns (lv + 1) n (c.x + 2 ^ lv) (c.y + 2 ^ lv) = true := by
 unfold of
 have hs := side_succ lv
 have e3 : ((lv + 1 : Nat) : Int).toNat = lv + 1 := by omega
 rw [hn.2, e3, mem_flat h _ _ _ _ hn, hs]
 simp only
 rw [show c.x - -2 ^ lv = c.x + 2 ^ lv by omega, show c.y - -2 ^ lv = c.y + 2 ^ lv by omega]
 unfold inQ inL
 rw [hs, p2s]
 constructor
 ·rintro ⟨q, k⟩; exact ⟨by omega, k⟩
 ·rintro ⟨q, k⟩; exact ⟨by omega, k⟩
end R7
end Go.GL


set_option linter.unusedVariables false
namespace Go.GL
open R6 R7
/-! ### What the laws' squares are -/
namespace RL
theorem new_wf : Wf [n0, n1] := ⟨by decide, rfl, rfl, fun i hi h2 => absurd hi (by simp; omega)⟩
theorem putRaw_ok {rm : Int} (h2 : 2 ≤ rm) (h3 : rm ≤ 100000) {ns : List Node} (h : Wf ns) (hl : (ns.length : Int) ≤ rm) (r : Five) : Wf (putRaw rm ns r) ∧ ((putRaw rm ns r).length : Int) ≤ rm ∧ ns <+: putRaw rm ns r := by
 unfold putRaw intern
 rw [if_pos (right_iff.2 ⟨⟨h2, h3, hl⟩, h⟩)]
 exact ⟨(put_wf h _ _ _ _ _).1, put_room hl _ _ _ _, (put_wf h _ _ _ _ _).2⟩
theorem foldl_ok {rm : Int} (h2 : 2 ≤ rm) (h3 : rm ≤ 100000) : ∀ (l : List Five) (ns : List Node), Wf ns → (ns.length : Int) ≤ rm → Wf (l.foldl (putRaw rm) ns) ∧ ((l.foldl (putRaw rm) ns).length : Int) ≤ rm
 | [], ns, h, hl => ⟨h, hl⟩
 | r :: l, ns, h, hl => by
  obtain ⟨a, b, _⟩ := putRaw_ok h2 h3 h hl r
  exact foldl_ok h2 h3 l _ a b
theorem store_ok {rm : Int} (h2 : 2 ≤ rm) (h3 : rm ≤ 100000) (l : List Five) : Wf (store rm l) ∧ ((store rm l).length : Int) ≤ rm := foldl_ok h2 h3 _ _ new_wf (by simpa using h2)
theorem cell16_bd (r : Cell) : -8 ≤ (cell16 r).x ∧ (cell16 r).x < 8 ∧ -8 ≤ (cell16 r).y ∧ (cell16 r).y < 8 := by
 have a := pk_bd (c := r.x) (n := 16) (by omega)
 have b := pk_bd (c := r.y) (n := 16) (by omega)
 unfold cell16
 simp only
 omega
theorem mem_set {raw : List Cell} {c : Cell} (h : c ∈ set raw) : -8 ≤ c.x ∧ c.x < 8 ∧ -8 ≤ c.y ∧ c.y < 8 := by
 unfold set at h
 rw [R1.mem_puts] at h
 obtain ⟨r, _, rfl⟩ := List.mem_map.1 h
 exact cell16_bd r
theorem set_le (raw : List Cell) : (set raw).length ≤ 60 := by
 have key : ∀ (l acc : List Cell), (l.foldl R1.put acc).length ≤ acc.length + l.length := by
  intro l
  induction l with
  | nil => intro acc; simp
  | cons c l ih =>
   intro acc
   have h1 := ih (R1.put acc c)
   have h2 := R1.put_len acc c
   simp only [List.foldl_cons, List.length_cons]
   omega
 have := key ((raw.take 60).map cell16) []
 rw [List.length_map, List.length_take] at this
 unfold set R1.puts
 simp only [List.length_nil] at this
 omega
theorem set_right (raw : List Cell) : R1.right (set raw) := R1.right_of (R1.puts_srt _) (fun c hc => by have := mem_set hc; unfold R1.inB; omega) (by have := set_le raw; omega)
theorem p8 {lv : Nat} (h : 3 ≤ lv) : (8:Int) ≤ 2 ^ lv := by
 have h2 : (2:Nat) ^ 3 ≤ 2 ^ lv := Nat.pow_le_pow_right (by omega) h
 have h3 : (2:Int) ^ lv = ((2 ^ lv : Nat) : Int) := by simp
 rw [h3]; omega
/-- The raw square: a node of the set's cells. -/
structure Sq (c : Int) (nodes : List Five) (raw : List Cell) (level : Int) (lv : Nat) (ms : List Node) (m : Int) : Prop where
 lv3 : 3 ≤ lv ∧ lv ≤ 6
 lve : ((lv + 1 : Nat) : Int) = 4 + pk level 4
 eq : square c nodes raw level = (ms, m, 0)
 wf : Wf ms
 is : IsN ms (lv + 1) m
 len : (ms.length : Int) ≤ room c + 427
 pre : store (room c) nodes <+: ms
 sem : ∀ d : Cell, inL ((lv + 1 : Nat) : Int) d → al ms (lv + 1) m (d.x + 2 ^ lv) (d.y + 2 ^ lv) = decide (d ∈ set raw)
theorem square_ok (c : Int) (nodes : List Five) (raw : List Cell) (level : Int) : ∃ lv ms m, Sq c nodes raw level lv ms m := by
 have hrm := room_bd c
 have hpk := pk_bd (c := level) (n := 4) (by omega)
 obtain ⟨hw, hl⟩ := store_ok (rm := room c) (by omega) (by omega) nodes
 obtain ⟨lv, hlv⟩ : ∃ lv : Nat, ((lv + 1 : Nat) : Int) = 4 + pk level 4 := ⟨(3 + pk level 4).toNat, by omega⟩
 have hs := side_succ lv
 have h8 := p8 (lv := lv) (by omega)
 have hlen := set_le raw
 have hE := E_le (store (room c) nodes) 7
 have hmul : (set raw).length * (lv + 1) ≤ 60 * 7 := Nat.mul_le_mul hlen (by omega)
 obtain ⟨ms, m, e, ok, sem⟩ := make_ok (room := room c + 500) (L := 7) (lv := lv) (by omega) (by omega) (right_iff.2 ⟨⟨by omega, by omega, by omega⟩, hw⟩) (set_right raw) (fun d hd => by have := mem_set hd; unfold inL; rw [hs]; omega) (by omega)
 refine ⟨lv, ms, m, ⟨by omega, hlv, ?_, ok.wf, ok.is, ?_, ok.pre, sem⟩⟩
 ·unfold square; rw [← hlv]; exact e
 ·have := ok.len; omega
end RL
/-! ### Sixteen and nine -/
namespace R8
/-- A square of the sixteen. -/
def sqK (l : List Int) (y x : Int) : List Int := [g l (4 * y + x), g l (4 * y + x + 1), g l (4 * y + x + 4), g l (4 * y + x + 5)]
/-- A node that is a square of the sixteen. -/
structure IsSq (ms : List Node) (lv : Nat) (l : List Int) (y x m : Int) : Prop where
 is : IsN ms (lv + 1) m
 kids : (nd ms m).kids = sqK l y x
theorem IsSq.pre {ns ms : List Node} (hp : ns <+: ms) {lv : Nat} {l : List Int} {y x m : Int} (h : IsSq ns lv l y x m) : IsSq ms lv l y x m := ⟨h.is.pre hp, by rw [nd_pre hp h.is.1]; exact h.kids⟩
/-- Nine squares. -/
structure Nine9 (ns : List Node) (room : Int) (lv : Nat) (l : List Int) (ms : List Node) (q0 q1 q2 q3 q4 q5 q6 q7 q8 : Int) : Prop where
 wf : Wf ms
 pre : ns <+: ms
 len : ms.length ≤ ns.length + 9
 s0 : IsSq ms lv l 0 0 q0
 s1 : IsSq ms lv l 0 1 q1
 s2 : IsSq ms lv l 0 2 q2
 s3 : IsSq ms lv l 1 0 q3
 s4 : IsSq ms lv l 1 1 q4
 s5 : IsSq ms lv l 1 2 q5
 s6 : IsSq ms lv l 2 0 q6
 s7 : IsSq ms lv l 2 1 q7
 s8 : IsSq ms lv l 2 2 q8
end R8
end Go.GL


set_option linter.unusedVariables false
namespace Go.GL
open R6 R7
namespace R8
theorem IsSq.k {ms : List Node} {lv : Nat} {l : List Int} {y x m : Int} (h : IsSq ms lv l y x m) : (nd ms m).k0 = g l (4 * y + x) ∧ (nd ms m).k1 = g l (4 * y + x + 1) ∧ (nd ms m).k2 = g l (4 * y + x + 4) ∧ (nd ms m).k3 = g l (4 * y + x + 5) := by
 have := h.kids
 unfold Node.kids sqK at this
 simpa using this
end R8
namespace RL
open R8
end RL
end Go.GL


set_option linter.unusedVariables false
namespace Go.GL
open R6 R7
namespace R8
def b2i (b : Bool) : Int := if b = true then 1 else 0
/-- How many of the eight about a place are alive. -/
def cnt (f : Int → Int → Bool) (y x : Int) : Int := b2i (f (x - 1) (y - 1)) + b2i (f x (y - 1)) + b2i (f (x + 1) (y - 1)) + b2i (f (x - 1) y) + b2i (f (x + 1) y) + b2i (f (x - 1) (y + 1)) + b2i (f x (y + 1)) + b2i (f (x + 1) (y + 1))
/-- A place behind a generation. -/
def nx (f : Int → Int → Bool) (y x : Int) : Bool := R2.lives (f x y) (cnt f y x)
/-- What a step's node is. -/
structure Stp (ms : List Node) (f : Int → Int → Bool) (m : Int) : Prop where
 is : IsN ms 1 m
 kids : (nd ms m).kids = [b2i (nx f 1 1), b2i (nx f 1 2), b2i (nx f 2 1), b2i (nx f 2 2)]
theorem Stp.pre {ns ms : List Node} (hp : ns <+: ms) {f : Int → Int → Bool} {m : Int} (h : Stp ns f m) : Stp ms f m := ⟨h.is.pre hp, by rw [nd_pre hp h.is.1]; exact h.kids⟩
theorem Stp.uniq {ns : List Node} (h : Wf ns) {f f' : Int → Int → Bool} {m m' : Int} (a : Stp ns f m) (b : Stp ns f' m') (e : ∀ y x, nx f y x = nx f' y x) : m = m' := by
 refine h.uniq a.is.1 b.is.1 (by rw [a.is.2]; decide) (by rw [b.is.2]; decide) ?_
 rw [a.kids, b.kids, e, e, e, e]
end R8
namespace RL
def cell4 (r : Cell) : Cell := ⟨pk r.x 4 - 2, pk r.y 4 - 2⟩
def turn (c : Cell) : Cell := ⟨-1 - c.x, -1 - c.y⟩
def small (raw : List Cell) : List Cell := R1.puts ((raw.take 16).map cell4)
def smallT (raw : List Cell) : List Cell := R1.puts ((raw.take 16).map fun r => turn (cell4 r))
theorem puts_le (l : List Cell) : (R1.puts l).length ≤ l.length := by
 have key : ∀ (l acc : List Cell), (l.foldl R1.put acc).length ≤ acc.length + l.length := by
  intro l
  induction l with
  | nil => intro acc; simp
  | cons c l ih =>
   intro acc
   have h1 := ih (R1.put acc c)
   have h2 := R1.put_len acc c
   simp only [List.foldl_cons, List.length_cons]
   omega
 simpa [R1.puts] using key l []
end RL
end Go.GL


set_option linter.unusedVariables false
namespace Go.GL
open R6 R7
namespace R8
theorem s16_pre {ns ms : List Node} (h : Wf ns) (hp : ns <+: ms) {lv : Nat} {n : Int} (hn : IsN ns (lv + 2) n) : s16 ms n = s16 ns n := by
 obtain ⟨a, b, c, d⟩ := kids4 h hn
 unfold s16
 rw [nd_pre hp hn.1, nd_pre hp a.1, nd_pre hp b.1, nd_pre hp c.1, nd_pre hp d.1]
end R8
namespace RL
open R8
end RL
end Go.GL


set_option linter.unusedVariables false
namespace Go.GL
open R6 R7
namespace R7
def kid (ns : List Node) (n j : Int) : Int := (nd ns n).kids.getD j.toNat default
theorem al_kid (ns : List Node) {lv : Nat} {n x y : Int} (hq : inQ lv x y) {a b : Int} (ha : a = 0 ∨ a = 1) (hb : b = 0 ∨ b = 1) : al ns (lv + 1) n (x + a * 2 ^ lv) (y + b * 2 ^ lv) = al ns lv (kid ns n (2 * b + a)) x y := by
 unfold inQ at hq
 simp only [al]
 rcases ha with rfl | rfl <;> rcases hb with rfl | rfl <;> simp only [Int.zero_mul, Int.one_mul, Int.add_zero]
 ·rw [if_pos (by omega), if_pos (by omega)]; rfl
 ·rw [if_neg (by omega), if_pos (by omega), show y + 2 ^ lv - 2 ^ lv = y by omega]; rfl
 ·rw [if_pos (by omega), if_neg (by omega), show x + 2 ^ lv - 2 ^ lv = x by omega]; rfl
 ·rw [if_neg (by omega), if_neg (by omega), show x + 2 ^ lv - 2 ^ lv = x by omega, show y + 2 ^ lv - 2 ^ lv = y by omega]; rfl
end R7
namespace R8
theorem IsSq.kid {ms : List Node} {lv : Nat} {l : List Int} {y x m : Int} (h : IsSq ms lv l y x m) {a b : Int} (ha : a = 0 ∨ a = 1) (hb : b = 0 ∨ b = 1) : R7.kid ms m (2 * b + a) = g l (4 * (y + b) + (x + a)) := by
 unfold R7.kid
 rw [h.kids]
 unfold sqK
 rcases ha with rfl | rfl <;> rcases hb with rfl | rfl
 ·show g l (4 * y + x) = _; congr 1; omega
 ·show g l (4 * y + x + 4) = _; congr 1; omega
 ·show g l (4 * y + x + 1) = _; congr 1; omega
 ·show g l (4 * y + x + 5) = _; congr 1; omega
end R8
namespace RL
open R8
/-- The square's cells are the raw set. -/
theorem Sq.mem {c : Int} {nodes : List Five} {raw : List Cell} {level : Int} {lv : Nat} {ms : List Node} {m : Int} (h : Sq c nodes raw level lv ms m) (d : Cell) : d ∈ R7.of ms m ↔ d ∈ set raw := by
 rw [mem_of h.wf h.is]
 constructor
 ·rintro ⟨h1, h2⟩
  rw [h.sem d h1] at h2
  simpa using h2
 ·intro hd
  have h8 := p8 (lv := lv) h.lv3.1
  have hb := mem_set hd
  have hin : inL ((lv + 1 : Nat) : Int) d := by unfold inL; rw [side_succ]; omega
  exact ⟨hin, by rw [h.sem d hin]; simpa using hd⟩
end RL
end Go.GL


set_option linter.unusedVariables false
namespace Go.GL
open R6 R7
/-! ### A leap stands for what stands in the middle behind so many generations -/
namespace R9
/-- One generation of all cells. -/
def gen (f : Int → Int → Bool) : Int → Int → Bool := fun x y => R8.nx f y x
def gens : Nat → (Int → Int → Bool) → Int → Int → Bool
 | 0, f => f
 | m + 1, f => gens m (gen f)
/-- A node stands for a part of the plane. -/
def Std (ns : List Node) (lv : Nat) (n : Int) (f : Int → Int → Bool) (ox oy : Int) : Prop := IsN ns lv n ∧ ∀ x y, inQ lv x y → al ns lv n x y = f (x + ox) (y + oy)
theorem Std.pre {ns ms : List Node} (h : Wf ns) (hp : ns <+: ms) {lv : Nat} {n : Int} {f : Int → Int → Bool} {ox oy : Int} (hs : Std ns lv n f ox oy) : Std ms lv n f ox oy :=
 ⟨hs.1.pre hp, fun x y hq => by rw [al_pre h hp lv n x y hs.1]; exact hs.2 x y hq⟩
theorem Std.back {ns ms : List Node} (h : Wf ns) (hp : ns <+: ms) {lv : Nat} {n : Int} {f : Int → Int → Bool} {ox oy : Int} (hn : IsN ns lv n) (hs : Std ms lv n f ox oy) : Std ns lv n f ox oy :=
 ⟨hn, fun x y hq => by rw [← al_pre h hp lv n x y hn]; exact hs.2 x y hq⟩
theorem Std.at {ns : List Node} {lv : Nat} {n : Int} {f : Int → Int → Bool} {ox oy ox' oy' : Int} (h : Std ns lv n f ox oy) (hx : ox = ox') (hy : oy = oy') : Std ns lv n f ox' oy' := by
 subst hx
 subst hy
 exact h
/-- Four that stand side by side. -/
theorem std_put {ns : List Node} (h : Wf ns) {room q0 q1 q2 q3 : Int} {lv : Nat} {f : Int → Int → Bool} {ox oy : Int} (h0 : Std ns lv q0 f ox oy) (h1 : Std ns lv q1 f (ox + 2 ^ lv) oy) (h2 : Std ns lv q2 f ox (oy + 2 ^ lv)) (h3 : Std ns lv q3 f (ox + 2 ^ lv) (oy + 2 ^ lv)) (he : (put ns room q0 q1 q2 q3).2.2 = 0) :
  Std (put ns room q0 q1 q2 q3).1 (lv + 1) (put ns room q0 q1 q2 q3).2.1 f ox oy := by
 have hf : fit4 ns q0 q1 q2 q3 := Decidable.byContradiction fun hf => by
  unfold put at he; rw [if_neg hf] at he; cases he
 have hr : 0 ≤ R6.at_ ns [q0, q1, q2, q3] ∨ (ns.length : Int) < room := Decidable.byContradiction fun hr => by
  unfold put at he
  rw [if_pos hf, if_neg (by omega), if_pos (by omega)] at he
  cases he
 obtain ⟨ms, m, e, ok⟩ := put_ok h hf hr
 rw [e]
 refine ⟨⟨ok.mem, by rw [ok.lv, h0.1.2]; omega⟩, fun x y hq => ?_⟩
 have hk := ok.nd
 show al ms (lv + 1) m x y = _
 simp only [al]
 rw [hk]
 show (if y < 2 ^ lv then (if x < 2 ^ lv then al ms lv q0 x y else al ms lv q1 (x - 2 ^ lv) y) else (if x < 2 ^ lv then al ms lv q2 x (y - 2 ^ lv) else al ms lv q3 (x - 2 ^ lv) (y - 2 ^ lv))) = _
 obtain ⟨a, b, c, d⟩ := inQ_succ hq
 by_cases hy : y < 2 ^ lv
 ·rw [if_pos hy]
  by_cases hx : x < 2 ^ lv
  ·rw [if_pos hx, al_pre h ok.pre lv _ _ _ h0.1, h0.2 _ _ (a hy hx)]
  ·rw [if_neg hx, al_pre h ok.pre lv _ _ _ h1.1, h1.2 _ _ (b hy hx)]
   congr 1
   omega
 ·rw [if_neg hy]
  by_cases hx : x < 2 ^ lv
  ·rw [if_pos hx, al_pre h ok.pre lv _ _ _ h2.1, h2.2 _ _ (c hy hx)]
   congr 1
   omega
  ·rw [if_neg hx, al_pre h ok.pre lv _ _ _ h3.1, h3.2 _ _ (d hy hx)]
   congr 1 <;> omega
end R9
end Go.GL


set_option linter.unusedVariables false
namespace Go.GL
open R6 R7
namespace R9
/-- What is kept is true. -/
def MS (s : LS) : Prop := ∀ p ∈ s.mm, ∃ k : Nat, (0 ≤ p.2.1 ∧ p.2.1 ≤ k) ∧ IsN s.ns (k + 2) p.1 ∧ IsN s.ns (k + 1) p.2.2 ∧ ∀ f ox oy, Std s.ns (k + 2) p.1 f ox oy → Std s.ns (k + 1) p.2.2 (gens (2 ^ p.2.1.toNat) f) (ox + 2 ^ k) (oy + 2 ^ k)
theorem MS.pre {s : LS} {ms : List Node} (hw : Wf s.ns) (h : MS s) (hp : s.ns <+: ms) : MS ⟨ms, s.mm⟩ := fun p hm => by
 obtain ⟨k, h1, h2, h3, h4⟩ := h p hm
 exact ⟨k, h1, h2.pre hp, h3.pre hp, fun f ox oy hs => (h4 f ox oy (hs.back hw hp h2)).pre hw hp⟩
/-- What a leap that is right does. -/
def LpOk (room : Int) (k : Nat) (lp : LS → Int → Int → L9) : Prop := ∀ s q j, Lk room s → MS s → IsN s.ns (k + 2) q → 0 ≤ j ∧ j ≤ (k : Int) → (lp s q j).2.2 = 0 →
 Lk room (lp s q j).1 ∧ s.ns <+: (lp s q j).1.ns ∧ MS (lp s q j).1 ∧ ∀ f ox oy, Std s.ns (k + 2) q f ox oy → Std (lp s q j).1.ns (k + 1) (lp s q j).2.1 (gens (2 ^ j.toNat) f) (ox + 2 ^ k) (oy + 2 ^ k)
theorem p2s' (k : Nat) : (2 : Int) ^ (k + 1) = 2 * 2 ^ k := by rw [p2s]; omega
end R9
end Go.GL


set_option linter.unusedVariables false
namespace Go.GL
open R6 R7
/-! ### What errors a leap may tell -/
namespace R9
def Er (e : Int) : Prop := e = 0 ∨ e = 40
end R9
end Go.GL


set_option linter.unusedVariables false
namespace Go.GL
open R6 R7
namespace R9
/-! #### how many things are kept -/
theorem nodup_len : ∀ (N : Nat) (l : List Nat), l.Nodup → (∀ x ∈ l, x < N) → l.length ≤ N
 | 0, l, _, hb => by
  cases l with
  | nil => exact Nat.le_refl _
  | cons x l => exact absurd (hb x List.mem_cons_self) (by omega)
 | N + 1, l, hn, hb => by
  have h1 := nodup_len N (l.erase N) (hn.erase N) fun x hx => by
   have := (hn.mem_erase_iff).1 hx
   have h2 := hb x this.2
   have h3 := this.1
   omega
  by_cases hm : N ∈ l
  ·have := List.length_erase_of_mem hm
   omega
  ·rw [List.erase_of_not_mem hm] at h1
   omega
/-- No two things that are kept are of the same node and exponent. -/
def Kn (mm : Memo) : Prop := (mm.map fun p => (p.1, p.2.1)).Nodup ∧ ∀ p ∈ mm, 0 ≤ p.2.1 ∧ p.2.1 ≤ 1000000
theorem nodup_map {α β γ : Type} (f : α → β) (g : β → γ) (P : β → Prop) (hg : ∀ a b, P a → P b → g a = g b → a = b) : ∀ l : List α, (∀ x ∈ l, P (f x)) → (l.map f).Nodup → (l.map fun x => g (f x)).Nodup
 | [], _, _ => List.nodup_nil
 | x :: l, hp, hn => by
  simp only [List.map_cons, List.nodup_cons] at hn ⊢
  refine ⟨fun hm => hn.1 ?_, nodup_map f g P hg l (fun y hy => hp y (List.mem_cons_of_mem _ hy)) hn.2⟩
  obtain ⟨y, hy, e⟩ := List.mem_map.1 hm
  rw [← hg _ _ (hp y (List.mem_cons_of_mem _ hy)) (hp x List.mem_cons_self) e]
  exact List.mem_map_of_mem hy
theorem Kn.len {ns : List Node} {mm : Memo} (hm : MemOk ns mm) (hk : Kn mm) (h : ns.length ≤ 100000) : mm.length ≤ 1000000000000 := by
 have h1 := nodup_map (fun p : Int × Int × Int => (p.1, p.2.1)) (fun q : Int × Int => q.1.toNat * 1000001 + q.2.toNat) (fun q => 0 ≤ q.1 ∧ 0 ≤ q.2 ∧ q.2 ≤ 1000000) (fun a b ha hb e => by
  obtain ⟨a1, a2⟩ := a
  obtain ⟨b1, b2⟩ := b
  simp only at ha hb e
  have e1 : a1 = b1 := by omega
  have e2 : a2 = b2 := by omega
  rw [e1, e2]) mm (fun p hp => by
   obtain ⟨lv, a, b⟩ := hm p hp
   exact ⟨a.1.1, hk.2 p hp⟩) hk.1
 have h2 := nodup_len 1000000000000 _ h1 fun x hx => by
  obtain ⟨p, hp, rfl⟩ := List.mem_map.1 hx
  obtain ⟨lv, a, b⟩ := hm p hp
  have h3 := a.1.2
  have h4 := hk.2 p hp
  simp only
  omega
 rw [List.length_map] at h2
 exact h2
theorem look9_none : ∀ {mm : Memo} {n j : Int}, look9 mm n j = none → ∀ p ∈ mm, (p.1, p.2.1) ≠ (n, j)
 | p :: mm, n, j, h, q, hq, e => by
  unfold look9 at h
  split at h
  ·cases h
  ·rename_i h1
   rcases List.mem_cons.1 hq with rfl | hq
   ·exact h1 (by simpa using e)
   ·exact look9_none h q hq e
theorem Kn.snoc {mm : Memo} (h : Kn mm) {n j to : Int} (hl : look9 mm n j = none) (hj : 0 ≤ j ∧ j ≤ 1000000) : Kn (mm ++ [(n, j, to)]) := by
 constructor
 ·rw [List.map_append, List.nodup_append]
  refine ⟨h.1, by simp, fun a ha b hb e => ?_⟩
  obtain ⟨p, hp, rfl⟩ := List.mem_map.1 ha
  simp only [List.map_cons, List.map_nil, List.mem_singleton] at hb
  exact look9_none hl p hp (e.trans hb)
 ·intro p hp
  rcases List.mem_append.1 hp with hp | hp
  ·exact h.2 p hp
  ·rw [List.mem_singleton.1 hp]; exact hj
theorem Kn.nil : Kn [] := ⟨List.nodup_nil, fun p hp => by cases hp⟩
end R9
end Go.GL


set_option linter.unusedVariables false
namespace Go.GL
/-! ### What the laws of chapter 9 make of raw numbers -/
namespace RL
def fcell (v : Int) (r : Cell) : Cell := ⟨pk r.x (2 * R7.side v) - R7.side v, pk r.y (2 * R7.side v) - R7.side v⟩
def fset (v : Int) (raw : List Cell) : List Cell := R1.puts ((raw.take 30).map (fcell v))
def putN (rm : Int) (ns : List Node) (r : Five) : List Node := (R6.intern ns rm (pk r.r0 2) (pk r.r1 2) (pk r.r2 2) (pk r.r3 2)).1
def fstore (rm : Int) (nodes : List Five) : List Node := (nodes.take 10).foldl (putN rm) [R6.n0, R6.n1]
def fv (level : Int) : Int := 3 + pk level 3
def field (c : Int) (nodes : List Five) (raw : List Cell) (level : Int) : List Node × Int × Int := R7.make (fstore (room c) nodes) (room c + 600) (fset (fv level) raw) (fv level)
end RL
namespace R9
end R9
end Go.GL


set_option linter.unusedVariables false
namespace Go.GL
open R6 R7
namespace R9
/-- What a leap tells. -/
structure LeapR (ns : List Node) (room : Int) (k : Nat) (n j : Int) (p : List Node × Int × Int) : Prop where
 er : Er p.2.2
 right : R6.right p.1 room
 pre : ns <+: p.1
 is : p.2.2 = 0 → IsN p.1 (k + 1) p.2.1
 std : p.2.2 = 0 → ∀ f ox oy, Std ns (k + 2) n f ox oy → Std p.1 (k + 1) p.2.1 (gens (2 ^ j.toNat) f) (ox + 2 ^ k) (oy + 2 ^ k)
/-- A set, as a part of the plane. -/
def pl (l : List Cell) : Int → Int → Bool := fun x y => decide ((⟨x, y⟩ : Cell) ∈ l)
theorem std_make {ns : List Node} {lv : Nat} {m : Int} {l : List Cell} (hn : IsN ns (lv + 1) m) (h : ∀ c : Cell, inL ((lv + 1 : Nat) : Int) c → al ns (lv + 1) m (c.x + 2 ^ lv) (c.y + 2 ^ lv) = decide (c ∈ l)) : Std ns (lv + 1) m (pl l) (-2 ^ lv) (-2 ^ lv) := by
 refine ⟨hn, fun x y hq => ?_⟩
 have := h ⟨x - 2 ^ lv, y - 2 ^ lv⟩ (by
  unfold inQ at hq
  rw [p2s] at hq
  unfold inL
  rw [side_succ]
  simp only
  omega)
 simp only at this
 rw [show x - 2 ^ lv + 2 ^ lv = x by omega, show y - 2 ^ lv + 2 ^ lv = y by omega] at this
 rw [this]
 unfold pl
 rw [show x + -2 ^ lv = x - 2 ^ lv by omega, show y + -2 ^ lv = y - 2 ^ lv by omega]
end R9
namespace RL
def cropF (l : List Cell) (half : Int) : List Cell := l.filter fun c => decide (((-half ≤ c.x ∧ c.x < half) ∧ -half ≤ c.y) ∧ c.y < half)
def hset (raw : List Cell) : List Cell := R1.puts ((raw.take 40).map cell16)
end RL
end Go.GL


set_option linter.unusedVariables false
namespace Go.GL
open R6 R7
/-! ### A run stands for what is there behind so many generations -/
namespace R9
/-- All that is alive is so near. -/
def Supp (f : Int → Int → Bool) (a : Int) : Prop := ∀ x y, f x y = true → -a ≤ x ∧ x < a ∧ -a ≤ y ∧ y < a
theorem Supp.le {f : Int → Int → Bool} {a b : Int} (h : Supp f a) (hab : a ≤ b) : Supp f b := fun x y hf => by
 have := h x y hf
 omega
/-- A node of the level k + 2 in the middle, and nothing outside. -/
def Ctr (ns : List Node) (k : Nat) (n : Int) (f : Int → Int → Bool) : Prop := Std ns (k + 2) n f (-2 ^ (k + 1)) (-2 ^ (k + 1)) ∧ Supp f (2 ^ (k + 1))
theorem Ctr.pre {ns ms : List Node} (h : Wf ns) (hp : ns <+: ms) {k : Nat} {n : Int} {f : Int → Int → Bool} (hs : Ctr ns k n f) : Ctr ms k n f := ⟨hs.1.pre h hp, hs.2⟩
/-! #### grown -/
def nil2 : Int → Int → Bool := fun _ _ => false
theorem std_dead {ns : List Node} {lv : Nat} {d : Int} {f : Int → Int → Bool} {ox oy : Int} (hd : Std ns lv d nil2 0 0) (hf : ∀ x y, inQ lv x y → f (x + ox) (y + oy) = false) : Std ns lv d f ox oy :=
 ⟨hd.1, fun x y hq => by rw [hd.2 x y hq, hf x y hq]; rfl⟩
theorem std_kids {ns : List Node} (h : Wf ns) {lv : Nat} {n : Int} {f : Int → Int → Bool} {ox oy : Int} (hs : Std ns (lv + 1) n f ox oy) {q : Nat} (hq : q < 4) : Std ns lv ((nd ns n).kids.getD q default) f (ox + ((q % 2 : Nat) : Int) * 2 ^ lv) (oy + ((q / 2 : Nat) : Int) * 2 ^ lv) := by
 refine ⟨kids_getD h hs.1 hq, fun x y hxy => ?_⟩
 have hpos := p2pos lv
 have hk : ∀ a b : Int, (a = 0 ∨ a = 1) → (b = 0 ∨ b = 1) → al ns lv (R7.kid ns n (2 * b + a)) x y = f (x + (ox + a * 2 ^ lv)) (y + (oy + b * 2 ^ lv)) := fun a b ha hb => by
  rw [← al_kid ns hxy ha hb, hs.2 _ _ ?_]
  ·congr 1 <;> omega
  ·unfold inQ at hxy ⊢
   rw [p2s]
   rcases ha with rfl | rfl <;> rcases hb with rfl | rfl <;> omega
 match q, hq with
 | 0, _ => exact hk 0 0 (.inl rfl) (.inl rfl)
 | 1, _ => exact hk 1 0 (.inr rfl) (.inl rfl)
 | 2, _ => exact hk 0 1 (.inl rfl) (.inr rfl)
 | 3, _ => exact hk 1 1 (.inr rfl) (.inr rfl)
end R9
end Go.GL


set_option linter.unusedVariables false
namespace Go.GL
instance : Enc R1.Rect := ⟨fun r => [.int .i64 r.x, .int .i64 r.y, .int .i64 r.w, .int .i64 r.h], 4, fun _ => rfl, fun _ => rfl⟩
namespace R7
open R6
open R1 (Rect)
/-! ### The document's boxes -/
def jr (b q : Rect) (dx dy : Int) : Rect :=
 if q.w = 0 then b else if b.w = 0 then ⟨q.x + dx, q.y + dy, q.w, q.h⟩ else
 ⟨if q.x + dx < b.x then q.x + dx else b.x, if q.y + dy < b.y then q.y + dy else b.y,
  (if b.x + b.w < q.x + dx + q.w then q.x + dx + q.w else b.x + b.w) - (if q.x + dx < b.x then q.x + dx else b.x),
  (if b.y + b.h < q.y + dy + q.h then q.y + dy + q.h else b.y + b.h) - (if q.y + dy < b.y then q.y + dy else b.y)⟩
def rcx (ns : List Node) : Nat → Int → Rect
 | 0, n => ⟨0, 0, (nd ns n).pop, (nd ns n).pop⟩
 | m + 1, n => jr (jr (jr (jr ⟨0, 0, 0, 0⟩ (rcx ns m (nd ns n).k0) 0 0) (rcx ns m (nd ns n).k1) (2 ^ m) 0) (rcx ns m (nd ns n).k2) 0 (2 ^ m)) (rcx ns m (nd ns n).k3) (2 ^ m) (2 ^ m)
def EgR (w : Int) (b : Rect) : Prop := (0 ≤ b.x ∧ 0 < b.w ∧ b.x + b.w ≤ w ∧ 0 ≤ b.y ∧ 0 < b.h ∧ b.y + b.h ≤ w) ∨ (b.x = 0 ∧ b.y = 0 ∧ b.w = 0 ∧ b.h = 0)
theorem EgR.mono {w v : Int} {a : Rect} (ha : EgR w a) (h : w ≤ v) : EgR v a := by unfold EgR at *; omega
theorem EgR.jr {w v dx dy : Int} {b q : Rect} (hb : EgR w b) (hq : EgR v q) (hx : 0 ≤ dx) (hy : 0 ≤ dy) (h1 : v + dx ≤ w) (h2 : v + dy ≤ w) : EgR w (jr b q dx dy) := by
 unfold EgR R7.jr at *
 split
 ·exact hb
 ·split
  ·simp only; omega
  ·simp only
   repeat' split
   all_goals omega
/-- Two edges as a box. -/
def rcE (e f : Cell) : Rect := ⟨e.x, f.x, e.y - e.x, f.y - f.x⟩
theorem jr_rcE {w v dx dy : Int} {a b e f : Cell} (ha : Eg w a) (hb : Eg w b) (he : Eg v e) (hf : Eg v f) (h1 : a.x = a.y ↔ b.x = b.y) (h2 : e.x = e.y ↔ f.x = f.y) : jr (rcE a b) (rcE e f) dx dy = rcE (jn a e dx) (jn b f dy) := by
 unfold Eg at *
 by_cases he0 : e.x = e.y
 ·have hf0 := h2.1 he0
  have e1 : jr (rcE a b) (rcE e f) dx dy = rcE a b := if_pos (by show e.y - e.x = 0; omega)
  have e2 : jn a e dx = a := if_pos he0
  have e3 : jn b f dy = b := if_pos hf0
  rw [e1, e2, e3]
 ·have hf0 : ¬ f.x = f.y := fun k => he0 (h2.2 k)
  have e0 : ¬ (rcE e f).w = 0 := by show ¬ e.y - e.x = 0; omega
  by_cases ha0 : a.x = a.y
  ·have hb0 := h1.1 ha0
   have e1 : jr (rcE a b) (rcE e f) dx dy = ⟨e.x + dx, f.x + dy, e.y - e.x, f.y - f.x⟩ := (if_neg e0).trans (if_pos (by show a.y - a.x = 0; omega))
   have e2 : jn a e dx = ⟨e.x + dx, e.y + dx⟩ := (if_neg he0).trans (if_pos ha0)
   have e3 : jn b f dy = ⟨f.x + dy, f.y + dy⟩ := (if_neg hf0).trans (if_pos hb0)
   rw [e1, e2, e3]
   unfold rcE
   simp only [R1.Rect.mk.injEq, true_and]
   omega
  ·have hb0 : ¬ b.x = b.y := fun k => ha0 (h1.2 k)
   have e1 : jr (rcE a b) (rcE e f) dx dy = ⟨if e.x + dx < a.x then e.x + dx else a.x, if f.x + dy < b.x then f.x + dy else b.x, (if a.x + (a.y - a.x) < e.x + dx + (e.y - e.x) then e.x + dx + (e.y - e.x) else a.x + (a.y - a.x)) - (if e.x + dx < a.x then e.x + dx else a.x), (if b.x + (b.y - b.x) < f.x + dy + (f.y - f.x) then f.x + dy + (f.y - f.x) else b.x + (b.y - b.x)) - (if f.x + dy < b.x then f.x + dy else b.x)⟩ := (if_neg e0).trans (if_neg (by show ¬ a.y - a.x = 0; omega))
   have e2 : jn a e dx = ⟨if e.x + dx < a.x then e.x + dx else a.x, if a.y < e.y + dx then e.y + dx else a.y⟩ := (if_neg he0).trans (if_neg ha0)
   have e3 : jn b f dy = ⟨if f.x + dy < b.x then f.x + dy else b.x, if b.y < f.y + dy then f.y + dy else b.y⟩ := (if_neg hf0).trans (if_neg hb0)
   rw [e1, e2, e3]
   unfold rcE
   simp only [R1.Rect.mk.injEq, true_and]
   rw [show a.x + (a.y - a.x) = a.y by omega, show b.x + (b.y - b.x) = b.y by omega, show e.x + dx + (e.y - e.x) = e.y + dx by omega, show f.x + dy + (f.y - f.x) = f.y + dy by omega]
   exact ⟨rfl, rfl⟩
theorem rcx_ok {ns : List Node} (h : Wf ns) : ∀ (lv : Nat) (n : Int), IsN ns lv n → EgR (2 ^ lv) (rcx ns lv n) ∧ rcx ns lv n = rcE (ex ns true lv n) (ex ns false lv n)
 | 0, n, hn => by
  rcases isN0 h hn with rfl | rfl
  ·unfold rcx ex; rw [h.nd0]; exact ⟨.inr ⟨rfl, rfl, rfl, rfl⟩, rfl⟩
  ·unfold rcx ex; rw [h.nd1]; exact ⟨.inl ⟨by decide, by decide, by decide, by decide, by decide, by decide⟩, rfl⟩
 | m + 1, n, hn => by
  obtain ⟨a, b, c, d⟩ := kids4 h hn
  have hp := p2pos m
  obtain ⟨a1, a2⟩ := rcx_ok h m _ a
  obtain ⟨b1, b2⟩ := rcx_ok h m _ b
  obtain ⟨c1, c2⟩ := rcx_ok h m _ c
  obtain ⟨d1, d2⟩ := rcx_ok h m _ d
  have at' := ex_ok h true m _ a
  have bt := ex_ok h true m _ b
  have ct := ex_ok h true m _ c
  have dt := ex_ok h true m _ d
  have af := ex_ok h false m _ a
  have bf := ex_ok h false m _ b
  have cf := ex_ok h false m _ c
  have df := ex_ok h false m _ d
  unfold rcx
  rw [show ex ns true (m + 1) n = jn (jn (jn (jn ⟨0, 0⟩ (ex ns true m (nd ns n).k0) 0) (ex ns true m (nd ns n).k1) (2 ^ m)) (ex ns true m (nd ns n).k2) 0) (ex ns true m (nd ns n).k3) (2 ^ m) from rfl]
  rw [show ex ns false (m + 1) n = jn (jn (jn (jn ⟨0, 0⟩ (ex ns false m (nd ns n).k0) 0) (ex ns false m (nd ns n).k1) 0) (ex ns false m (nd ns n).k2) (2 ^ m)) (ex ns false m (nd ns n).k3) (2 ^ m) from rfl]
  rw [p2s]
  rw [a2] at a1 ⊢
  rw [b2] at b1 ⊢
  rw [c2] at c1 ⊢
  rw [d2] at d1 ⊢
  clear a2 b2 c2 d2
  generalize ex ns true m (nd ns n).k0 = t0 at *
  generalize ex ns true m (nd ns n).k1 = t1 at *
  generalize ex ns true m (nd ns n).k2 = t2 at *
  generalize ex ns true m (nd ns n).k3 = t3 at *
  generalize ex ns false m (nd ns n).k0 = f0 at *
  generalize ex ns false m (nd ns n).k1 = f1 at *
  generalize ex ns false m (nd ns n).k2 = f2 at *
  generalize ex ns false m (nd ns n).k3 = f3 at *
  generalize (2:Int) ^ m = w at *
  have z : Eg (w * 2) ⟨0, 0⟩ := .inr ⟨rfl, rfl⟩
  obtain ⟨s0, u0⟩ := z.jn (d := 0) at'.1 (by omega) (by omega)
  obtain ⟨s1, u1⟩ := s0.jn (d := w) bt.1 (by omega) (by omega)
  obtain ⟨s2, u2⟩ := s1.jn (d := 0) ct.1 (by omega) (by omega)
  obtain ⟨p0, v0⟩ := z.jn (d := 0) af.1 (by omega) (by omega)
  obtain ⟨p1, v1⟩ := p0.jn (d := 0) bf.1 (by omega) (by omega)
  obtain ⟨p2, v2⟩ := p1.jn (d := w) cf.1 (by omega) (by omega)
  have i0 : t0.x = t0.y ↔ f0.x = f0.y := at'.2.trans af.2.symm
  have i1 : t1.x = t1.y ↔ f1.x = f1.y := bt.2.trans bf.2.symm
  have i2 : t2.x = t2.y ↔ f2.x = f2.y := ct.2.trans cf.2.symm
  have i3 : t3.x = t3.y ↔ f3.x = f3.y := dt.2.trans df.2.symm
  have j0 := jr_rcE (dx := 0) (dy := 0) z z at'.1 af.1 Iff.rfl i0
  have k0 : (jn ⟨0, 0⟩ t0 0).x = (jn ⟨0, 0⟩ t0 0).y ↔ (jn ⟨0, 0⟩ f0 0).x = (jn ⟨0, 0⟩ f0 0).y := by rw [u0, v0, i0]
  have j1 := jr_rcE (dx := w) (dy := 0) s0 p0 bt.1 bf.1 k0 i1
  have k1 : (jn (jn ⟨0, 0⟩ t0 0) t1 w).x = (jn (jn ⟨0, 0⟩ t0 0) t1 w).y ↔ (jn (jn ⟨0, 0⟩ f0 0) f1 0).x = (jn (jn ⟨0, 0⟩ f0 0) f1 0).y := by rw [u1, v1, k0, i1]
  have j2 := jr_rcE (dx := 0) (dy := w) s1 p1 ct.1 cf.1 k1 i2
  have k2 : (jn (jn (jn ⟨0, 0⟩ t0 0) t1 w) t2 0).x = (jn (jn (jn ⟨0, 0⟩ t0 0) t1 w) t2 0).y ↔ (jn (jn (jn ⟨0, 0⟩ f0 0) f1 0) f2 w).x = (jn (jn (jn ⟨0, 0⟩ f0 0) f1 0) f2 w).y := by rw [u2, v2, k1, i2]
  have j3 := jr_rcE (dx := w) (dy := w) s2 p2 dt.1 df.1 k2 i3
  have zz : (⟨0, 0, 0, 0⟩ : Rect) = rcE ⟨0, 0⟩ ⟨0, 0⟩ := rfl
  have zr : EgR (w * 2) ⟨0, 0, 0, 0⟩ := .inr ⟨rfl, rfl, rfl, rfl⟩
  refine ⟨(((zr.jr a1 (by omega) (by omega) (by omega) (by omega)).jr b1 (by omega) (by omega) (by omega) (by omega)).jr c1 (by omega) (by omega) (by omega) (by omega)).jr d1 (by omega) (by omega) (by omega) (by omega), ?_⟩
  rw [zz, j0, j1, j2, j3]
def rcl (ns : List Node) (i : Nat) : List Rect := (List.range i).map fun j => rcx ns (ns.getD j default).lv.toNat j
theorem rcl_len (ns : List Node) (i : Nat) : (rcl ns i).length = i := by simp [rcl]
theorem rcl_at {ns : List Node} {i j : Nat} (hj : j < i) : (rcl ns i).getD j default = rcx ns (ns.getD j default).lv.toNat j := by simp [rcl, hj]
theorem rcl_succ (ns : List Node) (i : Nat) : rcl ns (i + 1) = rcl ns i ++ [rcx ns (ns.getD i default).lv.toNat i] := by
 unfold rcl
 rw [List.range_succ, List.map_append]
 rfl
end R7
end Go.GL


set_option linter.unusedVariables false
namespace Go.GL
open R6 R7
namespace R2
open R8 (b2i)
def at8 (c : Cell) (i j : Int) : Cell := ⟨c.x + i, c.y + j⟩
/-- How many of the eight about a cell are in a list. -/
def cntL (l : List Cell) (c : Cell) : Int := b2i (decide (at8 c (-1) (-1) ∈ l)) + b2i (decide (at8 c 0 (-1) ∈ l)) + b2i (decide (at8 c 1 (-1) ∈ l)) + b2i (decide (at8 c (-1) 0 ∈ l)) + b2i (decide (at8 c 1 0 ∈ l)) + b2i (decide (at8 c (-1) 1 ∈ l)) + b2i (decide (at8 c 0 1 ∈ l)) + b2i (decide (at8 c 1 1 ∈ l))
theorem mem_cands {l : List Cell} {d : Cell} : d ∈ cands l ↔ livesAt l d = true ∧ ∃ b ∈ l, ∃ k, k < 9 ∧ nb b k = d := by
 unfold cands about
 rw [List.mem_flatMap]
 constructor
 ·rintro ⟨b, hb, h⟩
  obtain ⟨h1, h2⟩ := List.mem_filter.1 h
  obtain ⟨k, hk, e⟩ := List.mem_map.1 h1
  exact ⟨h2, b, hb, k, List.mem_range.1 hk, e⟩
 ·rintro ⟨h, b, hb, k, hk, e⟩
  exact ⟨b, hb, List.mem_filter.2 ⟨List.mem_map.2 ⟨k, List.mem_range.2 hk, e⟩, h⟩⟩
/-- What 'next' tells. -/
theorem next_ok {l : List Cell} (h : R1.right l) (hb : ∀ c ∈ l, -1000000 ≤ c.x ∧ c.x ≤ 1000000 ∧ -1000000 ≤ c.y ∧ c.y ≤ 1000000) (hl : l.length ≤ 200) : next l = (R1.puts (cands l), 0) := by
 unfold next
 rw [if_pos h]
 refine R1.of_ok (fun d hd => ?_) ?_
 ·obtain ⟨_, b, hbm, k, hk, rfl⟩ := mem_cands.1 hd
  have := hb b hbm
  unfold R1.inB nb
  simp only
  omega
 ·have h1 := RL.puts_le (cands l)
  have h2 := cands_len l l
  have : cands l = l.flatMap (about l) := rfl
  rw [this] at h1
  rw [this]
  omega
end R2
namespace RL
open R8
def outside (c : Cell) : Prop := ((c.x < -2 ∨ 1 < c.x) ∨ c.y < -2) ∨ 1 < c.y
instance (c : Cell) : Decidable (outside c) := inferInstanceAs (Decidable (_ ∨ _))
def withOthers (l more : List Cell) : List Cell := (more.filter fun c => decide (outside c)).foldl R1.put l
end RL
end Go.GL


set_option linter.unusedVariables false
namespace Go.GL
open R6 R7
namespace R9
/-- An answer without an error. -/
def OkS (room : Int) (s : LS) (r : L9) : Prop := Lk room r.1 ∧ s.ns <+: r.1.ns ∧ MS r.1
theorem OkS.trans {room : Int} {s t : LS} {r : L9} (h : OkS room t r) (hp : s.ns <+: t.ns) : OkS room s r := ⟨h.1, hp.trans h.2.1, h.2.2⟩
theorem pow_le2 {a b : Nat} (h : a ≤ b) : (2 : Int) ^ a ≤ 2 ^ b := by
 induction b with
 | zero =>
  obtain rfl : a = 0 := by omega
  exact Int.le_refl _
 | succ b ih =>
  by_cases e : a = b + 1
  ·rw [e]; exact Int.le_refl _
  ·have := ih (by omega)
   have h2 := p2pos b
   rw [p2s' b]
   omega
/-- How many generations. -/
def total : List Nat → Nat
 | [] => 0
 | j :: js => 2 ^ j + total js
/-! #### the bits -/
def bitsN (c : Int) (m : Nat) : List Nat := (List.range m).filter fun i => decide (c / 2 ^ i % 2 = 1)
end R9
end Go.GL


set_option linter.unusedVariables false
namespace Go.GL
open R6 R7
namespace R9
/-- Trimmed. -/
def Trd (ns : List Node) (k : Nat) (n : Int) : Prop := k = 0 ∨ edged ns n = true
theorem edged_pre {ns ms : List Node} (h : Wf ns) (hp : ns <+: ms) {k : Nat} {n : Int} (hn : IsN ns (k + 2) n) : edged ms n = edged ns n := by
 unfold edged
 rw [R8.s16_pre h hp hn]
 have hi := s16_isN h hn
 have key : ∀ i : Int, 0 ≤ i → i < 16 → nd ms (R8.g (R8.s16 ns n) i) = nd ns (R8.g (R8.s16 ns n) i) := fun i a b => nd_pre hp (hi i a b).1
 simp only [List.any_cons, List.any_nil]
 rw [key 0 (by omega) (by omega), key 1 (by omega) (by omega), key 2 (by omega) (by omega), key 3 (by omega) (by omega), key 4 (by omega) (by omega), key 7 (by omega) (by omega), key 8 (by omega) (by omega), key 11 (by omega) (by omega), key 12 (by omega) (by omega), key 13 (by omega) (by omega), key 14 (by omega) (by omega), key 15 (by omega) (by omega)]
theorem Trd.pre {ns ms : List Node} (h : Wf ns) (hp : ns <+: ms) {k : Nat} {n : Int} (hn : IsN ns (k + 2) n) (ht : Trd ns k n) : Trd ms k n := ht.imp id fun e => by rw [edged_pre h hp hn]; exact e
theorem alive {ns : List Node} (h : Wf ns) : ∀ (lv : Nat) (n : Int), IsN ns lv n → (nd ns n).pop ≠ 0 → ∃ x y, inQ lv x y ∧ al ns lv n x y = true
 | 0, n, hn, hp => by
  rcases isN0 h hn with rfl | rfl
  ·exact absurd (by rw [h.nd0]; rfl) hp
  ·exact ⟨0, 0, ⟨by omega, by decide, by omega, by decide⟩, rfl⟩
 | lv + 1, n, hn, hp => by
  obtain ⟨a, b, c, d⟩ := kids4 h hn
  have hpos := p2pos lv
  have hk : ∀ (q : Int) (a b : Int), (a = 0 ∨ a = 1) → (b = 0 ∨ b = 1) → R7.kid ns n (2 * b + a) = q → (∃ x y, inQ lv x y ∧ al ns lv q x y = true) → ∃ x y, inQ (lv + 1) x y ∧ al ns (lv + 1) n x y = true := by
   rintro q a b ha hb hq ⟨x, y, h1, h2⟩
   refine ⟨x + a * 2 ^ lv, y + b * 2 ^ lv, ?_, ?_⟩
   ·unfold inQ at h1 ⊢
    rw [p2s]
    rcases ha with rfl | rfl <;> rcases hb with rfl | rfl <;> omega
   ·rw [al_kid ns h1 ha hb, hq]
    exact h2
  have hd := fun hc => hp ((dead_kids h hn).2 hc)
  by_cases e0 : (nd ns (nd ns n).k0).pop = 0
  ·by_cases e1 : (nd ns (nd ns n).k1).pop = 0
   ·by_cases e2 : (nd ns (nd ns n).k2).pop = 0
    ·exact hk _ 1 1 (.inr rfl) (.inr rfl) rfl (alive h lv _ d fun e3 => hd ⟨e0, e1, e2, e3⟩)
    ·exact hk _ 0 1 (.inl rfl) (.inr rfl) rfl (alive h lv _ c e2)
   ·exact hk _ 1 0 (.inr rfl) (.inl rfl) rfl (alive h lv _ b e1)
  ·exact hk _ 0 0 (.inl rfl) (.inl rfl) rfl (alive h lv _ a e0)
/-- What a run tells. -/
structure RunR (ns : List Node) (room : Int) (K : Nat) (n c : Int) (f : Int → Int → Bool) (p : List Node × Int × Int) : Prop where
 er : Er p.2.2
 right : R6.right p.1 room
 pre : ns <+: p.1
 ok : p.2.2 = 0 → ∃ k', k' ≤ K ∧ Ctr p.1 k' p.2.1 (gens c.toNat f) ∧ Trd p.1 k' p.2.1
 trim : p.2.2 = 0 → (trimS room ⟨ns, []⟩ n).2.2 = 0 ∧ (trimS room ⟨ns, []⟩ n).1.ns <+: p.1
/-! #### turned by half -/
def refl (f : Int → Int → Bool) : Int → Int → Bool := fun x y => f (-x) (-y)
end R9
end Go.GL


set_option linter.unusedVariables false
namespace Go.GL
/-! ### Generations of sets that lie in a box -/
namespace R2
open R9 (gen gens pl)
/-- Within a box. -/
def Bx (l : List Cell) (a b c d : Int) : Prop := ∀ e ∈ l, a ≤ e.x ∧ e.x ≤ b ∧ c ≤ e.y ∧ e.y ≤ d
theorem Bx.le {l : List Cell} {a b c d a' b' c' d' : Int} (h : Bx l a b c d) (h1 : a' ≤ a) (h2 : b ≤ b') (h3 : c' ≤ c) (h4 : d ≤ d') : Bx l a' b' c' d' := fun e he => by
 have := h e he
 omega
/-- So many generations. -/
def iter : Nat → List Cell → List Cell × Int
 | 0, l => (l, 0)
 | n + 1, l => if (next l).2 ≠ 0 then ([], (next l).2) else iter n (next l).1
def run (l : List Cell) (n : Int) : List Cell × Int := if R1.right l ∧ 0 ≤ n ∧ n ≤ 1000 then iter n.toNat l else ([], 1)
end R2
end Go.GL


set_option linter.unusedVariables false
namespace Go.GL
/-! ### Layer 19, as the document has it -/
namespace R19
/-- The i-th task's parent is one. -/
def okAt (l : List Int) (i : Nat) : Prop := (i = 0 → l.getD i default = -1) ∧ (0 < i → 0 ≤ l.getD i default ∧ l.getD i default < i)
instance (l : List Int) (i : Nat) : Decidable (okAt l i) := inferInstanceAs (Decidable (_ ∧ _))
def right (l : List Int) : Prop := (1 ≤ l.length ∧ l.length ≤ 300) ∧ ∀ i, i < l.length → okAt l i
instance (l : List Int) : Decidable (right l) := inferInstanceAs (Decidable (_ ∧ _))
end R19
end Go.GL
namespace Go.GL
namespace R19
/-! ### What the laws make of raw numbers -/
def treeF (raw : List Int) (i : Nat) : List Int := -1 :: (List.range i).map fun j => pk (raw.getD j default) ((j : Int) + 1)
def tree (raw : List Int) : List Int := treeF raw (if raw.length < 39 then raw.length else 39)
def valAt (raw : List Int) (j : Nat) : Int := if j < raw.length then pk (raw.getD j default) 1000 - 300 else j
def vals (raw : List Int) (n : Nat) : List Int := (List.range n).map (valAt raw)
end R19
end Go.GL
namespace Go.GL
/-- How far a task is. -/
structure Frame where
 par : Int
 a : Option Addr
 len : Nat
 cap : Nat
 sum : Int
 left : Int
 deriving Inhabited
instance : Enc Frame := ⟨fun s => [.int .i64 s.par, .slice s.a s.len s.cap, .int .i64 s.sum, .int .i64 s.left], 4, fun _ => rfl, fun _ => rfl⟩
namespace R19
/-- The kids of t among the first i tasks. -/
def kidsTo (p : List Int) (i : Nat) (t : Nat) : List Int := ((List.range i).filter fun j => decide (p.getD j default = (t : Int))).map fun (j : Nat) => (j : Int)
def kids (p : List Int) (t : Nat) : List Int := kidsTo p p.length t
end R19
end Go.GL
namespace Go.GL
namespace R19
def add1 (fs : List Frame) (p t : Nat) : List Frame := fs.set p { fs.getD p default with sum := IntKind.i64.wrap ((fs.getD p default).sum + (fs.getD t default).sum) }
def less1 (fs : List Frame) (p : Nat) : List Frame := fs.set p { fs.getD p default with left := IntKind.i64.wrap ((fs.getD p default).left - 1) }
/-- A task is done: its parent is told; is the first one done? -/
def joinM : Nat → List Frame → Nat → List Frame × Bool
 | 0, fs, _ => (fs, false)
 | f + 1, fs, t =>
  if (fs.getD t default).par < 0 then (fs, true) else
  if ((less1 (add1 fs (fs.getD t default).par.toNat t) (fs.getD t default).par.toNat).getD (fs.getD t default).par.toNat default).left = 0 then joinM f (less1 (add1 fs (fs.getD t default).par.toNat t) (fs.getD t default).par.toNat) (fs.getD t default).par.toNat
  else (less1 (add1 fs (fs.getD t default).par.toNat t) (fs.getD t default).par.toNat, false)
end R19
end Go.GL
namespace Go.GL
namespace R19
/-! ### Deques -/
/-- Where the first deque is that is not empty, from the j-th one behind w on. -/
def findF (D : List (List Int)) (w : Nat) : Nat → Nat → Option Nat
 | 0, _ => none
 | f + 1, j => if (D.getD ((w + j) % D.length) default).length = 0 then findF D w f (j + 1) else some ((w + j) % D.length)
/-- The task that a worker takes, and what is left. -/
def takeM (D : List (List Int)) (w : Nat) : Int × List (List Int) :=
 if 0 < (D.getD w default).length then ((D.getD w default).getD ((D.getD w default).length - 1) default, D.set w ((D.getD w default).take ((D.getD w default).length - 1)))
 else match findF D w D.length 0 with
  | some k => ((D.getD k default).getD 0 default, D.set k ((D.getD k default).drop 1))
  | none => (-1, D)
end R19
end Go.GL


set_option linter.unusedVariables false
namespace Go.GL
/-! ### Layer 11, as the document has it -/
namespace R11
/-- Those that are left, from the i-th one on. -/
def allF : Nat → List Int → List Int
 | _, [] => []
 | i, n :: l => if 0 < n then (i : Int) :: allF (i + 1) l else allF (i + 1) l
def all (left : List Int) : List Int := allF 0 left
/-- Where the first one is of which p is true. -/
def idx (p : Int → Bool) (l : List Int) : Int := if l.findIdx p < l.length then (l.findIdx p : Int) else -1
def round (a : List Int) (last : Int) : Int := if 0 ≤ idx (fun i => decide (last < i)) a ∧ 0 ≤ last then a.getD (idx (fun i => decide (last < i)) a).toNat default else a.getD 0 default
def next (picks : List Int) (step : Int) (left : List Int) (last : Int) : Int :=
 if (all left).length = 0 then -1 else
 if 0 ≤ step ∧ step < picks.length then (all left).getD (pk (picks.getD step.toNat default) (all left).length).toNat default
 else round (all left) last
def dec (left : List Int) (i : Int) : List Int := left.set i.toNat (left.getD i.toNat default - 1)
def turnsF (picks : List Int) : Nat → Nat → List Int → Int → List Int
 | 0, _, _, _ => []
 | f + 1, s, left, last => if next picks s left last < 0 then [] else next picks s left last :: turnsF picks f (s + 1) (dec left (next picks s left last)) (next picks s left last)
def turns (picks left : List Int) : List Int := turnsF picks 100000 0 left (-1)
theorem allF_mem : ∀ {l : List Int} {i : Nat} {q : Int}, q ∈ allF i l ↔ ∃ j : Nat, j < l.length ∧ q = ((i + j : Nat) : Int) ∧ 0 < l.getD j default
 | [], i, q => by simp [allF]
 | n :: l, i, q => by
  have ih := allF_mem (l := l) (i := i + 1) (q := q)
  have key : (∃ j : Nat, j < (n :: l).length ∧ q = ((i + j : Nat) : Int) ∧ 0 < (n :: l).getD j default) ↔ (q = (i : Int) ∧ 0 < n) ∨ ∃ j : Nat, j < l.length ∧ q = ((i + 1 + j : Nat) : Int) ∧ 0 < l.getD j default := by
   constructor
   ·rintro ⟨j, h1, h2, h3⟩
    cases j with
    | zero => exact .inl ⟨by simpa using h2, by simpa using h3⟩
    | succ j => exact .inr ⟨j, by simpa using h1, by rw [h2]; omega, by simpa using h3⟩
   ·rintro (⟨h1, h2⟩ | ⟨j, h1, h2, h3⟩)
    ·exact ⟨0, by simp, by simpa using h1, by simpa using h2⟩
    ·exact ⟨j + 1, by simpa using h1, by rw [h2]; omega, by simpa using h3⟩
  rw [key, ← ih]
  simp only [allF]
  split
  ·rename_i h
   simp [h]
  ·rename_i h
   simp [h]
theorem mem_all {l : List Int} {q : Int} : q ∈ all l ↔ 0 ≤ q ∧ q < l.length ∧ 0 < l.getD q.toNat default := by
 unfold all
 rw [allF_mem]
 constructor
 ·rintro ⟨j, h1, rfl, h3⟩
  refine ⟨by omega, by omega, ?_⟩
  simpa using h3
 ·rintro ⟨h1, h2, h3⟩
  exact ⟨q.toNat, by omega, by omega, h3⟩
theorem allF_srt : ∀ (l : List Int) (i : Nat), (allF i l).Pairwise (· < ·) ∧ ∀ q ∈ allF i l, (i : Int) ≤ q
 | [], i => by simp [allF]
 | n :: l, i => by
  have ih := allF_srt l (i + 1)
  simp only [allF]
  split
  ·refine ⟨List.pairwise_cons.2 ⟨fun q hq => ?_, ih.1⟩, fun q hq => ?_⟩
   ·have := ih.2 q hq
    omega
   ·rcases List.mem_cons.1 hq with rfl | hq
    ·exact Int.le_refl _
    ·have := ih.2 q hq
     omega
  ·exact ⟨ih.1, fun q hq => by have := ih.2 q hq; omega⟩
theorem all_srt (l : List Int) : (all l).Pairwise (· < ·) := (allF_srt l 0).1
theorem dec_len (l : List Int) (i : Int) : (dec l i).length = l.length := by simp [dec]
theorem idx_some {p : Int → Bool} {l : List Int} (h : 0 ≤ idx p l) : (idx p l).toNat < l.length ∧ p (l.getD (idx p l).toNat default) = true ∧ ∀ j, j < (idx p l).toNat → p (l.getD j default) = false := by
 unfold idx at *
 split at h
 ·rename_i hl
  rw [if_pos hl]
  refine ⟨by simpa using hl, ?_, ?_⟩
  ·have := List.findIdx_getElem (w := hl)
   simpa [hl] using this
  ·intro j hj
   have hj' : j < l.findIdx p := by simpa using hj
   have := List.not_of_lt_findIdx hj'
   simpa [Nat.lt_trans hj' hl] using this
 ·omega
theorem idx_none {p : Int → Bool} {l : List Int} (h : ¬ 0 ≤ idx p l) : ∀ x ∈ l, p x = false := by
 unfold idx at h
 split at h
 ·omega
 ·rename_i hl
  intro x hx
  have := List.findIdx_eq_length.1 (Nat.le_antisymm List.findIdx_le_length (Nat.not_lt.1 hl)) x hx
  simpa using this
/-- The next one round. -/
theorem round_ok {a : List Int} {last : Int} (hs : a.Pairwise (· < ·)) (h0 : ∀ q ∈ a, 0 ≤ q) (hn : a ≠ []) (hl : -1 ≤ last) : round a last ∈ a ∧ ((last < round a last ∧ ∀ j ∈ a, last < j → round a last ≤ j) ∨ ((∀ j ∈ a, j ≤ last) ∧ ∀ j ∈ a, round a last ≤ j)) := by
 have hpos : 0 < a.length := List.length_pos_iff.2 hn
 have hle : ∀ i j, (hij : i ≤ j) → (hj : j < a.length) → a[i]'(by omega) ≤ a[j] := fun i j hij hj => by
  rcases Nat.lt_or_eq_of_le hij with h | rfl
  ·have := List.pairwise_iff_getElem.1 hs i j (by omega) hj h
   omega
  ·exact Int.le_refl _
 have first : ∀ j ∈ a, a.getD 0 default ≤ j := fun j hj => by
  obtain ⟨i, hi, rfl⟩ := List.getElem_of_mem hj
  have := hle 0 i (by omega) hi
  simpa [hpos] using this
 have m0 : a.getD 0 default ∈ a := by simp [hpos]
 unfold round
 split
 ·rename_i h
  obtain ⟨h1, h2, h3⟩ := idx_some h.1
  generalize (idx (fun i => decide (last < i)) a).toNat = k at *
  refine ⟨by simp [h1], .inl ⟨by simpa using h2, fun j hj hlt => ?_⟩⟩
  obtain ⟨i, hi, rfl⟩ := List.getElem_of_mem hj
  by_cases e : i < k
  ·have := h3 i e
   simp [hi] at this
   omega
  ·have := hle k i (by omega) hi
   simpa [h1] using this
 ·rename_i h
  refine ⟨m0, ?_⟩
  by_cases hlast : 0 ≤ last
  ·have hx := idx_none (fun x => h ⟨x, hlast⟩)
   exact .inr ⟨fun j hj => by have := hx j hj; simpa using this, first⟩
  ·exact .inl ⟨by have := h0 _ m0; omega, fun j hj _ => first j hj⟩
theorem getD_mem {l : List Int} {i : Nat} (h : i < l.length) : l.getD i default ∈ l := by
 rw [List.getD_eq_getElem?_getD, List.getElem?_eq_getElem h]
 exact List.getElem_mem h
theorem next_none {picks left : List Int} {step last : Int} (h : next picks step left last < 0) : all left = [] := by
 unfold next at h
 split at h
 ·rename_i hl; exact List.length_eq_zero_iff.1 hl
 ·rename_i hl
  exfalso
  have hmem : ∀ q ∈ all left, 0 ≤ q := fun q hq => (mem_all.1 hq).1
  have hpos : 0 < (all left).length := by omega
  split at h
  ·have := pk_bd (c := picks.getD step.toNat default) (n := (all left).length) (by omega)
   have hi : (pk (picks.getD step.toNat default) (all left).length).toNat < (all left).length := by omega
   have := hmem _ (getD_mem hi)
   omega
  ·unfold round at h
   split at h
   ·rename_i hk
    have hi := (idx_some hk.1).1
    have := hmem _ (getD_mem hi)
    omega
   ·have := hmem _ (getD_mem hpos)
    omega
theorem next_mem {picks left : List Int} {step last : Int} (h : ¬ next picks step left last < 0) : next picks step left last ∈ all left := by
 unfold next at *
 split at h
 ·exact absurd (by omega) h
 ·rename_i hl
  rw [if_neg hl]
  have hpos : 0 < (all left).length := by omega
  split
  ·have := pk_bd (c := picks.getD step.toNat default) (n := (all left).length) (by omega)
   have hi : (pk (picks.getD step.toNat default) (all left).length).toNat < (all left).length := by omega
   exact getD_mem hi
  ·unfold round
   split
   ·rename_i hk
    exact getD_mem (idx_some hk.1).1
   ·exact getD_mem hpos
theorem next_ok {picks left : List Int} {step last : Int} (h : ¬ next picks step left last < 0) : 0 ≤ next picks step left last ∧ next picks step left last < left.length ∧ 0 < left.getD (next picks step left last).toNat default := mem_all.1 (next_mem h)
end R11
end Go.GL


set_option linter.unusedVariables false
namespace Go.GL
/-! ### Turns: who is next, one behind the other -/
namespace R11
def tot (l : List Int) : Nat := (l.map Int.toNat).sum
def Nn (l : List Int) : Prop := ∀ x ∈ l, 0 ≤ x
theorem Nn.at {l : List Int} (h : Nn l) (i : Nat) : 0 ≤ l.getD i default := by
 by_cases hi : i < l.length
 ·exact h _ (getD_mem hi)
 ·rw [List.getD_eq_getElem?_getD, List.getElem?_eq_none (by omega)]; exact Int.le_refl _
theorem tot_set : ∀ (l : List Int) (i : Nat), i < l.length → 0 < l.getD i default → tot (l.set i (l.getD i default - 1)) + 1 = tot l
 | [], i, h, _ => absurd h (by simp)
 | x :: l, 0, _, h => by
  simp only [List.getD_cons_zero] at h
  simp only [List.set_cons_zero, List.getD_cons_zero, tot, List.map_cons, List.sum_cons]
  omega
 | x :: l, i + 1, h, h2 => by
  have := tot_set l i (by simpa using h) (by simpa using h2)
  simp only [List.set_cons_succ, List.getD_cons_succ, tot, List.map_cons, List.sum_cons] at this ⊢
  omega
theorem dec_tot {l : List Int} {i : Int} (h : 0 ≤ i ∧ i < l.length ∧ 0 < l.getD i.toNat default) : tot (dec l i) + 1 = tot l := tot_set l i.toNat (by omega) h.2.2
theorem dec_nn {l : List Int} (hl : Nn l) {i : Int} (h : 0 ≤ i ∧ i < l.length ∧ 0 < l.getD i.toNat default) : Nn (dec l i) := by
 intro x hx
 unfold dec at hx
 rcases List.mem_or_eq_of_mem_set hx with hx | rfl
 ·exact hl x hx
 ·omega
theorem dec_get {l : List Int} {i : Int} (h : 0 ≤ i ∧ i < l.length) (w : Nat) : (dec l i).getD w default = if (w : Int) = i then l.getD w default - 1 else l.getD w default := by
 unfold dec
 rw [List.getD_eq_getElem?_getD, List.getElem?_set, List.getD_eq_getElem?_getD]
 by_cases e : i.toNat = w
 ·subst e
  rw [if_pos rfl, if_pos (by omega), if_pos (by omega)]
  rfl
 ·rw [if_neg e, if_neg (by omega), List.getD_eq_getElem?_getD]
/-- The turns go on from the i-th one, with so much left, behind the last one. -/
structure Go (picks l : List Int) (i : Nat) (now : List Int) (last : Int) : Prop where
 run : l.drop i = turnsF picks (100000 - i) i now last
 nn : Nn now
 lim : tot now + i < 100000
theorem Go.start {picks left : List Int} (h : Nn left) (ht : tot left < 100000) : Go picks (turns picks left) 0 left (-1) := ⟨rfl, h, by omega⟩
theorem drop_getD {l : List Int} {i : Nat} (h : i < l.length) : l.drop i = l.getD i default :: l.drop (i + 1) := by
 rw [List.drop_eq_getElem_cons h]; simp [h]
theorem Go.step {picks l now : List Int} {i : Nat} {last : Int} (h : Go picks l i now last) (hi : i < l.length) :
  next picks i now last = l.getD i default ∧ (0 ≤ l.getD i default ∧ l.getD i default < now.length ∧ 0 < now.getD (l.getD i default).toNat default) ∧ Go picks l (i + 1) (dec now (l.getD i default)) (l.getD i default) := by
 have hr := h.run
 have hl := h.lim
 obtain ⟨f, hf⟩ : ∃ f, 100000 - i = f + 1 := ⟨100000 - i - 1, by omega⟩
 rw [hf, drop_getD hi] at hr
 unfold turnsF at hr
 split at hr
 ·cases hr
 ·rename_i hn
  injection hr with h1 h2
  have hok := next_ok hn
  rw [h1]
  refine ⟨rfl, hok, ?_, dec_nn h.nn hok, ?_⟩
  ·rw [h2, show 100000 - (i + 1) = f by omega]
  ·have := dec_tot hok
   omega
/-- How often a worker has had its turn. -/
def cnt (l : List Int) (i : Nat) (w : Int) : Nat := ((l.take i).filter fun x => decide (x = w)).length
theorem cnt_zero (l : List Int) (w : Int) : cnt l 0 w = 0 := rfl
theorem cnt_succ {l : List Int} {i : Nat} (hi : i < l.length) (w : Int) : cnt l (i + 1) w = cnt l i w + if l.getD i default = w then 1 else 0 := by
 unfold cnt
 rw [List.take_succ_eq_append_getElem hi, List.filter_append, List.length_append, show l.getD i default = l[i] by simp [hi]]
 by_cases e : l[i] = w <;> simp [e]
/-- What is left of each. -/
structure Had (left l : List Int) (i : Nat) (now : List Int) : Prop where
 len : now.length = left.length
 had : ∀ w : Nat, now.getD w default + cnt l i w = left.getD w default
theorem Had.start (left l : List Int) : Had left l 0 left := ⟨rfl, fun w => by rw [cnt_zero]; omega⟩
theorem Had.step {left l now : List Int} {i : Nat} (h : Had left l i now) (hi : i < l.length) (hk : 0 ≤ l.getD i default ∧ l.getD i default < now.length) : Had left l (i + 1) (dec now (l.getD i default)) := by
 refine ⟨by rw [dec_len, h.len], fun w => ?_⟩
 have := h.had w
 rw [dec_get hk, cnt_succ hi]
 by_cases e : (w : Int) = l.getD i default
 ·rw [if_pos e, if_pos e.symm]; omega
 ·rw [if_neg e, if_neg (Ne.symm e)]; omega
/-! #### none waits long -/
/-- How far it is from the last one on to another, round. -/
def far (n : Nat) (last w : Int) : Int := if last < w then w - last else w - last + n
theorem far_bd {n : Nat} {last w : Int} (h1 : -1 ≤ last) (h2 : last < n) (h3 : 0 ≤ w) (h4 : w < n) : 1 ≤ far n last w ∧ far n last w ≤ n := by unfold far; split <;> omega
theorem far_next {now : List Int} {last w : Int} (h1 : -1 ≤ last) (h2 : last < now.length) (hw : w ∈ all now) (hne : round (all now) last ≠ w) : far now.length (round (all now) last) w + 1 ≤ far now.length last w := by
 have hb := mem_all.1 hw
 have hne' : all now ≠ [] := fun e => by rw [e] at hw; cases hw
 obtain ⟨hm, h | h⟩ := round_ok (all_srt now) (fun q hq => (mem_all.1 hq).1) hne' h1
 ·have hmb := mem_all.1 hm
  have := h.2 w hw
  unfold far
  split <;> split <;> omega
 ·have hmb := mem_all.1 hm
  have := h.1 w hw
  have := h.2 w hw
  unfold far
  split <;> split <;> omega
theorem next_round {picks now : List Int} {i : Nat} {last : Int} (hi : picks.length ≤ i) (hn : ¬ next picks i now last < 0) : next picks i now last = round (all now) last := by
 unfold next at *
 split at hn
 ·exact absurd (by omega) hn
 ·rename_i h
  rw [if_neg h, if_neg (by omega)]
/-! #### workers go round -/
/-- All that are left have had as many turns, but that those behind the last one have had one less. -/
structure Rnd (l now : List Int) (i : Nat) (last : Int) (r : Nat) : Prop where
 le : ∀ w : Nat, cnt l i w ≤ r
 hi : ∀ w : Nat, 0 < now.getD w default → (w : Int) ≤ last → cnt l i w = r
 lo : ∀ w : Nat, 0 < now.getD w default → last < (w : Int) → cnt l i w + 1 = r
 lb : -1 ≤ last
theorem Rnd.step {l now : List Int} {i r : Nat} {last : Int} (h : Rnd l now i last r) (hi : i < l.length) (hk : l.getD i default = round (all now) last) (hne : all now ≠ []) : ∃ r', Rnd l (dec now (l.getD i default)) (i + 1) (l.getD i default) r' := by
 have hr := round_ok (all_srt now) (fun q hq => (mem_all.1 hq).1) hne h.lb
 rw [← hk] at hr
 obtain ⟨hm, hr⟩ := hr
 have hmb := mem_all.1 hm
 have hk2 : 0 ≤ l.getD i default ∧ l.getD i default < now.length := ⟨hmb.1, hmb.2.1⟩
 have live : ∀ w : Nat, 0 < (dec now (l.getD i default)).getD w default → 0 < now.getD w default := fun w hw => by
  rw [dec_get hk2] at hw
  split at hw <;> omega
 have mem : ∀ w : Nat, 0 < now.getD w default → (w : Int) ∈ all now := fun w hw => by
  have hlt : w < now.length := by
   apply Decidable.byContradiction
   intro hx
   rw [List.getD_eq_getElem?_getD, List.getElem?_eq_none (by omega)] at hw
   exact absurd hw (by decide)
  exact mem_all.2 ⟨by omega, by omega, by simpa using hw⟩
 generalize hkk : l.getD i default = k at *
 have hkn : ((k.toNat : Nat) : Int) = k := by omega
 have hkc : 0 < now.getD k.toNat default := hmb.2.2
 have ck := cnt_succ hi
 rw [hkk] at ck
 rcases hr with hr | hr
 ·refine ⟨r, ⟨fun w => ?_, fun w hw hle => ?_, fun w hw hlt => ?_, by omega⟩⟩
  ·rw [ck]
   have := h.le w
   split
   ·rename_i e
    have h1 := h.lo w (by rw [show w = k.toNat by omega]; exact hkc) (by omega)
    omega
   ·omega
  ·rw [ck]
   have hl := live w hw
   split
   ·rename_i e
    have h1 := h.lo w hl (by omega)
    omega
   ·rename_i e
    by_cases hlast : (w : Int) ≤ last
    ·exact h.hi w hl hlast
    ·have := hr.2 w (mem w hl) (by omega)
     omega
  ·rw [ck]
   have hl := live w hw
   rw [if_neg (by omega)]
   exact h.lo w hl (by omega)
 ·refine ⟨r + 1, ⟨fun w => ?_, fun w hw hle => ?_, fun w hw hlt => ?_, by omega⟩⟩
  ·rw [ck]
   have := h.le w
   split <;> omega
  ·rw [ck]
   have hl := live w hw
   have h1 := hr.1 w (mem w hl)
   have h2 := hr.2 w (mem w hl)
   have h3 := h.hi w hl h1
   rw [if_pos (by omega)]
   omega
  ·rw [ck]
   have hl := live w hw
   have h1 := hr.1 w (mem w hl)
   have h3 := h.hi w hl h1
   rw [if_neg (by omega)]
   omega
theorem Rnd.start (l left : List Int) : Rnd l left 0 (-1) 1 := ⟨fun w => by rw [cnt_zero]; omega, fun w _ h => by omega, fun w _ _ => by rw [cnt_zero], by omega⟩
end R11
end Go.GL


set_option linter.unusedVariables false
namespace Go.GL
namespace R11
/-! #### none waits longer than for as many turns as there are workers -/
structure Wt (picks left l : List Int) (w : Nat) (i : Nat) (now : List Int) (last waits : Int) : Prop where
 go : Go picks l i now last
 hd : Had left l i now
 lb : -1 ≤ last
 ub : last < left.length
 w0 : 0 ≤ waits
 wn : waits ≤ left.length
 fr : 0 < now.getD w default → waits + far left.length last w ≤ left.length
 zr : i ≤ picks.length → waits = 0
theorem getD_pos {l : List Int} {w : Nat} (h : 0 < l.getD w default) : w < l.length := by
 apply Decidable.byContradiction
 intro hx
 rw [List.getD_eq_getElem?_getD, List.getElem?_eq_none (by omega)] at h
 exact absurd h (by decide)
theorem Wt.start {picks left : List Int} (h : Nn left) (ht : tot left < 100000) (w : Nat) : Wt picks left (turns picks left) w 0 left (-1) 0 :=
 ⟨Go.start h ht, Had.start _ _, by omega, by omega, by omega, by omega, fun hw => by
  have := getD_pos hw
  unfold far
  split <;> omega, fun _ => rfl⟩
theorem Wt.step {picks left l now : List Int} {w i : Nat} {last waits : Int} (h : Wt picks left l w i now last waits) (hi : i < l.length) :
  ∃ now' last', (l.getD i default = w → Wt picks left l w (i + 1) now' last' 0) ∧
   (l.getD i default ≠ w → picks.length ≤ i → (cnt l i w : Int) < left.getD w default → Wt picks left l w (i + 1) now' last' (waits + 1)) ∧
   (l.getD i default ≠ w → ¬ (picks.length ≤ i ∧ (cnt l i w : Int) < left.getD w default) → Wt picks left l w (i + 1) now' last' waits) := by
 obtain ⟨hnx, hok, hg⟩ := h.go.step hi
 have hh := h.hd.step hi ⟨hok.1, hok.2.1⟩
 have hlen := h.hd.len
 have hlast : last < now.length := by rw [hlen]; exact h.ub
 have hw0 := h.w0
 have hdec : ∀ hne : l.getD i default ≠ w, (dec now (l.getD i default)).getD w default = now.getD w default := fun hne => by
  rw [dec_get ⟨hok.1, hok.2.1⟩, if_neg (fun e => hne e.symm)]
 have hnow : ∀ hc : 0 < now.getD w default, (cnt l i w : Int) < left.getD w default := fun hc => by
  have := h.hd.had w
  omega
 refine ⟨dec now (l.getD i default), l.getD i default, fun e => ?_, fun hne hp hc => ?_, fun hne hc => ?_⟩
 ·refine ⟨hg, hh, by omega, by omega, by omega, by omega, fun hw => ?_, fun _ => rfl⟩
  rw [e]
  unfold far
  split <;> omega
 ·have hpos : 0 < now.getD w default := by
   have := h.hd.had w
   omega
  have hf := h.fr hpos
  have hwl := getD_pos hpos
  have hm : (w : Int) ∈ all now := mem_all.2 ⟨by omega, by omega, by simpa using hpos⟩
  have hr := next_round (picks := picks) (now := now) (last := last) hp (by rw [hnx]; omega)
  rw [hnx] at hr
  have hfar := far_next h.lb hlast hm (by rw [← hr]; exact hne)
  rw [← hr, hlen] at hfar
  have hb := far_bd (n := left.length) (last := l.getD i default) (w := w) (by omega) (by omega) (by omega) (by omega)
  refine ⟨hg, hh, by omega, by omega, by omega, by omega, fun _ => by omega, fun hp2 => by omega⟩
 ·refine ⟨hg, hh, by omega, by omega, h.w0, h.wn, fun hw => ?_, fun hp2 => h.zr (by omega)⟩
  rw [hdec hne] at hw
  have h1 := hnow hw
  have h2 := h.zr (by omega)
  have hwl := getD_pos hw
  have hb := far_bd (n := left.length) (last := l.getD i default) (w := w) (by omega) (by omega) (by omega) (by omega)
  omega
/-! #### workers go round -/
/-! #### each order is told by some picks -/
def rank : List Int → Nat → Nat
 | [], _ => 0
 | _ :: _, 0 => 0
 | n :: l, t + 1 => (if 0 < n then 1 else 0) + rank l t
/-- How many turns each of n workers has from the i-th one on. -/
def nowAt (n : Nat) (T : List Int) (i : Nat) : List Int := (List.range n).map fun (k : Nat) => (((T.drop i).filter fun x => decide (x = (k : Int))).length : Int)
def picksAt (n : Nat) (T : List Int) (i : Nat) : List Int := (List.range i).map fun j => (rank (nowAt n T j) (T.getD j default).toNat : Int)
/-! #### a worker without steps -/
def ins (l : List Int) (k : Nat) : List Int := l.take k ++ 0 :: l.drop k
def sh (k : Nat) (x : Int) : Int := if (k : Int) ≤ x then x + 1 else x
end R11
end Go.GL


set_option linter.unusedVariables false
namespace Go.GL
theorem nodup_le {α : Type} [DecidableEq α] : ∀ (a b : List α), a.Nodup → (∀ x ∈ a, x ∈ b) → a.length ≤ b.length
 | [], _, _, _ => Nat.zero_le _
 | x :: a, b, hn, hs => by
  obtain ⟨h1, h2⟩ := List.nodup_cons.1 hn
  have hx := hs x List.mem_cons_self
  have h3 := nodup_le a (b.erase x) h2 fun y hy => by
   have : y ≠ x := fun e => h1 (e ▸ hy)
   exact (List.mem_erase_of_ne this).2 (hs y (List.mem_cons_of_mem _ hy))
  have h4 := List.length_erase_of_mem hx
  have h5 : 0 < b.length := List.length_pos_of_mem hx
  rw [List.length_cons]
  omega
/-- The numbers below n. -/
def upto (n : Nat) : List Int := (List.range n).map fun (i : Nat) => (i : Int)
theorem mem_upto {n : Nat} {x : Int} : x ∈ upto n ↔ 0 ≤ x ∧ x < n := by
 unfold upto
 rw [List.mem_map]
 constructor
 ·rintro ⟨i, hi, rfl⟩
  have := List.mem_range.1 hi
  omega
 ·intro h
  exact ⟨x.toNat, List.mem_range.2 (by omega), by omega⟩
theorem upto_nd (n : Nat) : (upto n).Nodup := by
 unfold upto
 rw [List.Nodup, List.pairwise_map]
 exact (List.nodup_range (n := n)).imp fun h e => h (by omega)
theorem upto_len (n : Nat) : (upto n).length = n := by simp [upto]
namespace R19
variable {p v : List Int}
/-! ### Kids -/
theorem mem_kids {t : Nat} {x : Int} : x ∈ kids p t ↔ 0 ≤ x ∧ x < p.length ∧ p.getD x.toNat default = (t : Int) := by
 unfold kids kidsTo
 rw [List.mem_map]
 constructor
 ·rintro ⟨i, hi, rfl⟩
  obtain ⟨h1, h2⟩ := List.mem_filter.1 hi
  have := List.mem_range.1 h1
  exact ⟨by omega, by omega, of_decide_eq_true h2⟩
 ·rintro ⟨h0, h1, h2⟩
  exact ⟨x.toNat, List.mem_filter.2 ⟨List.mem_range.2 (by omega), decide_eq_true h2⟩, by omega⟩
theorem kids_nd (p : List Int) (t : Nat) : (kids p t).Nodup := by
 unfold kids kidsTo
 rw [List.Nodup, List.pairwise_map]
 exact ((List.nodup_range (n := p.length)).filter _).imp fun h e => h (by omega)
theorem kid_gt (hr : right p) {t : Nat} {x : Int} (h : x ∈ kids p t) : (t : Int) < x := by
 obtain ⟨h0, h1, h2⟩ := mem_kids.1 h
 obtain ⟨h3, h4⟩ := hr.2 x.toNat (by omega)
 by_cases e : x.toNat = 0
 ·have := h3 e
  omega
 ·have := h4 (by omega)
  omega
theorem par_lt (hr : right p) {x : Nat} (h : x < p.length) : p.getD x default < (x : Int) ∧ -1 ≤ p.getD x default ∧ (p.getD x default < 0 ↔ x = 0) := by
 obtain ⟨h3, h4⟩ := hr.2 x h
 by_cases e : x = 0
 ·have := h3 e
  omega
 ·have := h4 (by omega)
  omega
/-! ### Deques -/
theorem flat_set {D : List (List Int)} {k : Nat} (h : k < D.length) : ∃ r, D.flatten.Perm (D.getD k default ++ r) ∧ ∀ l, (D.set k l).flatten.Perm (l ++ r) := by
 refine ⟨(D.take k).flatten ++ (D.drop (k + 1)).flatten, ?_, fun l => ?_⟩
 ·have e : D = D.take k ++ D.getD k default :: D.drop (k + 1) := by
   have e1 : D.getD k default = D[k] := by simp [h]
   rw [e1, ← List.drop_eq_getElem_cons h, List.take_append_drop]
  have e2 : D.flatten = (D.take k).flatten ++ (D.getD k default ++ (D.drop (k + 1)).flatten) := by
   conv => lhs; rw [e]
   rw [List.flatten_append, List.flatten_cons]
  rw [e2, ← List.append_assoc, ← List.append_assoc]
  exact List.Perm.append_right _ List.perm_append_comm
 ·rw [List.set_eq_take_append_cons_drop, if_pos h, List.flatten_append, List.flatten_cons, ← List.append_assoc, ← List.append_assoc]
  exact List.Perm.append_right _ List.perm_append_comm
theorem findF_none {D : List (List Int)} {w : Nat} : ∀ (f j : Nat), findF D w f j = none → ∀ i, j ≤ i → i < j + f → (D.getD ((w + i) % D.length) default).length = 0
 | 0, j, _, i, h1, h2 => by omega
 | f + 1, j, h, i, h1, h2 => by
  unfold findF at h
  split at h
  ·rename_i h0
   by_cases e : i = j
   ·rw [e]; exact h0
   ·exact findF_none f (j + 1) h i (by omega) (by omega)
  ·exact nomatch h
theorem findF_lt' {D : List (List Int)} {w : Nat} (h0 : 0 < D.length) : ∀ (f j : Nat) {k : Nat}, findF D w f j = some k → k < D.length ∧ 0 < (D.getD k default).length
 | 0, _, _, h => nomatch h
 | f + 1, j, k, h => by
  unfold findF at h
  split at h
  ·exact findF_lt' h0 f (j + 1) h
  ·rename_i h1
   injection h with h
   subst h
   exact ⟨Nat.mod_lt _ h0, by omega⟩
/-- What is taken, and what is left: all that there was. -/
theorem takeM_perm {D : List (List Int)} {w : Nat} (hw : w < D.length) (hn : D.flatten ≠ []) : D.flatten.Perm ((takeM D w).1 :: (takeM D w).2.flatten) ∧ (takeM D w).2.length = D.length := by
 unfold takeM
 split
 ·rename_i h
  obtain ⟨r, h1, h2⟩ := flat_set hw
  refine ⟨?_, by rw [List.length_set]⟩
  refine h1.trans (List.Perm.trans ?_ ((h2 _).symm.cons _))
  generalize D.getD w default = l at *
  have e : l.take (l.length - 1) ++ [l.getD (l.length - 1) default] = l := by
   have e1 : l.getD (l.length - 1) default = l[l.length - 1]'(by omega) := by rw [List.getD_eq_getElem?_getD, List.getElem?_eq_getElem (by omega)]; rfl
   rw [e1]
   have e2 := List.take_append_getElem (l := l) (i := l.length - 1) (by omega)
   rw [e2, List.take_of_length_le (by omega)]
  show (l ++ r).Perm (l.getD (l.length - 1) default :: (l.take (l.length - 1) ++ r))
  conv => lhs; rw [← e]
  rw [List.append_assoc]
  exact List.perm_middle
 ·split
  ·rename_i k hk
   obtain ⟨h3, h4⟩ := findF_lt' (by omega) _ _ hk
   obtain ⟨r, h1, h2⟩ := flat_set h3
   refine ⟨?_, by rw [List.length_set]⟩
   refine h1.trans (List.Perm.trans ?_ ((h2 _).symm.cons _))
   generalize D.getD k default = l at *
   match l, h4 with
   | x :: l, _ => exact List.Perm.refl _
  ·rename_i h hk
   exfalso
   apply hn
   rw [List.flatten_eq_nil_iff]
   intro l hl
   obtain ⟨i, hi, rfl⟩ := List.getElem_of_mem hl
   apply List.eq_nil_of_length_eq_zero
   by_cases hiw : w ≤ i
   ·have := findF_none _ _ hk (i - w) (by omega) (by omega)
    rw [show w + (i - w) = i by omega, Nat.mod_eq_of_lt hi] at this
    simpa [hi] using this
   ·have := findF_none _ _ hk (i + D.length - w) (by omega) (by omega)
    rw [show w + (i + D.length - w) = i + D.length by omega, Nat.add_mod_right, Nat.mod_eq_of_lt hi] at this
    simpa [hi] using this
/-! ### The machine of deques -/
/-- Who is next. -/
def nxt (picks : List Int) (nw n : Nat) (last : Int) : Int := R11.next picks n (List.replicate nw 1) last
theorem nxt_ok {picks : List Int} {nw n : Nat} {last : Int} (h : 1 ≤ nw) : 0 ≤ nxt picks nw n last ∧ nxt picks nw n last < nw := by
 have hne : ¬ R11.next picks n (List.replicate nw 1) last < 0 := fun h1 => by
  have h2 := R11.next_none h1
  have : (0 : Int) ∈ R11.all (List.replicate nw 1) := R11.mem_all.2 ⟨by omega, by rw [List.length_replicate]; omega, by
   rw [List.getD_eq_getElem?_getD, List.getElem?_replicate, if_pos (by exact h)]; decide⟩
  rw [h2] at this
  exact nomatch this
 obtain ⟨h1, h2, _⟩ := R11.next_ok hne
 rw [List.length_replicate] at h2
 exact ⟨h1, h2⟩
structure Mc where
 D : List (List Int)
 order : List Int
 who : List Int
 last : Int
def mstep (p picks : List Int) (nw : Nat) (m : Mc) : Mc :=
 { D := (takeM m.D (nxt picks nw m.order.length m.last).toNat).2.set (nxt picks nw m.order.length m.last).toNat ((takeM m.D (nxt picks nw m.order.length m.last).toNat).2.getD (nxt picks nw m.order.length m.last).toNat default ++ kids p (takeM m.D (nxt picks nw m.order.length m.last).toNat).1.toNat), order := m.order ++ [(takeM m.D (nxt picks nw m.order.length m.last).toNat).1], who := m.who ++ [nxt picks nw m.order.length m.last], last := nxt picks nw m.order.length m.last }
def mst (p picks : List Int) (nw : Nat) : Nat → Mc
 | 0 => ⟨[0] :: List.replicate (nw - 1) [], [], [], -1⟩
 | n + 1 => mstep p picks nw (mst p picks nw n)
/-- What is known of the machine. -/
structure MOk (p : List Int) (nw n : Nat) (m : Mc) : Prop where
 dl : m.D.length = nw
 ol : m.order.length = n
 wl : m.who.length = n
 nd : (m.order ++ m.D.flatten).Nodup
 mem : ∀ t : Int, t ∈ m.order ++ m.D.flatten ↔ (0 ≤ t ∧ t < p.length ∧ (t = 0 ∨ p.getD t.toNat default ∈ m.order))
 who : ∀ w ∈ m.who, 0 ≤ w ∧ w < nw
theorem MOk.all_le {nw n : Nat} {m : Mc} (h : MOk p nw n m) : (m.order ++ m.D.flatten).length ≤ p.length := by
 have := nodup_le _ (upto p.length) h.nd fun x hx => mem_upto.2 ⟨((h.mem x).1 hx).1, ((h.mem x).1 hx).2.1⟩
 rwa [upto_len] at this
/-- No deque has a task: all are run. -/
theorem MOk.full {nw n : Nat} {m : Mc} (hr : right p) (h : MOk p nw n m) (e : m.D.flatten = []) : ∀ t : Nat, t < p.length → (t : Int) ∈ m.order := by
 have hm := h.mem
 rw [e, List.append_nil] at hm
 intro t
 induction t using Nat.strongRecOn with
 | _ t ih =>
  intro ht
  refine (hm t).2 ⟨by omega, by omega, ?_⟩
  obtain ⟨h1, h2, h3⟩ := par_lt hr ht
  by_cases e0 : t = 0
  ·exact .inl (by omega)
  ·right
   have := ih (p.getD t default).toNat (by omega) (by omega)
   rw [Int.toNat_natCast]
   rwa [Int.toNat_of_nonneg (by omega)] at this
/-- All tasks are run behind so many steps. -/
theorem MOk.done {nw : Nat} {m : Mc} (hr : right p) (h : MOk p nw p.length m) : ∀ t : Nat, t < p.length → (t : Int) ∈ m.order := by
 have h1 := h.all_le
 rw [List.length_append, h.ol] at h1
 exact h.full hr (List.eq_nil_of_length_eq_zero (by omega))
/-- While a task is not run, some deque is not empty. -/
theorem MOk.busy {nw n : Nat} {m : Mc} (hr : right p) (h : MOk p nw n m) (hn : n < p.length) : m.D.flatten ≠ [] := by
 intro e
 have hall := h.full hr e
 have := nodup_le (upto p.length) m.order (upto_nd _) fun x hx => by
  obtain ⟨h1, h2⟩ := mem_upto.1 hx
  have := hall x.toNat (by omega)
  rwa [Int.toNat_of_nonneg h1] at this
 rw [upto_len, h.ol] at this
 omega
theorem MOk.start (hr : right p) {picks : List Int} {nw : Nat} (h : 1 ≤ nw) : MOk p nw 0 (mst p picks nw 0) := by
 have e : (mst p picks nw 0).D.flatten = [0] := by
  show ([0] :: List.replicate (nw - 1) ([] : List Int)).flatten = [0]
  rw [List.flatten_cons, List.flatten_replicate_nil]
  rfl
 have hn := hr.1.1
 refine ⟨?_, rfl, rfl, ?_, fun t => ?_, fun w hw => nomatch hw⟩
 ·show ([0] :: List.replicate (nw - 1) ([] : List Int)).length = nw
  rw [List.length_cons, List.length_replicate]
  omega
 ·rw [e]; exact List.pairwise_singleton _ _
 ·rw [e]
  show t ∈ [(0 : Int)] ↔ _ ∧ _ ∧ (_ ∨ _ ∈ ([] : List Int))
  simp only [List.mem_singleton, List.not_mem_nil, or_false]
  omega
/-- What a step takes. -/
theorem MOk.take {nw n : Nat} {m : Mc} (hr : right p) (h : MOk p nw n m) (hn : n < p.length) {w : Nat} (hw : w < nw) :
  ∃ T : Nat, (takeM m.D w).1 = (T : Int) ∧ T < p.length ∧ (T : Int) ∉ m.order ∧ (T = 0 ∨ p.getD T default ∈ m.order) ∧ m.D.flatten.Perm ((T : Int) :: (takeM m.D w).2.flatten) ∧ (takeM m.D w).2.length = nw := by
 obtain ⟨h1, h2⟩ := takeM_perm (D := m.D) (w := w) (by rw [h.dl]; exact hw) (h.busy hr hn)
 have h3 : (takeM m.D w).1 ∈ m.D.flatten := h1.mem_iff.2 List.mem_cons_self
 obtain ⟨h4, h5, h6⟩ := (h.mem _).1 (List.mem_append_right _ h3)
 have h7 : (takeM m.D w).1 ∉ m.order := fun hc => (List.nodup_append.1 h.nd).2.2 _ hc _ h3 rfl
 obtain ⟨T, hT⟩ : ∃ T : Nat, (takeM m.D w).1 = (T : Int) := ⟨(takeM m.D w).1.toNat, by omega⟩
 rw [hT] at h4 h5 h6 h7 h1
 exact ⟨T, hT, by omega, h7, h6.imp (by omega) fun h => by rwa [Int.toNat_natCast] at h, h1, by rw [h2, h.dl]⟩
theorem MOk.step {nw n : Nat} {m : Mc} (hr : right p) (h : MOk p nw n m) (hn : n < p.length) (hw : 1 ≤ nw) (picks : List Int) : MOk p nw (n + 1) (mstep p picks nw m) := by
 unfold mstep
 obtain ⟨hx0, hx1⟩ := nxt_ok (picks := picks) (nw := nw) (n := m.order.length) (last := m.last) hw
 obtain ⟨w, ew⟩ : ∃ w : Nat, nxt picks nw m.order.length m.last = (w : Int) := ⟨(nxt picks nw m.order.length m.last).toNat, by omega⟩
 rw [ew] at hx0 hx1 ⊢
 rw [Int.toNat_natCast]
 obtain ⟨T, hT, hTl, hTo, hTp, hp, hl⟩ := h.take hr hn (w := w) (by omega)
 rw [hT, Int.toNat_natCast]
 obtain ⟨r, hr1, hr2⟩ := flat_set (D := (takeM m.D w).2) (k := w) (by omega)
 have hper : (m.order ++ [(T : Int)] ++ ((takeM m.D w).2.set w ((takeM m.D w).2.getD w default ++ kids p T)).flatten).Perm (kids p T ++ (m.order ++ m.D.flatten)) := by
  have e1 : ((takeM m.D w).2.set w ((takeM m.D w).2.getD w default ++ kids p T)).flatten.Perm (kids p T ++ (takeM m.D w).2.flatten) := by
   refine (hr2 _).trans ?_
   rw [List.append_assoc]
   refine List.Perm.trans ?_ (hr1.symm.append_left _)
   rw [← List.append_assoc, ← List.append_assoc]
   exact List.perm_append_comm.append_right _
  refine (e1.append_left _).trans ?_
  rw [List.append_assoc]
  refine List.Perm.trans ?_ ((hp.symm.append_left m.order).append_left (kids p T))
  show (m.order ++ (T : Int) :: (kids p T ++ (takeM m.D w).2.flatten)).Perm (kids p T ++ (m.order ++ ([(T : Int)] ++ (takeM m.D w).2.flatten)))
  have a1 : (m.order ++ (T : Int) :: (kids p T ++ (takeM m.D w).2.flatten)) = (m.order ++ [(T : Int)] ++ kids p T) ++ (takeM m.D w).2.flatten := by simp
  have a2 : (kids p T ++ (m.order ++ ([(T : Int)] ++ (takeM m.D w).2.flatten))) = (kids p T ++ (m.order ++ [(T : Int)])) ++ (takeM m.D w).2.flatten := by simp
  rw [a1, a2]
  exact List.perm_append_comm.append_right _
 have hk0 : ∀ x ∈ kids p T, x ∉ m.order ++ m.D.flatten := fun x hx hc => by
  have hgt := kid_gt hr hx
  obtain ⟨_, _, h3⟩ := mem_kids.1 hx
  obtain ⟨_, _, h6⟩ := (h.mem x).1 hc
  rcases h6 with h6 | h6
  ·omega
  ·rw [h3] at h6
   exact hTo h6
 refine ⟨by rw [List.length_set, hl], by simp [h.ol], by simp [h.wl], ?_, fun t => ?_, fun x hx => ?_⟩
 ·rw [hper.nodup_iff, List.nodup_append]
  exact ⟨kids_nd p T, h.nd, fun a ha b hb e => hk0 a ha (e ▸ hb)⟩
 ·rw [hper.mem_iff, List.mem_append, h.mem t, mem_kids, List.mem_append, List.mem_singleton]
  constructor
  ·rintro (⟨h1, h2, h3⟩ | ⟨h1, h2, h3⟩)
   ·exact ⟨h1, h2, .inr (.inr h3)⟩
   ·exact ⟨h1, h2, h3.imp id .inl⟩
  ·rintro ⟨h1, h2, h3 | h3 | h3⟩
   ·exact .inr ⟨h1, h2, .inl h3⟩
   ·exact .inr ⟨h1, h2, .inr h3⟩
   ·exact .inl ⟨h1, h2, h3⟩
 ·rcases List.mem_append.1 hx with hx | hx
  ·exact h.who x hx
  ·rw [List.mem_singleton] at hx
   omega
theorem MOk.run (hr : right p) {picks : List Int} {nw : Nat} (h : 1 ≤ nw) : ∀ n, n ≤ p.length → MOk p nw n (mst p picks nw n)
 | 0, _ => .start hr h
 | n + 1, hn => (MOk.run hr h n (by omega)).step hr (by omega) h picks
theorem MOk.cl {nw n : Nat} {m : Mc} (h : MOk p nw n m) : ∀ t : Nat, t < p.length → 0 < t → (t : Int) ∈ m.order → p.getD t default ∈ m.order := by
 intro t _ h0 ht
 obtain ⟨_, _, h3⟩ := (h.mem t).1 (List.mem_append_left _ ht)
 rcases h3 with h3 | h3
 ·omega
 ·rwa [Int.toNat_natCast] at h3
end R19
end Go.GL


set_option linter.unusedVariables false
namespace Go.GL
/-! ### What chapter 2's laws do with sets -/
namespace R2
def rot (c : Cell) : Cell := ⟨-c.y, c.x⟩
def rotN : Nat → Cell → Cell
 | 0, c => c
 | n + 1, c => rot (rotN n c)
def flipC (k : Int) (c : Cell) : Cell := if 4 ≤ k then ⟨-c.x, c.y⟩ else c
def turnC (way : Int) (c : Cell) : Cell := rotN ((pk way 8).toNat % 4) (flipC (pk way 8) c)
def turned (way : Int) (l : List Cell) : List Cell := R1.puts (l.map (turnC way))
end R2
end Go.GL


set_option linter.unusedVariables false
namespace Go.GL
/-! ### Generations of planes: where they stand, how they are turned, what is far apart, how fast they grow -/
namespace R2
open R9 (gen gens pl)
open R8 (b2i)
def shF (p q : Int) (f : Int → Int → Bool) : Int → Int → Bool := fun x y => f (x - p) (y - q)
def rotF (f : Int → Int → Bool) : Int → Int → Bool := fun x y => f y (-x)
def flipF (f : Int → Int → Bool) : Int → Int → Bool := fun x y => f (-x) y
def orF (f g : Int → Int → Bool) : Int → Int → Bool := fun x y => f x y || g x y
def noF : Int → Int → Bool := fun _ _ => false
def rotFN : Nat → (Int → Int → Bool) → Int → Int → Bool
 | 0, f => f
 | k + 1, f => rotF (rotFN k f)
def turnF (way : Int) (f : Int → Int → Bool) : Int → Int → Bool := rotFN ((pk way 8).toNat % 4) (if 4 ≤ pk way 8 then flipF f else f)
end R2
end Go.GL


set_option linter.unusedVariables false
namespace Go.GL
/-! ### What runs of sets answer -/
namespace R2
open R9 (gen gens pl)
/-! #### Sixteen by sixteen, behind at most twelve generations: at most 816 cells -/
def octP (x y : Int) : Prop := 2 * x + y ≤ 33 ∧ 2 * x - y ≤ 34 ∧ -2 * x + y ≤ 35 ∧ -2 * x - y ≤ 36 ∧ x + 2 * y ≤ 33 ∧ x - 2 * y ≤ 35 ∧ -x + 2 * y ≤ 34 ∧ -x - 2 * y ≤ 36
instance (x y : Int) : Decidable (octP x y) := inferInstanceAs (Decidable (_ ∧ _))
def octL : List Cell := ((List.range 60).flatMap fun i : Nat => (List.range 60).map fun j : Nat => (⟨(i : Int) - 30, (j : Int) - 30⟩ : Cell)).filter fun c => decide (octP c.x c.y)
end R2
end Go.GL


set_option linter.unusedVariables false
set_option linter.unusedSimpArgs false
namespace Go.GL
/-! ### 'm[k] += d': an entry is made or found, and written through its stamp -/
/-- As MapA; hh is the stamp of the entry that ks has. -/
def MapE (P : Program) (kt : TypeId) (b : Nat) (es : KVs) (ks : List Int) (hh : Int) : Asrt := fun c => ∃ ents clock, c = [(b, .map ents clock)] ∧ ents.toList.map (fun e => (e.key, e.val)) = es.map (fun p => (mkv P kt p.1, p.2)) ∧ (∀ p ∈ es, ∃ k, intAt P 9 kt = some k ∧ p.1.length = k) ∧ Stm ents clock ∧ ∃ i e v, ents[i]? = some e ∧ (e.born : Int) = hh ∧ mpos es ks 0 = some (i, v)
theorem MapE.a {P : Program} {kt : TypeId} {b : Nat} {es : KVs} {ks : List Int} {hh : Int} {c : List Chunk} (h : MapE P kt b es ks hh c) : MapA P kt b es c := by
 obtain ⟨ents, clock, h1, h2, h3, h4, _⟩ := h
 exact ⟨ents, clock, h1, h2, h3, h4⟩
section
variable {w0 : World} {n : Nat} {F : Frm} {A : List Asrt} {I : List Chunk} {P : Program}
variable {dst : Option Tmp} {ty : TypeId} {pos : String} {af : Array Edge} {gd : Option (Nat × Bool)}
variable {t e kt : TypeId} {d d' : TypeDesc} {s by_ s' by' : Nat} {z z' : List Value} {x y ix : Operand} {b : Nat} {es : KVs} {u : KVs → List Asrt} {k : Nat}
end
end Go.GL


set_option linter.unusedVariables false
namespace Go.GL
/-! ### How many neighbours cells have, as a map; a cell itself counts ten -/
abbrev NM := List (Cell × Int)
namespace R2
def keyOf (c : Cell) : List Int := [c.x, c.y]
def kvs (nm : NM) : KVs := nm.map fun p => (keyOf p.1, .int .i64 p.2)
def get : NM → Cell → Int
 | [], _ => 0
 | p :: nm, c => if p.1 = c then p.2 else get nm c
def bump : NM → Cell → Int → NM
 | [], c, d => [(c, d)]
 | p :: nm, c, d => if p.1 = c then (c, p.2 + d) :: nm else p :: bump nm c d
/-- The first k of the nine about a cell count one each. -/
def nines (c : Cell) : Nat → NM → NM
 | 0, nm => nm
 | k + 1, nm => bump (nines c k nm) (nb c k) 1
def one (c : Cell) (nm : NM) : NM := bump (nines c 9 nm) c 9
def counts (l : List Cell) : NM := l.foldl (fun nm c => one c nm) []
/-- What lives on of a map of counts. -/
def outOf (p : List Int × Value) : Option Cell :=
 match p with
 | ([x, y], .int .i64 n) => if lives (decide (10 ≤ n)) (n % 10) then some ⟨x, y⟩ else none
 | _ => none
end R2
end Go.GL


set_option linter.unusedVariables false
namespace Go.GL
namespace R2
open R9 (gen gens pl)
/-! #### Boxes -/
theorem lo_mem {l : List Cell} (h : l.length ≠ 0) : (∃ e ∈ l, (R1.lo l (R1.g l 0)).x = e.x) ∧ ∃ e ∈ l, (R1.lo l (R1.g l 0)).y = e.y := by
 have h0 : R1.g l 0 ∈ l := by unfold R1.g; simp [show 0 < l.length by omega]
 obtain ⟨h1, h2⟩ := R1.lo_at (l := l) (c := R1.g l 0)
 exact ⟨h1.elim (fun e => ⟨_, h0, e⟩) id, h2.elim (fun e => ⟨_, h0, e⟩) id⟩
theorem hi_mem {l : List Cell} (h : l.length ≠ 0) : (∃ e ∈ l, (R1.hi l (R1.g l 0)).x = e.x) ∧ ∃ e ∈ l, (R1.hi l (R1.g l 0)).y = e.y := by
 have h0 : R1.g l 0 ∈ l := by unfold R1.g; simp [show 0 < l.length by omega]
 obtain ⟨h1, h2⟩ := R1.hi_at (l := l) (c := R1.g l 0)
 exact ⟨h1.elim (fun e => ⟨_, h0, e⟩) id, h2.elim (fun e => ⟨_, h0, e⟩) id⟩
theorem box_some {l : List Cell} (h : l.length ≠ 0) (hr : R1.right l) : R1.box l = (⟨(R1.lo l (R1.g l 0)).x, (R1.lo l (R1.g l 0)).y, (R1.hi l (R1.g l 0)).x - (R1.lo l (R1.g l 0)).x + 1, (R1.hi l (R1.g l 0)).y - (R1.lo l (R1.g l 0)).y + 1⟩, true) := if_neg (by rw [not_or, Decidable.not_not]; exact ⟨h, hr⟩)
/-- No more than this. -/
structure RBd (r : R1.Rect) : Prop where
 x1 : -1099511627776 ≤ r.x
 x2 : r.x ≤ 1099511627776
 y1 : -1099511627776 ≤ r.y
 y2 : r.y ≤ 1099511627776
 w1 : 0 ≤ r.w
 w2 : r.w ≤ 2199023255553
 h1 : 0 ≤ r.h
 h2 : r.h ≤ 2199023255553
/-! #### Few cells, and how many more there may be -/
def nine (l : List Cell) (c : Cell) : Nat := (l.filter fun d => decide (near c d ∨ d = c)).length
end R2
end Go.GL


set_option linter.unusedVariables false
namespace Go.GL
/-! ### What layer 7 does, told of the cells -/
namespace R7
open R6 R9
theorem pop4_le {ns : List Node} {q0 q1 q2 q3 : Int} (h0 : 0 ≤ (nd ns q0).pop) (h1 : 0 ≤ (nd ns q1).pop) (h2 : 0 ≤ (nd ns q2).pop) (h3 : 0 ≤ (nd ns q3).pop) : pop4 ns q0 q1 q2 q3 ≤ (nd ns q0).pop + (nd ns q1).pop + (nd ns q2).pop + (nd ns q3).pop := by
 unfold pop4 mn cap62
 repeat' split
 all_goals omega
theorem pop_le {ns : List Node} (h : Wf ns) : ∀ (lv : Nat) (n : Int), IsN ns lv n → (nd ns n).pop ≤ 4 ^ lv
 | 0, n, hn => by
  rcases isN0 h hn with rfl | rfl
  ·rw [h.nd0]; decide
  ·rw [h.nd1]; decide
 | lv + 1, n, hn => by
  obtain ⟨a, b, c, d⟩ := kids4 h hn
  have e := h.pop hn.1 (by rw [hn.2]; omega)
  have ha := pop_le h lv _ a
  have hb := pop_le h lv _ b
  have hc := pop_le h lv _ c
  have hd := pop_le h lv _ d
  have p := pop4_le (h.mod.nd a.1).2.2.1 (h.mod.nd b.1).2.2.1 (h.mod.nd c.1).2.2.1 (h.mod.nd d.1).2.2.1
  rw [e, Int.pow_succ]
  omega
theorem pop_cap {ns : List Node} (h : Wf ns) {lv : Nat} {n : Int} (hl : lv ≤ 30) (hn : IsN ns lv n) : (nd ns n).pop < cap62 := by
 have h1 := pop_le h lv n hn
 have h2 : (4 : Nat) ^ lv ≤ 4 ^ 30 := Nat.pow_le_pow_right (by omega) hl
 have h3 : (4 : Int) ^ lv = ((4 ^ lv : Nat) : Int) := by simp
 rw [h3] at h1
 unfold cap62
 omega
theorem flat_nodup {ns : List Node} (h : Wf ns) : ∀ (lv : Nat) (n : Int) (o : Cell), IsN ns lv n → (flat ns lv n o).Nodup
 | 0, n, o, hn => by
  rw [flat]
  split
  ·exact List.nodup_nil
  ·simp
 | lv + 1, n, o, hn => by
  by_cases h0 : (nd ns n).pop = 0
  ·rw [flat, if_pos h0]; exact List.nodup_nil
  ·obtain ⟨a, b, c, d⟩ := kids4 h hn
   have ma := fun e => mem_flat h lv (nd ns n).k0 o e a
   have mb := fun e => mem_flat h lv (nd ns n).k1 ⟨o.x + 2 ^ lv, o.y⟩ e b
   have mc := fun e => mem_flat h lv (nd ns n).k2 ⟨o.x, o.y + 2 ^ lv⟩ e c
   have md := fun e => mem_flat h lv (nd ns n).k3 ⟨o.x + 2 ^ lv, o.y + 2 ^ lv⟩ e d
   rw [flat_eq h0]
   refine List.nodup_append.2 ⟨List.nodup_append.2 ⟨List.nodup_append.2 ⟨flat_nodup h lv _ _ a, flat_nodup h lv _ _ b, ?_⟩, flat_nodup h lv _ _ c, ?_⟩, flat_nodup h lv _ _ d, ?_⟩
   ·intro u hu v hv e
    subst e
    have h1 := ((ma _).1 hu).1
    have h2 := ((mb _).1 hv).1
    unfold inQ at h1 h2
    simp only at h1 h2
    omega
   ·intro u hu v hv e
    subst e
    have h2 := ((mc _).1 hv).1
    unfold inQ at h2
    rcases List.mem_append.1 hu with hu | hu
    ·have h1 := ((ma _).1 hu).1
     unfold inQ at h1
     simp only at h1 h2
     omega
    ·have h1 := ((mb _).1 hu).1
     unfold inQ at h1
     simp only at h1 h2
     omega
   ·intro u hu v hv e
    subst e
    have h2 := ((md _).1 hv).1
    unfold inQ at h2
    rcases List.mem_append.1 hu with hu | hu
    ·rcases List.mem_append.1 hu with hu | hu
     ·have h1 := ((ma _).1 hu).1
      unfold inQ at h1
      simp only at h1 h2
      omega
     ·have h1 := ((mb _).1 hu).1
      unfold inQ at h1
      simp only at h1 h2
      omega
    ·have h1 := ((mc _).1 hu).1
     unfold inQ at h1
     simp only at h1 h2
     omega
/-- A node stands for a sorted list of cells, about its middle. -/
structure Sd (ns : List Node) (lv : Nat) (n : Int) (l : List Cell) : Prop where
 is : IsN ns (lv + 1) n
 srt : R1.Srt l
 bd : ∀ c ∈ l, inL ((lv + 1 : Nat) : Int) c
 std : ∀ c : Cell, inL ((lv + 1 : Nat) : Int) c → al ns (lv + 1) n (c.x + 2 ^ lv) (c.y + 2 ^ lv) = decide (c ∈ l)
theorem Sd.mem {ns : List Node} (h : Wf ns) {lv : Nat} {n : Int} {l : List Cell} (s : Sd ns lv n l) (c : Cell) : c ∈ of ns n ↔ c ∈ l := by
 rw [mem_of h s.is]
 constructor
 ·rintro ⟨a, b⟩; rw [s.std c a] at b; exact of_decide_eq_true b
 ·intro hc; exact ⟨s.bd c hc, by rw [s.std c (s.bd c hc)]; exact decide_eq_true hc⟩
theorem Sd.std' {ns : List Node} {lv : Nat} {n : Int} {l : List Cell} (s : Sd ns lv n l) : Std ns (lv + 1) n (pl l) (-2 ^ lv) (-2 ^ lv) := std_make s.is s.std
theorem Sd.pre {ns ms : List Node} (h : Wf ns) (hp : ns <+: ms) {lv : Nat} {n : Int} {l : List Cell} (s : Sd ns lv n l) : Sd ms lv n l := ⟨s.is.pre hp, s.srt, s.bd, fun c hc => by rw [al_pre h hp _ _ _ _ s.is]; exact s.std c hc⟩
theorem of_eq {ns : List Node} {lv : Nat} {n : Int} (hn : IsN ns (lv + 1) n) : of ns n = flat ns (lv + 1) n ⟨-side ((lv + 1 : Nat) : Int), -side ((lv + 1 : Nat) : Int)⟩ := by
 unfold of
 rw [hn.2]
 have : ((lv + 1 : Nat) : Int).toNat = lv + 1 := by omega
 rw [this]
theorem Sd.puts {ns : List Node} (h : Wf ns) {lv : Nat} {n : Int} {l : List Cell} (s : Sd ns lv n l) : R1.puts (of ns n) = l :=
 R1.srt_ext (R1.puts_srt _) s.srt fun d => by rw [R1.mem_puts, s.mem h]
theorem len_of_nodup {l m : List Cell} (hl : l.Nodup) (hm : m.Nodup) (h : ∀ c, c ∈ l ↔ c ∈ m) : l.length = m.length :=
 ((List.perm_ext_iff_of_nodup hl hm).2 h).length_eq
theorem Sd.pop {ns : List Node} (h : Wf ns) {lv : Nat} (hl : lv + 1 ≤ 30) {n : Int} {l : List Cell} (s : Sd ns lv n l) : (nd ns n).pop = l.length := by
 have e := flat_pop h (lv + 1) n ⟨-side ((lv + 1 : Nat) : Int), -side ((lv + 1 : Nat) : Int)⟩ s.is (pop_cap h hl s.is)
 rw [← e, ← of_eq s.is, len_of_nodup (by rw [of_eq s.is]; exact flat_nodup h _ _ _ s.is) (R1.srt_nodup s.srt) (s.mem h)]
theorem Sd.may {ns : List Node} {room : Int} {lv : Nat} {n : Int} {l : List Cell} (s : Sd ns lv n l) (h : R6.right ns room) : R7.may ns room n := ⟨h, s.is.1.1, s.is.1.2, by rw [s.is.2]; omega⟩
theorem Sd.cells {ns : List Node} {room : Int} (h : R6.right ns room) {lv : Nat} (hl : lv + 1 ≤ 30) {n : Int} {l : List Cell} (s : Sd ns lv n l) (hr : R1.right l) : R7.cells ns room n = (l, 0) := by
 have hw := (R6.right_iff.1 h).2
 unfold R7.cells
 rw [if_pos (s.may h), s.pop hw hl, if_neg (by have := hr.2; omega), R1.of_ok (fun c hc => R1.right_inB hr c ((s.mem hw c).1 hc)) (by rw [s.puts hw]; exact hr.2), s.puts hw]
end R7
end Go.GL


set_option linter.unusedVariables false
namespace Go.GL
/-! ### With, as the document has it -/
namespace R1
def outW (l : List Cell) (c : Cell) (alive : Bool) : List Cell := if alive = true then put l c else l.filter fun d => decide (d ≠ c)
def wth (l : List Cell) (c : Cell) (alive : Bool) : List Cell × Int :=
 if right l then (if inB c then (if 2000 < (outW l c alive).length then ([], 3) else (outW l c alive, 0)) else ([], 2)) else ([], 1)
theorem outW_srt {l : List Cell} (h : Srt l) (c : Cell) (alive : Bool) : Srt (outW l c alive) := by
 unfold outW
 split
 ·exact put_srt h c
 ·exact h.filter _
theorem mem_outW {l : List Cell} (h : Srt l) {c d : Cell} {alive : Bool} : d ∈ outW l c alive ↔ (d = c ∧ alive = true) ∨ (d ≠ c ∧ d ∈ l) := by
 unfold outW
 cases alive
 ·rw [if_neg (by decide), List.mem_filter, decide_eq_true_iff]
  constructor
  ·rintro ⟨h1, h2⟩; exact .inr ⟨h2, h1⟩
  ·rintro (⟨_, h⟩ | ⟨h1, h2⟩)
   ·cases h
   ·exact ⟨h2, h1⟩
 ·rw [if_pos rfl, mem_put h]
  by_cases e : d = c
  ·simp [e]
  ·simp [e]
end R1
end Go.GL


set_option linter.unusedVariables false
namespace Go.GL
namespace R1
theorem right_iff {l : List Cell} : right l ↔ Srt l ∧ (∀ c ∈ l, inB c) ∧ l.length ≤ 2000 := ⟨fun h => ⟨right_srt h, right_inB h, h.2⟩, fun h => right_of h.1 h.2.1 h.2.2⟩
theorem put_new {l : List Cell} (h : Srt l) {c : Cell} (hc : c ∉ l) : (put l c).length = l.length + 1 := by
 have h1 := put_len l c
 have h2 := nodup_le (c :: l) (put l c) (List.nodup_cons.2 ⟨hc, srt_nodup h⟩) fun d hd => (mem_put h).2 (List.mem_cons.1 hd)
 rw [List.length_cons] at h2
 omega
/-! #### Shifts -/
end R1
end Go.GL


set_option linter.unusedVariables false
namespace Go.GL
namespace R7
open R6 R9
/-! ### Cells got and set -/
def loc : Nat → Cell → Cell
 | 0, _ => ⟨0, 0⟩
 | m + 1, c => ⟨c.x + 2 ^ m, c.y + 2 ^ m⟩
structure Stp7 (m : Nat) (c : Cell) (a b : Int) : Prop where
 ha : a = 0 ∨ a = 1
 hb : b = 0 ∨ b = 1
 k : ((qk c : Nat) : Int) = 2 * b + a
 x : (loc (m + 1) c).x = (loc m (qd (qh (m + 1)) c)).x + a * 2 ^ m
 y : (loc (m + 1) c).y = (loc m (qd (qh (m + 1)) c)).y + b * 2 ^ m
 q : inQ m (loc m (qd (qh (m + 1)) c)).x (loc m (qd (qh (m + 1)) c)).y
theorem loc_step {m : Nat} {c : Cell} (h : inQ (m + 1) (loc (m + 1) c).x (loc (m + 1) c).y) : ∃ a b, Stp7 m c a b := by
 refine ⟨if 0 ≤ c.x then 1 else 0, if 0 ≤ c.y then 1 else 0, by split <;> simp, by split <;> simp, ?_, ?_, ?_, ?_⟩
 ·unfold qk
  split <;> split <;> rfl
 all_goals unfold inQ at *
 all_goals simp only [loc] at *
 all_goals rw [p2s] at h
 all_goals cases m with
  | zero =>
   simp only at *
   simp only [Int.pow_zero] at *
   repeat' split
   all_goals omega
  | succ m =>
   simp only [loc, qd, p2h] at *
   rw [p2s] at *
   have hp := p2pos m
   generalize (2:Int) ^ m = w at *
   repeat' split
   all_goals omega
theorem kidx_kid (ns : List Node) (n : Int) {k : Nat} {a b : Int} (ha : a = 0 ∨ a = 1) (hb : b = 0 ∨ b = 1) (hk : (k : Int) = 2 * b + a) : kidx (nd ns n) k = kid ns n (2 * b + a) := by
 rcases ha with rfl | rfl <;> rcases hb with rfl | rfl
 ·obtain rfl : k = 0 := by omega
  rfl
 ·obtain rfl : k = 2 := by omega
  rfl
 ·obtain rfl : k = 1 := by omega
  rfl
 ·obtain rfl : k = 3 := by omega
  rfl
theorem kid_is {ns : List Node} (h : Wf ns) {lv : Nat} {n : Int} (hn : IsN ns (lv + 1) n) {a b : Int} (ha : a = 0 ∨ a = 1) (hb : b = 0 ∨ b = 1) : IsN ns lv (kid ns n (2 * b + a)) := by
 obtain ⟨k0, k1, k2, k3⟩ := kids4 h hn
 rcases ha with rfl | rfl <;> rcases hb with rfl | rfl
 ·exact k0
 ·exact k2
 ·exact k1
 ·exact k3
theorem getL_al {ns : List Node} (h : Wf ns) : ∀ (lv : Nat) (n : Int) (c : Cell), IsN ns lv n → inQ lv (loc lv c).x (loc lv c).y → getL ns lv n c = al ns lv n (loc lv c).x (loc lv c).y
 | 0, n, c, hn, hq => by
  rcases isN0 h hn with rfl | rfl
  ·unfold getL al; rw [h.nd0]; rfl
  ·unfold getL al; rw [h.nd1]; rfl
 | lv + 1, n, c, hn, hq => by
  obtain ⟨a, b, s⟩ := loc_step hq
  unfold getL
  rw [s.x, s.y, al_kid ns s.q s.ha s.hb, kidx_kid ns n s.ha s.hb s.k]
  exact getL_al h lv _ _ (kid_is h hn s.ha s.hb) s.q
theorem inQ_loc {lv : Nat} {c : Cell} : inQ (lv + 1) (loc (lv + 1) c).x (loc (lv + 1) c).y ↔ inL ((lv + 1 : Nat) : Int) c := by
 unfold inQ inL loc
 rw [side_succ, p2s]
 simp only
 omega
theorem Sd.get {ns : List Node} {room : Int} (h : R6.right ns room) {lv : Nat} {n : Int} {l : List Cell} (s : Sd ns lv n l) (c : Cell) : getM ns room n c = (decide (c ∈ l), 0) := by
 have hw := (R6.right_iff.1 h).2
 unfold getM
 rw [if_pos (s.may h), s.is.2]
 have e3 : ((lv + 1 : Nat) : Int).toNat = lv + 1 := by omega
 rw [e3]
 by_cases hc : inL ((lv + 1 : Nat) : Int) c
 ·rw [decide_eq_true hc, Bool.true_and, getL_al hw _ _ _ s.is (inQ_loc.2 hc)]
  have := s.std c hc
  rw [← this]
  rfl
 ·rw [decide_eq_false hc, Bool.false_and, decide_eq_false (fun k => hc (s.bd c k))]
/-! ### Puts in the plane -/
theorem std_uniq {ns : List Node} (h : Wf ns) {lv : Nat} {n m : Int} {f : Int → Int → Bool} {ox oy : Int} (a : Std ns lv n f ox oy) (b : Std ns lv m f ox oy) : n = m :=
 al_inj h lv n m a.1 b.1 fun x y hq => by rw [a.2 x y hq, b.2 x y hq]
theorem std_congr {ns : List Node} {lv : Nat} {n : Int} {f g : Int → Int → Bool} {ox oy : Int} (a : Std ns lv n f ox oy) (h : ∀ x y, inQ lv x y → f (x + ox) (y + oy) = g (x + ox) (y + oy)) : Std ns lv n g ox oy :=
 ⟨a.1, fun x y hq => by rw [a.2 x y hq, h x y hq]⟩
theorem put_found {ns : List Node} (h : Wf ns) {room q0 q1 q2 q3 p : Int} {lv : Nat} {f : Int → Int → Bool} {ox oy : Int} (h0 : Std ns lv q0 f ox oy) (h1 : Std ns lv q1 f (ox + 2 ^ lv) oy) (h2 : Std ns lv q2 f ox (oy + 2 ^ lv)) (h3 : Std ns lv q3 f (ox + 2 ^ lv) (oy + 2 ^ lv)) (hp : Std ns (lv + 1) p f ox oy) :
  put ns room q0 q1 q2 q3 = (ns, p, 0) := by
 have hl := h.lvb hp.1.1
 rw [hp.1.2] at hl
 have k0 := std_kids h hp (q := 0) (by omega)
 have k1 := std_kids h hp (q := 1) (by omega)
 have k2 := std_kids h hp (q := 2) (by omega)
 have k3 := std_kids h hp (q := 3) (by omega)
 have e0 : q0 = (nd ns p).k0 := std_uniq h h0 (k0.at (by omega) (by omega))
 have e1 : q1 = (nd ns p).k1 := std_uniq h h1 (k1.at (by omega) (by omega))
 have e2 : q2 = (nd ns p).k2 := std_uniq h h2 (k2.at (by omega) (by omega))
 have e3 : q3 = (nd ns p).k3 := std_uniq h h3 (k3.at (by omega) (by omega))
 refine put_again h (fit4_of (by omega) h0.1 h1.1 h2.1 h3.1) hp.1.1 (by rw [hp.1.2]; omega) ?_
 rw [e0, e1, e2, e3]
 rfl
structure New (ns : List Node) (cost lv : Nat) (f : Int → Int → Bool) (ox oy : Int) (ms : List Node) (m : Int) : Prop where
 wf : Wf ms
 pre : ns <+: ms
 len : ms.length ≤ ns.length + cost
 std : Std ms lv m f ox oy
theorem put_new {ns : List Node} (h : Wf ns) {room q0 q1 q2 q3 : Int} {lv : Nat} (hl : lv + 1 ≤ 42) {f : Int → Int → Bool} {ox oy : Int} (h0 : Std ns lv q0 f ox oy) (h1 : Std ns lv q1 f (ox + 2 ^ lv) oy) (h2 : Std ns lv q2 f ox (oy + 2 ^ lv)) (h3 : Std ns lv q3 f (ox + 2 ^ lv) (oy + 2 ^ lv)) (hr : (ns.length : Int) < room) :
  ∃ ms m, put ns room q0 q1 q2 q3 = (ms, m, 0) ∧ New ns 1 (lv + 1) f ox oy ms m := by
 obtain ⟨ms, m, e, ok⟩ := put_ok h (fit4_of hl h0.1 h1.1 h2.1 h3.1) (.inr hr)
 have s := std_put (room := room) h h0 h1 h2 h3 (by rw [e])
 rw [e] at s
 exact ⟨ms, m, e, ⟨ok.wf, ok.pre, by have := ok.len; omega, s⟩⟩
/-! ### Set -/
def upd (f : Int → Int → Bool) (u v : Int) (b : Bool) : Int → Int → Bool := fun x y => if x = u ∧ y = v then b else f x y
theorem put1_eq (ns : List Node) (room : Int) (x : Node) (k : Nat) (m : Int) : put1 ns room x k m = R6.put ns room (if k = 0 then m else x.kids.getD 0 default) (if k = 1 then m else x.kids.getD 1 default) (if k = 2 then m else x.kids.getD 2 default) (if k = 3 then m else x.kids.getD 3 default) := rfl
theorem upd_kids {ns ms : List Node} (h : Wf ns) (hp : ns <+: ms) {lv : Nat} {n : Int} {f : Int → Int → Bool} {ox oy : Int} {c : Cell} {a b : Int} {m : Int} {v : Bool} (hs : Std ns (lv + 1) n f ox oy) (s : Stp7 lv c a b)
  (hm : Std ms lv m (upd f ((loc (lv + 1) c).x + ox) ((loc (lv + 1) c).y + oy) v) (ox + a * 2 ^ lv) (oy + b * 2 ^ lv)) {i : Nat} (hi : i < 4) :
  Std ms lv (if qk c = i then m else (nd ns n).kids.getD i default) (upd f ((loc (lv + 1) c).x + ox) ((loc (lv + 1) c).y + oy) v) (ox + ((i % 2 : Nat) : Int) * 2 ^ lv) (oy + ((i / 2 : Nat) : Int) * 2 ^ lv) := by
 have hk := s.k
 split
 ·rename_i e
  rw [e] at hk
  have e1 : a = ((i % 2 : Nat) : Int) := by rcases s.ha with h | h <;> rcases s.hb with h' | h' <;> omega
  have e2 : b = ((i / 2 : Nat) : Int) := by rcases s.ha with h | h <;> rcases s.hb with h' | h' <;> omega
  rw [← e1, ← e2]
  exact hm
 ·rename_i e
  refine std_congr ((std_kids h hs hi).pre h hp) fun x y hq => ?_
  unfold upd
  rw [if_neg]
  rintro ⟨k1, k2⟩
  rw [s.x] at k1
  rw [s.y] at k2
  have q := s.q
  unfold inQ at q hq
  have hw := p2pos lv
  generalize (2:Int) ^ lv = w at *
  generalize loc lv (qd (qh (lv + 1)) c) = p at *
  rcases s.ha with rfl | rfl <;> rcases s.hb with rfl | rfl <;> rcases (by omega : i = 0 ∨ i = 1 ∨ i = 2 ∨ i = 3) with rfl | rfl | rfl | rfl <;> simp only [Nat.reduceDiv, Nat.reduceMod] at * <;> omega
theorem setL_std {room to : Int} {v : Bool} (ht : (to = 0 ∧ v = false) ∨ (to = 1 ∧ v = true)) : ∀ (lv : Nat) (ns : List Node) (n : Int) (c : Cell) (f : Int → Int → Bool) (ox oy : Int), Wf ns → lv ≤ 42 → Std ns lv n f ox oy → inQ lv (loc lv c).x (loc lv c).y →
  (((ns.length + lv : Nat) : Int) ≤ room → ∃ ms m, setL room to lv ns n c = (ms, m, 0) ∧ New ns lv lv (upd f ((loc lv c).x + ox) ((loc lv c).y + oy) v) ox oy ms m) ∧
  (∀ p, Std ns lv p (upd f ((loc lv c).x + ox) ((loc lv c).y + oy) v) ox oy → setL room to lv ns n c = (ns, p, 0))
 | 0, ns, n, c, f, ox, oy, h, hl, hs, hq => by
  have st : Std ns 0 to (upd f ((loc 0 c).x + ox) ((loc 0 c).y + oy) v) ox oy := by
   refine ⟨?_, fun x y hxy => ?_⟩
   ·rcases ht with ⟨rfl, _⟩ | ⟨rfl, _⟩
    ·exact ⟨h.in0, by rw [h.nd0]; rfl⟩
    ·exact ⟨h.in1, by rw [h.nd1]; rfl⟩
   ·unfold inQ at hxy
    rw [Int.pow_zero] at hxy
    unfold upd loc
    rw [if_pos ⟨by simp only; omega, by simp only; omega⟩]
    unfold al
    rcases ht with ⟨rfl, rfl⟩ | ⟨rfl, rfl⟩ <;> rfl
  refine ⟨fun _ => ⟨ns, to, rfl, h, List.prefix_refl _, Nat.le_refl _, st⟩, fun p hp => ?_⟩
  rw [std_uniq h hp st]
  rfl
 | lv + 1, ns, n, c, f, ox, oy, h, hl, hs, hq => by
  obtain ⟨a, b, s⟩ := loc_step hq
  have hkid : Std ns lv (kidx (nd ns n) (qk c)) f (ox + a * 2 ^ lv) (oy + b * 2 ^ lv) := by
   rw [kidx_kid ns n s.ha s.hb s.k]
   refine ⟨kid_is h hs.1 s.ha s.hb, fun x y hxy => ?_⟩
   rw [← al_kid ns hxy s.ha s.hb, hs.2]
   ·congr 1 <;> omega
   ·have hw := p2pos lv
    unfold inQ at hxy ⊢
    rw [p2s]
    rcases s.ha with rfl | rfl <;> rcases s.hb with rfl | rfl <;> omega
  obtain ⟨i1, i2⟩ := setL_std (room := room) ht lv ns _ (qd (qh (lv + 1)) c) f _ _ h (by omega) hkid s.q
  have el : ∀ w, (loc lv (qd (qh (lv + 1)) c)).x + (ox + a * 2 ^ lv) = w → w = (loc (lv + 1) c).x + ox := fun w e => by rw [s.x]; omega
  have ex' : (loc lv (qd (qh (lv + 1)) c)).x + (ox + a * 2 ^ lv) = (loc (lv + 1) c).x + ox := by rw [s.x]; omega
  have ey : (loc lv (qd (qh (lv + 1)) c)).y + (oy + b * 2 ^ lv) = (loc (lv + 1) c).y + oy := by rw [s.y]; omega
  rw [ex', ey] at i1 i2
  constructor
  ·intro hr
   obtain ⟨ms, m, e, ok⟩ := i1 (by omega)
   have ks := fun {i : Nat} (hi : i < 4) => upd_kids h ok.pre hs s ok.std hi
   have k0 := ks (i := 0) (by omega)
   have k1 := ks (i := 1) (by omega)
   have k2 := ks (i := 2) (by omega)
   have k3 := ks (i := 3) (by omega)
   simp only [Nat.reduceDiv, Nat.reduceMod] at k0 k1 k2 k3
   obtain ⟨ms2, m2, e2, ok2⟩ := put_new (room := room) ok.wf (lv := lv) (ox := ox) (oy := oy) (by omega) (k0.at (by omega) (by omega)) (k1.at (by omega) (by omega)) (k2.at (by omega) (by omega)) (k3.at (by omega) (by omega)) (by have := ok.len; omega)
   refine ⟨ms2, m2, ?_, ok2.wf, ok.pre.trans ok2.pre, by have := ok.len; have := ok2.len; omega, ok2.std⟩
   simp only [setL, e]
   rw [if_neg (by omega), put1_eq]
   exact e2
  ·intro p hp
   have hm : Std ns lv ((nd ns p).kids.getD (qk c) default) (upd f ((loc (lv + 1) c).x + ox) ((loc (lv + 1) c).y + oy) v) (ox + a * 2 ^ lv) (oy + b * 2 ^ lv) := by
    have hk := s.k
    rcases s.ha with rfl | rfl <;> rcases s.hb with rfl | rfl
    ·rw [show qk c = 0 by omega]; exact (std_kids h hp (q := 0) (by omega)).at (by omega) (by omega)
    ·rw [show qk c = 2 by omega]; exact (std_kids h hp (q := 2) (by omega)).at (by omega) (by omega)
    ·rw [show qk c = 1 by omega]; exact (std_kids h hp (q := 1) (by omega)).at (by omega) (by omega)
    ·rw [show qk c = 3 by omega]; exact (std_kids h hp (q := 3) (by omega)).at (by omega) (by omega)
   have e := i2 _ hm
   have ks := fun {i : Nat} (hi : i < 4) => upd_kids h (List.prefix_refl _) hs s hm hi
   have k0 := ks (i := 0) (by omega)
   have k1 := ks (i := 1) (by omega)
   have k2 := ks (i := 2) (by omega)
   have k3 := ks (i := 3) (by omega)
   simp only [Nat.reduceDiv, Nat.reduceMod] at k0 k1 k2 k3
   have e2 := put_found (room := room) (ox := ox) (oy := oy) h (k0.at (by omega) (by omega)) (k1.at (by omega) (by omega)) (k2.at (by omega) (by omega)) (k3.at (by omega) (by omega)) hp
   simp only [setL, e]
   rw [if_neg (by omega), put1_eq]
   exact e2
end R7
end Go.GL


set_option linter.unusedVariables false
namespace Go.GL
namespace R7
open R6 R9
theorem Sd.of' {ns : List Node} {lv : Nat} {n : Int} {l : List Cell} (hs : R1.Srt l) (hb : ∀ c ∈ l, inL ((lv + 1 : Nat) : Int) c) (s : Std ns (lv + 1) n (pl l) (-2 ^ lv) (-2 ^ lv)) : Sd ns lv n l := by
 refine ⟨s.1, hs, hb, fun c hc => ?_⟩
 rw [s.2 _ _ (by unfold inL at hc; rw [side_succ] at hc; unfold inQ; rw [p2s]; omega)]
 unfold pl
 rw [show c.x + 2 ^ lv + -2 ^ lv = c.x by omega, show c.y + 2 ^ lv + -2 ^ lv = c.y by omega]
theorem upd_pl {l : List Cell} (h : R1.Srt l) (c : Cell) (v : Bool) : upd (pl l) c.x c.y v = pl (R1.outW l c v) := by
 funext x y
 unfold upd pl
 have hm := R1.mem_outW h (c := c) (d := ⟨x, y⟩) (alive := v)
 by_cases e : x = c.x ∧ y = c.y
 ·rw [if_pos e]
  have e2 : (⟨x, y⟩ : Cell) = c := by cases c; simp only at e; rw [e.1, e.2]
  rw [e2] at hm ⊢
  cases v
  ·rw [decide_eq_false]; rw [hm]; simp
  ·rw [decide_eq_true]; rw [hm]; simp
 ·rw [if_neg e]
  have e2 : (⟨x, y⟩ : Cell) ≠ c := fun k => e (by rw [← k]; exact ⟨rfl, rfl⟩)
  refine decide_eq_decide.2 ?_
  rw [hm]
  constructor
  ·intro k; exact .inr ⟨e2, k⟩
  ·rintro (k | k)
   ·exact absurd k.1 e2
   ·exact k.2
theorem outW_bd {lv : Int} {l : List Cell} (hs : R1.Srt l) (hb : ∀ c ∈ l, inL lv c) {c : Cell} (hc : inL lv c) (v : Bool) : ∀ d ∈ R1.outW l c v, inL lv d := fun d hd => by
 rcases (R1.mem_outW hs).1 hd with k | k
 ·rw [k.1]; exact hc
 ·exact hb d k.2
/-- What 'Set' comes to. -/
theorem Sd.set {ns : List Node} {room : Int} (h : R6.right ns room) {lv : Nat} (hl : lv + 1 ≤ 42) {n : Int} {l : List Cell} (s : Sd ns lv n l) {c : Cell} (hc : inL ((lv + 1 : Nat) : Int) c) (v : Bool) :
  (((ns.length + (lv + 1) : Nat) : Int) ≤ room → ∃ ms m, setM ns room n c v = (ms, m, 0) ∧ Wf ms ∧ ns <+: ms ∧ ms.length ≤ ns.length + (lv + 1) ∧ Sd ms lv m (R1.outW l c v)) ∧
  (∀ p, Sd ns lv p (R1.outW l c v) → setM ns room n c v = (ns, p, 0)) := by
 have hw := (R6.right_iff.1 h).2
 have e3 : ((lv + 1 : Nat) : Int).toNat = lv + 1 := by omega
 have hq := inQ_loc.2 hc
 have ht : ((if v = true then (1:Int) else 0) = 0 ∧ v = false) ∨ ((if v = true then (1:Int) else 0) = 1 ∧ v = true) := by cases v <;> simp
 have key := setL_std (room := room) ht (lv + 1) ns n c (pl l) (-2 ^ lv) (-2 ^ lv) hw hl s.std' hq
 have ex' : (loc (lv + 1) c).x + -2 ^ lv = c.x := by unfold loc; simp only; omega
 have ey : (loc (lv + 1) c).y + -2 ^ lv = c.y := by unfold loc; simp only; omega
 rw [ex', ey, upd_pl s.srt] at key
 have em : setM ns room n c v = if (setL room (if v then 1 else 0) (lv + 1) ns n c).2.2 ≠ 0 then (ns, 0, (setL room (if v then 1 else 0) (lv + 1) ns n c).2.2) else setL room (if v then 1 else 0) (lv + 1) ns n c := by
  unfold setM
  rw [if_pos (s.may h), s.is.2, if_pos hc, e3]
 refine ⟨fun hr => ?_, fun p hp => ?_⟩
 ·obtain ⟨ms, m, e, ok⟩ := key.1 hr
  refine ⟨ms, m, ?_, ok.wf, ok.pre, ok.len, Sd.of' (R1.outW_srt s.srt c v) (outW_bd s.srt s.bd hc v) ok.std⟩
  rw [em, e]; rfl
 ·rw [em, key.2 p hp.std']; rfl
/-! ### Grow -/
theorem pop_of_al {ns : List Node} (h : Wf ns) {lv : Nat} {n : Int} (hn : IsN ns lv n) (hd : (nd ns n).pop = 0) : Std ns lv n nil2 0 0 := ⟨hn, fun x y _ => al_dead h lv n x y hn hd⟩
structure Big (ns : List Node) (lv : Nat) (f : Int → Int → Bool) (H : Int) (ms : List Node) (m : Int) : Prop where
 wf : Wf ms
 pre : ns <+: ms
 len : ms.length + E ms 42 ≤ ns.length + E ns 42 + 5
 std : Std ms (lv + 2) m f (-(2 * H)) (-(2 * H))
theorem larger_ok {ns : List Node} (h : Wf ns) {room : Int} {lv : Nat} (hl : lv + 2 ≤ 42) {n : Int} {f : Int → Int → Bool} {H : Int} (hH : (2:Int) ^ lv = H) (hs : Std ns (lv + 1) n f (-H) (-H)) (hf : Supp f H) (hr : ((ns.length + E ns 42 + 5 : Nat) : Int) ≤ room) :
  ∃ ms m, larger ns room n = (ms, m, 0) ∧ Big ns lv f H ms m := by
 have hpos := p2pos lv
 rw [hH] at hpos
 have e3 : ((nd ns n).lv - 1).toNat = lv := by rw [hs.1.2]; omega
 obtain ⟨d1, dm, ed, dok, dp⟩ := empty_ok (room := room) (L := 42) (lv := lv) (by omega) h (by omega) (by omega)
 have sd := pop_of_al dok.wf dok.is dp
 have kd := fun {q : Nat} (hq : q < 4) => (std_kids h hs hq).pre h dok.pre
 have k0 := kd (q := 0) (by omega)
 have k1 := kd (q := 1) (by omega)
 have k2 := kd (q := 2) (by omega)
 have k3 := kd (q := 3) (by omega)
 simp only [Nat.reduceDiv, Nat.reduceMod, hH] at k0 k1 k2 k3
 have dd : ∀ {ms : List Node} (u v : Int), d1 <+: ms → Wf ms → (u ≤ -(2 * H) ∨ H ≤ u ∨ v ≤ -(2 * H) ∨ H ≤ v) → Std ms lv dm f u v := fun u v hp hw ho => by
  refine (std_dead sd fun x y hq => ?_).pre dok.wf hp
  unfold inQ at hq
  rw [hH] at hq
  refine Bool.eq_false_iff.2 fun ht => ?_
  have := hf _ _ ht
  omega
 have dl := dok.len
 have el1 := E_pre dok.pre 42
 obtain ⟨m0, p0, e0, o0⟩ := put_new (room := room) dok.wf (lv := lv) (by omega) (ox := -(2 * H)) (oy := -(2 * H)) (f := f) (dd _ _ (List.prefix_refl _) dok.wf (by omega)) (dd _ _ (List.prefix_refl _) dok.wf (by omega)) (dd _ _ (List.prefix_refl _) dok.wf (by omega)) (k0.at (by omega) (by omega)) (by omega)
 obtain ⟨m1, p1, e1, o1⟩ := put_new (room := room) o0.wf (lv := lv) (by omega) (ox := 0) (oy := -(2 * H)) (f := f) (dd _ _ o0.pre o0.wf (by omega)) (dd _ _ o0.pre o0.wf (by omega)) ((k1.pre dok.wf o0.pre).at (by omega) (by omega)) (dd _ _ o0.pre o0.wf (by omega)) (by have := o0.len; omega)
 have q1 := o0.pre.trans o1.pre
 obtain ⟨m2, p2, e2, o2⟩ := put_new (room := room) o1.wf (lv := lv) (by omega) (ox := -(2 * H)) (oy := 0) (f := f) (dd _ _ q1 o1.wf (by omega)) ((k2.pre dok.wf q1).at (by omega) (by omega)) (dd _ _ q1 o1.wf (by omega)) (dd _ _ q1 o1.wf (by omega)) (by have := o0.len; have := o1.len; omega)
 have q2 := q1.trans o2.pre
 obtain ⟨m3, p3, e3', o3⟩ := put_new (room := room) o2.wf (lv := lv) (by omega) (ox := 0) (oy := 0) (f := f) ((k3.pre dok.wf q2).at (by omega) (by omega)) (dd _ _ q2 o2.wf (by omega)) (dd _ _ q2 o2.wf (by omega)) (dd _ _ q2 o2.wf (by omega)) (by have := o0.len; have := o1.len; have := o2.len; omega)
 have q3 := q2.trans o3.pre
 have hH2 : (2:Int) ^ (lv + 1) = 2 * H := by rw [p2s, hH]; omega
 obtain ⟨m4, p4, e4, o4⟩ := put_new (room := room) o3.wf (lv := lv + 1) (by omega) (ox := -(2 * H)) (oy := -(2 * H)) (f := f) (((o0.std.pre o0.wf o1.pre).pre o1.wf o2.pre).pre o2.wf o3.pre) ((((o1.std.pre o1.wf o2.pre).pre o2.wf o3.pre)).at (by omega) (by omega)) ((o2.std.pre o2.wf o3.pre).at (by omega) (by omega)) (o3.std.at (by omega) (by omega)) (by have := o0.len; have := o1.len; have := o2.len; have := o3.len; omega)
 refine ⟨m4, p4, ?_, o4.wf, dok.pre.trans (q3.trans o4.pre), ?_, o4.std⟩
 ·rw [larger_eq (d := (d1, dm, 0)) (r0 := (m0, p0, 0)) (r1 := (m1, p1, 0)) (r2 := (m2, p2, 0)) (r3 := (m3, p3, 0)) (r4 := (m4, p4, 0)) (by rw [e3]; exact ed) e0 e1 e2 e3' e4]
  simp
 ·have := E_pre (q3.trans o4.pre) 42
  have := o0.len
  have := o1.len
  have := o2.len
  have := o3.len
  have := o4.len
  omega
theorem inL_mono {a b : Nat} (h : a ≤ b) {c : Cell} (hc : inL ((a + 1 : Nat) : Int) c) : inL ((b + 1 : Nat) : Int) c := by
 have := R9.pow_le2 h
 unfold inL at *
 rw [side_succ] at *
 omega
theorem supp_pl {lv : Nat} {l : List Cell} (h : ∀ c ∈ l, inL ((lv + 1 : Nat) : Int) c) : Supp (pl l) (2 ^ lv) := fun x y ht => by
 have := h _ (of_decide_eq_true ht)
 unfold inL at this
 rw [side_succ] at this
 simp only at this
 omega
/-- What 'Grow' comes to. -/
theorem Sd.grow {ns : List Node} {room : Int} (h : R6.right ns room) {lv : Nat} (hl : lv + 2 ≤ 42) {n : Int} {l : List Cell} (s : Sd ns lv n l) (hr : ((ns.length + E ns 42 + 5 : Nat) : Int) ≤ room) :
  ∃ ms m, growM ns room n = (ms, m, 0) ∧ Wf ms ∧ ns <+: ms ∧ ms.length + E ms 42 ≤ ns.length + E ns 42 + 5 ∧ Sd ms (lv + 1) m l := by
 have hw := (R6.right_iff.1 h).2
 obtain ⟨ms, m, e, ok⟩ := larger_ok hw (room := room) hl rfl s.std' (supp_pl s.bd) hr
 refine ⟨ms, m, ?_, ok.wf, ok.pre, ok.len, Sd.of' s.srt (fun c hc => inL_mono (by omega) (s.bd c hc)) (ok.std.at ?_ ?_)⟩
 ·unfold growM
  rw [if_pos ⟨s.may h, by rw [s.is.2]; omega⟩]
  exact e
 all_goals (rw [p2s]; omega)
end R7
end Go.GL


set_option linter.unusedVariables false
namespace Go.GL
namespace R7
open R6 R9
/-! ### Made again -/
/-- What 'Make' comes to. -/
theorem Sd.make {ns : List Node} {room : Int} (h : R6.right ns room) {l : List Cell} {lv L : Nat} (hL : L ≤ 42) (hlv : lv + 1 ≤ L) (hl : R1.right l) (hb : ∀ c ∈ l, inL ((lv + 1 : Nat) : Int) c) (hr : ((ns.length + E ns L + l.length * (lv + 1) : Nat) : Int) ≤ room) :
  ∃ ms m, make ns room l ((lv + 1 : Nat) : Int) = (ms, m, 0) ∧ Wf ms ∧ ns <+: ms ∧ ms.length + E ms L ≤ ns.length + E ns L + l.length * (lv + 1) ∧ Sd ms lv m l := by
 obtain ⟨ms, m, e, ok, s⟩ := make_ok hL hlv h hl hb hr
 exact ⟨ms, m, e, ok.wf, ok.pre, ok.len, ok.is, R1.right_srt hl, hb, s⟩
/-- Of one level the same set is the same node. -/
theorem Sd.uniq {ns : List Node} (h : Wf ns) {lv : Nat} {n m : Int} {l : List Cell} (a : Sd ns lv n l) (b : Sd ns lv m l) : n = m := std_uniq h a.std' b.std'
theorem Sd.same {ns : List Node} (h : Wf ns) {lv : Nat} {n : Int} {l k : List Cell} (a : Sd ns lv n l) (b : Sd ns lv n k) : l = k := by
 rw [← a.puts h, ← b.puts h]
/-! ### Box -/
/-- The edge of what is alive. -/
structure EdOf (P : Int → Prop) (e : Cell) : Prop where
 bd : ∀ t, P t → e.x ≤ t ∧ t < e.y
 at_ : (∃ t, P t) → P e.x ∧ P (e.y - 1)
 no : (¬ ∃ t, P t) → e.x = e.y
theorem EdOf.some {P : Int → Prop} {e : Cell} (h : EdOf P e) : e.x ≠ e.y ↔ ∃ t, P t := by
 constructor
 ·intro hne; exact Classical.byContradiction fun hn => hne (h.no hn)
 ·rintro ⟨t, ht⟩; have := h.bd t ht; omega
theorem EdOf.congr {P Q : Int → Prop} {e : Cell} (h : EdOf P e) (hpq : ∀ t, P t ↔ Q t) : EdOf Q e := by
 have : P = Q := funext fun t => propext (hpq t)
 rwa [← this]
theorem EdOf.jn {P Q : Int → Prop} {a b : Cell} (ha : EdOf P a) (hb : EdOf Q b) (d : Int) : EdOf (fun t => P t ∨ Q (t - d)) (R7.jn a b d) := by
 unfold R7.jn
 by_cases h1 : b.x = b.y
 ·rw [if_pos h1]
  have hn : ¬ ∃ t, Q t := fun k => hb.some.2 k h1
  exact ha.congr fun t => ⟨.inl, fun k => k.resolve_right fun q => hn ⟨_, q⟩⟩
 rw [if_neg h1]
 have hq := hb.at_ (hb.some.1 h1)
 by_cases h2 : a.x = a.y
 ·rw [if_pos h2]
  have hn : ¬ ∃ t, P t := fun k => ha.some.2 k h2
  refine ⟨fun t k => ?_, fun _ => ⟨.inr ?_, .inr ?_⟩, fun k => absurd ⟨b.x + d, .inr ?_⟩ k⟩
  ·have := hb.bd _ (k.resolve_left fun q => hn ⟨_, q⟩)
   simp only
   omega
  ·show Q (b.x + d - d)
   rw [show b.x + d - d = b.x by omega]; exact hq.1
  ·show Q (b.y + d - 1 - d)
   rw [show b.y + d - 1 - d = b.y - 1 by omega]; exact hq.2
  ·show Q (b.x + d - d)
   rw [show b.x + d - d = b.x by omega]; exact hq.1
 rw [if_neg h2]
 have hp := ha.at_ (ha.some.1 h2)
 refine ⟨fun t k => ?_, fun _ => ⟨?_, ?_⟩, fun k => absurd ⟨a.x, .inl hp.1⟩ k⟩
 ·simp only
  rcases k with k | k
  ·have := ha.bd _ k
   constructor <;> split <;> omega
  ·have := hb.bd _ k
   constructor <;> split <;> omega
 ·simp only
  split
  ·exact .inr (by rw [show b.x + d - d = b.x by omega]; exact hq.1)
  ·exact .inl hp.1
 ·simp only
  split
  ·exact .inr (by rw [show b.y + d - 1 - d = b.y - 1 by omega]; exact hq.2)
  ·exact .inl hp.2
def liveAx (ns : List Node) (ax : Bool) (lv : Nat) (n t : Int) : Prop := ∃ x y, inQ lv x y ∧ al ns lv n x y = true ∧ t = if ax then x else y
theorem ex_ed {ns : List Node} (h : Wf ns) (ax : Bool) : ∀ (lv : Nat) (n : Int), IsN ns lv n → EdOf (liveAx ns ax lv n) (ex ns ax lv n)
 | 0, n, hn => by
  unfold ex
  rcases isN0 h hn with rfl | rfl
  ·rw [h.nd0]
   have hno : ¬ ∃ t, liveAx ns ax 0 0 t := by
    rintro ⟨t, x, y, _, ha, _⟩
    cases ha
   exact ⟨fun t ht => absurd ⟨t, ht⟩ hno, fun k => absurd k hno, fun _ => rfl⟩
  ·rw [h.nd1]
   have h0 : liveAx ns ax 0 1 0 := ⟨0, 0, by unfold inQ; simp, rfl, by cases ax <;> rfl⟩
   refine ⟨fun t ht => ?_, fun _ => ⟨h0, h0⟩, fun k => absurd ⟨0, h0⟩ k⟩
   obtain ⟨x, y, hq, _, rfl⟩ := ht
   unfold inQ at hq
   simp only [Int.pow_zero] at hq
   show 0 ≤ (if ax = true then x else y) ∧ (if ax = true then x else y) < 1
   split <;> omega
 | m + 1, n, hn => by
  obtain ⟨a, b, c, d⟩ := kids4 h hn
  have ea := ex_ed h ax m _ a
  have eb := ex_ed h ax m _ b
  have ec := ex_ed h ax m _ c
  have ed := ex_ed h ax m _ d
  have z : EdOf (fun _ => False) ⟨0, 0⟩ := ⟨fun _ k => k.elim, fun ⟨_, k⟩ => k.elim, fun _ => rfl⟩
  have w := p2pos m
  have key := (((z.jn ea 0).jn eb (if ax then 2 ^ m else 0)).jn ec (if ax then 0 else 2 ^ m)).jn ed (2 ^ m)
  unfold ex
  refine key.congr fun t => ?_
  have fw : ∀ (p q : Int), (p = 0 ∨ p = 1) → (q = 0 ∨ q = 1) → ∀ dd : Int, dd = (if ax then p * 2 ^ m else q * 2 ^ m) → liveAx ns ax m (R7.kid ns n (2 * q + p)) (t - dd) → liveAx ns ax (m + 1) n t := by
   rintro p q hp hq dd hd ⟨x, y, hxy, ha, ht⟩
   refine ⟨x + p * 2 ^ m, y + q * 2 ^ m, ?_, by rw [al_kid ns hxy hp hq]; exact ha, ?_⟩
   ·unfold inQ at hxy ⊢
    rw [p2s]
    rcases hp with rfl | rfl <;> rcases hq with rfl | rfl <;> omega
   ·cases ax <;> simp at ht hd ⊢ <;> omega
  constructor
  ·rintro ((((k | k) | k) | k) | k)
   ·exact k.elim
   ·exact fw 0 0 (.inl rfl) (.inl rfl) 0 (by simp) k
   ·exact fw 1 0 (.inr rfl) (.inl rfl) _ (by simp) k
   ·exact fw 0 1 (.inl rfl) (.inr rfl) _ (by simp) k
   ·exact fw 1 1 (.inr rfl) (.inr rfl) _ (by simp) k
  ·rintro ⟨x, y, hxy, ha, rfl⟩
   have bw : ∀ (p q : Int), (p = 0 ∨ p = 1) → (q = 0 ∨ q = 1) → inQ m (x - p * 2 ^ m) (y - q * 2 ^ m) → ∀ dd : Int, dd = (if ax then p * 2 ^ m else q * 2 ^ m) → liveAx ns ax m (R7.kid ns n (2 * q + p)) ((if ax then x else y) - dd) := by
    intro p q hp hq hin dd hd
    refine ⟨x - p * 2 ^ m, y - q * 2 ^ m, hin, ?_, ?_⟩
    ·rw [← al_kid ns hin hp hq, show x - p * 2 ^ m + p * 2 ^ m = x by omega, show y - q * 2 ^ m + q * 2 ^ m = y by omega]; exact ha
    ·cases ax <;> simp at hd ⊢ <;> omega
   obtain ⟨q0, q1, q2, q3⟩ := inQ_succ hxy
   by_cases hy : y < 2 ^ m
   ·by_cases hx : x < 2 ^ m
    ·exact .inl (.inl (.inl (.inr (bw 0 0 (.inl rfl) (.inl rfl) (by simpa using q0 hy hx) 0 (by simp)))))
    ·exact .inl (.inl (.inr (bw 1 0 (.inr rfl) (.inl rfl) (by simpa using q1 hy hx) _ (by simp))))
   ·by_cases hx : x < 2 ^ m
    ·exact .inl (.inr (bw 0 1 (.inl rfl) (.inr rfl) (by simpa using q2 hy hx) _ (by simp)))
    ·exact .inr (bw 1 1 (.inr rfl) (.inr rfl) (by simpa using q3 hy hx) _ (by simp))
theorem Sd.live {ns : List Node} {lv : Nat} {n : Int} {l : List Cell} (s : Sd ns lv n l) (ax : Bool) (t : Int) : liveAx ns ax (lv + 1) n t ↔ ∃ c ∈ l, t = (if ax then c.x else c.y) + 2 ^ lv := by
 constructor
 ·rintro ⟨x, y, hq, ha, rfl⟩
  have hin : inL ((lv + 1 : Nat) : Int) ⟨x - 2 ^ lv, y - 2 ^ lv⟩ := by
   unfold inQ at hq
   rw [p2s] at hq
   unfold inL
   rw [side_succ]
   simp only
   omega
  have := s.std _ hin
  simp only at this
  rw [show x - 2 ^ lv + 2 ^ lv = x by omega, show y - 2 ^ lv + 2 ^ lv = y by omega, ha] at this
  exact ⟨_, of_decide_eq_true this.symm, by cases ax <;> simp <;> omega⟩
 ·rintro ⟨c, hc, rfl⟩
  have hin := s.bd c hc
  refine ⟨c.x + 2 ^ lv, c.y + 2 ^ lv, ?_, by rw [s.std c hin]; exact decide_eq_true hc, by cases ax <;> rfl⟩
  unfold inL at hin
  rw [side_succ] at hin
  unfold inQ
  rw [p2s]
  omega
/-- What 'Box' comes to. -/
theorem Sd.box {ns : List Node} {room : Int} (h : R6.right ns room) {lv : Nat} (hl : lv + 1 ≤ 30) {n : Int} {l : List Cell} (s : Sd ns lv n l) (hr : R1.right l) : boxM ns room n = R1.box l := by
 have hw := (R6.right_iff.1 h).2
 have hp := s.pop hw hl
 have e3 : ((lv + 1 : Nat) : Int).toNat = lv + 1 := by omega
 unfold boxM
 by_cases h0 : l.length = 0
 ·rw [if_neg (by rw [hp]; omega)]
  unfold R1.box
  rw [if_pos (.inl h0)]
 ·rw [if_pos ⟨s.may h, by rw [hp]; omega⟩, R2.box_some h0 hr, s.is.2, e3, side_succ]
  have hx := (ex_ed hw true (lv + 1) n s.is).congr (s.live true)
  have hy := (ex_ed hw false (lv + 1) n s.is).congr (s.live false)
  obtain ⟨⟨a1, ha1, ea1⟩, a2, ha2, ea2⟩ := R2.lo_mem h0
  obtain ⟨⟨b1, hb1, eb1⟩, b2, hb2, eb2⟩ := R2.hi_mem h0
  have hlo := (R1.lo_le (l := l) (c := R1.g l 0)).2
  have hhi := (R1.hi_ge (l := l) (c := R1.g l 0)).2
  generalize R1.lo l (R1.g l 0) = lo at *
  generalize R1.hi l (R1.g l 0) = hi at *
  generalize ex ns true (lv + 1) n = X at *
  generalize ex ns false (lv + 1) n = Y at *
  obtain ⟨⟨c1, hc1, ec1⟩, c2, hc2, ec2⟩ := hx.at_ ⟨_, a1, ha1, rfl⟩
  obtain ⟨⟨d1, hd1, ed1⟩, d2, hd2, ed2⟩ := hy.at_ ⟨_, a1, ha1, rfl⟩
  have u1 := hx.bd _ ⟨a1, ha1, rfl⟩
  have u2 := hx.bd _ ⟨b1, hb1, rfl⟩
  have u3 := hy.bd _ ⟨a2, ha2, rfl⟩
  have u4 := hy.bd _ ⟨b2, hb2, rfl⟩
  have v1 := hlo c1 hc1
  have v2 := hhi c2 hc2
  have v3 := hlo d1 hd1
  have v4 := hhi d2 hd2
  simp only [if_true, Bool.false_eq_true, if_false] at ec1 ec2 ed1 ed2 u1 u2 u3 u4
  have w1 : X.x - 2 ^ lv = lo.x := by omega
  have w2 : Y.x - 2 ^ lv = lo.y := by omega
  have w3 : X.y - X.x = hi.x - lo.x + 1 := by omega
  have w4 : Y.y - Y.x = hi.y - lo.y + 1 := by omega
  rw [w1, w2, w3, w4]
end R7
end Go.GL


set_option linter.unusedVariables false
namespace Go.GL
namespace RL
open R6 R7
theorem Sq.sd {c : Int} {nodes : List Five} {raw : List Cell} {level : Int} {lv : Nat} {ms : List Node} {m : Int} (h : Sq c nodes raw level lv ms m) : Sd ms lv m (set raw) :=
 ⟨h.is, R1.puts_srt _, fun d hd => by
  have h8 := p8 h.lv3.1
  have := mem_set hd
  unfold inL
  rw [side_succ]
  omega, h.sem⟩
theorem Sq.at {c : Int} {nodes : List Five} {raw : List Cell} {level : Int} {lv : Nat} {ms : List Node} {m : Int} (h : Sq c nodes raw level lv ms m) : 0 ≤ m ∧ m < ms.length ∧ (ms.getD m.toNat default).lv = ((lv + 1 : Nat) : Int) ∧ (ms.getD m.toNat default).pop = (set raw).length := by
 refine ⟨h.is.1.1, h.is.1.2, h.is.2, h.sd.pop h.wf (by have := h.lv3; omega)⟩
end RL
namespace R7
end R7
end Go.GL


set_option linter.unusedVariables false
namespace Go.GL
open Go.Proofs
section
variable {w0 : World} {n : Nat} {F : Frm} {A : List Asrt} {I : List Chunk} {P : Program}
variable {dst : Option Tmp} {ty : TypeId} {pos : String} {af : Array Edge} {gd : Option (Nat × Bool)}
variable {x y : Operand} {xt yt : TypeId}
end
attribute [local irreducible] wpList Code.wp Exit.then Exit.inBlock Ends Tri TriH OpV OpG FnC epf wpAnyH
variable {A : List Asrt} {I : List Chunk}
end Go.GL


set_option linter.unusedVariables false
namespace Go.GL
open Go.Proofs
theorem num_int : NumTy Try.prog 3 1 := NumTy.int
theorem num_2 : NumTy Try.prog 70 2 := NumTy.arr num_int (by decide)
theorem num_4 : NumTy Try.prog 61 4 := NumTy.arr num_int (by decide)
theorem num_5 : NumTy Try.prog 104 5 := NumTy.arr num_int (by decide)
theorem num_cell : NumTy Try.prog 28 2 := NumTy.str (ns := [1, 1]) (by exact ⟨num_int, num_int, trivial⟩) (by decide)
theorem num_node : NumTy Try.prog 63 6 := NumTy.str (ns := [1, 4, 1]) (by exact ⟨num_int, num_4, num_int, trivial⟩) (by decide)
theorem laid : laidOutB Try.prog = true := by kernel_rfl
theorem own : ownKnob Try.prog.godebug = none := by kernel_rfl
end Go.GL


set_option linter.unusedVariables false
namespace Go.GL
/-- A store's head. -/
structure Sto where
 a : Option Addr
 len : Nat
 cap : Nat
 room : Int
 deriving Inhabited
instance : Enc Sto := ⟨fun s => [.slice s.a s.len s.cap, .int .i64 s.room], 2, fun _ => rfl, fun _ => rfl⟩
/-- A slice's head. -/
structure Sl where
 a : Option Addr
 len : Nat
 cap : Nat
 deriving Inhabited
instance : Enc Sl := ⟨fun s => [.slice s.a s.len s.cap], 1, fun _ => rfl, fun _ => rfl⟩
/-- Four numbers. -/
structure Four where
 r0 : Int
 r1 : Int
 r2 : Int
 r3 : Int
 deriving DecidableEq, Inhabited
instance : Enc Four := ⟨fun x => [.int .i64 x.r0, .int .i64 x.r1, .int .i64 x.r2, .int .i64 x.r3], 4, fun _ => rfl, fun _ => rfl⟩
instance : Dec Four := ⟨fun xs => ⟨xs.getD 0 0, xs.getD 1 0, xs.getD 2 0, xs.getD 3 0⟩, fun xs h => by
 match xs, h with
 | [a, b, c, d], _ => rfl⟩
namespace R6
end R6
end Go.GL


set_option linter.unusedVariables false
namespace Go.GL
open Go.Proofs
attribute [local irreducible] wpList Code.wp Exit.then Exit.inBlock Ends Tri TriH OpV OpG FnC epf wpAnyH
variable {A : List Asrt} {I : List Chunk}
theorem ref07_emptyX {ns : List Node} {a : Option Addr} {cap lv : Nat} {room : Int} {p : List Node × Int × Int} (hs : StA I a cap ns) (hg : R6.Good ns room) (hlv : lv ≤ 1000) (he : R7.empty ns room lv = p) :
  FnC Try.prog 73 [storeV a ns.length cap room, .int .i64 (lv : Nat)].toArray A I (StoreR p room A I) := by
 subst he
 exact ref07_empty hs hg hlv
theorem ref06_putX {ns : List Node} {a : Option Addr} {cap : Nat} {room q0 q1 q2 q3 : Int} {p : List Node × Int × Int} (hs : StA I a cap ns) (hg : R6.Good ns room) (he : R6.put ns room q0 q1 q2 q3 = p) :
  FnC Try.prog 75 [storeV a ns.length cap room, int4V q0 q1 q2 q3].toArray A I (StoreR p room A I) := by
 subst he
 exact ref06_put hs hg.len hg.mod
set_option maxHeartbeats 4000000 in
set_option maxRecDepth 100000 in
theorem ref07_largerX {ns : List Node} {a : Option Addr} {cap : Nat} {room n : Int} (hs : StA I a cap ns) (hm : R7.may ns room n) :
  FnC Try.prog 58 [storeV a ns.length cap room, .int .i64 n].toArray A I (StoreR (R7.larger ns room n) room A I) := by
 obtain ⟨⟨hn0, hn1⟩, lv, hlv1, hlv2, hlv⟩ := hm.is
 have hr := hm.1
 have hss := hs.sl
 have hg : R6.Good ns room := hr.good (by have := hr.1.2.1; omega)
 have hlv' : (ns.getD n.toNat default).lv = lv := hlv
 obtain ⟨m, rfl⟩ : ∃ m, lv = m + 1 := ⟨lv - 1, by omega⟩
 obtain ⟨d, hd⟩ : ∃ r, R7.empty ns room m = r := ⟨_, rfl⟩
 obtain ⟨r0, hr0⟩ : ∃ r, R6.put d.1 room d.2.1 d.2.1 d.2.1 (R6.nd ns n).k0 = r := ⟨_, rfl⟩
 obtain ⟨r1, hr1⟩ : ∃ r, R6.put r0.1 room d.2.1 d.2.1 (R6.nd ns n).k1 d.2.1 = r := ⟨_, rfl⟩
 obtain ⟨r2, hr2⟩ : ∃ r, R6.put r1.1 room d.2.1 (R6.nd ns n).k2 d.2.1 d.2.1 = r := ⟨_, rfl⟩
 obtain ⟨r3, hr3⟩ : ∃ r, R6.put r2.1 room (R6.nd ns n).k3 d.2.1 d.2.1 d.2.1 = r := ⟨_, rfl⟩
 obtain ⟨r4, hr4⟩ : ∃ r, R6.put r3.1 room r0.2.1 r1.2.1 r2.2.1 r3.2.1 = r := ⟨_, rfl⟩
 have hL := R7.larger_eq (by rw [hlv, show (((m + 1 : Nat) : Int) - 1).toNat = m by omega]; exact hd) hr0 hr1 hr2 hr3 hr4
 have hgd : R6.Good d.1 room := by rw [← hd]; exact R7.emptyF_good room m ns 0 hg
 have hg0 : R6.Good r0.1 room := by rw [← hr0]; exact hgd.put _ _ _ _
 have hg1 : R6.Good r1.1 room := by rw [← hr1]; exact hg0.put _ _ _ _
 have hg2 : R6.Good r2.1 room := by rw [← hr2]; exact hg1.put _ _ _ _
 have hg3 : R6.Good r3.1 room := by rw [← hr3]; exact hg2.put _ _ _ _
 generalize R7.larger ns room n = res at hL ⊢
 skip
 skip
 refine fn_enter2 Try.func58 rfl Try.ntmps58 rfl fun w0 => ?_
 refine tS (tR ?_)
 refine tri_g (opg_box_agg rfl) rfl ?_
 rintro _ _ _ ⟨b2, rfl, rfl, rfl⟩
 refine tri_g opg_alloc rfl ?_
 rintro _ _ _ ⟨b4, rfl, rfl, rfl⟩
 refine tA rfl rfl (tA rfl rfl (tN (tT (tS ?_))))
 skip
 refine tR ?_
 refine tri_v (opv_fieldAddr rfl rfl) rfl ?_
 refine tri_v (opv_load1 rfl rfl rfl) rfl ?_
 refine tM rfl rfl ?_
 refine tri_v (opv_indexAddrS rfl rfl (by omega) (by omega) (by assumption) rfl) rfl ?_
 refine tri_v (opv_fieldAddrE rfl (by assumption) (by omega) rfl) rfl ?_
 refine tri_v (opv_loadEA rfl (by assumption) rfl (by omega) rfl rfl) rfl ?_
 refine tri_g opg_alloc rfl ?_
 rintro _ _ _ ⟨b7, rfl, rfl, rfl⟩
 refine tri_g (opg_store rfl rfl rfl rfl rfl rfl) rfl ?_
 rintro _ _ _ ⟨rfl, rfl⟩
 refine tN (tT (tS ?_))
 skip
 skip
 refine tri_cut (fun F' A' J => ∃ b8 a3 c3, F' = [(1, .int .i64 n), (2, pt b2 0), (4, pt b4 0), (7, pt b7 0), (8, pt b8 0), (9, .int .i64 d.2.1), (10, .int .i64 d.2.2)] ∧ A' = Box b8 [.slice a3 d.1.length c3, .int .i64 room] 26 :: Box b7 [.int .i64 (ns.getD n.toNat default).k0, .int .i64 (ns.getD n.toNat default).k1, .int .i64 (ns.getD n.toNat default).k2, .int .i64 (ns.getD n.toNat default).k3] 61 :: Box b4 [.slice none 0 0, .int .i64 0] 26 :: Box b2 [.slice a ns.length cap, .int .i64 room] 26 :: A ∧ StA J a3 c3 d.1 ∧ I ⊆ J) ?_ ?_
 ·refine tri_draw [0, 1, 2, 3, 4, 5, 6, 7, 8, 9, 10, 11, 12, 13, 14, 15, 16] rfl [] rfl mixed ?_
  refine th_take rfl rfl (by kernel_rfl)  (opv_loadA rfl rfl rfl) ?_
  refine th_take rfl rfl (by kernel_rfl)  (opv_fieldAddr rfl rfl) ?_
  refine th_take rfl rfl (by kernel_rfl)  (opv_load1 rfl rfl rfl) ?_
  refine th_take rfl rfl (by kernel_rfl)  (opv_move rfl) ?_
  refine th_take rfl rfl (by kernel_rfl)  (opv_indexAddrS rfl rfl (by omega) (by omega) (by assumption) rfl) ?_
  refine th_take rfl rfl (by kernel_rfl)  (opv_fieldAddrE rfl (by assumption) (by omega) rfl) ?_
  refine th_take rfl rfl (by kernel_rfl)  (opv_loadE1 rfl (by assumption) rfl (by omega) rfl rfl) ?_
  refine th_take rfl rfl (by kernel_rfl)  (opv_sub rfl rfl (w64 (by omega) (by omega))) ?_
  rw [show (ns.getD n.toNat default).lv - 1 = (m : Int) by omega]
  refine th_two (j := 13) [8, 9, 10, 11, 12, 14, 15, 16] (by kernel_rfl) rfl ?_ ?_
  ·refine (step_m rfl rfl (opg_call (xs := [_, _]) rfl (ref07_emptyX hs hg (by omega) hd)) ?_)
   rintro _ _ I3 ⟨a3, c3, rfl, hs3, rfl, hI3⟩
   refine ⟨Suf.h, (by assumption), ?_⟩
   refine th_take rfl rfl (by kernel_rfl)  (opv_move rfl) ?_
   refine th_take rfl rfl (by kernel_rfl)  (opv_extract rfl rfl) ?_
   refine th_take rfl rfl (by kernel_rfl)  (opv_extract rfl rfl) ?_
   refine th_take rfl rfl (by kernel_rfl)  (opv_extract rfl rfl) ?_
   refine th_one (by kernel_rfl) (step_m rfl rfl opg_alloc ?_)
   rintro _ _ _ ⟨b8, rfl, rfl, rfl⟩
   refine ⟨Suf.h, (by assumption), ?_⟩
   refine th_one (by kernel_rfl) (step_m rfl rfl (opg_store rfl rfl rfl rfl rfl rfl) ?_)
   rintro _ _ _ ⟨rfl, rfl⟩
   refine ⟨Suf.h, (by assumption), ?_⟩
   refine th_take rfl rfl (by kernel_rfl)  (opv_assign rfl) ?_
   refine th_take rfl rfl (by kernel_rfl)  (opv_assign rfl) ?_
   refine th_done (by kernel_rfl) ?_
   exact tri_cutEnd _ ⟨b8, a3, c3, rfl, rfl, hs3, hI3⟩ ⟨rfl, rfl, rfl, rfl, rfl, rfl, rfl, trivial⟩
  ·refine (step_m rfl rfl opg_alloc ?_)
   rintro _ _ _ ⟨b8, rfl, rfl, rfl⟩
   refine ⟨Suf.h, (fun _ h => h), ?_⟩
   refine th_one (by kernel_rfl) (step_m rfl rfl (opg_call (xs := [_, _]) rfl (ref07_emptyX hs hg (by omega) hd)) ?_)
   rintro _ _ I3 ⟨a3, c3, rfl, hs3, rfl, hI3⟩
   refine ⟨Suf.h, (by assumption), ?_⟩
   refine th_take rfl rfl (by kernel_rfl)  (opv_move rfl) ?_
   refine th_take rfl rfl (by kernel_rfl)  (opv_extract rfl rfl) ?_
   refine th_take rfl rfl (by kernel_rfl)  (opv_extract rfl rfl) ?_
   refine th_take rfl rfl (by kernel_rfl)  (opv_extract rfl rfl) ?_
   refine th_one (by kernel_rfl) (step_m rfl rfl (opg_store rfl rfl rfl rfl rfl rfl) ?_)
   rintro _ _ _ ⟨rfl, rfl⟩
   refine ⟨Suf.h, (by assumption), ?_⟩
   refine th_take rfl rfl (by kernel_rfl)  (opv_assign rfl) ?_
   refine th_take rfl rfl (by kernel_rfl)  (opv_assign rfl) ?_
   refine th_done (by kernel_rfl) ?_
   exact tri_cutEnd _ ⟨b8, a3, c3, rfl, rfl, hs3, hI3⟩ ⟨rfl, rfl, rfl, rfl, rfl, rfl, rfl, trivial⟩
 rintro _ _ I1 ⟨b8, a1, c1, rfl, rfl, hs1, hI1⟩
 refine tT (tS (tS (tR (tM rfl rfl ?_))))
 refine tri_v (opv_neq rfl rfl) rfl ?_
 refine tN (tT ?_)
 skip
 refine tri_cond_dec rfl (fun h1 => ?_) (fun h1 => ?_)
 ·rw [if_pos h1] at hL
  subst hL
  refine tS (tR ?_)
  refine tri_v (opv_loadA rfl rfl rfl) rfl ?_
  refine tM rfl rfl ?_
  refine tri_g (opg_store rfl rfl rfl rfl rfl rfl) rfl ?_
  rintro _ _ _ ⟨rfl, rfl⟩
  refine tA rfl rfl (tA rfl rfl (tN (tT (tri_ret (tri_then_ret ?_)))))
  refine tri_end A Suf.h rfl (.cons (rv_cellA rfl rfl rfl) (.cons (rv_tmp rfl) (.cons (rv_tmp rfl) .nil))) ⟨a, cap, rfl, hs.mono hI1, rfl, hI1⟩
 ·rw [if_neg h1] at hL
  refine tri_skip (tT (tS (tR ?_)))
  refine tri_g opg_alloc rfl ?_
  rintro _ _ _ ⟨b11, rfl, rfl, rfl⟩
  refine tN (tT (tS (tS (tR (tA rfl rfl (tN (tT ?_)))))))
  refine tri_block ?_
  refine tri_rounds 5 ?_
  refine tri_round ?_
  refine tS (tS (tR (tM rfl rfl ?_)))
  refine tri_v (opv_lss rfl rfl) rfl ?_
  refine tN (tT ?_)
  refine tri_cond_is rfl (by decide) ?_
  refine tri_skip (tT (tS (tri_block (tS (tR (tM rfl rfl (tM rfl rfl ?_)))))))
  refine tM rfl rfl (tM rfl rfl ?_)
  refine tri_v (opv_buildA rfl rfl) rfl ?_
  refine tri_g opg_alloc rfl ?_
  rintro _ _ _ ⟨b13, rfl, rfl, rfl⟩
  refine tri_g (opg_store rfl rfl rfl rfl rfl rfl) rfl ?_
  rintro _ _ _ ⟨rfl, rfl⟩
  refine tN (tT (tS (tR (tM rfl rfl ?_))))
  refine tri_v (opv_sub rfl rfl (w64 (by omega) (by omega))) rfl ?_
  refine tM rfl rfl ?_
  refine tri_v (opv_indexAddrA rfl rfl (by decide) (by decide)) rfl ?_
  refine tri_v (opv_load1 rfl rfl rfl) rfl ?_
  refine tri_v (opv_indexAddrA rfl rfl (by decide) (by decide)) rfl ?_
  refine tri_g (opg_store rfl rfl rfl rfl rfl rfl) rfl ?_
  rintro _ _ _ ⟨rfl, rfl⟩
  refine tN (tT (tS (tR ?_)))
  refine tri_v (opv_loadA rfl rfl rfl) rfl ?_
  refine tri_v (opv_loadA rfl rfl rfl) rfl ?_
  refine tri_g (opg_call (xs := [_, _]) rfl (ref06_putX hs1 hgd hr0)) rfl ?_
  rintro _ _ J2 ⟨a2, c2, rfl, hs2, rfl, hJ2⟩
  have hI2 : I ⊆ J2 := fun _ h => hJ2 (hI1 h)
  refine tM rfl rfl ?_
  refine tri_v (opv_extract rfl rfl) rfl ?_
  refine tri_v (opv_extract rfl rfl) rfl ?_
  refine tri_v (opv_extract rfl rfl) rfl ?_
  refine tri_g opg_alloc rfl ?_
  rintro _ _ _ ⟨b14, rfl, rfl, rfl⟩
  refine tri_g (opg_store rfl rfl rfl rfl rfl rfl) rfl ?_
  rintro _ _ _ ⟨rfl, rfl⟩
  refine tA rfl rfl (tA rfl rfl (tN (tT (tS (tS (tR (tM rfl rfl ?_)))))))
  refine tri_v (opv_neq rfl rfl) rfl ?_
  refine tN (tT ?_)
  refine tri_cond_dec rfl (fun y0 => ?_) (fun y0 => ?_)
  ·rw [if_pos y0] at hL
   subst hL
   refine tS (tR ?_)
   refine tri_v (opv_loadA rfl rfl rfl) rfl ?_
   refine tM rfl rfl ?_
   refine tri_g (opg_store rfl rfl rfl rfl rfl rfl) rfl ?_
   rintro _ _ _ ⟨rfl, rfl⟩
   refine tA rfl rfl (tA rfl rfl (tN (tT (tri_ret (tri_then_ret ?_)))))
   refine tri_inBlock_ret ?_
   refine tri_then_ret (tri_then_ret ?_)
   refine tri_inBlock_ret ?_
   refine tri_then_ret ?_
   refine tri_end A Suf.h rfl (.cons (rv_cellA rfl rfl rfl) (.cons (rv_tmp rfl) (.cons (rv_tmp rfl) .nil))) ⟨a, cap, rfl, hs.mono hI2, rfl, hI2⟩
  rw [if_neg y0] at hL
  skip
  refine tri_skip (tT (tS (tR ?_)))
  refine tri_v (opv_loadA rfl rfl rfl) rfl ?_
  refine tri_g (opg_store rfl rfl rfl rfl rfl rfl) rfl ?_
  rintro _ _ _ ⟨rfl, rfl⟩
  refine tN (tT (tR (tM rfl rfl (tM rfl rfl ?_))))
  refine tri_v (opv_indexAddrA rfl rfl (by decide) (by decide)) rfl ?_
  refine tri_g (opg_store rfl rfl rfl rfl rfl rfl) rfl ?_
  rintro _ _ _ ⟨rfl, rfl⟩
  refine tN ?_
  refine tri_inBlock ?_
  refine tT (tR (tM rfl rfl ?_))
  refine tU rfl rfl (by omega) (by omega) rfl ?_
  refine tA rfl rfl (tN (tT ?_))
  refine tri_round ?_
  refine tS (tS (tR (tM rfl rfl ?_)))
  refine tri_v (opv_lss rfl rfl) rfl ?_
  refine tN (tT ?_)
  refine tri_drop (tri_drop ?_)
  skip
  refine tri_cond_is rfl (by decide) ?_
  refine tri_skip (tT (tS (tri_block (tS (tR (tM rfl rfl (tM rfl rfl ?_)))))))
  refine tM rfl rfl (tM rfl rfl ?_)
  refine tri_v (opv_buildA rfl rfl) rfl ?_
  refine tri_g opg_alloc rfl ?_
  rintro _ _ _ ⟨b13, rfl, rfl, rfl⟩
  refine tri_g (opg_store rfl rfl rfl rfl rfl rfl) rfl ?_
  rintro _ _ _ ⟨rfl, rfl⟩
  refine tN (tT (tS (tR (tM rfl rfl ?_))))
  refine tri_v (opv_sub rfl rfl (w64 (by omega) (by omega))) rfl ?_
  refine tM rfl rfl ?_
  refine tri_v (opv_indexAddrA rfl rfl (by decide) (by decide)) rfl ?_
  refine tri_v (opv_load1 rfl rfl rfl) rfl ?_
  refine tri_v (opv_indexAddrA rfl rfl (by decide) (by decide)) rfl ?_
  refine tri_g (opg_store rfl rfl rfl rfl rfl rfl) rfl ?_
  rintro _ _ _ ⟨rfl, rfl⟩
  refine tN (tT (tS (tR ?_)))
  refine tri_v (opv_loadA rfl rfl rfl) rfl ?_
  refine tri_v (opv_loadA rfl rfl rfl) rfl ?_
  refine tri_g (opg_call (xs := [_, _]) rfl (ref06_putX hs2 hg0 hr1)) rfl ?_
  rintro _ _ J3 ⟨a3, c3, rfl, hs3, rfl, hJ3⟩
  have hI3 : I ⊆ J3 := fun _ h => hJ3 (hI2 h)
  refine tM rfl rfl ?_
  refine tri_v (opv_extract rfl rfl) rfl ?_
  refine tri_v (opv_extract rfl rfl) rfl ?_
  refine tri_v (opv_extract rfl rfl) rfl ?_
  refine tri_g opg_alloc rfl ?_
  rintro _ _ _ ⟨b14, rfl, rfl, rfl⟩
  refine tri_g (opg_store rfl rfl rfl rfl rfl rfl) rfl ?_
  rintro _ _ _ ⟨rfl, rfl⟩
  refine tA rfl rfl (tA rfl rfl (tN (tT (tS (tS (tR (tM rfl rfl ?_)))))))
  refine tri_v (opv_neq rfl rfl) rfl ?_
  refine tN (tT ?_)
  refine tri_cond_dec rfl (fun y1 => ?_) (fun y1 => ?_)
  ·rw [if_pos y1] at hL
   subst hL
   refine tS (tR ?_)
   refine tri_v (opv_loadA rfl rfl rfl) rfl ?_
   refine tM rfl rfl ?_
   refine tri_g (opg_store rfl rfl rfl rfl rfl rfl) rfl ?_
   rintro _ _ _ ⟨rfl, rfl⟩
   refine tA rfl rfl (tA rfl rfl (tN (tT (tri_ret (tri_then_ret ?_)))))
   refine tri_inBlock_ret ?_
   refine tri_then_ret (tri_then_ret ?_)
   refine tri_inBlock_ret ?_
   refine tri_then_ret ?_
   refine tri_end A Suf.h rfl (.cons (rv_cellA rfl rfl rfl) (.cons (rv_tmp rfl) (.cons (rv_tmp rfl) .nil))) ⟨a, cap, rfl, hs.mono hI3, rfl, hI3⟩
  rw [if_neg y1] at hL
  skip
  refine tri_skip (tT (tS (tR ?_)))
  refine tri_v (opv_loadA rfl rfl rfl) rfl ?_
  refine tri_g (opg_store rfl rfl rfl rfl rfl rfl) rfl ?_
  rintro _ _ _ ⟨rfl, rfl⟩
  refine tN (tT (tR (tM rfl rfl (tM rfl rfl ?_))))
  refine tri_v (opv_indexAddrA rfl rfl (by decide) (by decide)) rfl ?_
  refine tri_g (opg_store rfl rfl rfl rfl rfl rfl) rfl ?_
  rintro _ _ _ ⟨rfl, rfl⟩
  refine tN ?_
  refine tri_inBlock ?_
  refine tT (tR (tM rfl rfl ?_))
  refine tU rfl rfl (by omega) (by omega) rfl ?_
  refine tA rfl rfl (tN (tT ?_))
  refine tri_round ?_
  refine tS (tS (tR (tM rfl rfl ?_)))
  refine tri_v (opv_lss rfl rfl) rfl ?_
  refine tN (tT ?_)
  refine tri_drop (tri_drop ?_)
  skip
  refine tri_cond_is rfl (by decide) ?_
  refine tri_skip (tT (tS (tri_block (tS (tR (tM rfl rfl (tM rfl rfl ?_)))))))
  refine tM rfl rfl (tM rfl rfl ?_)
  refine tri_v (opv_buildA rfl rfl) rfl ?_
  refine tri_g opg_alloc rfl ?_
  rintro _ _ _ ⟨b13, rfl, rfl, rfl⟩
  refine tri_g (opg_store rfl rfl rfl rfl rfl rfl) rfl ?_
  rintro _ _ _ ⟨rfl, rfl⟩
  refine tN (tT (tS (tR (tM rfl rfl ?_))))
  refine tri_v (opv_sub rfl rfl (w64 (by omega) (by omega))) rfl ?_
  refine tM rfl rfl ?_
  refine tri_v (opv_indexAddrA rfl rfl (by decide) (by decide)) rfl ?_
  refine tri_v (opv_load1 rfl rfl rfl) rfl ?_
  refine tri_v (opv_indexAddrA rfl rfl (by decide) (by decide)) rfl ?_
  refine tri_g (opg_store rfl rfl rfl rfl rfl rfl) rfl ?_
  rintro _ _ _ ⟨rfl, rfl⟩
  refine tN (tT (tS (tR ?_)))
  refine tri_v (opv_loadA rfl rfl rfl) rfl ?_
  refine tri_v (opv_loadA rfl rfl rfl) rfl ?_
  refine tri_g (opg_call (xs := [_, _]) rfl (ref06_putX hs3 hg1 hr2)) rfl ?_
  rintro _ _ J4 ⟨a4, c4, rfl, hs4, rfl, hJ4⟩
  have hI4 : I ⊆ J4 := fun _ h => hJ4 (hI3 h)
  refine tM rfl rfl ?_
  refine tri_v (opv_extract rfl rfl) rfl ?_
  refine tri_v (opv_extract rfl rfl) rfl ?_
  refine tri_v (opv_extract rfl rfl) rfl ?_
  refine tri_g opg_alloc rfl ?_
  rintro _ _ _ ⟨b14, rfl, rfl, rfl⟩
  refine tri_g (opg_store rfl rfl rfl rfl rfl rfl) rfl ?_
  rintro _ _ _ ⟨rfl, rfl⟩
  refine tA rfl rfl (tA rfl rfl (tN (tT (tS (tS (tR (tM rfl rfl ?_)))))))
  refine tri_v (opv_neq rfl rfl) rfl ?_
  refine tN (tT ?_)
  refine tri_cond_dec rfl (fun y2 => ?_) (fun y2 => ?_)
  ·rw [if_pos y2] at hL
   subst hL
   refine tS (tR ?_)
   refine tri_v (opv_loadA rfl rfl rfl) rfl ?_
   refine tM rfl rfl ?_
   refine tri_g (opg_store rfl rfl rfl rfl rfl rfl) rfl ?_
   rintro _ _ _ ⟨rfl, rfl⟩
   refine tA rfl rfl (tA rfl rfl (tN (tT (tri_ret (tri_then_ret ?_)))))
   refine tri_inBlock_ret ?_
   refine tri_then_ret (tri_then_ret ?_)
   refine tri_inBlock_ret ?_
   refine tri_then_ret ?_
   refine tri_end A Suf.h rfl (.cons (rv_cellA rfl rfl rfl) (.cons (rv_tmp rfl) (.cons (rv_tmp rfl) .nil))) ⟨a, cap, rfl, hs.mono hI4, rfl, hI4⟩
  rw [if_neg y2] at hL
  skip
  refine tri_skip (tT (tS (tR ?_)))
  refine tri_v (opv_loadA rfl rfl rfl) rfl ?_
  refine tri_g (opg_store rfl rfl rfl rfl rfl rfl) rfl ?_
  rintro _ _ _ ⟨rfl, rfl⟩
  refine tN (tT (tR (tM rfl rfl (tM rfl rfl ?_))))
  refine tri_v (opv_indexAddrA rfl rfl (by decide) (by decide)) rfl ?_
  refine tri_g (opg_store rfl rfl rfl rfl rfl rfl) rfl ?_
  rintro _ _ _ ⟨rfl, rfl⟩
  refine tN ?_
  refine tri_inBlock ?_
  refine tT (tR (tM rfl rfl ?_))
  refine tU rfl rfl (by omega) (by omega) rfl ?_
  refine tA rfl rfl (tN (tT ?_))
  refine tri_round ?_
  refine tS (tS (tR (tM rfl rfl ?_)))
  refine tri_v (opv_lss rfl rfl) rfl ?_
  refine tN (tT ?_)
  refine tri_drop (tri_drop ?_)
  skip
  refine tri_cond_is rfl (by decide) ?_
  refine tri_skip (tT (tS (tri_block (tS (tR (tM rfl rfl (tM rfl rfl ?_)))))))
  refine tM rfl rfl (tM rfl rfl ?_)
  refine tri_v (opv_buildA rfl rfl) rfl ?_
  refine tri_g opg_alloc rfl ?_
  rintro _ _ _ ⟨b13, rfl, rfl, rfl⟩
  refine tri_g (opg_store rfl rfl rfl rfl rfl rfl) rfl ?_
  rintro _ _ _ ⟨rfl, rfl⟩
  refine tN (tT (tS (tR (tM rfl rfl ?_))))
  refine tri_v (opv_sub rfl rfl (w64 (by omega) (by omega))) rfl ?_
  refine tM rfl rfl ?_
  refine tri_v (opv_indexAddrA rfl rfl (by decide) (by decide)) rfl ?_
  refine tri_v (opv_load1 rfl rfl rfl) rfl ?_
  refine tri_v (opv_indexAddrA rfl rfl (by decide) (by decide)) rfl ?_
  refine tri_g (opg_store rfl rfl rfl rfl rfl rfl) rfl ?_
  rintro _ _ _ ⟨rfl, rfl⟩
  refine tN (tT (tS (tR ?_)))
  refine tri_v (opv_loadA rfl rfl rfl) rfl ?_
  refine tri_v (opv_loadA rfl rfl rfl) rfl ?_
  refine tri_g (opg_call (xs := [_, _]) rfl (ref06_putX hs4 hg2 hr3)) rfl ?_
  rintro _ _ J5 ⟨a5, c5, rfl, hs5, rfl, hJ5⟩
  have hI5 : I ⊆ J5 := fun _ h => hJ5 (hI4 h)
  refine tM rfl rfl ?_
  refine tri_v (opv_extract rfl rfl) rfl ?_
  refine tri_v (opv_extract rfl rfl) rfl ?_
  refine tri_v (opv_extract rfl rfl) rfl ?_
  refine tri_g opg_alloc rfl ?_
  rintro _ _ _ ⟨b14, rfl, rfl, rfl⟩
  refine tri_g (opg_store rfl rfl rfl rfl rfl rfl) rfl ?_
  rintro _ _ _ ⟨rfl, rfl⟩
  refine tA rfl rfl (tA rfl rfl (tN (tT (tS (tS (tR (tM rfl rfl ?_)))))))
  refine tri_v (opv_neq rfl rfl) rfl ?_
  refine tN (tT ?_)
  refine tri_cond_dec rfl (fun y3 => ?_) (fun y3 => ?_)
  ·rw [if_pos y3] at hL
   subst hL
   refine tS (tR ?_)
   refine tri_v (opv_loadA rfl rfl rfl) rfl ?_
   refine tM rfl rfl ?_
   refine tri_g (opg_store rfl rfl rfl rfl rfl rfl) rfl ?_
   rintro _ _ _ ⟨rfl, rfl⟩
   refine tA rfl rfl (tA rfl rfl (tN (tT (tri_ret (tri_then_ret ?_)))))
   refine tri_inBlock_ret ?_
   refine tri_then_ret (tri_then_ret ?_)
   refine tri_inBlock_ret ?_
   refine tri_then_ret ?_
   refine tri_end A Suf.h rfl (.cons (rv_cellA rfl rfl rfl) (.cons (rv_tmp rfl) (.cons (rv_tmp rfl) .nil))) ⟨a, cap, rfl, hs.mono hI5, rfl, hI5⟩
  rw [if_neg y3] at hL
  skip
  refine tri_skip (tT (tS (tR ?_)))
  refine tri_v (opv_loadA rfl rfl rfl) rfl ?_
  refine tri_g (opg_store rfl rfl rfl rfl rfl rfl) rfl ?_
  rintro _ _ _ ⟨rfl, rfl⟩
  refine tN (tT (tR (tM rfl rfl (tM rfl rfl ?_))))
  refine tri_v (opv_indexAddrA rfl rfl (by decide) (by decide)) rfl ?_
  refine tri_g (opg_store rfl rfl rfl rfl rfl rfl) rfl ?_
  rintro _ _ _ ⟨rfl, rfl⟩
  refine tN ?_
  refine tri_inBlock ?_
  refine tT (tR (tM rfl rfl ?_))
  refine tU rfl rfl (by omega) (by omega) rfl ?_
  refine tA rfl rfl (tN (tT ?_))
  refine tri_round ?_
  refine tS (tS (tR (tM rfl rfl ?_)))
  refine tri_v (opv_lss rfl rfl) rfl ?_
  refine tN (tT ?_)
  refine tri_drop (tri_drop ?_)
  refine tri_cond_not rfl (by decide) ?_
  refine tri_exit ?_
  refine tri_then_exit ?_
  refine tri_then_exit ?_
  refine tri_inBlock_hit rfl ?_
  refine tT (tS (tR ?_))
  refine tri_v (opv_loadA rfl rfl rfl) rfl ?_
  refine tri_v (opv_loadA rfl rfl rfl) rfl ?_
  refine tri_g (opg_call (xs := [_, _]) rfl (ref06_putX hs5 hg3 hr4)) rfl ?_
  rintro _ _ J6 ⟨a6, c6, rfl, hs6, rfl, hJ6⟩
  have hI6 : I ⊆ J6 := fun _ h => hJ6 (hI5 h)
  refine tM rfl rfl ?_
  refine tri_v (opv_extract rfl rfl) rfl ?_
  refine tri_v (opv_extract rfl rfl) rfl ?_
  refine tri_v (opv_extract rfl rfl) rfl ?_
  refine tri_g opg_alloc rfl ?_
  rintro _ _ _ ⟨b17, rfl, rfl, rfl⟩
  refine tri_g (opg_store rfl rfl rfl rfl rfl rfl) rfl ?_
  rintro _ _ _ ⟨rfl, rfl⟩
  refine tA rfl rfl (tA rfl rfl (tN (tT (tS (tS (tR (tM rfl rfl ?_)))))))
  refine tri_v (opv_neq rfl rfl) rfl ?_
  refine tN (tT ?_)
  refine tri_cond_dec rfl (fun y4 => ?_) (fun y4 => ?_)
  ·rw [if_pos y4] at hL
   subst hL
   refine tS (tR ?_)
   refine tri_v (opv_loadA rfl rfl rfl) rfl ?_
   refine tM rfl rfl ?_
   refine tri_g (opg_store rfl rfl rfl rfl rfl rfl) rfl ?_
   rintro _ _ _ ⟨rfl, rfl⟩
   refine tA rfl rfl (tA rfl rfl (tN (tT (tri_ret (tri_then_ret ?_)))))
   refine tri_end A Suf.h rfl (.cons (rv_cellA rfl rfl rfl) (.cons (rv_tmp rfl) (.cons (rv_tmp rfl) .nil))) ⟨a, cap, rfl, hs.mono hI6, rfl, hI6⟩
  ·rw [if_neg y4] at hL
   subst hL
   have y4 : res.2.2 = 0 := Decidable.not_not.1 y4
   refine tri_skip (tT (tS (tR ?_)))
   refine tri_v (opv_loadA rfl rfl rfl) rfl ?_
   refine tM rfl rfl ?_
   refine tri_g (opg_store rfl rfl rfl rfl rfl rfl) rfl ?_
   rintro _ _ _ ⟨rfl, rfl⟩
   refine tA rfl rfl (tA rfl rfl (tN (tT (tri_ret ?_))))
   refine tri_end A Suf.h rfl (.cons (rv_cellA rfl rfl rfl) (.cons (rv_tmp rfl) (.cons (rv_tmp rfl) .nil))) ⟨a6, c6, by rw [y4]; rfl, hs6, rfl, hI6⟩
set_option maxHeartbeats 1000000 in
set_option maxRecDepth 100000 in
theorem ref07_growX {ns : List Node} {a : Option Addr} {cap : Nat} {room n : Int} (hs : StA I a cap ns) (hn : ns.length ≤ 1000000000) (hrg : R6.Rng ns) :
  FnC Try.prog 22 [storeV a ns.length cap room, .int .i64 n].toArray A I (StoreR (R7.growM ns room n) room A I) := by
 have hss := hs.sl
 skip
 skip
 refine fn_enter2 Try.func22 rfl Try.ntmps22 rfl fun w0 => ?_
 refine tS (tR ?_)
 refine tri_g (opg_box_agg rfl) rfl ?_
 rintro _ _ _ ⟨b2, rfl, rfl, rfl⟩
 refine tri_g opg_alloc rfl ?_
 rintro _ _ _ ⟨b4, rfl, rfl, rfl⟩
 refine tA rfl rfl (tA rfl rfl (tN (tT (tS (tS (tR ?_))))))
 refine tri_v (opv_loadA rfl rfl rfl) rfl ?_
 refine tM rfl rfl ?_
 refine tri_g (opg_call (xs := [_, _]) rfl (ref07_mayX hs hn hrg)) rfl ?_
 rintro _ _ _ ⟨rfl, rfl, rfl⟩
 refine tri_v (opv_notD rfl) rfl ?_
 refine tM rfl rfl ?_
 refine tri_split rfl rfl (fun h1 => ?_) (fun h1 => ?_)
 ·have e : R7.growM ns room n = (ns, 0, 1) := if_neg (fun h => h1 h.1)
  rw [e]
  refine tri_guard_skip rfl rfl rfl rfl (tri_guard_skip rfl rfl rfl rfl (tri_guard_skip rfl rfl rfl rfl (tri_guard_skip rfl rfl rfl rfl (tri_guard_skip rfl rfl rfl rfl (tri_guard_skip rfl rfl rfl rfl (tri_guard_skip rfl rfl rfl rfl ?_))))))
  refine tri_v (opv_pick_t rfl rfl) rfl ?_
  refine tN (tT ?_)
  refine tri_cond_true rfl ?_
  refine tS (tR ?_)
  refine tri_v (opv_loadA rfl rfl rfl) rfl ?_
  refine tri_g (opg_store rfl rfl rfl rfl rfl rfl) rfl ?_
  rintro _ _ _ ⟨rfl, rfl⟩
  refine tA rfl rfl (tA rfl rfl (tN (tT (tri_ret (tri_then_ret ?_)))))
  refine tri_end A Suf.h rfl (.cons (rv_cellA rfl rfl rfl) (.cons (rv_tmp rfl) (.cons (rv_tmp rfl) .nil))) ⟨a, cap, rfl, hs, rfl, fun _ h => h⟩
 ·have h1 : R7.may ns room n := Decidable.not_not.1 h1
  obtain ⟨⟨hn0, hn1⟩, lv, hlv1, hlv2, hlv⟩ := h1.is
  refine tri_guard_run rfl rfl rfl ?_
  refine tri_v (opv_fieldAddr rfl rfl) rfl ?_
  refine tri_guard_run rfl rfl rfl ?_
  refine tri_v (opv_load1 rfl rfl rfl) rfl ?_
  refine tri_guard_run rfl rfl rfl (tM rfl rfl (tri_guard_run rfl rfl rfl ?_))
  refine tri_v (opv_indexAddrS rfl rfl (by omega) (by omega) (by assumption) rfl) rfl ?_
  refine tri_guard_run rfl rfl rfl ?_
  refine tri_v (opv_fieldAddrE rfl (by assumption) (by omega) rfl) rfl ?_
  refine tri_guard_run rfl rfl rfl ?_
  refine tri_v (opv_loadE1 rfl (by assumption) rfl (by omega) rfl rfl) rfl ?_
  refine tri_guard_run rfl rfl rfl ?_
  refine tri_v (opv_geq rfl rfl) rfl ?_
  refine tri_v (opv_pick_f rfl rfl) rfl ?_
  refine tN (tT ?_)
  refine tri_cond rfl (fun h2 => ?_) (fun h2 => ?_)
  ·have h2 : 42 ≤ (R6.nd ns n).lv := of_decide_eq_true h2
   have e : R7.growM ns room n = (ns, 0, 1) := if_neg (fun h => by omega)
   rw [e]
   refine tS (tR ?_)
   refine tri_v (opv_loadA rfl rfl rfl) rfl ?_
   refine tri_g (opg_store rfl rfl rfl rfl rfl rfl) rfl ?_
   rintro _ _ _ ⟨rfl, rfl⟩
   refine tA rfl rfl (tA rfl rfl (tN (tT (tri_ret (tri_then_ret ?_)))))
   refine tri_end A Suf.h rfl (.cons (rv_cellA rfl rfl rfl) (.cons (rv_tmp rfl) (.cons (rv_tmp rfl) .nil))) ⟨a, cap, rfl, hs, rfl, fun _ h => h⟩
  ·have h2 : ¬ 42 ≤ (R6.nd ns n).lv := of_decide_eq_false h2
   have e : R7.growM ns room n = R7.larger ns room n := if_pos ⟨h1, by omega⟩
   rw [e]
   refine tri_skip (tT (tS (tR ?_)))
   refine tri_v (opv_loadA rfl rfl rfl) rfl ?_
   refine tM rfl rfl ?_
   refine tri_g (opg_call (xs := [_, _]) rfl (ref07_largerX hs h1)) rfl ?_
   rintro _ _ I1 ⟨a1, c1, rfl, hs1, rfl, hI1⟩
   refine tri_v (opv_extract rfl rfl) rfl ?_
   refine tri_v (opv_extract rfl rfl) rfl ?_
   refine tri_v (opv_extract rfl rfl) rfl ?_
   refine tri_g (opg_store rfl rfl rfl rfl rfl rfl) rfl ?_
   rintro _ _ _ ⟨rfl, rfl⟩
   refine tA rfl rfl (tA rfl rfl (tN (tT (tri_ret ?_))))
   refine tri_end A Suf.h rfl (.cons (rv_cellA rfl rfl rfl) (.cons (rv_tmp rfl) (.cons (rv_tmp rfl) .nil))) ⟨a1, c1, rfl, hs1, rfl, hI1⟩
end Go.GL

