/- Part 6: contracts of the functions that the law reaches: each answers as its model does. No condition beyond those that each theorem states. -/
import Derived.Test.YtjdfiilfccffnaaPart5
set_option linter.unusedVariables false
namespace Go.GL
open Go.Proofs
attribute [local irreducible] wpList Code.wp Exit.then Exit.inBlock Ends Tri TriH OpV OpG FnC epf wpAnyH
variable {A : List Asrt} {I : List Chunk}
set_option maxHeartbeats 8000000 in
set_option maxRecDepth 100000 in
theorem ref07_boxes {ns : List Node} {a : Option Addr} {cap k : Nat} {room : Int} (hss : SlAt I a ns) (hr : R6.right ns room) (hkn : k < ns.length) :
  FnC Try.prog 53 [storeV a ns.length cap room, .int .i64 (k : Nat)].toArray A I (fun v A' I' => ∃ a' cap', v = .slice a' (k + 1) cap' ∧ SlAt I' a' (R7.rcl ns (k + 1)) ∧ A = A' ∧ I ⊆ I') := by
 have hw := (R6.right_iff.1 hr).2
 have hlen : ns.length ≤ 100000 := by have := hr.1.2.1; have := hr.1.2.2.2.1; omega
 skip
 skip
 refine fn_enter2 Try.func53 rfl Try.ntmps53 rfl fun w0 => ?_
 refine tS (tR ?_)
 refine tri_g (opg_box_agg rfl) rfl ?_
 rintro _ _ _ ⟨b2, rfl, rfl, rfl⟩
 refine tA rfl rfl (tN (tT (tS (tR (tA rfl rfl (tN (tT ?_)))))))
 refine tS (tS (tR (tA rfl rfl (tN (tT (tri_block ?_))))))
 refine tri_nilRow (E := 45) (sz := 4) ?_
 refine tri_sub (F' := [(1, .int .i64 (k : Nat)), (2, pt b2 0), (5, .slice none 0 0), (6, .int .i64 ((0 : Nat) : Int))]) ⟨rfl, rfl, rfl, rfl, trivial⟩ ?_
 refine loop_ind (G := Nat × Option Addr × Nat) (fun g => k + 1 - g.1) (fun g => g.1 ≤ k + 1) (fun g => [(1, .int .i64 (k : Nat)), (2, pt b2 0), (5, .slice g.2.1 g.1 g.2.2), (6, .int .i64 (g.1 : Nat))]) (fun g => Row g.2.1 g.2.2 g.1 45 4 (encs (R7.rcl ns g.1)) :: Box b2 [.slice a ns.length cap, .int .i64 room] 26 :: A) (fun _ => I) ?_ (0, none, 0) (Nat.zero_le _)
 rintro ⟨i, ao, co⟩ hi K hK
 simp only at hi hK ⊢
 skip
 refine tS (tS (tR (tM rfl rfl (tM rfl rfl ?_))))
 refine tri_v (opv_leq rfl rfl) rfl ?_
 refine tN (tT ?_)
 refine tri_cond_dec rfl (fun h3 => ?_) (fun h3 => ?_)
 ·have hlt : i < k + 1 := by omega
  have hil : i < ns.length := by omega
  have hnd : R6.nd ns ((i : Nat) : Int) = ns.getD i default := by
   unfold R6.nd
   rw [Int.toNat_natCast]
  obtain ⟨x, hx⟩ : ∃ x, ns.getD i default = x := ⟨_, rfl⟩
  rw [hx] at hnd
  have hin : R6.inS ns ((i : Nat) : Int) := ⟨by omega, by omega⟩
  have hmd := hr.modTo.mod.nd hin
  rw [hnd] at hmd
  obtain ⟨lvi, hlvi⟩ : ∃ lvi : Nat, x.lv = lvi := ⟨x.lv.toNat, by omega⟩
  have hrl := R7.rcl_len ns i
  refine tri_skip (tT (tS (tri_block (tS (tR ?_)))))
  refine tri_v (opv_fieldAddr rfl rfl) rfl ?_
  refine tri_v (opv_load1 rfl rfl rfl) rfl ?_
  refine tM rfl rfl ?_
  refine tri_v (opv_indexAddrSN rfl rfl (by omega) (by assumption) rfl) rfl ?_
  refine tri_v (opv_loadEA rfl (by assumption) rfl (by omega) rfl rfl) rfl ?_
  refine tri_g opg_alloc rfl ?_
  rintro _ _ _ ⟨b7, rfl, rfl, rfl⟩
  refine tri_g (opg_store rfl rfl rfl rfl rfl rfl) rfl ?_
  rintro _ _ _ ⟨rfl, rfl⟩
  refine tN (tT (tS (tS (tR ?_))))
  refine tri_v (opv_fieldAddr rfl rfl) rfl ?_
  refine tri_v (opv_load1 rfl rfl rfl) rfl ?_
  refine tri_v (opv_eql rfl rfl) rfl ?_
  refine tN (tT ?_)
  rw [hx]
  refine tri_cond_dec rfl (fun h4 => ?_) (fun h4 => ?_)
  ·have e0 : lvi = 0 := by omega
   subst e0
   have ev : R7.rcx ns (ns.getD i default).lv.toNat i = ⟨0, 0, x.pop, x.pop⟩ := by
    rw [hx, hlvi]
    show (⟨0, 0, (R6.nd ns (i : Nat)).pop, (R6.nd ns (i : Nat)).pop⟩ : R1.Rect) = _
    rw [hnd]
   refine tS (tR (tM rfl rfl ?_))
   refine tri_v (opv_fieldAddr rfl rfl) rfl ?_
   refine tri_v (opv_load1 rfl rfl rfl) rfl ?_
   refine tri_v (opv_fieldAddr rfl rfl) rfl ?_
   refine tri_v (opv_load1 rfl rfl rfl) rfl ?_
   refine tri_v (opv_buildS rfl rfl) rfl ?_
   refine tri_g (opg_buildSlice rfl rfl rfl rfl) rfl ?_
   rintro _ _ _ ⟨b33, rfl, rfl, rfl⟩
   refine tri_g (opg_appendB rfl rfl rfl rfl (by omega) rfl) rfl ?_
   rintro _ _ _ ⟨aa, cc, rfl, rfl, rfl⟩
   refine tA rfl rfl (tN (tT ?_))
   refine tri_exit ?_
   refine tri_then_exit ?_
   refine tri_inBlock_hit rfl ?_
   refine tT (tR (tM rfl rfl ?_))
   refine tU rfl rfl (by omega) (by omega) rfl ?_
   refine tA rfl rfl (tN (tT ?_))
   refine tri_perm (A := ?a1_0 :: ?a1_1 :: ?a1_2 :: ?a1_3 :: ?T1) (B := ?a1_2 :: ?a1_0 :: ?a1_1 :: ?a1_3 :: ?T1) (by exact permL [2, 0, 1, 3] [?a1_0, ?a1_1, ?a1_2, ?a1_3] ?T1 (by decide) rfl) ?_
   refine tri_rowEq rfl (show _ = encs (R7.rcl ns (i + 1)) by rw [R7.rcl_succ, ev, encs_append]; rfl) ?_
   refine tri_perm (A := ?a2_0 :: ?a2_1 :: ?a2_2 :: ?T2) (B := ?a2_1 :: ?a2_2 :: ?a2_0 :: ?T2) (by exact permL [1, 2, 0] [?a2_0, ?a2_1, ?a2_2] ?T2 (by decide) rfl) ?_
   refine tri_drop (tri_drop ?_)
   refine tri_sub ?_ (hK (i + 1, aa, cc) (by simp only; omega) (by simp only; omega))
   exact ⟨rfl, rfl, rfl, rfl, trivial⟩
  ·obtain ⟨m, rfl⟩ : ∃ m, lvi = m + 1 := ⟨lvi - 1, by omega⟩
   have kid := fun q hq => hr.kidN hin (m := m) (by rw [hnd]; exact hlvi) (q := q) hq
   rw [hnd] at kid
   have hpow : (2:Int) ^ (m + 1) = 2 ^ m * 2 := Int.pow_succ 2 m
   have hpos : (0:Int) < 2 ^ m := Int.pow_pos (by omega)
   have hple : (2:Int) ^ m ≤ 2199023255552 := by
    have h3 : (2:Nat) ^ m ≤ 2 ^ 41 := Nat.pow_le_pow_right (by omega) (by omega)
    have h4 : (2:Int) ^ m = ((2 ^ m : Nat) : Int) := by simp
    rw [h4]
    generalize (2:Nat) ^ m = k at h3
    omega
   have kk := fun q (hq : q ∈ x.kids) => (R7.rcx_ok hw m q ⟨(kid q hq).1, (kid q hq).2.2⟩).1
   have kg : ∀ q, q ∈ x.kids → (0 ≤ q ∧ q.toNat < i ∧ q < i) ∧ (R7.rcl ns i).getD q.toNat default = R7.rcx ns m q := fun q hq => by
    obtain ⟨⟨k1, _⟩, k2, k3⟩ := kid q hq
    refine ⟨⟨k1, by omega, by omega⟩, ?_⟩
    rw [R7.rcl_at (by omega)]
    have e1 : ns.getD q.toNat default = R6.nd ns q := rfl
    rw [e1, k3, Int.toNat_natCast, Int.toNat_of_nonneg k1]
   obtain ⟨w0, g0⟩ := kg x.k0 (by simp [Node.kids])
   have bt0 := kk x.k0 (by simp [Node.kids])
   obtain ⟨w1, g1⟩ := kg x.k1 (by simp [Node.kids])
   have bt1 := kk x.k1 (by simp [Node.kids])
   obtain ⟨w2, g2⟩ := kg x.k2 (by simp [Node.kids])
   have bt2 := kk x.k2 (by simp [Node.kids])
   obtain ⟨w3, g3⟩ := kg x.k3 (by simp [Node.kids])
   have bt3 := kk x.k3 (by simp [Node.kids])
   have exr : R7.rcx ns (m + 1) (i : Nat) = R7.jr (R7.jr (R7.jr (R7.jr ⟨0, 0, 0, 0⟩ (R7.rcx ns m x.k0) 0 0) (R7.rcx ns m x.k1) (2 ^ m) 0) (R7.rcx ns m x.k2) 0 (2 ^ m)) (R7.rcx ns m x.k3) (2 ^ m) (2 ^ m) := by
    rw [R7.rcx, hnd]
   have ev : R7.rcx ns (ns.getD i default).lv.toNat i = _ := (by rw [hx, hlvi, Int.toNat_natCast] : _ = R7.rcx ns (m + 1) i).trans exr
   generalize R7.rcx ns m x.k0 = e0 at *
   generalize R7.rcx ns m x.k1 = e1 at *
   generalize R7.rcx ns m x.k2 = e2 at *
   generalize R7.rcx ns m x.k3 = e3 at *
   have z : R7.EgR (2 ^ m * 2) ⟨0, 0, 0, 0⟩ := .inr ⟨rfl, rfl, rfl, rfl⟩
   have t0 := z.jr (dx := 0) (dy := 0) bt0 (by omega) (by omega) (by omega) (by omega)
   have t1 := t0.jr (dx := 2 ^ m) (dy := 0) bt1 (by omega) (by omega) (by omega) (by omega)
   have t2 := t1.jr (dx := 0) (dy := 2 ^ m) bt2 (by omega) (by omega) (by omega) (by omega)
   refine tri_skip (tT (tS (tR ?_)))
   refine tri_v (opv_fieldAddr rfl rfl) rfl ?_
   refine tri_v (opv_load1 rfl rfl rfl) rfl ?_
   refine tri_v (opv_sub rfl rfl (w64 (by omega) (by omega))) rfl ?_
   refine tri_v (opv_shl1 rfl rfl (by omega) (by omega)) rfl ?_
   refine tA rfl rfl (tN (tT (tS (tR ?_))))
   refine tri_g opg_alloc rfl ?_
   rintro _ _ _ ⟨b9, rfl, rfl, rfl⟩
   refine tN (tT (tS (tS (tR (tA rfl rfl (tN (tT ?_)))))))
   refine tri_block ?_
   rw [show (2:Int) ^ (x.lv - 1).toNat = 2 ^ m by congr 1; omega]
   refine tri_sub (F' := [(1, .int .i64 (k : Nat)), (2, pt b2 0), (5, .slice ao i co), (6, .int .i64 (i : Nat)), (7, pt b7 0), (8, .int .i64 (2 ^ m)), (9, pt b9 0), (10, .int .i64 0)]) ⟨rfl, rfl, rfl, rfl, rfl, rfl, rfl, rfl, trivial⟩ ?_
   obtain ⟨acc0, hacc⟩ : ∃ b : R1.Rect, (⟨0, 0, 0, 0⟩ : R1.Rect) = b := ⟨_, rfl⟩
   rw [hacc] at z ev t0 t1 t2
   refine tri_weaken (b := Box b9 [.int .i64 acc0.x, .int .i64 acc0.y, .int .i64 acc0.w, .int .i64 acc0.h] 45) (fun c h => by rw [← hacc]; exact h) ?_
   refine tri_rounds 5 ?_
   refine tri_round ?_
   obtain ⟨qx, hqx⟩ : ∃ z : Int, e0.x + 0 % 2 * 2 ^ m = z := ⟨_, rfl⟩
   obtain ⟨qy, hqy⟩ : ∃ z : Int, e0.y + 0 / 2 * 2 ^ m = z := ⟨_, rfl⟩
   have hqx' : e0.x + 0 = qx := by omega
   have hqy' : e0.y + 0 = qy := by omega
   have ub := bt0
   have ua := z
   have ub : 0 ≤ e0.x ∧ 0 ≤ e0.y ∧ 0 ≤ e0.w ∧ 0 ≤ e0.h ∧ e0.x + e0.w ≤ 2 ^ m ∧ e0.y + e0.h ≤ 2 ^ m := by unfold R7.EgR at ub; omega
   have ua : 0 ≤ acc0.x ∧ 0 ≤ acc0.y ∧ 0 ≤ acc0.w ∧ 0 ≤ acc0.h ∧ acc0.x + acc0.w ≤ 2 ^ m * 2 ∧ acc0.y + acc0.h ≤ 2 ^ m * 2 := by unfold R7.EgR at ua; omega
   obtain ⟨u1, u2, u3, u4, u5, u6⟩ := ub
   obtain ⟨v1, v2, v3, v4, v5, v6⟩ := ua
   have n1 : qx ≤ 2 ^ m * 2 - e0.w ∧ qy ≤ 2 ^ m * 2 - e0.h ∧ 0 ≤ qx ∧ 0 ≤ qy := by omega
   obtain ⟨n1, n2, n3, n4⟩ := n1
   obtain ⟨m1, hm1⟩ : ∃ z : Int, (if acc0.x + acc0.w < qx + e0.w then qx + e0.w else acc0.x + acc0.w) = z := ⟨_, rfl⟩
   have bm1 : 0 ≤ m1 ∧ m1 ≤ 2 ^ m * 2 := by rw [← hm1]; split <;> omega
   obtain ⟨bm1, cm1⟩ := bm1
   obtain ⟨m2, hm2⟩ : ∃ z : Int, (if acc0.y + acc0.h < qy + e0.h then qy + e0.h else acc0.y + acc0.h) = z := ⟨_, rfl⟩
   have bm2 : 0 ≤ m2 ∧ m2 ≤ 2 ^ m * 2 := by rw [← hm2]; split <;> omega
   obtain ⟨bm2, cm2⟩ := bm2
   obtain ⟨m3, hm3⟩ : ∃ z : Int, (if qx < acc0.x then qx else acc0.x) = z := ⟨_, rfl⟩
   have bm3 : 0 ≤ m3 ∧ m3 ≤ 2 ^ m * 2 := by rw [← hm3]; split <;> omega
   obtain ⟨bm3, cm3⟩ := bm3
   obtain ⟨m4, hm4⟩ : ∃ z : Int, (if qy < acc0.y then qy else acc0.y) = z := ⟨_, rfl⟩
   have bm4 : 0 ≤ m4 ∧ m4 ≤ 2 ^ m * 2 := by rw [← hm4]; split <;> omega
   obtain ⟨bm4, cm4⟩ := bm4
   have j1 : e0.w = 0 → R7.jr acc0 e0 0 0 = acc0 := fun h => if_pos h
   have j2 : ¬ e0.w = 0 → acc0.w = 0 → R7.jr acc0 e0 0 0 = ⟨qx, qy, e0.w, e0.h⟩ := fun h h2 => by rw [← hqx', ← hqy']; exact (if_neg h).trans (if_pos h2)
   have j3 : ¬ e0.w = 0 → ¬ acc0.w = 0 → R7.jr acc0 e0 0 0 = ⟨m3, m4, m1 - m3, m2 - m4⟩ := fun h h2 => by rw [← hm1, ← hm2, ← hm3, ← hm4, ← hqx', ← hqy']; exact (if_neg h).trans (if_neg h2)
   obtain ⟨acc1, hacc'⟩ : ∃ b : R1.Rect, R7.jr acc0 e0 0 0 = b := ⟨_, rfl⟩
   rw [hacc'] at j1 j2 j3
   refine tS (tS (tR (tM rfl rfl ?_)))
   refine tri_v (opv_lss rfl rfl) rfl ?_
   refine tN (tT ?_)
   refine tri_cond_is rfl (by decide) ?_
   refine tri_skip (tT (tS ?_))
   refine tri_cut (fun F' A' J => ∃ X : Asrt, F' = [(1, .int .i64 (k : Nat)), (2, pt b2 0), (5, .slice ao i co), (6, .int .i64 (i : Nat)), (7, pt b7 0), (8, .int .i64 (2 ^ m)), (9, pt b9 0), (10, .int .i64 0)] ∧ A' = X :: Box b9 [.int .i64 acc1.x, .int .i64 acc1.y, .int .i64 acc1.w, .int .i64 acc1.h] 45 :: Box b7 [.int .i64 x.lv, .int .i64 x.k0, .int .i64 x.k1, .int .i64 x.k2, .int .i64 x.k3, .int .i64 x.pop] 63 :: Row ao co i 45 4 (encs (R7.rcl ns i)) :: Box b2 [.slice a ns.length cap, .int .i64 room] 26 :: A ∧ I = J) ?_ ?_
   ·refine tri_block (tS (tR (tM rfl rfl (tM rfl rfl ?_))))
    refine tri_v (opv_fieldAddr rfl rfl) rfl ?_
    refine tri_v (opv_indexAddrA rfl rfl (by decide) (by decide)) rfl ?_
    refine tri_v (opv_load1 rfl rfl rfl) rfl ?_
    refine tri_v (opv_indexAddrR rfl rfl (by omega) (by omega)) rfl ?_
    refine tri_v (opv_loadRXA rfl rfl (by omega) rfl rfl rfl) rfl ?_
    refine tri_g opg_alloc rfl ?_
    rintro _ _ _ ⟨b11, rfl, rfl, rfl⟩
    refine tri_g (opg_store rfl rfl rfl rfl rfl rfl) rfl ?_
    rintro _ _ _ ⟨rfl, rfl⟩
    refine tN (tT (tS (tR ?_)))
    refine tri_v (opv_fieldAddr rfl rfl) rfl ?_
    refine tri_v (opv_load1 rfl rfl rfl) rfl ?_
    refine tM rfl rfl ?_
    refine tri_v (opv_remE rfl rfl (by omega) (by omega)) rfl ?_
    refine tM rfl rfl ?_
    refine tri_v (opv_mul rfl rfl (w64 (by omega) (by omega))) rfl ?_
    rw [g0]
    refine tU rfl rfl (by omega) (by omega) rfl ?_
    rw [hqx]
    refine tri_v (opv_fieldAddr rfl rfl) rfl ?_
    refine tri_g (opg_store rfl rfl rfl rfl rfl rfl) rfl ?_
    rintro _ _ _ ⟨rfl, rfl⟩
    refine tN (tT (tS (tR ?_)))
    refine tri_v (opv_fieldAddr rfl rfl) rfl ?_
    refine tri_v (opv_load1 rfl rfl rfl) rfl ?_
    refine tM rfl rfl ?_
    refine tri_v (opv_quoE rfl rfl (by omega) (by omega) (by omega)) rfl ?_
    refine tM rfl rfl ?_
    refine tri_v (opv_mul rfl rfl (w64 (by omega) (by omega))) rfl ?_
    refine tU rfl rfl (by omega) (by omega) rfl ?_
    rw [hqy]
    refine tri_v (opv_fieldAddr rfl rfl) rfl ?_
    refine tri_g (opg_store rfl rfl rfl rfl rfl rfl) rfl ?_
    rintro _ _ _ ⟨rfl, rfl⟩
    refine tN (tT (tS (tS (tR ?_))))
    refine tri_v (opv_fieldAddr rfl rfl) rfl ?_
    refine tri_v (opv_load1 rfl rfl rfl) rfl ?_
    refine tri_v (opv_eql rfl rfl) rfl ?_
    refine tN (tT ?_)
    refine tri_cond_dec rfl (fun z1 => ?_) (fun z1 => ?_)
    ·refine tri_exit ?_
     refine tri_then_exit ?_
     refine tri_inBlock_hit rfl ?_
     rw [j1 z1]
     exact tri_cutEnd _ ⟨_, rfl, rfl, rfl⟩ ⟨rfl, rfl, rfl, rfl, rfl, rfl, rfl, rfl, trivial⟩
    ·refine tri_skip (tT (tS (tS (tR ?_))))
     refine tri_v (opv_fieldAddr rfl rfl) rfl ?_
     refine tri_v (opv_load1 rfl rfl rfl) rfl ?_
     refine tri_v (opv_eql rfl rfl) rfl ?_
     refine tN (tT ?_)
     refine tri_cond_dec rfl (fun z2 => ?_) (fun z2 => ?_)
     ·refine tR ?_
      refine tri_v (opv_loadA rfl rfl rfl) rfl ?_
      refine tri_g (opg_store rfl rfl rfl rfl rfl rfl) rfl ?_
      rintro _ _ _ ⟨rfl, rfl⟩
      refine tN (tT (tS (tR ?_)))
      refine tri_v (opv_fieldAddr rfl rfl) rfl ?_
      refine tri_v (opv_load1 rfl rfl rfl) rfl ?_
      refine tri_v (opv_fieldAddr rfl rfl) rfl ?_
      refine tri_v (opv_load1 rfl rfl rfl) rfl ?_
      refine tU rfl rfl (by omega) (by omega) rfl ?_
      refine tri_v (opv_fieldAddr rfl rfl) rfl ?_
      refine tri_v (opv_load1 rfl rfl rfl) rfl ?_
      refine tri_v (opv_fieldAddr rfl rfl) rfl ?_
      refine tri_v (opv_load1 rfl rfl rfl) rfl ?_
      refine tU rfl rfl (by omega) (by omega) rfl ?_
      refine tri_v (opv_max2 rfl rfl) rfl ?_
      rw [if_neg (Int.lt_irrefl _)]
      refine tA rfl rfl (tN (tT (tS (tR ?_))))
      refine tri_v (opv_fieldAddr rfl rfl) rfl ?_
      refine tri_v (opv_load1 rfl rfl rfl) rfl ?_
      refine tri_v (opv_fieldAddr rfl rfl) rfl ?_
      refine tri_v (opv_load1 rfl rfl rfl) rfl ?_
      refine tU rfl rfl (by omega) (by omega) rfl ?_
      refine tri_v (opv_fieldAddr rfl rfl) rfl ?_
      refine tri_v (opv_load1 rfl rfl rfl) rfl ?_
      refine tri_v (opv_fieldAddr rfl rfl) rfl ?_
      refine tri_v (opv_load1 rfl rfl rfl) rfl ?_
      refine tU rfl rfl (by omega) (by omega) rfl ?_
      refine tri_v (opv_max2 rfl rfl) rfl ?_
      rw [if_neg (Int.lt_irrefl _)]
      refine tA rfl rfl (tN (tT (tS (tR ?_))))
      refine tri_v (opv_fieldAddr rfl rfl) rfl ?_
      refine tri_v (opv_load1 rfl rfl rfl) rfl ?_
      refine tri_v (opv_fieldAddr rfl rfl) rfl ?_
      refine tri_v (opv_load1 rfl rfl rfl) rfl ?_
      refine tri_v (opv_min2 rfl rfl) rfl ?_
      rw [if_neg (Int.lt_irrefl _)]
      refine tri_v (opv_fieldAddr rfl rfl) rfl ?_
      refine tri_g (opg_store rfl rfl rfl rfl rfl rfl) rfl ?_
      rintro _ _ _ ⟨rfl, rfl⟩
      refine tN (tT (tS (tR ?_)))
      refine tri_v (opv_fieldAddr rfl rfl) rfl ?_
      refine tri_v (opv_load1 rfl rfl rfl) rfl ?_
      refine tri_v (opv_fieldAddr rfl rfl) rfl ?_
      refine tri_v (opv_load1 rfl rfl rfl) rfl ?_
      refine tri_v (opv_min2 rfl rfl) rfl ?_
      rw [if_neg (Int.lt_irrefl _)]
      refine tri_v (opv_fieldAddr rfl rfl) rfl ?_
      refine tri_g (opg_store rfl rfl rfl rfl rfl rfl) rfl ?_
      rintro _ _ _ ⟨rfl, rfl⟩
      refine tN (tT (tS (tR (tM rfl rfl ?_))))
      refine tri_v (opv_fieldAddr rfl rfl) rfl ?_
      refine tri_v (opv_load1 rfl rfl rfl) rfl ?_
      refine tri_v (opv_sub rfl rfl (w64 (by omega) (by omega))) rfl ?_
      refine tri_v (opv_fieldAddr rfl rfl) rfl ?_
      refine tri_g (opg_store rfl rfl rfl rfl rfl rfl) rfl ?_
      rintro _ _ _ ⟨rfl, rfl⟩
      refine tN (tT (tR (tM rfl rfl ?_)))
      refine tri_v (opv_fieldAddr rfl rfl) rfl ?_
      refine tri_v (opv_load1 rfl rfl rfl) rfl ?_
      refine tri_v (opv_sub rfl rfl (w64 (by omega) (by omega))) rfl ?_
      refine tri_v (opv_fieldAddr rfl rfl) rfl ?_
      refine tri_g (opg_store rfl rfl rfl rfl rfl rfl) rfl ?_
      rintro _ _ _ ⟨rfl, rfl⟩
      refine tN ?_
      refine tri_inBlock ?_
      rw [j2 z1 z2, show qx + e0.w - qx = e0.w by omega, show qy + e0.h - qy = e0.h by omega]
      exact tri_cutEnd _ ⟨_, rfl, rfl, rfl⟩ ⟨rfl, rfl, rfl, rfl, rfl, rfl, rfl, rfl, trivial⟩
     ·refine tri_skip (tT (tS (tR ?_)))
      refine tri_v (opv_fieldAddr rfl rfl) rfl ?_
      refine tri_v (opv_load1 rfl rfl rfl) rfl ?_
      refine tri_v (opv_fieldAddr rfl rfl) rfl ?_
      refine tri_v (opv_load1 rfl rfl rfl) rfl ?_
      refine tU rfl rfl (by omega) (by omega) rfl ?_
      refine tri_v (opv_fieldAddr rfl rfl) rfl ?_
      refine tri_v (opv_load1 rfl rfl rfl) rfl ?_
      refine tri_v (opv_fieldAddr rfl rfl) rfl ?_
      refine tri_v (opv_load1 rfl rfl rfl) rfl ?_
      refine tU rfl rfl (by omega) (by omega) rfl ?_
      refine tri_v (opv_max2 rfl rfl) rfl ?_
      rw [hm1]
      refine tA rfl rfl (tN (tT (tS (tR ?_))))
      refine tri_v (opv_fieldAddr rfl rfl) rfl ?_
      refine tri_v (opv_load1 rfl rfl rfl) rfl ?_
      refine tri_v (opv_fieldAddr rfl rfl) rfl ?_
      refine tri_v (opv_load1 rfl rfl rfl) rfl ?_
      refine tU rfl rfl (by omega) (by omega) rfl ?_
      refine tri_v (opv_fieldAddr rfl rfl) rfl ?_
      refine tri_v (opv_load1 rfl rfl rfl) rfl ?_
      refine tri_v (opv_fieldAddr rfl rfl) rfl ?_
      refine tri_v (opv_load1 rfl rfl rfl) rfl ?_
      refine tU rfl rfl (by omega) (by omega) rfl ?_
      refine tri_v (opv_max2 rfl rfl) rfl ?_
      rw [hm2]
      refine tA rfl rfl (tN (tT (tS (tR ?_))))
      refine tri_v (opv_fieldAddr rfl rfl) rfl ?_
      refine tri_v (opv_load1 rfl rfl rfl) rfl ?_
      refine tri_v (opv_fieldAddr rfl rfl) rfl ?_
      refine tri_v (opv_load1 rfl rfl rfl) rfl ?_
      refine tri_v (opv_min2 rfl rfl) rfl ?_
      rw [hm3]
      refine tri_v (opv_fieldAddr rfl rfl) rfl ?_
      refine tri_g (opg_store rfl rfl rfl rfl rfl rfl) rfl ?_
      rintro _ _ _ ⟨rfl, rfl⟩
      refine tN (tT (tS (tR ?_)))
      refine tri_v (opv_fieldAddr rfl rfl) rfl ?_
      refine tri_v (opv_load1 rfl rfl rfl) rfl ?_
      refine tri_v (opv_fieldAddr rfl rfl) rfl ?_
      refine tri_v (opv_load1 rfl rfl rfl) rfl ?_
      refine tri_v (opv_min2 rfl rfl) rfl ?_
      rw [hm4]
      refine tri_v (opv_fieldAddr rfl rfl) rfl ?_
      refine tri_g (opg_store rfl rfl rfl rfl rfl rfl) rfl ?_
      rintro _ _ _ ⟨rfl, rfl⟩
      refine tN (tT (tS (tR (tM rfl rfl ?_))))
      refine tri_v (opv_fieldAddr rfl rfl) rfl ?_
      refine tri_v (opv_load1 rfl rfl rfl) rfl ?_
      refine tri_v (opv_sub rfl rfl (w64 (by omega) (by omega))) rfl ?_
      refine tri_v (opv_fieldAddr rfl rfl) rfl ?_
      refine tri_g (opg_store rfl rfl rfl rfl rfl rfl) rfl ?_
      rintro _ _ _ ⟨rfl, rfl⟩
      refine tN (tT (tR (tM rfl rfl ?_)))
      refine tri_v (opv_fieldAddr rfl rfl) rfl ?_
      refine tri_v (opv_load1 rfl rfl rfl) rfl ?_
      refine tri_v (opv_sub rfl rfl (w64 (by omega) (by omega))) rfl ?_
      refine tri_v (opv_fieldAddr rfl rfl) rfl ?_
      refine tri_g (opg_store rfl rfl rfl rfl rfl rfl) rfl ?_
      rintro _ _ _ ⟨rfl, rfl⟩
      refine tN ?_
      refine tri_inBlock ?_
      rw [j3 z1 z2]
      exact tri_cutEnd _ ⟨_, rfl, rfl, rfl⟩ ⟨rfl, rfl, rfl, rfl, rfl, rfl, rfl, rfl, trivial⟩
   rintro _ _ _ ⟨X, rfl, rfl, rfl⟩
   clear n1 n2 n3 n4 u1 u2 u3 u4 u5 u6 v1 v2 v3 v4 v5 v6 hqx hqy hqx' hqy' hm1 hm2 hm3 hm4 j1 j2 j3 bm1 bm2 bm3 bm4 cm1 cm2 cm3 cm4
   clear m1 m2 m3 m4 qx qy
   rw [hacc'] at ev t0 t1 t2
   refine tri_drop ?_
   refine tT (tR (tM rfl rfl ?_))
   refine tU rfl rfl (by omega) (by omega) rfl ?_
   refine tA rfl rfl (tN (tT ?_))
   refine tri_round ?_
   refine tS (tS (tR (tM rfl rfl ?_)))
   refine tri_v (opv_lss rfl rfl) rfl ?_
   refine tN (tT ?_)
   clear hacc'
   
   obtain ⟨qx, hqx⟩ : ∃ z : Int, e1.x + (0 + 1) % 2 * 2 ^ m = z := ⟨_, rfl⟩
   obtain ⟨qy, hqy⟩ : ∃ z : Int, e1.y + (0 + 1) / 2 * 2 ^ m = z := ⟨_, rfl⟩
   have hqx' : e1.x + (2 ^ m) = qx := by omega
   have hqy' : e1.y + 0 = qy := by omega
   have ub := bt1
   have ua := t0
   have ub : 0 ≤ e1.x ∧ 0 ≤ e1.y ∧ 0 ≤ e1.w ∧ 0 ≤ e1.h ∧ e1.x + e1.w ≤ 2 ^ m ∧ e1.y + e1.h ≤ 2 ^ m := by unfold R7.EgR at ub; omega
   have ua : 0 ≤ acc1.x ∧ 0 ≤ acc1.y ∧ 0 ≤ acc1.w ∧ 0 ≤ acc1.h ∧ acc1.x + acc1.w ≤ 2 ^ m * 2 ∧ acc1.y + acc1.h ≤ 2 ^ m * 2 := by unfold R7.EgR at ua; omega
   obtain ⟨u1, u2, u3, u4, u5, u6⟩ := ub
   obtain ⟨v1, v2, v3, v4, v5, v6⟩ := ua
   have n1 : qx ≤ 2 ^ m * 2 - e1.w ∧ qy ≤ 2 ^ m * 2 - e1.h ∧ 0 ≤ qx ∧ 0 ≤ qy := by omega
   obtain ⟨n1, n2, n3, n4⟩ := n1
   obtain ⟨m1, hm1⟩ : ∃ z : Int, (if acc1.x + acc1.w < qx + e1.w then qx + e1.w else acc1.x + acc1.w) = z := ⟨_, rfl⟩
   have bm1 : 0 ≤ m1 ∧ m1 ≤ 2 ^ m * 2 := by rw [← hm1]; split <;> omega
   obtain ⟨bm1, cm1⟩ := bm1
   obtain ⟨m2, hm2⟩ : ∃ z : Int, (if acc1.y + acc1.h < qy + e1.h then qy + e1.h else acc1.y + acc1.h) = z := ⟨_, rfl⟩
   have bm2 : 0 ≤ m2 ∧ m2 ≤ 2 ^ m * 2 := by rw [← hm2]; split <;> omega
   obtain ⟨bm2, cm2⟩ := bm2
   obtain ⟨m3, hm3⟩ : ∃ z : Int, (if qx < acc1.x then qx else acc1.x) = z := ⟨_, rfl⟩
   have bm3 : 0 ≤ m3 ∧ m3 ≤ 2 ^ m * 2 := by rw [← hm3]; split <;> omega
   obtain ⟨bm3, cm3⟩ := bm3
   obtain ⟨m4, hm4⟩ : ∃ z : Int, (if qy < acc1.y then qy else acc1.y) = z := ⟨_, rfl⟩
   have bm4 : 0 ≤ m4 ∧ m4 ≤ 2 ^ m * 2 := by rw [← hm4]; split <;> omega
   obtain ⟨bm4, cm4⟩ := bm4
   have j1 : e1.w = 0 → R7.jr acc1 e1 (2 ^ m) 0 = acc1 := fun h => if_pos h
   have j2 : ¬ e1.w = 0 → acc1.w = 0 → R7.jr acc1 e1 (2 ^ m) 0 = ⟨qx, qy, e1.w, e1.h⟩ := fun h h2 => by rw [← hqx', ← hqy']; exact (if_neg h).trans (if_pos h2)
   have j3 : ¬ e1.w = 0 → ¬ acc1.w = 0 → R7.jr acc1 e1 (2 ^ m) 0 = ⟨m3, m4, m1 - m3, m2 - m4⟩ := fun h h2 => by rw [← hm1, ← hm2, ← hm3, ← hm4, ← hqx', ← hqy']; exact (if_neg h).trans (if_neg h2)
   obtain ⟨acc2, hacc'⟩ : ∃ b : R1.Rect, R7.jr acc1 e1 (2 ^ m) 0 = b := ⟨_, rfl⟩
   rw [hacc'] at j1 j2 j3
   skip
   refine tri_cond_is rfl (by decide) ?_
   refine tri_skip (tT (tS ?_))
   refine tri_cut (fun F' A' J => ∃ X : Asrt, F' = [(1, .int .i64 (k : Nat)), (2, pt b2 0), (5, .slice ao i co), (6, .int .i64 (i : Nat)), (7, pt b7 0), (8, .int .i64 (2 ^ m)), (9, pt b9 0), (10, .int .i64 1)] ∧ A' = X :: Box b9 [.int .i64 acc2.x, .int .i64 acc2.y, .int .i64 acc2.w, .int .i64 acc2.h] 45 :: Box b7 [.int .i64 x.lv, .int .i64 x.k0, .int .i64 x.k1, .int .i64 x.k2, .int .i64 x.k3, .int .i64 x.pop] 63 :: Row ao co i 45 4 (encs (R7.rcl ns i)) :: Box b2 [.slice a ns.length cap, .int .i64 room] 26 :: A ∧ I = J) ?_ ?_
   ·refine tri_block (tS (tR (tM rfl rfl (tM rfl rfl ?_))))
    refine tri_v (opv_fieldAddr rfl rfl) rfl ?_
    refine tri_v (opv_indexAddrA rfl rfl (by decide) (by decide)) rfl ?_
    refine tri_v (opv_load1 rfl rfl rfl) rfl ?_
    refine tri_v (opv_indexAddrR rfl rfl (by omega) (by omega)) rfl ?_
    refine tri_v (opv_loadRXA rfl rfl (by omega) rfl rfl rfl) rfl ?_
    refine tri_g opg_alloc rfl ?_
    rintro _ _ _ ⟨b11, rfl, rfl, rfl⟩
    refine tri_g (opg_store rfl rfl rfl rfl rfl rfl) rfl ?_
    rintro _ _ _ ⟨rfl, rfl⟩
    refine tN (tT (tS (tR ?_)))
    refine tri_v (opv_fieldAddr rfl rfl) rfl ?_
    refine tri_v (opv_load1 rfl rfl rfl) rfl ?_
    refine tM rfl rfl ?_
    refine tri_v (opv_remE rfl rfl (by omega) (by omega)) rfl ?_
    refine tM rfl rfl ?_
    refine tri_v (opv_mul rfl rfl (w64 (by omega) (by omega))) rfl ?_
    rw [g1]
    refine tU rfl rfl (by omega) (by omega) rfl ?_
    rw [hqx]
    refine tri_v (opv_fieldAddr rfl rfl) rfl ?_
    refine tri_g (opg_store rfl rfl rfl rfl rfl rfl) rfl ?_
    rintro _ _ _ ⟨rfl, rfl⟩
    refine tN (tT (tS (tR ?_)))
    refine tri_v (opv_fieldAddr rfl rfl) rfl ?_
    refine tri_v (opv_load1 rfl rfl rfl) rfl ?_
    refine tM rfl rfl ?_
    refine tri_v (opv_quoE rfl rfl (by omega) (by omega) (by omega)) rfl ?_
    refine tM rfl rfl ?_
    refine tri_v (opv_mul rfl rfl (w64 (by omega) (by omega))) rfl ?_
    refine tU rfl rfl (by omega) (by omega) rfl ?_
    rw [hqy]
    refine tri_v (opv_fieldAddr rfl rfl) rfl ?_
    refine tri_g (opg_store rfl rfl rfl rfl rfl rfl) rfl ?_
    rintro _ _ _ ⟨rfl, rfl⟩
    refine tN (tT (tS (tS (tR ?_))))
    refine tri_v (opv_fieldAddr rfl rfl) rfl ?_
    refine tri_v (opv_load1 rfl rfl rfl) rfl ?_
    refine tri_v (opv_eql rfl rfl) rfl ?_
    refine tN (tT ?_)
    refine tri_cond_dec rfl (fun z1 => ?_) (fun z1 => ?_)
    ·refine tri_exit ?_
     refine tri_then_exit ?_
     refine tri_inBlock_hit rfl ?_
     rw [j1 z1]
     exact tri_cutEnd _ ⟨_, rfl, rfl, rfl⟩ ⟨rfl, rfl, rfl, rfl, rfl, rfl, rfl, rfl, trivial⟩
    ·refine tri_skip (tT (tS (tS (tR ?_))))
     refine tri_v (opv_fieldAddr rfl rfl) rfl ?_
     refine tri_v (opv_load1 rfl rfl rfl) rfl ?_
     refine tri_v (opv_eql rfl rfl) rfl ?_
     refine tN (tT ?_)
     refine tri_cond_dec rfl (fun z2 => ?_) (fun z2 => ?_)
     ·refine tR ?_
      refine tri_v (opv_loadA rfl rfl rfl) rfl ?_
      refine tri_g (opg_store rfl rfl rfl rfl rfl rfl) rfl ?_
      rintro _ _ _ ⟨rfl, rfl⟩
      refine tN (tT (tS (tR ?_)))
      refine tri_v (opv_fieldAddr rfl rfl) rfl ?_
      refine tri_v (opv_load1 rfl rfl rfl) rfl ?_
      refine tri_v (opv_fieldAddr rfl rfl) rfl ?_
      refine tri_v (opv_load1 rfl rfl rfl) rfl ?_
      refine tU rfl rfl (by omega) (by omega) rfl ?_
      refine tri_v (opv_fieldAddr rfl rfl) rfl ?_
      refine tri_v (opv_load1 rfl rfl rfl) rfl ?_
      refine tri_v (opv_fieldAddr rfl rfl) rfl ?_
      refine tri_v (opv_load1 rfl rfl rfl) rfl ?_
      refine tU rfl rfl (by omega) (by omega) rfl ?_
      refine tri_v (opv_max2 rfl rfl) rfl ?_
      rw [if_neg (Int.lt_irrefl _)]
      refine tA rfl rfl (tN (tT (tS (tR ?_))))
      refine tri_v (opv_fieldAddr rfl rfl) rfl ?_
      refine tri_v (opv_load1 rfl rfl rfl) rfl ?_
      refine tri_v (opv_fieldAddr rfl rfl) rfl ?_
      refine tri_v (opv_load1 rfl rfl rfl) rfl ?_
      refine tU rfl rfl (by omega) (by omega) rfl ?_
      refine tri_v (opv_fieldAddr rfl rfl) rfl ?_
      refine tri_v (opv_load1 rfl rfl rfl) rfl ?_
      refine tri_v (opv_fieldAddr rfl rfl) rfl ?_
      refine tri_v (opv_load1 rfl rfl rfl) rfl ?_
      refine tU rfl rfl (by omega) (by omega) rfl ?_
      refine tri_v (opv_max2 rfl rfl) rfl ?_
      rw [if_neg (Int.lt_irrefl _)]
      refine tA rfl rfl (tN (tT (tS (tR ?_))))
      refine tri_v (opv_fieldAddr rfl rfl) rfl ?_
      refine tri_v (opv_load1 rfl rfl rfl) rfl ?_
      refine tri_v (opv_fieldAddr rfl rfl) rfl ?_
      refine tri_v (opv_load1 rfl rfl rfl) rfl ?_
      refine tri_v (opv_min2 rfl rfl) rfl ?_
      rw [if_neg (Int.lt_irrefl _)]
      refine tri_v (opv_fieldAddr rfl rfl) rfl ?_
      refine tri_g (opg_store rfl rfl rfl rfl rfl rfl) rfl ?_
      rintro _ _ _ ⟨rfl, rfl⟩
      refine tN (tT (tS (tR ?_)))
      refine tri_v (opv_fieldAddr rfl rfl) rfl ?_
      refine tri_v (opv_load1 rfl rfl rfl) rfl ?_
      refine tri_v (opv_fieldAddr rfl rfl) rfl ?_
      refine tri_v (opv_load1 rfl rfl rfl) rfl ?_
      refine tri_v (opv_min2 rfl rfl) rfl ?_
      rw [if_neg (Int.lt_irrefl _)]
      refine tri_v (opv_fieldAddr rfl rfl) rfl ?_
      refine tri_g (opg_store rfl rfl rfl rfl rfl rfl) rfl ?_
      rintro _ _ _ ⟨rfl, rfl⟩
      refine tN (tT (tS (tR (tM rfl rfl ?_))))
      refine tri_v (opv_fieldAddr rfl rfl) rfl ?_
      refine tri_v (opv_load1 rfl rfl rfl) rfl ?_
      refine tri_v (opv_sub rfl rfl (w64 (by omega) (by omega))) rfl ?_
      refine tri_v (opv_fieldAddr rfl rfl) rfl ?_
      refine tri_g (opg_store rfl rfl rfl rfl rfl rfl) rfl ?_
      rintro _ _ _ ⟨rfl, rfl⟩
      refine tN (tT (tR (tM rfl rfl ?_)))
      refine tri_v (opv_fieldAddr rfl rfl) rfl ?_
      refine tri_v (opv_load1 rfl rfl rfl) rfl ?_
      refine tri_v (opv_sub rfl rfl (w64 (by omega) (by omega))) rfl ?_
      refine tri_v (opv_fieldAddr rfl rfl) rfl ?_
      refine tri_g (opg_store rfl rfl rfl rfl rfl rfl) rfl ?_
      rintro _ _ _ ⟨rfl, rfl⟩
      refine tN ?_
      refine tri_inBlock ?_
      rw [j2 z1 z2, show qx + e1.w - qx = e1.w by omega, show qy + e1.h - qy = e1.h by omega]
      exact tri_cutEnd _ ⟨_, rfl, rfl, rfl⟩ ⟨rfl, rfl, rfl, rfl, rfl, rfl, rfl, rfl, trivial⟩
     ·refine tri_skip (tT (tS (tR ?_)))
      refine tri_v (opv_fieldAddr rfl rfl) rfl ?_
      refine tri_v (opv_load1 rfl rfl rfl) rfl ?_
      refine tri_v (opv_fieldAddr rfl rfl) rfl ?_
      refine tri_v (opv_load1 rfl rfl rfl) rfl ?_
      refine tU rfl rfl (by omega) (by omega) rfl ?_
      refine tri_v (opv_fieldAddr rfl rfl) rfl ?_
      refine tri_v (opv_load1 rfl rfl rfl) rfl ?_
      refine tri_v (opv_fieldAddr rfl rfl) rfl ?_
      refine tri_v (opv_load1 rfl rfl rfl) rfl ?_
      refine tU rfl rfl (by omega) (by omega) rfl ?_
      refine tri_v (opv_max2 rfl rfl) rfl ?_
      rw [hm1]
      refine tA rfl rfl (tN (tT (tS (tR ?_))))
      refine tri_v (opv_fieldAddr rfl rfl) rfl ?_
      refine tri_v (opv_load1 rfl rfl rfl) rfl ?_
      refine tri_v (opv_fieldAddr rfl rfl) rfl ?_
      refine tri_v (opv_load1 rfl rfl rfl) rfl ?_
      refine tU rfl rfl (by omega) (by omega) rfl ?_
      refine tri_v (opv_fieldAddr rfl rfl) rfl ?_
      refine tri_v (opv_load1 rfl rfl rfl) rfl ?_
      refine tri_v (opv_fieldAddr rfl rfl) rfl ?_
      refine tri_v (opv_load1 rfl rfl rfl) rfl ?_
      refine tU rfl rfl (by omega) (by omega) rfl ?_
      refine tri_v (opv_max2 rfl rfl) rfl ?_
      rw [hm2]
      refine tA rfl rfl (tN (tT (tS (tR ?_))))
      refine tri_v (opv_fieldAddr rfl rfl) rfl ?_
      refine tri_v (opv_load1 rfl rfl rfl) rfl ?_
      refine tri_v (opv_fieldAddr rfl rfl) rfl ?_
      refine tri_v (opv_load1 rfl rfl rfl) rfl ?_
      refine tri_v (opv_min2 rfl rfl) rfl ?_
      rw [hm3]
      refine tri_v (opv_fieldAddr rfl rfl) rfl ?_
      refine tri_g (opg_store rfl rfl rfl rfl rfl rfl) rfl ?_
      rintro _ _ _ ⟨rfl, rfl⟩
      refine tN (tT (tS (tR ?_)))
      refine tri_v (opv_fieldAddr rfl rfl) rfl ?_
      refine tri_v (opv_load1 rfl rfl rfl) rfl ?_
      refine tri_v (opv_fieldAddr rfl rfl) rfl ?_
      refine tri_v (opv_load1 rfl rfl rfl) rfl ?_
      refine tri_v (opv_min2 rfl rfl) rfl ?_
      rw [hm4]
      refine tri_v (opv_fieldAddr rfl rfl) rfl ?_
      refine tri_g (opg_store rfl rfl rfl rfl rfl rfl) rfl ?_
      rintro _ _ _ ⟨rfl, rfl⟩
      refine tN (tT (tS (tR (tM rfl rfl ?_))))
      refine tri_v (opv_fieldAddr rfl rfl) rfl ?_
      refine tri_v (opv_load1 rfl rfl rfl) rfl ?_
      refine tri_v (opv_sub rfl rfl (w64 (by omega) (by omega))) rfl ?_
      refine tri_v (opv_fieldAddr rfl rfl) rfl ?_
      refine tri_g (opg_store rfl rfl rfl rfl rfl rfl) rfl ?_
      rintro _ _ _ ⟨rfl, rfl⟩
      refine tN (tT (tR (tM rfl rfl ?_)))
      refine tri_v (opv_fieldAddr rfl rfl) rfl ?_
      refine tri_v (opv_load1 rfl rfl rfl) rfl ?_
      refine tri_v (opv_sub rfl rfl (w64 (by omega) (by omega))) rfl ?_
      refine tri_v (opv_fieldAddr rfl rfl) rfl ?_
      refine tri_g (opg_store rfl rfl rfl rfl rfl rfl) rfl ?_
      rintro _ _ _ ⟨rfl, rfl⟩
      refine tN ?_
      refine tri_inBlock ?_
      rw [j3 z1 z2]
      exact tri_cutEnd _ ⟨_, rfl, rfl, rfl⟩ ⟨rfl, rfl, rfl, rfl, rfl, rfl, rfl, rfl, trivial⟩
   rintro _ _ _ ⟨X, rfl, rfl, rfl⟩
   clear n1 n2 n3 n4 u1 u2 u3 u4 u5 u6 v1 v2 v3 v4 v5 v6 hqx hqy hqx' hqy' hm1 hm2 hm3 hm4 j1 j2 j3 bm1 bm2 bm3 bm4 cm1 cm2 cm3 cm4
   clear m1 m2 m3 m4 qx qy
   rw [hacc'] at ev t1 t2
   refine tri_drop ?_
   refine tT (tR (tM rfl rfl ?_))
   refine tU rfl rfl (by omega) (by omega) rfl ?_
   refine tA rfl rfl (tN (tT ?_))
   refine tri_round ?_
   refine tS (tS (tR (tM rfl rfl ?_)))
   refine tri_v (opv_lss rfl rfl) rfl ?_
   refine tN (tT ?_)
   clear hacc'
   
   obtain ⟨qx, hqx⟩ : ∃ z : Int, e2.x + (1 + 1) % 2 * 2 ^ m = z := ⟨_, rfl⟩
   obtain ⟨qy, hqy⟩ : ∃ z : Int, e2.y + (1 + 1) / 2 * 2 ^ m = z := ⟨_, rfl⟩
   have hqx' : e2.x + 0 = qx := by omega
   have hqy' : e2.y + (2 ^ m) = qy := by omega
   have ub := bt2
   have ua := t1
   have ub : 0 ≤ e2.x ∧ 0 ≤ e2.y ∧ 0 ≤ e2.w ∧ 0 ≤ e2.h ∧ e2.x + e2.w ≤ 2 ^ m ∧ e2.y + e2.h ≤ 2 ^ m := by unfold R7.EgR at ub; omega
   have ua : 0 ≤ acc2.x ∧ 0 ≤ acc2.y ∧ 0 ≤ acc2.w ∧ 0 ≤ acc2.h ∧ acc2.x + acc2.w ≤ 2 ^ m * 2 ∧ acc2.y + acc2.h ≤ 2 ^ m * 2 := by unfold R7.EgR at ua; omega
   obtain ⟨u1, u2, u3, u4, u5, u6⟩ := ub
   obtain ⟨v1, v2, v3, v4, v5, v6⟩ := ua
   have n1 : qx ≤ 2 ^ m * 2 - e2.w ∧ qy ≤ 2 ^ m * 2 - e2.h ∧ 0 ≤ qx ∧ 0 ≤ qy := by omega
   obtain ⟨n1, n2, n3, n4⟩ := n1
   obtain ⟨m1, hm1⟩ : ∃ z : Int, (if acc2.x + acc2.w < qx + e2.w then qx + e2.w else acc2.x + acc2.w) = z := ⟨_, rfl⟩
   have bm1 : 0 ≤ m1 ∧ m1 ≤ 2 ^ m * 2 := by rw [← hm1]; split <;> omega
   obtain ⟨bm1, cm1⟩ := bm1
   obtain ⟨m2, hm2⟩ : ∃ z : Int, (if acc2.y + acc2.h < qy + e2.h then qy + e2.h else acc2.y + acc2.h) = z := ⟨_, rfl⟩
   have bm2 : 0 ≤ m2 ∧ m2 ≤ 2 ^ m * 2 := by rw [← hm2]; split <;> omega
   obtain ⟨bm2, cm2⟩ := bm2
   obtain ⟨m3, hm3⟩ : ∃ z : Int, (if qx < acc2.x then qx else acc2.x) = z := ⟨_, rfl⟩
   have bm3 : 0 ≤ m3 ∧ m3 ≤ 2 ^ m * 2 := by rw [← hm3]; split <;> omega
   obtain ⟨bm3, cm3⟩ := bm3
   obtain ⟨m4, hm4⟩ : ∃ z : Int, (if qy < acc2.y then qy else acc2.y) = z := ⟨_, rfl⟩
   have bm4 : 0 ≤ m4 ∧ m4 ≤ 2 ^ m * 2 := by rw [← hm4]; split <;> omega
   obtain ⟨bm4, cm4⟩ := bm4
   have j1 : e2.w = 0 → R7.jr acc2 e2 0 (2 ^ m) = acc2 := fun h => if_pos h
   have j2 : ¬ e2.w = 0 → acc2.w = 0 → R7.jr acc2 e2 0 (2 ^ m) = ⟨qx, qy, e2.w, e2.h⟩ := fun h h2 => by rw [← hqx', ← hqy']; exact (if_neg h).trans (if_pos h2)
   have j3 : ¬ e2.w = 0 → ¬ acc2.w = 0 → R7.jr acc2 e2 0 (2 ^ m) = ⟨m3, m4, m1 - m3, m2 - m4⟩ := fun h h2 => by rw [← hm1, ← hm2, ← hm3, ← hm4, ← hqx', ← hqy']; exact (if_neg h).trans (if_neg h2)
   obtain ⟨acc3, hacc'⟩ : ∃ b : R1.Rect, R7.jr acc2 e2 0 (2 ^ m) = b := ⟨_, rfl⟩
   rw [hacc'] at j1 j2 j3
   skip
   refine tri_cond_is rfl (by decide) ?_
   refine tri_skip (tT (tS ?_))
   refine tri_cut (fun F' A' J => ∃ X : Asrt, F' = [(1, .int .i64 (k : Nat)), (2, pt b2 0), (5, .slice ao i co), (6, .int .i64 (i : Nat)), (7, pt b7 0), (8, .int .i64 (2 ^ m)), (9, pt b9 0), (10, .int .i64 2)] ∧ A' = X :: Box b9 [.int .i64 acc3.x, .int .i64 acc3.y, .int .i64 acc3.w, .int .i64 acc3.h] 45 :: Box b7 [.int .i64 x.lv, .int .i64 x.k0, .int .i64 x.k1, .int .i64 x.k2, .int .i64 x.k3, .int .i64 x.pop] 63 :: Row ao co i 45 4 (encs (R7.rcl ns i)) :: Box b2 [.slice a ns.length cap, .int .i64 room] 26 :: A ∧ I = J) ?_ ?_
   ·refine tri_block (tS (tR (tM rfl rfl (tM rfl rfl ?_))))
    refine tri_v (opv_fieldAddr rfl rfl) rfl ?_
    refine tri_v (opv_indexAddrA rfl rfl (by decide) (by decide)) rfl ?_
    refine tri_v (opv_load1 rfl rfl rfl) rfl ?_
    refine tri_v (opv_indexAddrR rfl rfl (by omega) (by omega)) rfl ?_
    refine tri_v (opv_loadRXA rfl rfl (by omega) rfl rfl rfl) rfl ?_
    refine tri_g opg_alloc rfl ?_
    rintro _ _ _ ⟨b11, rfl, rfl, rfl⟩
    refine tri_g (opg_store rfl rfl rfl rfl rfl rfl) rfl ?_
    rintro _ _ _ ⟨rfl, rfl⟩
    refine tN (tT (tS (tR ?_)))
    refine tri_v (opv_fieldAddr rfl rfl) rfl ?_
    refine tri_v (opv_load1 rfl rfl rfl) rfl ?_
    refine tM rfl rfl ?_
    refine tri_v (opv_remE rfl rfl (by omega) (by omega)) rfl ?_
    refine tM rfl rfl ?_
    refine tri_v (opv_mul rfl rfl (w64 (by omega) (by omega))) rfl ?_
    rw [g2]
    refine tU rfl rfl (by omega) (by omega) rfl ?_
    rw [hqx]
    refine tri_v (opv_fieldAddr rfl rfl) rfl ?_
    refine tri_g (opg_store rfl rfl rfl rfl rfl rfl) rfl ?_
    rintro _ _ _ ⟨rfl, rfl⟩
    refine tN (tT (tS (tR ?_)))
    refine tri_v (opv_fieldAddr rfl rfl) rfl ?_
    refine tri_v (opv_load1 rfl rfl rfl) rfl ?_
    refine tM rfl rfl ?_
    refine tri_v (opv_quoE rfl rfl (by omega) (by omega) (by omega)) rfl ?_
    refine tM rfl rfl ?_
    refine tri_v (opv_mul rfl rfl (w64 (by omega) (by omega))) rfl ?_
    refine tU rfl rfl (by omega) (by omega) rfl ?_
    rw [hqy]
    refine tri_v (opv_fieldAddr rfl rfl) rfl ?_
    refine tri_g (opg_store rfl rfl rfl rfl rfl rfl) rfl ?_
    rintro _ _ _ ⟨rfl, rfl⟩
    refine tN (tT (tS (tS (tR ?_))))
    refine tri_v (opv_fieldAddr rfl rfl) rfl ?_
    refine tri_v (opv_load1 rfl rfl rfl) rfl ?_
    refine tri_v (opv_eql rfl rfl) rfl ?_
    refine tN (tT ?_)
    refine tri_cond_dec rfl (fun z1 => ?_) (fun z1 => ?_)
    ·refine tri_exit ?_
     refine tri_then_exit ?_
     refine tri_inBlock_hit rfl ?_
     rw [j1 z1]
     exact tri_cutEnd _ ⟨_, rfl, rfl, rfl⟩ ⟨rfl, rfl, rfl, rfl, rfl, rfl, rfl, rfl, trivial⟩
    ·refine tri_skip (tT (tS (tS (tR ?_))))
     refine tri_v (opv_fieldAddr rfl rfl) rfl ?_
     refine tri_v (opv_load1 rfl rfl rfl) rfl ?_
     refine tri_v (opv_eql rfl rfl) rfl ?_
     refine tN (tT ?_)
     refine tri_cond_dec rfl (fun z2 => ?_) (fun z2 => ?_)
     ·refine tR ?_
      refine tri_v (opv_loadA rfl rfl rfl) rfl ?_
      refine tri_g (opg_store rfl rfl rfl rfl rfl rfl) rfl ?_
      rintro _ _ _ ⟨rfl, rfl⟩
      refine tN (tT (tS (tR ?_)))
      refine tri_v (opv_fieldAddr rfl rfl) rfl ?_
      refine tri_v (opv_load1 rfl rfl rfl) rfl ?_
      refine tri_v (opv_fieldAddr rfl rfl) rfl ?_
      refine tri_v (opv_load1 rfl rfl rfl) rfl ?_
      refine tU rfl rfl (by omega) (by omega) rfl ?_
      refine tri_v (opv_fieldAddr rfl rfl) rfl ?_
      refine tri_v (opv_load1 rfl rfl rfl) rfl ?_
      refine tri_v (opv_fieldAddr rfl rfl) rfl ?_
      refine tri_v (opv_load1 rfl rfl rfl) rfl ?_
      refine tU rfl rfl (by omega) (by omega) rfl ?_
      refine tri_v (opv_max2 rfl rfl) rfl ?_
      rw [if_neg (Int.lt_irrefl _)]
      refine tA rfl rfl (tN (tT (tS (tR ?_))))
      refine tri_v (opv_fieldAddr rfl rfl) rfl ?_
      refine tri_v (opv_load1 rfl rfl rfl) rfl ?_
      refine tri_v (opv_fieldAddr rfl rfl) rfl ?_
      refine tri_v (opv_load1 rfl rfl rfl) rfl ?_
      refine tU rfl rfl (by omega) (by omega) rfl ?_
      refine tri_v (opv_fieldAddr rfl rfl) rfl ?_
      refine tri_v (opv_load1 rfl rfl rfl) rfl ?_
      refine tri_v (opv_fieldAddr rfl rfl) rfl ?_
      refine tri_v (opv_load1 rfl rfl rfl) rfl ?_
      refine tU rfl rfl (by omega) (by omega) rfl ?_
      refine tri_v (opv_max2 rfl rfl) rfl ?_
      rw [if_neg (Int.lt_irrefl _)]
      refine tA rfl rfl (tN (tT (tS (tR ?_))))
      refine tri_v (opv_fieldAddr rfl rfl) rfl ?_
      refine tri_v (opv_load1 rfl rfl rfl) rfl ?_
      refine tri_v (opv_fieldAddr rfl rfl) rfl ?_
      refine tri_v (opv_load1 rfl rfl rfl) rfl ?_
      refine tri_v (opv_min2 rfl rfl) rfl ?_
      rw [if_neg (Int.lt_irrefl _)]
      refine tri_v (opv_fieldAddr rfl rfl) rfl ?_
      refine tri_g (opg_store rfl rfl rfl rfl rfl rfl) rfl ?_
      rintro _ _ _ ⟨rfl, rfl⟩
      refine tN (tT (tS (tR ?_)))
      refine tri_v (opv_fieldAddr rfl rfl) rfl ?_
      refine tri_v (opv_load1 rfl rfl rfl) rfl ?_
      refine tri_v (opv_fieldAddr rfl rfl) rfl ?_
      refine tri_v (opv_load1 rfl rfl rfl) rfl ?_
      refine tri_v (opv_min2 rfl rfl) rfl ?_
      rw [if_neg (Int.lt_irrefl _)]
      refine tri_v (opv_fieldAddr rfl rfl) rfl ?_
      refine tri_g (opg_store rfl rfl rfl rfl rfl rfl) rfl ?_
      rintro _ _ _ ⟨rfl, rfl⟩
      refine tN (tT (tS (tR (tM rfl rfl ?_))))
      refine tri_v (opv_fieldAddr rfl rfl) rfl ?_
      refine tri_v (opv_load1 rfl rfl rfl) rfl ?_
      refine tri_v (opv_sub rfl rfl (w64 (by omega) (by omega))) rfl ?_
      refine tri_v (opv_fieldAddr rfl rfl) rfl ?_
      refine tri_g (opg_store rfl rfl rfl rfl rfl rfl) rfl ?_
      rintro _ _ _ ⟨rfl, rfl⟩
      refine tN (tT (tR (tM rfl rfl ?_)))
      refine tri_v (opv_fieldAddr rfl rfl) rfl ?_
      refine tri_v (opv_load1 rfl rfl rfl) rfl ?_
      refine tri_v (opv_sub rfl rfl (w64 (by omega) (by omega))) rfl ?_
      refine tri_v (opv_fieldAddr rfl rfl) rfl ?_
      refine tri_g (opg_store rfl rfl rfl rfl rfl rfl) rfl ?_
      rintro _ _ _ ⟨rfl, rfl⟩
      refine tN ?_
      refine tri_inBlock ?_
      rw [j2 z1 z2, show qx + e2.w - qx = e2.w by omega, show qy + e2.h - qy = e2.h by omega]
      exact tri_cutEnd _ ⟨_, rfl, rfl, rfl⟩ ⟨rfl, rfl, rfl, rfl, rfl, rfl, rfl, rfl, trivial⟩
     ·refine tri_skip (tT (tS (tR ?_)))
      refine tri_v (opv_fieldAddr rfl rfl) rfl ?_
      refine tri_v (opv_load1 rfl rfl rfl) rfl ?_
      refine tri_v (opv_fieldAddr rfl rfl) rfl ?_
      refine tri_v (opv_load1 rfl rfl rfl) rfl ?_
      refine tU rfl rfl (by omega) (by omega) rfl ?_
      refine tri_v (opv_fieldAddr rfl rfl) rfl ?_
      refine tri_v (opv_load1 rfl rfl rfl) rfl ?_
      refine tri_v (opv_fieldAddr rfl rfl) rfl ?_
      refine tri_v (opv_load1 rfl rfl rfl) rfl ?_
      refine tU rfl rfl (by omega) (by omega) rfl ?_
      refine tri_v (opv_max2 rfl rfl) rfl ?_
      rw [hm1]
      refine tA rfl rfl (tN (tT (tS (tR ?_))))
      refine tri_v (opv_fieldAddr rfl rfl) rfl ?_
      refine tri_v (opv_load1 rfl rfl rfl) rfl ?_
      refine tri_v (opv_fieldAddr rfl rfl) rfl ?_
      refine tri_v (opv_load1 rfl rfl rfl) rfl ?_
      refine tU rfl rfl (by omega) (by omega) rfl ?_
      refine tri_v (opv_fieldAddr rfl rfl) rfl ?_
      refine tri_v (opv_load1 rfl rfl rfl) rfl ?_
      refine tri_v (opv_fieldAddr rfl rfl) rfl ?_
      refine tri_v (opv_load1 rfl rfl rfl) rfl ?_
      refine tU rfl rfl (by omega) (by omega) rfl ?_
      refine tri_v (opv_max2 rfl rfl) rfl ?_
      rw [hm2]
      refine tA rfl rfl (tN (tT (tS (tR ?_))))
      refine tri_v (opv_fieldAddr rfl rfl) rfl ?_
      refine tri_v (opv_load1 rfl rfl rfl) rfl ?_
      refine tri_v (opv_fieldAddr rfl rfl) rfl ?_
      refine tri_v (opv_load1 rfl rfl rfl) rfl ?_
      refine tri_v (opv_min2 rfl rfl) rfl ?_
      rw [hm3]
      refine tri_v (opv_fieldAddr rfl rfl) rfl ?_
      refine tri_g (opg_store rfl rfl rfl rfl rfl rfl) rfl ?_
      rintro _ _ _ ⟨rfl, rfl⟩
      refine tN (tT (tS (tR ?_)))
      refine tri_v (opv_fieldAddr rfl rfl) rfl ?_
      refine tri_v (opv_load1 rfl rfl rfl) rfl ?_
      refine tri_v (opv_fieldAddr rfl rfl) rfl ?_
      refine tri_v (opv_load1 rfl rfl rfl) rfl ?_
      refine tri_v (opv_min2 rfl rfl) rfl ?_
      rw [hm4]
      refine tri_v (opv_fieldAddr rfl rfl) rfl ?_
      refine tri_g (opg_store rfl rfl rfl rfl rfl rfl) rfl ?_
      rintro _ _ _ ⟨rfl, rfl⟩
      refine tN (tT (tS (tR (tM rfl rfl ?_))))
      refine tri_v (opv_fieldAddr rfl rfl) rfl ?_
      refine tri_v (opv_load1 rfl rfl rfl) rfl ?_
      refine tri_v (opv_sub rfl rfl (w64 (by omega) (by omega))) rfl ?_
      refine tri_v (opv_fieldAddr rfl rfl) rfl ?_
      refine tri_g (opg_store rfl rfl rfl rfl rfl rfl) rfl ?_
      rintro _ _ _ ⟨rfl, rfl⟩
      refine tN (tT (tR (tM rfl rfl ?_)))
      refine tri_v (opv_fieldAddr rfl rfl) rfl ?_
      refine tri_v (opv_load1 rfl rfl rfl) rfl ?_
      refine tri_v (opv_sub rfl rfl (w64 (by omega) (by omega))) rfl ?_
      refine tri_v (opv_fieldAddr rfl rfl) rfl ?_
      refine tri_g (opg_store rfl rfl rfl rfl rfl rfl) rfl ?_
      rintro _ _ _ ⟨rfl, rfl⟩
      refine tN ?_
      refine tri_inBlock ?_
      rw [j3 z1 z2]
      exact tri_cutEnd _ ⟨_, rfl, rfl, rfl⟩ ⟨rfl, rfl, rfl, rfl, rfl, rfl, rfl, rfl, trivial⟩
   rintro _ _ _ ⟨X, rfl, rfl, rfl⟩
   clear n1 n2 n3 n4 u1 u2 u3 u4 u5 u6 v1 v2 v3 v4 v5 v6 hqx hqy hqx' hqy' hm1 hm2 hm3 hm4 j1 j2 j3 bm1 bm2 bm3 bm4 cm1 cm2 cm3 cm4
   clear m1 m2 m3 m4 qx qy
   rw [hacc'] at ev t2
   refine tri_drop ?_
   refine tT (tR (tM rfl rfl ?_))
   refine tU rfl rfl (by omega) (by omega) rfl ?_
   refine tA rfl rfl (tN (tT ?_))
   refine tri_round ?_
   refine tS (tS (tR (tM rfl rfl ?_)))
   refine tri_v (opv_lss rfl rfl) rfl ?_
   refine tN (tT ?_)
   clear hacc'
   
   obtain ⟨qx, hqx⟩ : ∃ z : Int, e3.x + (2 + 1) % 2 * 2 ^ m = z := ⟨_, rfl⟩
   obtain ⟨qy, hqy⟩ : ∃ z : Int, e3.y + (2 + 1) / 2 * 2 ^ m = z := ⟨_, rfl⟩
   have hqx' : e3.x + (2 ^ m) = qx := by omega
   have hqy' : e3.y + (2 ^ m) = qy := by omega
   have ub := bt3
   have ua := t2
   have ub : 0 ≤ e3.x ∧ 0 ≤ e3.y ∧ 0 ≤ e3.w ∧ 0 ≤ e3.h ∧ e3.x + e3.w ≤ 2 ^ m ∧ e3.y + e3.h ≤ 2 ^ m := by unfold R7.EgR at ub; omega
   have ua : 0 ≤ acc3.x ∧ 0 ≤ acc3.y ∧ 0 ≤ acc3.w ∧ 0 ≤ acc3.h ∧ acc3.x + acc3.w ≤ 2 ^ m * 2 ∧ acc3.y + acc3.h ≤ 2 ^ m * 2 := by unfold R7.EgR at ua; omega
   obtain ⟨u1, u2, u3, u4, u5, u6⟩ := ub
   obtain ⟨v1, v2, v3, v4, v5, v6⟩ := ua
   have n1 : qx ≤ 2 ^ m * 2 - e3.w ∧ qy ≤ 2 ^ m * 2 - e3.h ∧ 0 ≤ qx ∧ 0 ≤ qy := by omega
   obtain ⟨n1, n2, n3, n4⟩ := n1
   obtain ⟨m1, hm1⟩ : ∃ z : Int, (if acc3.x + acc3.w < qx + e3.w then qx + e3.w else acc3.x + acc3.w) = z := ⟨_, rfl⟩
   have bm1 : 0 ≤ m1 ∧ m1 ≤ 2 ^ m * 2 := by rw [← hm1]; split <;> omega
   obtain ⟨bm1, cm1⟩ := bm1
   obtain ⟨m2, hm2⟩ : ∃ z : Int, (if acc3.y + acc3.h < qy + e3.h then qy + e3.h else acc3.y + acc3.h) = z := ⟨_, rfl⟩
   have bm2 : 0 ≤ m2 ∧ m2 ≤ 2 ^ m * 2 := by rw [← hm2]; split <;> omega
   obtain ⟨bm2, cm2⟩ := bm2
   obtain ⟨m3, hm3⟩ : ∃ z : Int, (if qx < acc3.x then qx else acc3.x) = z := ⟨_, rfl⟩
   have bm3 : 0 ≤ m3 ∧ m3 ≤ 2 ^ m * 2 := by rw [← hm3]; split <;> omega
   obtain ⟨bm3, cm3⟩ := bm3
   obtain ⟨m4, hm4⟩ : ∃ z : Int, (if qy < acc3.y then qy else acc3.y) = z := ⟨_, rfl⟩
   have bm4 : 0 ≤ m4 ∧ m4 ≤ 2 ^ m * 2 := by rw [← hm4]; split <;> omega
   obtain ⟨bm4, cm4⟩ := bm4
   have j1 : e3.w = 0 → R7.jr acc3 e3 (2 ^ m) (2 ^ m) = acc3 := fun h => if_pos h
   have j2 : ¬ e3.w = 0 → acc3.w = 0 → R7.jr acc3 e3 (2 ^ m) (2 ^ m) = ⟨qx, qy, e3.w, e3.h⟩ := fun h h2 => by rw [← hqx', ← hqy']; exact (if_neg h).trans (if_pos h2)
   have j3 : ¬ e3.w = 0 → ¬ acc3.w = 0 → R7.jr acc3 e3 (2 ^ m) (2 ^ m) = ⟨m3, m4, m1 - m3, m2 - m4⟩ := fun h h2 => by rw [← hm1, ← hm2, ← hm3, ← hm4, ← hqx', ← hqy']; exact (if_neg h).trans (if_neg h2)
   obtain ⟨acc4, hacc'⟩ : ∃ b : R1.Rect, R7.jr acc3 e3 (2 ^ m) (2 ^ m) = b := ⟨_, rfl⟩
   rw [hacc'] at j1 j2 j3
   skip
   refine tri_cond_is rfl (by decide) ?_
   refine tri_skip (tT (tS ?_))
   refine tri_cut (fun F' A' J => ∃ X : Asrt, F' = [(1, .int .i64 (k : Nat)), (2, pt b2 0), (5, .slice ao i co), (6, .int .i64 (i : Nat)), (7, pt b7 0), (8, .int .i64 (2 ^ m)), (9, pt b9 0), (10, .int .i64 3)] ∧ A' = X :: Box b9 [.int .i64 acc4.x, .int .i64 acc4.y, .int .i64 acc4.w, .int .i64 acc4.h] 45 :: Box b7 [.int .i64 x.lv, .int .i64 x.k0, .int .i64 x.k1, .int .i64 x.k2, .int .i64 x.k3, .int .i64 x.pop] 63 :: Row ao co i 45 4 (encs (R7.rcl ns i)) :: Box b2 [.slice a ns.length cap, .int .i64 room] 26 :: A ∧ I = J) ?_ ?_
   ·refine tri_block (tS (tR (tM rfl rfl (tM rfl rfl ?_))))
    refine tri_v (opv_fieldAddr rfl rfl) rfl ?_
    refine tri_v (opv_indexAddrA rfl rfl (by decide) (by decide)) rfl ?_
    refine tri_v (opv_load1 rfl rfl rfl) rfl ?_
    refine tri_v (opv_indexAddrR rfl rfl (by omega) (by omega)) rfl ?_
    refine tri_v (opv_loadRXA rfl rfl (by omega) rfl rfl rfl) rfl ?_
    refine tri_g opg_alloc rfl ?_
    rintro _ _ _ ⟨b11, rfl, rfl, rfl⟩
    refine tri_g (opg_store rfl rfl rfl rfl rfl rfl) rfl ?_
    rintro _ _ _ ⟨rfl, rfl⟩
    refine tN (tT (tS (tR ?_)))
    refine tri_v (opv_fieldAddr rfl rfl) rfl ?_
    refine tri_v (opv_load1 rfl rfl rfl) rfl ?_
    refine tM rfl rfl ?_
    refine tri_v (opv_remE rfl rfl (by omega) (by omega)) rfl ?_
    refine tM rfl rfl ?_
    refine tri_v (opv_mul rfl rfl (w64 (by omega) (by omega))) rfl ?_
    rw [g3]
    refine tU rfl rfl (by omega) (by omega) rfl ?_
    rw [hqx]
    refine tri_v (opv_fieldAddr rfl rfl) rfl ?_
    refine tri_g (opg_store rfl rfl rfl rfl rfl rfl) rfl ?_
    rintro _ _ _ ⟨rfl, rfl⟩
    refine tN (tT (tS (tR ?_)))
    refine tri_v (opv_fieldAddr rfl rfl) rfl ?_
    refine tri_v (opv_load1 rfl rfl rfl) rfl ?_
    refine tM rfl rfl ?_
    refine tri_v (opv_quoE rfl rfl (by omega) (by omega) (by omega)) rfl ?_
    refine tM rfl rfl ?_
    refine tri_v (opv_mul rfl rfl (w64 (by omega) (by omega))) rfl ?_
    refine tU rfl rfl (by omega) (by omega) rfl ?_
    rw [hqy]
    refine tri_v (opv_fieldAddr rfl rfl) rfl ?_
    refine tri_g (opg_store rfl rfl rfl rfl rfl rfl) rfl ?_
    rintro _ _ _ ⟨rfl, rfl⟩
    refine tN (tT (tS (tS (tR ?_))))
    refine tri_v (opv_fieldAddr rfl rfl) rfl ?_
    refine tri_v (opv_load1 rfl rfl rfl) rfl ?_
    refine tri_v (opv_eql rfl rfl) rfl ?_
    refine tN (tT ?_)
    refine tri_cond_dec rfl (fun z1 => ?_) (fun z1 => ?_)
    ·refine tri_exit ?_
     refine tri_then_exit ?_
     refine tri_inBlock_hit rfl ?_
     rw [j1 z1]
     exact tri_cutEnd _ ⟨_, rfl, rfl, rfl⟩ ⟨rfl, rfl, rfl, rfl, rfl, rfl, rfl, rfl, trivial⟩
    ·refine tri_skip (tT (tS (tS (tR ?_))))
     refine tri_v (opv_fieldAddr rfl rfl) rfl ?_
     refine tri_v (opv_load1 rfl rfl rfl) rfl ?_
     refine tri_v (opv_eql rfl rfl) rfl ?_
     refine tN (tT ?_)
     refine tri_cond_dec rfl (fun z2 => ?_) (fun z2 => ?_)
     ·refine tR ?_
      refine tri_v (opv_loadA rfl rfl rfl) rfl ?_
      refine tri_g (opg_store rfl rfl rfl rfl rfl rfl) rfl ?_
      rintro _ _ _ ⟨rfl, rfl⟩
      refine tN (tT (tS (tR ?_)))
      refine tri_v (opv_fieldAddr rfl rfl) rfl ?_
      refine tri_v (opv_load1 rfl rfl rfl) rfl ?_
      refine tri_v (opv_fieldAddr rfl rfl) rfl ?_
      refine tri_v (opv_load1 rfl rfl rfl) rfl ?_
      refine tU rfl rfl (by omega) (by omega) rfl ?_
      refine tri_v (opv_fieldAddr rfl rfl) rfl ?_
      refine tri_v (opv_load1 rfl rfl rfl) rfl ?_
      refine tri_v (opv_fieldAddr rfl rfl) rfl ?_
      refine tri_v (opv_load1 rfl rfl rfl) rfl ?_
      refine tU rfl rfl (by omega) (by omega) rfl ?_
      refine tri_v (opv_max2 rfl rfl) rfl ?_
      rw [if_neg (Int.lt_irrefl _)]
      refine tA rfl rfl (tN (tT (tS (tR ?_))))
      refine tri_v (opv_fieldAddr rfl rfl) rfl ?_
      refine tri_v (opv_load1 rfl rfl rfl) rfl ?_
      refine tri_v (opv_fieldAddr rfl rfl) rfl ?_
      refine tri_v (opv_load1 rfl rfl rfl) rfl ?_
      refine tU rfl rfl (by omega) (by omega) rfl ?_
      refine tri_v (opv_fieldAddr rfl rfl) rfl ?_
      refine tri_v (opv_load1 rfl rfl rfl) rfl ?_
      refine tri_v (opv_fieldAddr rfl rfl) rfl ?_
      refine tri_v (opv_load1 rfl rfl rfl) rfl ?_
      refine tU rfl rfl (by omega) (by omega) rfl ?_
      refine tri_v (opv_max2 rfl rfl) rfl ?_
      rw [if_neg (Int.lt_irrefl _)]
      refine tA rfl rfl (tN (tT (tS (tR ?_))))
      refine tri_v (opv_fieldAddr rfl rfl) rfl ?_
      refine tri_v (opv_load1 rfl rfl rfl) rfl ?_
      refine tri_v (opv_fieldAddr rfl rfl) rfl ?_
      refine tri_v (opv_load1 rfl rfl rfl) rfl ?_
      refine tri_v (opv_min2 rfl rfl) rfl ?_
      rw [if_neg (Int.lt_irrefl _)]
      refine tri_v (opv_fieldAddr rfl rfl) rfl ?_
      refine tri_g (opg_store rfl rfl rfl rfl rfl rfl) rfl ?_
      rintro _ _ _ ⟨rfl, rfl⟩
      refine tN (tT (tS (tR ?_)))
      refine tri_v (opv_fieldAddr rfl rfl) rfl ?_
      refine tri_v (opv_load1 rfl rfl rfl) rfl ?_
      refine tri_v (opv_fieldAddr rfl rfl) rfl ?_
      refine tri_v (opv_load1 rfl rfl rfl) rfl ?_
      refine tri_v (opv_min2 rfl rfl) rfl ?_
      rw [if_neg (Int.lt_irrefl _)]
      refine tri_v (opv_fieldAddr rfl rfl) rfl ?_
      refine tri_g (opg_store rfl rfl rfl rfl rfl rfl) rfl ?_
      rintro _ _ _ ⟨rfl, rfl⟩
      refine tN (tT (tS (tR (tM rfl rfl ?_))))
      refine tri_v (opv_fieldAddr rfl rfl) rfl ?_
      refine tri_v (opv_load1 rfl rfl rfl) rfl ?_
      refine tri_v (opv_sub rfl rfl (w64 (by omega) (by omega))) rfl ?_
      refine tri_v (opv_fieldAddr rfl rfl) rfl ?_
      refine tri_g (opg_store rfl rfl rfl rfl rfl rfl) rfl ?_
      rintro _ _ _ ⟨rfl, rfl⟩
      refine tN (tT (tR (tM rfl rfl ?_)))
      refine tri_v (opv_fieldAddr rfl rfl) rfl ?_
      refine tri_v (opv_load1 rfl rfl rfl) rfl ?_
      refine tri_v (opv_sub rfl rfl (w64 (by omega) (by omega))) rfl ?_
      refine tri_v (opv_fieldAddr rfl rfl) rfl ?_
      refine tri_g (opg_store rfl rfl rfl rfl rfl rfl) rfl ?_
      rintro _ _ _ ⟨rfl, rfl⟩
      refine tN ?_
      refine tri_inBlock ?_
      rw [j2 z1 z2, show qx + e3.w - qx = e3.w by omega, show qy + e3.h - qy = e3.h by omega]
      exact tri_cutEnd _ ⟨_, rfl, rfl, rfl⟩ ⟨rfl, rfl, rfl, rfl, rfl, rfl, rfl, rfl, trivial⟩
     ·refine tri_skip (tT (tS (tR ?_)))
      refine tri_v (opv_fieldAddr rfl rfl) rfl ?_
      refine tri_v (opv_load1 rfl rfl rfl) rfl ?_
      refine tri_v (opv_fieldAddr rfl rfl) rfl ?_
      refine tri_v (opv_load1 rfl rfl rfl) rfl ?_
      refine tU rfl rfl (by omega) (by omega) rfl ?_
      refine tri_v (opv_fieldAddr rfl rfl) rfl ?_
      refine tri_v (opv_load1 rfl rfl rfl) rfl ?_
      refine tri_v (opv_fieldAddr rfl rfl) rfl ?_
      refine tri_v (opv_load1 rfl rfl rfl) rfl ?_
      refine tU rfl rfl (by omega) (by omega) rfl ?_
      refine tri_v (opv_max2 rfl rfl) rfl ?_
      rw [hm1]
      refine tA rfl rfl (tN (tT (tS (tR ?_))))
      refine tri_v (opv_fieldAddr rfl rfl) rfl ?_
      refine tri_v (opv_load1 rfl rfl rfl) rfl ?_
      refine tri_v (opv_fieldAddr rfl rfl) rfl ?_
      refine tri_v (opv_load1 rfl rfl rfl) rfl ?_
      refine tU rfl rfl (by omega) (by omega) rfl ?_
      refine tri_v (opv_fieldAddr rfl rfl) rfl ?_
      refine tri_v (opv_load1 rfl rfl rfl) rfl ?_
      refine tri_v (opv_fieldAddr rfl rfl) rfl ?_
      refine tri_v (opv_load1 rfl rfl rfl) rfl ?_
      refine tU rfl rfl (by omega) (by omega) rfl ?_
      refine tri_v (opv_max2 rfl rfl) rfl ?_
      rw [hm2]
      refine tA rfl rfl (tN (tT (tS (tR ?_))))
      refine tri_v (opv_fieldAddr rfl rfl) rfl ?_
      refine tri_v (opv_load1 rfl rfl rfl) rfl ?_
      refine tri_v (opv_fieldAddr rfl rfl) rfl ?_
      refine tri_v (opv_load1 rfl rfl rfl) rfl ?_
      refine tri_v (opv_min2 rfl rfl) rfl ?_
      rw [hm3]
      refine tri_v (opv_fieldAddr rfl rfl) rfl ?_
      refine tri_g (opg_store rfl rfl rfl rfl rfl rfl) rfl ?_
      rintro _ _ _ ⟨rfl, rfl⟩
      refine tN (tT (tS (tR ?_)))
      refine tri_v (opv_fieldAddr rfl rfl) rfl ?_
      refine tri_v (opv_load1 rfl rfl rfl) rfl ?_
      refine tri_v (opv_fieldAddr rfl rfl) rfl ?_
      refine tri_v (opv_load1 rfl rfl rfl) rfl ?_
      refine tri_v (opv_min2 rfl rfl) rfl ?_
      rw [hm4]
      refine tri_v (opv_fieldAddr rfl rfl) rfl ?_
      refine tri_g (opg_store rfl rfl rfl rfl rfl rfl) rfl ?_
      rintro _ _ _ ⟨rfl, rfl⟩
      refine tN (tT (tS (tR (tM rfl rfl ?_))))
      refine tri_v (opv_fieldAddr rfl rfl) rfl ?_
      refine tri_v (opv_load1 rfl rfl rfl) rfl ?_
      refine tri_v (opv_sub rfl rfl (w64 (by omega) (by omega))) rfl ?_
      refine tri_v (opv_fieldAddr rfl rfl) rfl ?_
      refine tri_g (opg_store rfl rfl rfl rfl rfl rfl) rfl ?_
      rintro _ _ _ ⟨rfl, rfl⟩
      refine tN (tT (tR (tM rfl rfl ?_)))
      refine tri_v (opv_fieldAddr rfl rfl) rfl ?_
      refine tri_v (opv_load1 rfl rfl rfl) rfl ?_
      refine tri_v (opv_sub rfl rfl (w64 (by omega) (by omega))) rfl ?_
      refine tri_v (opv_fieldAddr rfl rfl) rfl ?_
      refine tri_g (opg_store rfl rfl rfl rfl rfl rfl) rfl ?_
      rintro _ _ _ ⟨rfl, rfl⟩
      refine tN ?_
      refine tri_inBlock ?_
      rw [j3 z1 z2]
      exact tri_cutEnd _ ⟨_, rfl, rfl, rfl⟩ ⟨rfl, rfl, rfl, rfl, rfl, rfl, rfl, rfl, trivial⟩
   rintro _ _ _ ⟨X, rfl, rfl, rfl⟩
   clear n1 n2 n3 n4 u1 u2 u3 u4 u5 u6 v1 v2 v3 v4 v5 v6 hqx hqy hqx' hqy' hm1 hm2 hm3 hm4 j1 j2 j3 bm1 bm2 bm3 bm4 cm1 cm2 cm3 cm4
   clear m1 m2 m3 m4 qx qy
   rw [hacc'] at ev 
   refine tri_drop ?_
   refine tT (tR (tM rfl rfl ?_))
   refine tU rfl rfl (by omega) (by omega) rfl ?_
   refine tA rfl rfl (tN (tT ?_))
   refine tri_round ?_
   refine tS (tS (tR (tM rfl rfl ?_)))
   refine tri_v (opv_lss rfl rfl) rfl ?_
   refine tN (tT ?_)
   clear hacc'
   
   skip
   refine tri_cond_not rfl (by decide) ?_
   refine tri_exit ?_
   refine tri_then_exit ?_
   refine tri_then_exit ?_
   refine tri_inBlock_hit rfl ?_
   refine tT (tR (tM rfl rfl ?_))
   refine tri_v (opv_loadA rfl rfl rfl) rfl ?_
   refine tri_g (opg_buildSlice rfl rfl rfl rfl) rfl ?_
   rintro _ _ _ ⟨b119, rfl, rfl, rfl⟩
   refine tri_g (opg_appendB rfl rfl rfl rfl (by omega) rfl) rfl ?_
   rintro _ _ _ ⟨aa, cc, rfl, rfl, rfl⟩
   refine tA rfl rfl (tN ?_)
   refine tri_inBlock ?_
   refine tT (tR (tM rfl rfl ?_))
   refine tU rfl rfl (by omega) (by omega) rfl ?_
   refine tA rfl rfl (tN (tT ?_))
   refine tri_perm (A := ?a3_0 :: ?a3_1 :: ?a3_2 :: ?a3_3 :: ?T3) (B := ?a3_3 :: ?a3_0 :: ?a3_1 :: ?a3_2 :: ?T3) (by exact permL [3, 0, 1, 2] [?a3_0, ?a3_1, ?a3_2, ?a3_3] ?T3 (by decide) rfl) ?_
   refine tri_rowEq rfl (show _ = encs (R7.rcl ns (i + 1)) by rw [R7.rcl_succ, ev, encs_append]; rfl) ?_
   refine tri_perm (A := ?a4_0 :: ?a4_1 :: ?a4_2 :: ?a4_3 :: ?T4) (B := ?a4_1 :: ?a4_2 :: ?a4_3 :: ?a4_0 :: ?T4) (by exact permL [1, 2, 3, 0] [?a4_0, ?a4_1, ?a4_2, ?a4_3] ?T4 (by decide) rfl) ?_
   refine tri_drop (tri_drop (tri_drop ?_))
   refine tri_sub ?_ (hK (i + 1, aa, cc) (by simp only; omega) (by simp only; omega))
   exact ⟨rfl, rfl, rfl, rfl, trivial⟩
 ·have ei : i = k + 1 := by omega
  subst ei
  clear hK
  refine tri_exit ?_
  refine tri_then_exit ?_
  refine tri_then_exit ?_
  refine tri_inBlock_hit rfl ?_
  refine tT (tS (tR (tM rfl rfl (tA rfl rfl (tN (tT (tri_ret ?_)))))))
  refine tri_rowEq (len' := (R7.rcl ns (k + 1)).length) (R7.rcl_len ns (k + 1)).symm rfl ?_
  refine tri_freezeRow rfl fun J hJ hq => ?_
  refine tri_end A Suf.h rfl (.cons (rv_tmp rfl) .nil) ⟨ao, co, rfl, hq, rfl, hJ⟩
set_option maxHeartbeats 1000000 in
set_option maxRecDepth 100000 in
theorem ref07_box {ns : List Node} {a : Option Addr} {cap : Nat} {room n : Int} (hs : StA I a cap ns) (hn : ns.length ≤ 1000000000) (hrg : R6.Rng ns) :
  FnC Try.prog 20 [storeV a ns.length cap room, .int .i64 n].toArray A I (fun v A' I' => v = .tuple [rectV (R7.boxM ns room n).1, .bool (R7.boxM ns room n).2].toArray ∧ A = A' ∧ I ⊆ I') := by
 have hss := hs.sl
 skip
 skip
 refine fn_enter2 Try.func20 rfl Try.ntmps20 rfl fun w0 => ?_
 refine tS (tR ?_)
 refine tri_g (opg_box_agg rfl) rfl ?_
 rintro _ _ _ ⟨b2, rfl, rfl, rfl⟩
 refine tri_g opg_alloc rfl ?_
 rintro _ _ _ ⟨b4, rfl, rfl, rfl⟩
 refine tA rfl rfl (tN (tT (tS (tS (tR ?_)))))
 refine tri_v (opv_loadA rfl rfl rfl) rfl ?_
 refine tM rfl rfl ?_
 refine tri_g (opg_call (xs := [_, _]) rfl (ref07_mayX hs hn hrg)) rfl ?_
 rintro _ _ _ ⟨rfl, rfl, rfl⟩
 refine tri_v (opv_notD rfl) rfl ?_
 refine tM rfl rfl ?_
 refine tri_split rfl rfl (fun g0 => ?_) (fun g0 => ?_)
 ·refine tri_guard_skip rfl rfl rfl rfl (tri_guard_skip rfl rfl rfl rfl (tri_guard_skip rfl rfl rfl rfl (tri_guard_skip rfl rfl rfl rfl (tri_guard_skip rfl rfl rfl rfl (tri_guard_skip rfl rfl rfl rfl (tri_guard_skip rfl rfl rfl rfl ?_))))))
  refine tri_v (opv_pick_t rfl rfl) rfl ?_
  refine tN (tT ?_)
  refine tri_cond_true rfl ?_
  refine tS (tR ?_)
  refine tri_v (opv_buildS rfl rfl) rfl ?_
  refine tri_g (opg_store rfl rfl rfl rfl rfl rfl) rfl ?_
  rintro _ _ _ ⟨rfl, rfl⟩
  refine tA rfl rfl (tN (tT (tri_ret (tri_then_ret ?_))))
  have e : R7.boxM ns room n = (⟨0, 0, 0, 0⟩, false) := if_neg (fun h => g0 h.1)
  refine tri_end A Suf.h rfl (.cons (rv_cellA rfl rfl rfl) (.cons (rv_tmp rfl) .nil)) ⟨by rw [e]; rfl, rfl, fun _ h => h⟩
 ·have h1 : R7.may ns room n := Decidable.not_not.1 g0
  obtain ⟨⟨hn0, hn1⟩, lv, hlv1, hlv2, hlv⟩ := h1.is
  have hr := h1.1
  have hw := (R6.right_iff.1 hr).2
  refine tri_guard_run rfl rfl rfl ?_
  refine tri_v (opv_fieldAddr rfl rfl) rfl ?_
  refine tri_guard_run rfl rfl rfl ?_
  refine tri_v (opv_load1 rfl rfl rfl) rfl ?_
  refine tri_guard_run rfl rfl rfl (tM rfl rfl (tri_guard_run rfl rfl rfl ?_))
  refine tri_v (opv_indexAddrS rfl rfl (by omega) (by omega) (by assumption) rfl) rfl ?_
  refine tri_guard_run rfl rfl rfl ?_
  refine tri_v (opv_fieldAddrE rfl (by assumption) (by omega) rfl) rfl ?_
  refine tri_guard_run rfl rfl rfl ?_
  refine tri_v (opv_loadE1 rfl (by assumption) rfl (by omega) rfl rfl) rfl ?_
  refine tri_guard_run rfl rfl rfl ?_
  refine tri_v (opv_eql rfl rfl) rfl ?_
  refine tri_v (opv_pick_f rfl rfl) rfl ?_
  refine tN (tT ?_)
  refine tri_cond rfl (fun h2 => ?_) (fun h2 => ?_)
  ·have h2 : (R6.nd ns n).pop = 0 := of_decide_eq_true h2
   have e : R7.boxM ns room n = (⟨0, 0, 0, 0⟩, false) := if_neg (fun h => h.2 h2)
   refine tS (tR ?_)
   refine tri_v (opv_buildS rfl rfl) rfl ?_
   refine tri_g (opg_store rfl rfl rfl rfl rfl rfl) rfl ?_
   rintro _ _ _ ⟨rfl, rfl⟩
   refine tA rfl rfl (tN (tT (tri_ret (tri_then_ret ?_))))
   refine tri_end A Suf.h rfl (.cons (rv_cellA rfl rfl rfl) (.cons (rv_tmp rfl) .nil)) ⟨by rw [e]; rfl, rfl, fun _ h => h⟩
  have h2 : ¬ (R6.nd ns n).pop = 0 := of_decide_eq_false h2
  obtain ⟨k1, k2⟩ := R7.rcx_ok hw lv n ⟨⟨hn0, hn1⟩, hlv⟩
  have hbx : R7.boxM ns room n = (⟨(R7.rcx ns lv n).x - R7.side lv, (R7.rcx ns lv n).y - R7.side lv, (R7.rcx ns lv n).w, (R7.rcx ns lv n).h⟩, true) := by
   rw [k2]
   unfold R7.boxM
   rw [if_pos ⟨h1, h2⟩, hlv, Int.toNat_natCast]
   rfl
  have hsd := R7.side_bd (lv := lv) (by omega)
  have hp2 := R7.side_p2 hlv1
  rw [hbx]
  clear hbx h2 k2
  obtain ⟨k, rfl⟩ : ∃ k : Nat, n = k := ⟨n.toNat, by omega⟩
  have hkn : k < ns.length := by omega
  have hlk : (ns.getD k default).lv = lv := hlv
  have hg : (R7.rcl ns (k + 1)).getD k default = R7.rcx ns lv (k : Nat) := by rw [R7.rcl_at (by omega), hlk, Int.toNat_natCast]
  have hrl := R7.rcl_len ns (k + 1)
  unfold R7.EgR at k1
  skip
  refine tri_skip (tT (tS (tR ?_)))
  refine tri_v (opv_fieldAddr rfl rfl) rfl ?_
  refine tri_v (opv_load1 rfl rfl rfl) rfl ?_
  refine tM rfl rfl ?_
  refine tri_v (opv_indexAddrSN rfl rfl (by omega) (by assumption) rfl) rfl ?_
  refine tri_v (opv_fieldAddrE rfl (by assumption) (by omega) rfl) rfl ?_
  refine tri_v (opv_loadE1 rfl (by assumption) rfl (by omega) rfl rfl) rfl ?_
  refine tri_v (opv_sub rfl rfl (w64 (by omega) (by omega))) rfl ?_
  refine tri_v (opv_shl1 rfl rfl (by omega) (by omega)) rfl ?_
  refine tA rfl rfl (tN (tT (tS (tR ?_))))
  refine tri_v (opv_loadA rfl rfl rfl) rfl ?_
  refine tM rfl rfl ?_
  refine tri_g (opg_call (xs := [_, _]) rfl (ref07_boxes hss hr hkn)) rfl ?_
  rintro _ _ I1 ⟨a1, c1, rfl, hs1, rfl, hI1⟩
  rw [show (2:Int) ^ ((ns.getD k default).lv - 1).toNat = R7.side lv by rw [hlk]; rfl]
  rw [← hg] at k1 ⊢
  refine tM rfl rfl ?_
  refine tri_v (opv_indexAddrSN rfl rfl (by omega) (by assumption) (by omega)) rfl ?_
  refine tri_v (opv_loadEA rfl (by assumption) rfl (by omega) rfl rfl) rfl ?_
  refine tri_g opg_alloc rfl ?_
  rintro _ _ _ ⟨b7, rfl, rfl, rfl⟩
  refine tri_g (opg_store rfl rfl rfl rfl rfl rfl) rfl ?_
  rintro _ _ _ ⟨rfl, rfl⟩
  refine tN (tT (tS (tR ?_)))
  refine tri_v (opv_fieldAddr rfl rfl) rfl ?_
  refine tri_v (opv_load1 rfl rfl rfl) rfl ?_
  refine tM rfl rfl ?_
  refine tri_v (opv_sub rfl rfl (w64 (by omega) (by omega))) rfl ?_
  refine tri_v (opv_fieldAddr rfl rfl) rfl ?_
  refine tri_v (opv_load1 rfl rfl rfl) rfl ?_
  refine tM rfl rfl ?_
  refine tri_v (opv_sub rfl rfl (w64 (by omega) (by omega))) rfl ?_
  refine tri_v (opv_fieldAddr rfl rfl) rfl ?_
  refine tri_v (opv_load1 rfl rfl rfl) rfl ?_
  refine tri_v (opv_fieldAddr rfl rfl) rfl ?_
  refine tri_v (opv_load1 rfl rfl rfl) rfl ?_
  refine tri_v (opv_buildS rfl rfl) rfl ?_
  refine tri_g (opg_store rfl rfl rfl rfl rfl rfl) rfl ?_
  rintro _ _ _ ⟨rfl, rfl⟩
  refine tA rfl rfl (tN (tT (tri_ret ?_)))
  refine tri_end A Suf.h rfl (.cons (rv_cellA rfl rfl rfl) (.cons (rv_tmp rfl) .nil)) ⟨rfl, rfl, hI1⟩
end Go.GL


set_option linter.unusedVariables false
namespace Go.GL
open Go.Proofs
attribute [local irreducible] wpList Code.wp Exit.then Exit.inBlock Ends Tri TriH OpV OpG FnC epf wpAnyH
variable {A : List Asrt} {I : List Chunk}
namespace R7
theorem make_len (ns : List Node) (room : Int) (l : List Cell) (lv : Int) (hn : ns.length ≤ 1000000000) : (make ns room l lv).1.length ≤ 1000000000 := by
 unfold make
 split
 ·rename_i h
  have hg := (right_good7 h.1).1
  split
  ·dsimp only
   split
   ·exact hn
   ·exact (build_good room _ _ _ hg).len
  ·exact hn
 ·exact hn
theorem setM_len (ns : List Node) (room n : Int) (c : Cell) (v : Bool) (hn : ns.length ≤ 1000000000) : (setM ns room n c v).1.length ≤ 1000000000 := by
 unfold setM
 generalize (if v = true then (1:Int) else 0) = to
 split
 ·rename_i h
  have hg := (right_good7 h.1).1
  split
  ·dsimp only
   split
   ·exact hn
   ·exact (setL_good room _ _ _ _ _ hg).len
  ·exact hn
 ·exact hn
theorem growM_len (ns : List Node) (room n : Int) (hn : ns.length ≤ 1000000000) : (growM ns room n).1.length ≤ 1000000000 := by
 unfold growM
 split
 ·rename_i h
  have hg := (right_good7 h.1.1).1
  unfold larger empty
  dsimp only
  have hd := emptyF_good room ((R6.nd ns n).lv - 1).toNat ns 0 hg
  repeat' split
  all_goals first | exact hn | exact (((((hd.put _ _ _ _).put _ _ _ _).put _ _ _ _).put _ _ _ _).put _ _ _ _).len
 ·exact hn
theorem cells_len (ns : List Node) (room n : Int) : (cells ns room n).1.length ≤ 1000000000 := by
 unfold cells
 split
 ·split
  ·simp
  ·unfold R1.of
   repeat' split
   all_goals (simp only [List.length_nil] <;> omega)
 ·simp
end R7
set_option maxHeartbeats 8000000 in
set_option maxRecDepth 100000 in
theorem law07_tells {nodes : List Five} {raw set : List Cell} {os : List Node} {a a2 a3 a7 : Option Addr} {cap cap2 cap3 cap7 : Nat} {c level rm n : Int} {d : Cell} (h0 : I64 c) (hs : SlAt I a nodes) (hf : RL.Fs nodes) (hs2 : SlAt I a2 raw) (hc : RL.Cs raw) (hl : I64 level)
  (hs3 : StA I a3 cap3 os) (hr3 : R6.Rng os) (hdx : I64 d.x) (hdy : I64 d.y) (hni : I64 n) (hs7 : StA I a7 cap7 set) :
  FnC Try.prog 3 [.int .i64 c, .slice a nodes.length cap, .slice a2 raw.length cap2, .int .i64 level, storeV a3 os.length cap3 rm, cellV d, .int .i64 n, .slice a7 set.length cap7].toArray A I (fun v A' I' => v = .bool true ∧ A = A' ∧ I ⊆ I') := by
 obtain ⟨lv, ms, m, sq⟩ := RL.square_ok c nodes raw level
 have hrm := RL.room_bd c
 have hml : ms.length ≤ 1000000000 := by have := sq.len; omega
 have hmr : R6.Rng ms := sq.wf.mod.rng
 have hsl := RL.set_len7 raw
 skip
 skip
 refine fn_enter8 Try.func3 rfl Try.ntmps3 rfl fun w0 => ?_
 refine tS (tR ?_)
 refine tri_g (opg_box_agg rfl) rfl ?_
 rintro _ _ _ ⟨b12, rfl, rfl, rfl⟩
 refine tri_g (opg_box_agg rfl) rfl ?_
 rintro _ _ _ ⟨b13, rfl, rfl, rfl⟩
 refine tA rfl rfl (tN (tT (tS (tR ?_))))
 refine tri_g (opg_call (xs := []) rfl (law07_awake)) rfl ?_
 rintro _ _ I0 ⟨rfl, rfl, hI0⟩
 refine tA rfl rfl (tN (tT (tS (tR (tM rfl rfl (tM rfl rfl (tM rfl rfl ?_)))))))
 refine tM rfl rfl ?_
 refine tri_g (opg_call (xs := [_, _, _, _]) rfl (law07_square h0 (hs.mono hI0) hf (hs2.mono hI0) hc hl)) rfl ?_
 rintro _ _ I1 ⟨x1, y1, rfl, hs4, rfl, hI1⟩
 rw [show (RL.square c nodes raw level).1 = ms by rw [sq.eq]] at hs4 ⊢
 rw [show (RL.square c nodes raw level).2.1 = m by rw [sq.eq]]
 refine tM rfl rfl ?_
 refine tri_v (opv_extract rfl rfl) rfl ?_
 refine tri_v (opv_extract rfl rfl) rfl ?_
 refine tri_g opg_alloc rfl ?_
 rintro _ _ _ ⟨b18, rfl, rfl, rfl⟩
 refine tri_g (opg_store rfl rfl rfl rfl rfl rfl) rfl ?_
 rintro _ _ _ ⟨rfl, rfl⟩
 refine tA rfl rfl (tN (tT (tS (tS (tR ?_)))))
 refine tri_v (opv_loadA rfl rfl rfl) rfl ?_
 refine tri_v (opv_loadA rfl rfl rfl) rfl ?_
 refine tri_g (opg_buildSlice rfl rfl rfl rfl) rfl ?_
 rintro _ _ _ ⟨b65, rfl, rfl, rfl⟩
 refine tri_v (opv_len rfl) rfl ?_
 refine tM rfl rfl (tN (tT (tri_block ?_)))
 obtain ⟨R, hR⟩ : ∃ R, RL.room c + 500 = R := ⟨_, rfl⟩
 rw [hR]
 refine tri_freezeBoxS [(⟨x1, ms.length, y1, R⟩ : Sto), ⟨a3, os.length, cap3, rm⟩] rfl fun I4 hI4 hs5 => ?_
 have hI34 : I ⊆ I4 := fun _ h => hI4 (hI1 (hI0 h))
 have hstt : ∀ i, i < 2 → ∃ ns : List Node, StA I4 (([(⟨x1, ms.length, y1, R⟩ : Sto), ⟨a3, os.length, cap3, rm⟩] : List Sto).getD i default).a (([(⟨x1, ms.length, y1, R⟩ : Sto), ⟨a3, os.length, cap3, rm⟩] : List Sto).getD i default).cap ns ∧ (([(⟨x1, ms.length, y1, R⟩ : Sto), ⟨a3, os.length, cap3, rm⟩] : List Sto).getD i default).len = ns.length ∧ R6.Rng ns := by
  intro i hi
  rcases (by omega : i = 0 ∨ i = 1) with rfl | rfl
  ·exact ⟨ms, hs4.mono hI4, rfl, hmr⟩
  ·exact ⟨os, hs3.mono hI34, rfl, hr3⟩
 generalize hls : ([(⟨x1, ms.length, y1, R⟩ : Sto), ⟨a3, os.length, cap3, rm⟩] : List Sto) = ss at *
 have hls2 : ss.length = 2 := by rw [← hls]; rfl
 have hs2 := hs2.mono hI34
 have hs7 := hs7.mono hI34
 skip
 refine tri_sub (F' := [(2, .slice a2 raw.length cap2), (3, .int .i64 level), (6, .int .i64 n), (7, .slice a7 set.length cap7), (13, pt b13 0), (17, .bool true), (19, .int .i64 m), (65, .slice (some ⟨b65, 0, none⟩) ss.length 2), (66, .int .i64 (2 : Nat)), (67, .int .i64 (0 : Nat))]) ⟨rfl, rfl, rfl, rfl, rfl, rfl, rfl, by rw [hls2]; rfl, rfl, rfl, trivial⟩ ?_
 refine loop_ind (G := Nat × List Chunk) (fun g => 2 - g.1) (fun g => g.1 ≤ 2 ∧ I4 ⊆ g.2) (fun g => [(2, .slice a2 raw.length cap2), (3, .int .i64 level), (6, .int .i64 n), (7, .slice a7 set.length cap7), (13, pt b13 0), (17, .bool true), (19, .int .i64 m), (65, .slice (some ⟨b65, 0, none⟩) ss.length 2), (66, .int .i64 (2 : Nat)), (67, .int .i64 (g.1 : Nat))]) (fun _ => Box b18 [.slice x1 ms.length y1, .int .i64 R] 26 :: Box b13 [.int .i64 d.x, .int .i64 d.y] 28 :: Box b12 [.slice a3 os.length cap3, .int .i64 rm] 26 :: A) (fun g => g.2) ?_ (0, I4) ⟨by omega, fun _ h => h⟩
 rintro ⟨i, J0⟩ ⟨hi, hJ0⟩ K hK
 simp only at hi hJ0 hK ⊢
 skip
 refine tS (tR ?_)
 refine tri_v (opv_lss rfl rfl) rfl ?_
 refine tN (tT (tS ?_))
 refine tri_cond_dec rfl (fun h => ?_) (fun h => ?_)
 ·have hi2 : i < 2 := by omega
  obtain ⟨ns, hns, hlen, hrr⟩ := hstt i hi2
  have hs5' := hs5.mono hJ0
  have hns' := hns.mono hJ0
  refine tri_skip (tT (tS (tri_block (tS (tR ?_)))))
  refine tri_v (opv_indexAddrSN rfl rfl (by omega) (by assumption) rfl) rfl ?_
  refine tri_v (opv_loadEA rfl (by assumption) rfl (by omega) rfl rfl) rfl ?_
  refine tri_g opg_alloc rfl ?_
  rintro _ _ _ ⟨b21, rfl, rfl, rfl⟩
  refine tri_g (opg_store rfl rfl rfl rfl rfl rfl) rfl ?_
  rintro _ _ _ ⟨rfl, rfl⟩
  refine tN (tT (tS (tS ?_)))
  rw [hlen] at *
  refine tR ?_
  refine tri_v (opv_fieldAddr rfl rfl) rfl ?_
  refine tri_v (opv_load1 rfl rfl rfl) rfl ?_
  refine tri_v (opv_len rfl) rfl ?_
  refine tri_v (opv_gtr rfl rfl) rfl ?_
  refine tN (tT ?_)
  refine tri_cond_dec rfl (fun hbig => ?_) (fun hbig => ?_)
  ·refine tri_exit ?_
   refine tri_then_exit ?_
   refine tri_inBlock_hit rfl ?_
   refine tT (tR ?_)
   refine tU rfl rfl (by omega) (by omega) rfl ?_
   refine tM rfl rfl (tN (tT ?_))
   refine tri_drop ?_
   refine tri_sub ?_ (hK (i + 1, J0) ⟨by simp only; omega, hJ0⟩ (by simp only; omega))
   exact ⟨rfl, rfl, rfl, rfl, rfl, rfl, rfl, rfl, rfl, rfl, trivial⟩
  ·have hle : ns.length ≤ 250 := by omega
   have hnl : ns.length ≤ 1000000000 := by omega
   refine tri_skip (tT (tS (tS (tR (tM rfl rfl (tM rfl rfl ?_))))))
   refine tri_g (opg_call (xs := [_, _]) rfl (law07_pick hl.1 hl.2 (by decide))) rfl ?_
   rintro _ _ _ ⟨rfl, rfl, rfl⟩
   refine tri_g (opg_buildSlice rfl rfl rfl rfl) rfl ?_
   rintro _ _ _ ⟨b78, rfl, rfl, rfl⟩
   refine tri_v (opv_len rfl) rfl ?_
   refine tM rfl rfl (tN (tT (tri_block ?_)))
   refine tri_freezeBoxS [level, pk level 9] rfl fun I5 hI5 hs6 => ?_
   generalize hvs : ([level, pk level 9] : List Int) = vs at *
   have hvs2 : vs.length = 2 := by rw [← hvs]; rfl
   skip
   refine tri_sub (F' := [(2, .slice a2 raw.length cap2), (3, .int .i64 level), (6, .int .i64 n), (7, .slice a7 set.length cap7), (13, pt b13 0), (17, .bool true), (19, .int .i64 m), (65, .slice (some ⟨b65, 0, none⟩) ss.length 2), (66, .int .i64 (2 : Nat)), (67, .int .i64 (i : Nat)), (21, pt b21 0), (78, .slice (some ⟨b78, 0, none⟩) vs.length 2), (79, .int .i64 (2 : Nat)), (80, .int .i64 (0 : Nat))]) ⟨rfl, rfl, rfl, rfl, rfl, rfl, rfl, rfl, rfl, rfl, rfl, by rw [hvs2]; rfl, rfl, rfl, trivial⟩ ?_
   refine loop_ind (G := Nat × List Chunk) (fun g => 2 - g.1) (fun g => g.1 ≤ 2 ∧ I5 ⊆ g.2) (fun g => [(2, .slice a2 raw.length cap2), (3, .int .i64 level), (6, .int .i64 n), (7, .slice a7 set.length cap7), (13, pt b13 0), (17, .bool true), (19, .int .i64 m), (65, .slice (some ⟨b65, 0, none⟩) ss.length 2), (66, .int .i64 (2 : Nat)), (67, .int .i64 (i : Nat)), (21, pt b21 0), (78, .slice (some ⟨b78, 0, none⟩) vs.length 2), (79, .int .i64 (2 : Nat)), (80, .int .i64 (g.1 : Nat))]) (fun _ => Box b21 [.slice (ss.getD i default).a ns.length (ss.getD i default).cap, .int .i64 (ss.getD i default).room] 26 :: Box b18 [.slice x1 ms.length y1, .int .i64 R] 26 :: Box b13 [.int .i64 d.x, .int .i64 d.y] 28 :: Box b12 [.slice a3 os.length cap3, .int .i64 rm] 26 :: A) (fun g => g.2) ?_ (0, I5) ⟨by omega, fun _ h => h⟩
   rintro ⟨q, J1⟩ ⟨hq, hJ1⟩ K2 hK2
   simp only at hq hJ1 hK2 ⊢
   have hns1 := (hns'.mono hI5).mono hJ1
   have hs6' := hs6.mono hJ1
   have hs2' := ((hs2.mono hJ0).mono hI5).mono hJ1
   have hs7' := ((hs7.mono hJ0).mono hI5).mono hJ1
   skip
   refine tS (tR ?_)
   refine tri_v (opv_lss rfl rfl) rfl ?_
   refine tN (tT (tS ?_))
   refine tri_cond_dec rfl (fun h3 => ?_) (fun h3 => ?_)
   ·refine tri_skip (tT (tS (tri_block (tS (tR ?_)))))
    refine tri_v (opv_indexAddrSN rfl rfl (by omega) (by assumption) rfl) rfl ?_
    refine tri_v (opv_loadE1 rfl (by assumption) rfl (by omega) rfl rfl) rfl ?_
    refine tA rfl rfl (tN (tT (tS ?_)))
    generalize vs.getD q default = z at *
    have hmk1 : 0 ≤ (if (20 : Int) < (set.length : Int) then (20 : Int) else (set.length : Int)) ∧ (if (20 : Int) < (set.length : Int) then (20 : Int) else (set.length : Int)) ≤ set.length := by split <;> omega
    have hmk2 : (if (20 : Int) < (set.length : Int) then (20 : Int) else (set.length : Int)) ≤ 20 := by split <;> omega
    skip
    refine tri_cut (fun F' A' J => ∃ (b91 : Nat) (aS : Option Addr) (cS : Nat), F' = [(2, .slice a2 raw.length cap2), (3, .int .i64 level), (6, .int .i64 n), (7, .slice a7 set.length cap7), (13, pt b13 0), (17, .bool true), (19, .int .i64 m), (65, .slice (some ⟨b65, 0, none⟩) ss.length 2), (66, .int .i64 (2 : Nat)), (67, .int .i64 (i : Nat)), (21, pt b21 0), (78, .slice (some ⟨b78, 0, none⟩) vs.length 2), (79, .int .i64 (2 : Nat)), (80, .int .i64 (q : Nat)), (23, .int .i64 z), (91, .slice (some ⟨b91, 0, none⟩) 2 2), (92, .int .i64 (2 : Nat)), (93, .int .i64 (0 : Nat))] ∧ A' = Box b21 [.slice (ss.getD i default).a ns.length (ss.getD i default).cap, .int .i64 (ss.getD i default).room] 26 :: Box b18 [.slice x1 ms.length y1, .int .i64 R] 26 :: Box b13 [.int .i64 d.x, .int .i64 d.y] 28 :: Box b12 [.slice a3 os.length cap3, .int .i64 rm] 26 :: A ∧ SlAt J (some ⟨b91, 0, none⟩) [(⟨aS, (RL.set raw).length, cS⟩ : Sl), ⟨a7, (set.take (if (20 : Int) < (set.length : Int) then (20 : Int) else (set.length : Int)).toNat).length, cap7⟩] ∧ SlAt J aS (RL.set raw) ∧ J1 ⊆ J) ?_ ?_
    ·refine tri_draw [0, 2, 3, 4, 5, 6, 9, 1, 7, 8] rfl [] rfl mixed ?_
     refine th_take rfl rfl (by kernel_rfl)  (opv_move rfl) ?_
     refine th_take rfl rfl (by kernel_rfl)  (opv_move rfl) ?_
     refine th_take rfl rfl (by kernel_rfl)  (opv_move rfl) ?_
     refine th_take rfl rfl (by kernel_rfl)  (opv_len rfl) ?_
     refine th_take rfl rfl (by kernel_rfl)  (opv_min2 rfl rfl) ?_
     refine th_take rfl rfl (by kernel_rfl)  (opv_sliceHi rfl rfl hmk1.1 hmk1.2 (hs7') rfl) ?_
     refine th_take rfl rfl (by kernel_rfl)  (opv_move rfl) ?_
     refine th_one (by kernel_rfl) (step_m rfl rfl (opg_call (xs := [_]) rfl (law01_set hs2' hc)) ?_)
     rintro _ _ I6 ⟨aS, cS, rfl, hS, rfl, hI6⟩
     refine ⟨Suf.h, hI6, ?_⟩
     refine th_one (by kernel_rfl) (step_m rfl rfl (opg_buildSlice rfl rfl rfl rfl) ?_)
     rintro _ _ _ ⟨b91, rfl, rfl, rfl⟩
     refine ⟨Suf.h, (by assumption), ?_⟩
     refine th_take rfl rfl (by kernel_rfl)  (opv_len rfl) ?_
     refine th_done (by kernel_rfl) ?_
     refine tri_freezeBoxS [(⟨aS, (RL.set raw).length, cS⟩ : Sl), ⟨a7, (set.take (if (20 : Int) < (set.length : Int) then (20 : Int) else (set.length : Int)).toNat).length, cap7⟩] rfl fun I7 hI7 hs8 => ?_
     exact tri_cutEnd _ ⟨b91, aS, cS, rfl, rfl, hs8, hS.mono hI7, fun _ h => hI7 (hI6 h)⟩ ⟨rfl, rfl, rfl, rfl, rfl, rfl, rfl, rfl, rfl, rfl, rfl, rfl, rfl, rfl, rfl, rfl, rfl, rfl, trivial⟩
    rintro _ _ I7 ⟨b91, aS, cS, rfl, rfl, hs8, hS, hI7⟩
    have htl : (set.take (if (20 : Int) < (set.length : Int) then (20 : Int) else (set.length : Int)).toNat).length ≤ 20 := by rw [List.length_take]; omega
    have hs7' := hs7'.mono hI7
    have hll : ∀ p, p < 2 → ∃ l : List Cell, SlAt I7 (([(⟨aS, (RL.set raw).length, cS⟩ : Sl), ⟨a7, (set.take (if (20 : Int) < (set.length : Int) then (20 : Int) else (set.length : Int)).toNat).length, cap7⟩] : List Sl).getD p default).a l ∧ (([(⟨aS, (RL.set raw).length, cS⟩ : Sl), ⟨a7, (set.take (if (20 : Int) < (set.length : Int) then (20 : Int) else (set.length : Int)).toNat).length, cap7⟩] : List Sl).getD p default).len = l.length ∧ l.length ≤ 100 := by
     intro p hp
     rcases (by omega : p = 0 ∨ p = 1) with rfl | rfl
     ·exact ⟨RL.set raw, hS, rfl, by omega⟩
     ·exact ⟨set.take (if (20 : Int) < (set.length : Int) then (20 : Int) else (set.length : Int)).toNat, hs7'.sl.take _, rfl, by omega⟩
    generalize hsq : ([(⟨aS, (RL.set raw).length, cS⟩ : Sl), ⟨a7, (set.take (if (20 : Int) < (set.length : Int) then (20 : Int) else (set.length : Int)).toNat).length, cap7⟩] : List Sl) = sl at *
    have hsl2 : sl.length = 2 := by rw [← hsq]; rfl
    refine tT (tri_block ?_)
    refine tri_sub (F' := [(2, .slice a2 raw.length cap2), (3, .int .i64 level), (6, .int .i64 n), (7, .slice a7 set.length cap7), (13, pt b13 0), (17, .bool true), (19, .int .i64 m), (65, .slice (some ⟨b65, 0, none⟩) ss.length 2), (66, .int .i64 (2 : Nat)), (67, .int .i64 (i : Nat)), (21, pt b21 0), (78, .slice (some ⟨b78, 0, none⟩) vs.length 2), (79, .int .i64 (2 : Nat)), (80, .int .i64 (q : Nat)), (23, .int .i64 z), (91, .slice (some ⟨b91, 0, none⟩) sl.length 2), (92, .int .i64 (2 : Nat)), (93, .int .i64 (0 : Nat))]) ⟨rfl, rfl, rfl, rfl, rfl, rfl, rfl, rfl, rfl, rfl, rfl, rfl, rfl, rfl, rfl, by rw [hsl2]; rfl, rfl, rfl, trivial⟩ ?_
    refine loop_ind (G := Nat × List Chunk) (fun g => 2 - g.1) (fun g => g.1 ≤ 2 ∧ I7 ⊆ g.2) (fun g => [(2, .slice a2 raw.length cap2), (3, .int .i64 level), (6, .int .i64 n), (7, .slice a7 set.length cap7), (13, pt b13 0), (17, .bool true), (19, .int .i64 m), (65, .slice (some ⟨b65, 0, none⟩) ss.length 2), (66, .int .i64 (2 : Nat)), (67, .int .i64 (i : Nat)), (21, pt b21 0), (78, .slice (some ⟨b78, 0, none⟩) vs.length 2), (79, .int .i64 (2 : Nat)), (80, .int .i64 (q : Nat)), (23, .int .i64 z), (91, .slice (some ⟨b91, 0, none⟩) sl.length 2), (92, .int .i64 (2 : Nat)), (93, .int .i64 (g.1 : Nat))]) (fun _ => Box b21 [.slice (ss.getD i default).a ns.length (ss.getD i default).cap, .int .i64 (ss.getD i default).room] 26 :: Box b18 [.slice x1 ms.length y1, .int .i64 R] 26 :: Box b13 [.int .i64 d.x, .int .i64 d.y] 28 :: Box b12 [.slice a3 os.length cap3, .int .i64 rm] 26 :: A) (fun g => g.2) ?_ (0, I7) ⟨by omega, fun _ h => h⟩
    rintro ⟨p, J2⟩ ⟨hp, hJ2⟩ K3 hK3
    simp only at hp hJ2 hK3 ⊢
    have hns2 := (hns1.mono hI7).mono hJ2
    have hs8' := hs8.mono hJ2
    skip
    refine tS (tR ?_)
    refine tri_v (opv_lss rfl rfl) rfl ?_
    refine tN (tT (tS ?_))
    refine tri_cond_dec rfl (fun h4 => ?_) (fun h4 => ?_)
    ·obtain ⟨l, hl1, hl2, hl3⟩ := hll p (by omega)
     have hl1 := hl1.mono hJ2
     refine tri_skip (tT (tS (tri_block (tS (tR ?_)))))
     refine tri_v (opv_indexAddrSN rfl rfl (by omega) (by assumption) rfl) rfl ?_
     refine tri_v (opv_loadE1 rfl (by assumption) rfl (by omega) rfl rfl) rfl ?_
     refine tA rfl rfl (tN (tT (tS ?_)))
     rw [hl2]
     refine tR ?_
     refine tri_v (opv_loadA rfl rfl rfl) rfl ?_
     refine tM rfl rfl (tM rfl rfl ?_)
     refine tri_g (opg_call (xs := [_, _, _]) rfl (square_make hns2 hnl hl1 (by omega))) rfl ?_
     rintro _ _ J3 ⟨u0, v0, rfl, g0, rfl, hJ3⟩
     refine tM rfl rfl ?_
     refine tri_v (opv_extract rfl rfl) rfl ?_
     refine tri_v (opv_extract rfl rfl) rfl ?_
     refine tri_v (opv_extract rfl rfl) rfl ?_
     refine tri_g opg_alloc rfl ?_
     rintro _ _ _ ⟨b26, rfl, rfl, rfl⟩
     refine tri_g (opg_store rfl rfl rfl rfl rfl rfl) rfl ?_
     rintro _ _ _ ⟨rfl, rfl⟩
     refine tA rfl rfl (tA rfl rfl (tN (tT (tS (tR ?_)))))
     refine tri_v (opv_loadA rfl rfl rfl) rfl ?_
     refine tM rfl rfl (tM rfl rfl ?_)
     refine tri_g (opg_call (xs := [_, _, _]) rfl (ref07_make (hns2.mono hJ3) hnl hrr (hl1.mono hJ3) (by omega))) rfl ?_
     rintro _ _ J4 ⟨u1, v1, rfl, g1, rfl, hJ4⟩
     refine tM rfl rfl ?_
     refine tri_v (opv_extract rfl rfl) rfl ?_
     refine tri_v (opv_extract rfl rfl) rfl ?_
     refine tri_v (opv_extract rfl rfl) rfl ?_
     refine tri_g opg_alloc rfl ?_
     rintro _ _ _ ⟨b29, rfl, rfl, rfl⟩
     refine tri_g (opg_store rfl rfl rfl rfl rfl rfl) rfl ?_
     rintro _ _ _ ⟨rfl, rfl⟩
     refine tA rfl rfl (tA rfl rfl (tN (tT (tS (tR ?_)))))
     refine tri_v (opv_loadA rfl rfl rfl) rfl ?_
     refine tri_v (opv_loadA rfl rfl rfl) rfl ?_
     refine tri_g (opg_call (xs := [_, _]) rfl (ref06_same (g0.mono hJ4).sl g1.sl (R7.make_len _ _ _ _ hnl))) rfl ?_
     rintro _ _ _ ⟨rfl, rfl, rfl⟩
     refine tri_v (opv_notD rfl) rfl ?_
     refine tM rfl rfl ?_
     refine tri_false rfl rfl (fun h => h ⟨rfl, rfl⟩) ?_
     refine tri_guard_run rfl rfl rfl (tM rfl rfl (tri_guard_run rfl rfl rfl (tM rfl rfl (tri_guard_run rfl rfl rfl ?_))))
     refine tri_v (opv_neq rfl rfl) rfl ?_
     refine tri_v (opv_pick_f rfl rfl) rfl ?_
     refine tM rfl rfl ?_
     refine tri_false rfl rfl (fun h => h rfl) ?_
     refine tri_guard_run rfl rfl rfl (tM rfl rfl (tri_guard_run rfl rfl rfl (tM rfl rfl (tri_guard_run rfl rfl rfl ?_))))
     refine tri_v (opv_neq rfl rfl) rfl ?_
     refine tri_v (opv_pick_f rfl rfl) rfl ?_
     refine tN (tT ?_)
     refine tri_cond_not rfl (fun h => h rfl) ?_
     refine tri_skip ?_
     refine tri_inBlock ?_
     refine tT (tR ?_)
     refine tU rfl rfl (by omega) (by omega) rfl ?_
     refine tM rfl rfl (tN (tT ?_))
     refine tri_drop (tri_drop ?_)
     refine tri_sub ?_ (hK3 (p + 1, J4) ⟨by simp only; omega, fun _ h => hJ4 (hJ3 (hJ2 h))⟩ (by simp only; omega))
     exact ⟨rfl, rfl, rfl, rfl, rfl, rfl, rfl, rfl, rfl, rfl, rfl, rfl, rfl, rfl, rfl, rfl, rfl, rfl, trivial⟩
    ·refine tri_exit ?_
     refine tri_then_exit ?_
     refine tri_then_exit ?_
     refine tri_inBlock_hit rfl ?_
     refine tri_inBlock ?_
     refine tT (tR ?_)
     refine tU rfl rfl (by omega) (by omega) rfl ?_
     refine tM rfl rfl (tN (tT ?_))
     refine tri_sub ?_ (hK2 (q + 1, J2) ⟨by simp only; omega, fun _ h => hJ2 (hI7 (hJ1 h))⟩ (by simp only; omega))
     exact ⟨rfl, rfl, rfl, rfl, rfl, rfl, rfl, rfl, rfl, rfl, rfl, rfl, rfl, rfl, trivial⟩
   ·refine tri_exit ?_
    refine tri_then_exit ?_
    refine tri_then_exit ?_
    refine tri_inBlock_hit rfl ?_
    refine tT (tS (tR (tM rfl rfl (tM rfl rfl ?_))))
    refine tri_v (opv_fieldAddr rfl rfl) rfl ?_
    refine tri_v (opv_load1 rfl rfl rfl) rfl ?_
    refine tri_v (opv_len rfl) rfl ?_
    refine tU rfl rfl (by omega) (by omega) rfl ?_
    refine tri_g (opg_call (xs := [_, _]) rfl (law07_pick hni.1 hni.2 (by omega))) rfl ?_
    rintro _ _ _ ⟨rfl, rfl, rfl⟩
    refine tM rfl rfl ?_
    refine tri_g (opg_buildSlice rfl rfl rfl rfl) rfl ?_
    rintro _ _ _ ⟨b137, rfl, rfl, rfl⟩
    refine tri_v (opv_len rfl) rfl ?_
    refine tM rfl rfl (tN (tT (tri_block ?_)))
    refine tri_freezeBoxS [n, pk n ((ns.length : Int) + 1), m] rfl fun I6 hI6 hs9 => ?_
    generalize hes : ([n, pk n ((ns.length : Int) + 1), m] : List Int) = es at *
    have hes2 : es.length = 3 := by rw [← hes]; rfl
    skip
    refine tri_sub (F' := [(2, .slice a2 raw.length cap2), (3, .int .i64 level), (6, .int .i64 n), (7, .slice a7 set.length cap7), (13, pt b13 0), (17, .bool true), (19, .int .i64 m), (65, .slice (some ⟨b65, 0, none⟩) ss.length 2), (66, .int .i64 (2 : Nat)), (67, .int .i64 (i : Nat)), (21, pt b21 0), (137, .slice (some ⟨b137, 0, none⟩) es.length 3), (138, .int .i64 (3 : Nat)), (139, .int .i64 (0 : Nat))]) ⟨rfl, rfl, rfl, rfl, rfl, rfl, rfl, rfl, rfl, rfl, rfl, by rw [hes2]; rfl, rfl, rfl, trivial⟩ ?_
    refine loop_ind (G := Nat × List Chunk) (fun g => 3 - g.1) (fun g => g.1 ≤ 3 ∧ I6 ⊆ g.2) (fun g => [(2, .slice a2 raw.length cap2), (3, .int .i64 level), (6, .int .i64 n), (7, .slice a7 set.length cap7), (13, pt b13 0), (17, .bool true), (19, .int .i64 m), (65, .slice (some ⟨b65, 0, none⟩) ss.length 2), (66, .int .i64 (2 : Nat)), (67, .int .i64 (i : Nat)), (21, pt b21 0), (137, .slice (some ⟨b137, 0, none⟩) es.length 3), (138, .int .i64 (3 : Nat)), (139, .int .i64 (g.1 : Nat))]) (fun _ => Box b21 [.slice (ss.getD i default).a ns.length (ss.getD i default).cap, .int .i64 (ss.getD i default).room] 26 :: Box b18 [.slice x1 ms.length y1, .int .i64 R] 26 :: Box b13 [.int .i64 d.x, .int .i64 d.y] 28 :: Box b12 [.slice a3 os.length cap3, .int .i64 rm] 26 :: A) (fun g => g.2) ?_ (0, I6) ⟨by omega, fun _ h => h⟩
    clear hK2 K2
    rintro ⟨q, J2⟩ ⟨hq, hJ2⟩ K3 hK3
    simp only at hq hJ2 hK3 ⊢
    have hns2 := (hns1.mono hI6).mono hJ2
    have hs9' := hs9.mono hJ2
    skip
    refine tS (tR ?_)
    refine tri_v (opv_lss rfl rfl) rfl ?_
    refine tN (tT (tS ?_))
    refine tri_cond_dec rfl (fun h4 => ?_) (fun h4 => ?_)
    ·refine tri_skip (tT (tS (tri_block (tS (tR ?_)))))
     refine tri_v (opv_indexAddrSN rfl rfl (by omega) (by assumption) rfl) rfl ?_
     refine tri_v (opv_loadE1 rfl (by assumption) rfl (by omega) rfl rfl) rfl ?_
     refine tA rfl rfl (tN (tT (tS ?_)))
     generalize es.getD q default = e at *
     refine tR ?_
     refine tri_v (opv_loadA rfl rfl rfl) rfl ?_
     refine tM rfl rfl ?_
     refine tri_g (opg_call (xs := [_, _]) rfl (square_cells hns2 hnl)) rfl ?_
     rintro _ _ J3 ⟨u0, v0, rfl, g0, rfl, hJ3⟩
     have hns3 := hns2.mono hJ3
     refine tM rfl rfl ?_
     refine tri_v (opv_extract rfl rfl) rfl ?_
     refine tri_v (opv_extract rfl rfl) rfl ?_
     refine tA rfl rfl (tA rfl rfl (tN (tT (tS (tR ?_)))))
     refine tri_v (opv_loadA rfl rfl rfl) rfl ?_
     refine tM rfl rfl ?_
     refine tri_g (opg_call (xs := [_, _]) rfl (ref07_cells hns3 hnl hrr)) rfl ?_
     rintro _ _ J4 ⟨u1, v1, rfl, g1, rfl, hJ4⟩
     have hns3 := hns3.mono hJ4
     have g0 := g0.mono hJ4
     refine tM rfl rfl ?_
     refine tri_v (opv_extract rfl rfl) rfl ?_
     refine tri_v (opv_extract rfl rfl) rfl ?_
     refine tA rfl rfl (tA rfl rfl (tN (tT (tS (tR ?_)))))
     refine tri_v (opv_loadA rfl rfl rfl) rfl ?_
     refine tM rfl rfl ?_
     refine tri_g (opg_call (xs := [_, _]) rfl (square_box hns3 hnl)) rfl ?_
     rintro _ _ _ ⟨rfl, rfl, rfl⟩
     refine tM rfl rfl ?_
     refine tri_v (opv_extract rfl rfl) rfl ?_
     refine tri_v (opv_extract rfl rfl) rfl ?_
     refine tri_g opg_alloc rfl ?_
     rintro _ _ _ ⟨b38, rfl, rfl, rfl⟩
     refine tri_g (opg_store rfl rfl rfl rfl rfl rfl) rfl ?_
     rintro _ _ _ ⟨rfl, rfl⟩
     refine tA rfl rfl (tN (tT (tS (tR ?_))))
     refine tri_v (opv_loadA rfl rfl rfl) rfl ?_
     refine tM rfl rfl ?_
     refine tri_g (opg_call (xs := [_, _]) rfl (ref07_box hns3 hnl hrr)) rfl ?_
     rintro _ _ J5 ⟨rfl, rfl, hJ5⟩
     have hns3 := hns3.mono hJ5
     have g0 := g0.mono hJ5
     have g1 := g1.mono hJ5
     refine tM rfl rfl ?_
     refine tri_v (opv_extract rfl rfl) rfl ?_
     refine tri_v (opv_extract rfl rfl) rfl ?_
     refine tri_g opg_alloc rfl ?_
     rintro _ _ _ ⟨b40, rfl, rfl, rfl⟩
     refine tri_g (opg_store rfl rfl rfl rfl rfl rfl) rfl ?_
     rintro _ _ _ ⟨rfl, rfl⟩
     refine tA rfl rfl (tN (tT (tS (tR ?_))))
     refine tri_v (opv_loadA rfl rfl rfl) rfl ?_
     refine tM rfl rfl ?_
     refine tri_g (opg_call (xs := [_, _]) rfl (square_grow hns3 hnl)) rfl ?_
     rintro _ _ J6 ⟨u2, v2, rfl, g2, rfl, hJ6⟩
     have hns3 := hns3.mono hJ6
     have g0 := g0.mono hJ6
     have g1 := g1.mono hJ6
     refine tM rfl rfl ?_
     refine tri_v (opv_extract rfl rfl) rfl ?_
     refine tri_v (opv_extract rfl rfl) rfl ?_
     refine tri_v (opv_extract rfl rfl) rfl ?_
     refine tri_g opg_alloc rfl ?_
     rintro _ _ _ ⟨b42, rfl, rfl, rfl⟩
     refine tri_g (opg_store rfl rfl rfl rfl rfl rfl) rfl ?_
     rintro _ _ _ ⟨rfl, rfl⟩
     refine tA rfl rfl (tA rfl rfl (tN (tT (tS (tR ?_)))))
     refine tri_v (opv_loadA rfl rfl rfl) rfl ?_
     refine tM rfl rfl ?_
     refine tri_g (opg_call (xs := [_, _]) rfl (ref07_growX hns3 hnl hrr)) rfl ?_
     rintro _ _ J7 ⟨u3, v3, rfl, g3, rfl, hJ7⟩
     have hns3 := hns3.mono hJ7
     have g0 := g0.mono hJ7
     have g1 := g1.mono hJ7
     have g2 := g2.mono hJ7
     refine tM rfl rfl ?_
     refine tri_v (opv_extract rfl rfl) rfl ?_
     refine tri_v (opv_extract rfl rfl) rfl ?_
     refine tri_v (opv_extract rfl rfl) rfl ?_
     refine tri_g opg_alloc rfl ?_
     rintro _ _ _ ⟨b45, rfl, rfl, rfl⟩
     refine tri_g (opg_store rfl rfl rfl rfl rfl rfl) rfl ?_
     rintro _ _ _ ⟨rfl, rfl⟩
     refine tA rfl rfl (tA rfl rfl (tN (tT (tS (tS (tR (tM rfl rfl ?_)))))))
     refine tM rfl rfl ?_
     refine tri_g (opg_call (xs := [_, _]) rfl (ref01_same g0 g1 (R7.cells_len _ _ _))) rfl ?_
     rintro _ _ _ ⟨rfl, rfl, rfl⟩
     refine tri_v (opv_notD rfl) rfl ?_
     refine tM rfl rfl ?_
     refine tri_false rfl rfl (fun h => h rfl) ?_
     refine tri_guard_run rfl rfl rfl (tM rfl rfl (tri_guard_run rfl rfl rfl (tM rfl rfl (tri_guard_run rfl rfl rfl ?_))))
     refine tri_v (opv_neq rfl rfl) rfl ?_
     refine tri_v (opv_pick_f rfl rfl) rfl ?_
     refine tM rfl rfl ?_
     refine tri_false rfl rfl (fun h => h rfl) ?_
     refine tri_guard_run rfl rfl rfl ?_
     refine tri_v (opv_loadA rfl rfl rfl) rfl ?_
     refine tri_guard_run rfl rfl rfl ?_
     refine tri_v (opv_loadA rfl rfl rfl) rfl ?_
     refine tri_guard_run rfl rfl rfl ?_
     refine tri_v (opv_neqI rfl rfl rfl rfl rfl rfl) rfl ?_
     refine tri_v (opv_pick_f rfl rfl) rfl ?_
     refine tM rfl rfl ?_
     refine tri_false rfl rfl (fun h => h rfl) ?_
     refine tri_guard_run rfl rfl rfl (tM rfl rfl (tri_guard_run rfl rfl rfl (tM rfl rfl (tri_guard_run rfl rfl rfl ?_))))
     refine tri_v (opv_neqB rfl rfl) rfl ?_
     refine tri_v (opv_pick_f rfl rfl) rfl ?_
     refine tM rfl rfl ?_
     refine tri_false rfl rfl (fun h => h rfl) ?_
     refine tri_guard_run rfl rfl rfl ?_
     refine tri_v (opv_loadA rfl rfl rfl) rfl ?_
     refine tri_guard_run rfl rfl rfl ?_
     refine tri_v (opv_loadA rfl rfl rfl) rfl ?_
     refine tri_guard_run rfl rfl rfl ?_
     refine tri_g (opg_call (xs := [_, _]) rfl (ref06_same g2.sl g3.sl (R7.growM_len _ _ _ hnl))) rfl ?_
     rintro _ _ _ ⟨rfl, rfl, rfl⟩
     refine tri_guard_run rfl rfl rfl ?_
     refine tri_v (opv_notD rfl) rfl ?_
     refine tri_v (opv_pick_f rfl rfl) rfl ?_
     refine tM rfl rfl ?_
     refine tri_false rfl rfl (fun h => h ⟨rfl, rfl⟩) ?_
     refine tri_guard_run rfl rfl rfl (tM rfl rfl (tri_guard_run rfl rfl rfl (tM rfl rfl (tri_guard_run rfl rfl rfl ?_))))
     refine tri_v (opv_neq rfl rfl) rfl ?_
     refine tri_v (opv_pick_f rfl rfl) rfl ?_
     refine tM rfl rfl ?_
     refine tri_false rfl rfl (fun h => h rfl) ?_
     refine tri_guard_run rfl rfl rfl (tM rfl rfl (tri_guard_run rfl rfl rfl (tM rfl rfl (tri_guard_run rfl rfl rfl ?_))))
     refine tri_v (opv_neq rfl rfl) rfl ?_
     refine tri_v (opv_pick_f rfl rfl) rfl ?_
     refine tN (tT ?_)
     have hpx := pk_bd (c := d.x) (n := 18) (by decide)
     have hpy := pk_bd (c := d.y) (n := 18) (by decide)
     refine tri_cond_not rfl (fun h => h rfl) ?_
     refine tri_skip (tT (tS ?_))
     refine tri_cut (fun F' A' J => ∃ b226 : Nat, F' = [(2, .slice a2 raw.length cap2), (3, .int .i64 level), (6, .int .i64 n), (7, .slice a7 set.length cap7), (13, pt b13 0), (17, .bool true), (19, .int .i64 m), (65, .slice (some ⟨b65, 0, none⟩) ss.length 2), (66, .int .i64 (2 : Nat)), (67, .int .i64 (i : Nat)), (21, pt b21 0), (137, .slice (some ⟨b137, 0, none⟩) es.length 3), (138, .int .i64 (3 : Nat)), (139, .int .i64 (q : Nat)), (33, .int .i64 e), (42, pt b42 0), (45, pt b45 0), (226, .slice (some ⟨b226, 0, none⟩) 2 2), (227, .int .i64 (2 : Nat)), (228, .int .i64 (0 : Nat))] ∧ A' = Box b45 [.slice u3 (R7.growM ns (ss.getD i default).room e).1.length v3, .int .i64 (ss.getD i default).room] 26 :: Box b42 [.slice u2 (R7.growM ns (ss.getD i default).room e).1.length v2, .int .i64 (ss.getD i default).room] 26 :: Box b40 [.int .i64 (R7.boxM ns (ss.getD i default).room e).1.x, .int .i64 (R7.boxM ns (ss.getD i default).room e).1.y, .int .i64 (R7.boxM ns (ss.getD i default).room e).1.w, .int .i64 (R7.boxM ns (ss.getD i default).room e).1.h] 45 :: Box b38 [.int .i64 (R7.boxM ns (ss.getD i default).room e).1.x, .int .i64 (R7.boxM ns (ss.getD i default).room e).1.y, .int .i64 (R7.boxM ns (ss.getD i default).room e).1.w, .int .i64 (R7.boxM ns (ss.getD i default).room e).1.h] 45 :: Box b21 [.slice (ss.getD i default).a ns.length (ss.getD i default).cap, .int .i64 (ss.getD i default).room] 26 :: Box b18 [.slice x1 ms.length y1, .int .i64 R] 26 :: Box b13 [.int .i64 d.x, .int .i64 d.y] 28 :: Box b12 [.slice a3 os.length cap3, .int .i64 rm] 26 :: A ∧ SlAt J (some ⟨b226, 0, none⟩) [(⟨d.x, d.y⟩ : Cell), ⟨pk d.x 18 - 9, pk d.y 18 - 9⟩] ∧ J7 ⊆ J) ?_ ?_
     ·refine tri_draw [0, 1, 2, 5, 6, 12, 3, 4, 7, 8, 9, 10, 11] rfl [] rfl mixed ?_
      refine th_take rfl rfl (by kernel_rfl)  (opv_loadA rfl rfl rfl) ?_
      refine th_take rfl rfl (by kernel_rfl)  (opv_fieldAddr rfl rfl) ?_
      refine th_take rfl rfl (by kernel_rfl)  (opv_load1 rfl rfl rfl) ?_
      refine th_take rfl rfl (by kernel_rfl)  (opv_fieldAddr rfl rfl) ?_
      refine th_take rfl rfl (by kernel_rfl)  (opv_load1 rfl rfl rfl) ?_
      refine th_take rfl rfl (by kernel_rfl)  (opv_move rfl) ?_
      refine th_one (by kernel_rfl) (step_m rfl rfl (opg_call (xs := [_, _]) rfl (law07_pick hdx.1 hdx.2 (by decide))) ?_)
      rintro _ _ _ ⟨rfl, rfl, rfl⟩
      refine ⟨Suf.h, (fun _ h => h), ?_⟩
      refine th_take rfl rfl (by kernel_rfl)  (opv_sub rfl rfl (w64 (by omega) (by omega))) ?_
      refine th_one (by kernel_rfl) (step_m rfl rfl (opg_call (xs := [_, _]) rfl (law07_pick hdy.1 hdy.2 (by decide))) ?_)
      rintro _ _ _ ⟨rfl, rfl, rfl⟩
      refine ⟨Suf.h, (fun _ h => h), ?_⟩
      refine th_take rfl rfl (by kernel_rfl)  (opv_sub rfl rfl (w64 (by omega) (by omega))) ?_
      refine th_take rfl rfl (by kernel_rfl)  (opv_buildS rfl rfl) ?_
      refine th_one (by kernel_rfl) (step_m rfl rfl (opg_buildSlice rfl rfl rfl rfl) ?_)
      rintro _ _ _ ⟨b226, rfl, rfl, rfl⟩
      refine ⟨Suf.h, (fun _ h => h), ?_⟩
      refine th_take rfl rfl (by kernel_rfl)  (opv_len rfl) ?_
      refine th_done (by kernel_rfl) ?_
      refine tri_freezeBoxS [(⟨d.x, d.y⟩ : Cell), ⟨pk d.x 18 - 9, pk d.y 18 - 9⟩] rfl fun J8 hJ8 hs10 => ?_
      exact tri_cutEnd _ ⟨b226, rfl, rfl, hs10, hJ8⟩ ⟨rfl, rfl, rfl, rfl, rfl, rfl, rfl, rfl, rfl, rfl, rfl, rfl, rfl, rfl, rfl, rfl, rfl, rfl, rfl, rfl, trivial⟩
     rintro _ _ J8 ⟨b226, rfl, rfl, hs10, hJ8⟩
     have hns4 := hns3.mono hJ8
     generalize hcl : ([(⟨d.x, d.y⟩ : Cell), ⟨pk d.x 18 - 9, pk d.y 18 - 9⟩] : List Cell) = cl at *
     have hcl2 : cl.length = 2 := by rw [← hcl]; rfl
     refine tT (tri_block ?_)
     refine tri_sub (F' := [(2, .slice a2 raw.length cap2), (3, .int .i64 level), (6, .int .i64 n), (7, .slice a7 set.length cap7), (13, pt b13 0), (17, .bool true), (19, .int .i64 m), (65, .slice (some ⟨b65, 0, none⟩) ss.length 2), (66, .int .i64 (2 : Nat)), (67, .int .i64 (i : Nat)), (21, pt b21 0), (137, .slice (some ⟨b137, 0, none⟩) es.length 3), (138, .int .i64 (3 : Nat)), (139, .int .i64 (q : Nat)), (33, .int .i64 e), (42, pt b42 0), (45, pt b45 0), (226, .slice (some ⟨b226, 0, none⟩) cl.length 2), (227, .int .i64 (2 : Nat)), (228, .int .i64 (0 : Nat))]) ⟨rfl, rfl, rfl, rfl, rfl, rfl, rfl, rfl, rfl, rfl, rfl, rfl, rfl, rfl, rfl, rfl, rfl, by rw [hcl2]; rfl, rfl, rfl, trivial⟩ ?_
     refine loop_ind (G := Nat × (Option Addr × Nat × Nat) × (Option Addr × Nat × Nat) × List Chunk) (fun g => 2 - g.1) (fun g => g.1 ≤ 2 ∧ J8 ⊆ g.2.2.2) (fun g => [(2, .slice a2 raw.length cap2), (3, .int .i64 level), (6, .int .i64 n), (7, .slice a7 set.length cap7), (13, pt b13 0), (17, .bool true), (19, .int .i64 m), (65, .slice (some ⟨b65, 0, none⟩) ss.length 2), (66, .int .i64 (2 : Nat)), (67, .int .i64 (i : Nat)), (21, pt b21 0), (137, .slice (some ⟨b137, 0, none⟩) es.length 3), (138, .int .i64 (3 : Nat)), (139, .int .i64 (q : Nat)), (33, .int .i64 e), (42, pt b42 0), (45, pt b45 0), (226, .slice (some ⟨b226, 0, none⟩) cl.length 2), (227, .int .i64 (2 : Nat)), (228, .int .i64 (g.1 : Nat))]) (fun g => Box b45 [.slice g.2.1.1 g.2.1.2.1 g.2.1.2.2, .int .i64 (ss.getD i default).room] 26 :: Box b42 [.slice g.2.2.1.1 g.2.2.1.2.1 g.2.2.1.2.2, .int .i64 (ss.getD i default).room] 26 :: Box b40 [.int .i64 (R7.boxM ns (ss.getD i default).room e).1.x, .int .i64 (R7.boxM ns (ss.getD i default).room e).1.y, .int .i64 (R7.boxM ns (ss.getD i default).room e).1.w, .int .i64 (R7.boxM ns (ss.getD i default).room e).1.h] 45 :: Box b38 [.int .i64 (R7.boxM ns (ss.getD i default).room e).1.x, .int .i64 (R7.boxM ns (ss.getD i default).room e).1.y, .int .i64 (R7.boxM ns (ss.getD i default).room e).1.w, .int .i64 (R7.boxM ns (ss.getD i default).room e).1.h] 45 :: Box b21 [.slice (ss.getD i default).a ns.length (ss.getD i default).cap, .int .i64 (ss.getD i default).room] 26 :: Box b18 [.slice x1 ms.length y1, .int .i64 R] 26 :: Box b13 [.int .i64 d.x, .int .i64 d.y] 28 :: Box b12 [.slice a3 os.length cap3, .int .i64 rm] 26 :: A) (fun g => g.2.2.2) ?_ (0, (u3, (R7.growM ns (ss.getD i default).room e).1.length, v3), (u2, (R7.growM ns (ss.getD i default).room e).1.length, v2), J8) ⟨by simp only; omega, fun _ h => h⟩
     rintro ⟨p, ⟨w1, w2, w3⟩, ⟨w4, w5, w6⟩, J9⟩ ⟨hp, hJ9⟩ K4 hK4
     simp only at hp hJ9 hK4 ⊢
     have hns5 := hns4.mono hJ9
     have hs10' := hs10.mono hJ9
     skip
     refine tS (tR ?_)
     refine tri_v (opv_lss rfl rfl) rfl ?_
     refine tN (tT (tS ?_))
     refine tri_cond_dec rfl (fun h5 => ?_) (fun h5 => ?_)
     ·refine tri_skip (tT (tS (tri_block (tS (tR ?_)))))
      refine tri_v (opv_indexAddrSN rfl rfl (by omega) (by assumption) rfl) rfl ?_
      refine tri_v (opv_loadEA rfl (by assumption) rfl (by omega) rfl rfl) rfl ?_
      refine tri_g opg_alloc rfl ?_
      rintro _ _ _ ⟨b49, rfl, rfl, rfl⟩
      refine tri_g (opg_store rfl rfl rfl rfl rfl rfl) rfl ?_
      rintro _ _ _ ⟨rfl, rfl⟩
      refine tN (tT (tS ?_))
      generalize cl.getD p default = y at *
      refine tR ?_
      refine tri_v (opv_loadA rfl rfl rfl) rfl ?_
      refine tM rfl rfl ?_
      refine tri_v (opv_loadA rfl rfl rfl) rfl ?_
      refine tri_g (opg_call (xs := [_, _, _]) rfl (square_get (c := y) hns5 hnl)) rfl ?_
      rintro _ _ _ ⟨rfl, rfl, rfl⟩
      refine tM rfl rfl ?_
      refine tri_v (opv_extract rfl rfl) rfl ?_
      refine tri_v (opv_extract rfl rfl) rfl ?_
      refine tA rfl rfl (tA rfl rfl (tN (tT (tS (tR ?_)))))
      refine tri_v (opv_loadA rfl rfl rfl) rfl ?_
      refine tM rfl rfl ?_
      refine tri_v (opv_loadA rfl rfl rfl) rfl ?_
      refine tri_g (opg_call (xs := [_, _, _]) rfl (ref07_getM (c := y) hns5 hnl hrr)) rfl ?_
      rintro _ _ _ ⟨rfl, rfl, rfl⟩
      refine tM rfl rfl ?_
      refine tri_v (opv_extract rfl rfl) rfl ?_
      refine tri_v (opv_extract rfl rfl) rfl ?_
      refine tA rfl rfl (tA rfl rfl (tN (tT (tS (tR ?_)))))
      refine tri_v (opv_loadA rfl rfl rfl) rfl ?_
      refine tM rfl rfl ?_
      refine tri_v (opv_loadA rfl rfl rfl) rfl ?_
      refine tM rfl rfl ?_
      refine tri_v (opv_rem rfl rfl (by omega) rfl) rfl ?_
      refine tri_v (opv_eql rfl rfl) rfl ?_
      refine tri_g (opg_call (xs := [_, _, _, _]) rfl (square_setT (c := y) hns5 hnl)) rfl ?_
      rintro _ _ J10 ⟨u4, v4, rfl, g4, rfl, hJ10⟩
      refine tM rfl rfl ?_
      refine tri_v (opv_extract rfl rfl) rfl ?_
      refine tri_v (opv_extract rfl rfl) rfl ?_
      refine tri_v (opv_extract rfl rfl) rfl ?_
      refine tri_g (opg_store rfl rfl rfl rfl rfl rfl) rfl ?_
      rintro _ _ _ ⟨rfl, rfl⟩
      refine tA rfl rfl (tA rfl rfl (tN (tT (tS (tR ?_)))))
      refine tri_v (opv_loadA rfl rfl rfl) rfl ?_
      refine tM rfl rfl ?_
      refine tri_v (opv_loadA rfl rfl rfl) rfl ?_
      refine tM rfl rfl ?_
      refine tri_v (opv_rem rfl rfl (by omega) rfl) rfl ?_
      refine tri_v (opv_eql rfl rfl) rfl ?_
      refine tri_g (opg_call (xs := [_, _, _, _]) rfl (ref07_setM (c := y) (hns5.mono hJ10) hnl hrr)) rfl ?_
      rintro _ _ J11 ⟨u5, v5, rfl, g5, rfl, hJ11⟩
      have g4 := g4.mono hJ11
      refine tM rfl rfl ?_
      refine tri_v (opv_extract rfl rfl) rfl ?_
      refine tri_v (opv_extract rfl rfl) rfl ?_
      refine tri_v (opv_extract rfl rfl) rfl ?_
      refine tri_g (opg_store rfl rfl rfl rfl rfl rfl) rfl ?_
      rintro _ _ _ ⟨rfl, rfl⟩
      refine tA rfl rfl (tA rfl rfl (tN (tT (tS (tR (tM rfl rfl (tM rfl rfl ?_)))))))
      refine tri_v (opv_neqB rfl rfl) rfl ?_
      refine tM rfl rfl ?_
      refine tri_false rfl rfl (fun h => h rfl) ?_
      refine tri_guard_run rfl rfl rfl (tM rfl rfl (tri_guard_run rfl rfl rfl (tM rfl rfl (tri_guard_run rfl rfl rfl ?_))))
      refine tri_v (opv_neq rfl rfl) rfl ?_
      refine tri_v (opv_pick_f rfl rfl) rfl ?_
      refine tM rfl rfl ?_
      refine tri_false rfl rfl (fun h => h rfl) ?_
      refine tri_guard_run rfl rfl rfl ?_
      refine tri_v (opv_loadA rfl rfl rfl) rfl ?_
      refine tri_guard_run rfl rfl rfl ?_
      refine tri_v (opv_loadA rfl rfl rfl) rfl ?_
      refine tri_guard_run rfl rfl rfl ?_
      refine tri_g (opg_call (xs := [_, _]) rfl (ref06_same g4.sl g5.sl (R7.setM_len _ _ _ _ _ hnl))) rfl ?_
      rintro _ _ _ ⟨rfl, rfl, rfl⟩
      refine tri_guard_run rfl rfl rfl ?_
      refine tri_v (opv_notD rfl) rfl ?_
      refine tri_v (opv_pick_f rfl rfl) rfl ?_
      refine tM rfl rfl ?_
      refine tri_false rfl rfl (fun h => h ⟨rfl, rfl⟩) ?_
      refine tri_guard_run rfl rfl rfl (tM rfl rfl (tri_guard_run rfl rfl rfl (tM rfl rfl (tri_guard_run rfl rfl rfl ?_))))
      refine tri_v (opv_neq rfl rfl) rfl ?_
      refine tri_v (opv_pick_f rfl rfl) rfl ?_
      refine tM rfl rfl ?_
      refine tri_false rfl rfl (fun h => h rfl) ?_
      refine tri_guard_run rfl rfl rfl (tM rfl rfl (tri_guard_run rfl rfl rfl (tM rfl rfl (tri_guard_run rfl rfl rfl ?_))))
      refine tri_v (opv_neq rfl rfl) rfl ?_
      refine tri_v (opv_pick_f rfl rfl) rfl ?_
      refine tN (tT ?_)
      refine tri_cond_not rfl (fun h => h rfl) ?_
      refine tri_skip ?_
      refine tri_inBlock ?_
      refine tT (tR ?_)
      refine tU rfl rfl (by omega) (by omega) rfl ?_
      refine tM rfl rfl (tN (tT ?_))
      refine tri_drop ?_
      refine tri_sub ?_ (hK4 (p + 1, (u5, _, v5), (u4, _, v4), J11) ⟨by simp only; omega, fun _ h => hJ11 (hJ10 (hJ9 h))⟩ (by simp only; omega))
      exact ⟨rfl, rfl, rfl, rfl, rfl, rfl, rfl, rfl, rfl, rfl, rfl, rfl, rfl, rfl, rfl, rfl, rfl, rfl, rfl, rfl, trivial⟩
     ·refine tri_exit ?_
      refine tri_then_exit ?_
      refine tri_then_exit ?_
      refine tri_inBlock_hit rfl ?_
      refine tri_inBlock ?_
      refine tT (tR ?_)
      refine tU rfl rfl (by omega) (by omega) rfl ?_
      refine tM rfl rfl (tN (tT ?_))
      refine tri_drop (tri_drop (tri_drop (tri_drop ?_)))
      refine tri_sub ?_ (hK3 (q + 1, J9) ⟨by simp only; omega, fun _ h => hJ9 (hJ8 (hJ7 (hJ6 (hJ5 (hJ4 (hJ3 (hJ2 h)))))))⟩ (by simp only; omega))
      exact ⟨rfl, rfl, rfl, rfl, rfl, rfl, rfl, rfl, rfl, rfl, rfl, rfl, rfl, rfl, trivial⟩
    ·refine tri_exit ?_
     refine tri_then_exit ?_
     refine tri_then_exit ?_
     refine tri_inBlock_hit rfl ?_
     refine tri_inBlock ?_
     refine tT (tR ?_)
     refine tU rfl rfl (by omega) (by omega) rfl ?_
     refine tM rfl rfl (tN (tT ?_))
     refine tri_drop ?_
     refine tri_sub ?_ (hK (i + 1, J2) ⟨by simp only; omega, fun _ h => hJ2 (hI6 (hJ1 (hI5 (hJ0 h))))⟩ (by simp only; omega))
     exact ⟨rfl, rfl, rfl, rfl, rfl, rfl, rfl, rfl, rfl, rfl, trivial⟩
 ·refine tri_exit ?_
  refine tri_then_exit ?_
  refine tri_then_exit ?_
  refine tri_inBlock_hit rfl ?_
  refine tT (tS (tR (tM rfl rfl (tA rfl rfl (tN (tT (tri_ret ?_)))))))
  refine tri_end A Suf.h rfl (.cons (rv_tmp rfl) .nil) ⟨rfl, rfl, fun _ h => hJ0 (hI34 h)⟩
end Go.GL

