/- Part 5: contracts of the functions that the law reaches: each answers as its model does. No condition beyond those that each theorem states. -/
import Derived.Test.YtfcijboaamelfaaPart4
set_option linter.unusedVariables false
namespace Go.GL
open Go.Proofs
attribute [local irreducible] wpList Code.wp Exit.then Exit.inBlock Ends Tri TriH OpV OpG FnC epf wpAnyH
variable {A : List Asrt} {I : List Chunk}
set_option maxHeartbeats 2000000 in
set_option maxRecDepth 100000 in
theorem leaper_power {k : Nat} {s : R9.LS} {a : Option Addr} {cap bl bx mb db : Nat} {room n j : Int} {es ds : KVs} {r : R9.L9} (h : R9.Lk room s) (hn : R7.IsN s.ns (k + 2) n) (hix : Idx s.ns es) (hmx : MemIx s.mm ds) (hj : 0 ≤ j ∧ j ≤ 1000) (hr : R9.power room s n j = r) :
  FnC Try.prog 77 [pt bl 0, .int .i64 n, .int .i64 j].toArray (LxA bl bx mb db a cap s.ns room es ds A) I (LxR bl bx mb db r room A I) := by
 obtain ⟨r1, hr1⟩ : ∃ r1, R9.trimS room s n = r1 := ⟨_, rfl⟩
 obtain ⟨r0, hr0⟩ : ∃ r0, R9.bindS r1 (R9.more room j 0) = r0 := ⟨_, rfl⟩
 rw [R9.power_eq, hr1, hr0] at hr
 have hge := fun e : r1.2.2 = 0 => R9.trimS_ge h hn (by rw [hr1]; exact e)
 rw [hr1] at hge
 unfold R9.trimS at hr1
 rw [R9.lvS_is hn] at hr1
 skip
 refine fn_enter3 Try.func77 rfl Try.ntmps77 rfl fun w0 => ?_
 refine tS (tR (tA rfl rfl (tA rfl rfl (tN (tT (tS (tR ?_)))))))
 refine tM rfl rfl (tM rfl rfl ?_)
 refine tri_g (opg_call (xs := [_, _]) rfl (leaper_trim h hn hix hmx hr1)) rfl ?_
 rintro _ _ _ ⟨a1, c1, es1, ds1, ns1, m1, rfl, rfl, h1, rfl⟩
 refine tM rfl rfl ?_
 refine tri_v (opv_extract rfl rfl) rfl ?_
 refine tri_v (opv_extract rfl rfl) rfl ?_
 refine tA rfl rfl (tA rfl rfl (tN (tT (tS (tS (tR (tA rfl rfl ?_)))))))
 refine tN (tT (tri_block ?_))
 refine tri_sub (F' := [(0, pt bl 0), (1, .int .i64 m1), (2, .int .i64 j), (8, .int .i64 r1.2.2), (9, .int .i64 (0 : Nat))]) ⟨rfl, rfl, rfl, rfl, rfl, trivial⟩ ?_
 refine loop_ind (G := Nat × R9.LS × Int × Option Addr × Nat × KVs × KVs × List Node × Int) (fun g => 100 - g.1) (fun g => (g.2.2.2.2.2.2.2.2 = 0 → g.2.2.2.2.2.2.2.1 = g.2.1.ns ∧ R9.Lk room g.2.1 ∧ (∃ k : Nat, g.1 ≤ k ∧ k ≤ 40 ∧ R7.IsN g.2.1.ns (k + 2) g.2.2.1) ∧ Idx g.2.1.ns g.2.2.2.2.2.1 ∧ MemIx g.2.1.mm g.2.2.2.2.2.2.1 ∧ r0 = R9.more room j g.1 g.2.1 g.2.2.1) ∧ (g.2.2.2.2.2.2.2.2 ≠ 0 → r0.2.2 = g.2.2.2.2.2.2.2.2) ∧ g.1 ≤ 41) (fun g => [(0, pt bl 0), (1, .int .i64 g.2.2.1), (2, .int .i64 j), (8, .int .i64 g.2.2.2.2.2.2.2.2), (9, .int .i64 (g.1 : Nat))]) (fun g => LxA bl bx mb db g.2.2.2.1 g.2.2.2.2.1 g.2.2.2.2.2.2.2.1 room g.2.2.2.2.2.1 g.2.2.2.2.2.2.1 A) (fun _ => I) ?_ (0, r1.1, m1, a1, c1, es1, ds1, ns1, r1.2.2) ⟨fun e => ?_, fun e => ?_, by simp only; omega⟩
 ·rintro ⟨i, s1, n1, a1, c1, es1, ds1, ns1, er⟩ ⟨ho, hne, hi41⟩ K hK
  simp only at ho hne hK hi41 ⊢
  skip
  refine tS (tS (tR (tM rfl rfl ?_)))
  refine tri_v (opv_eql rfl rfl) rfl ?_
  refine tM rfl rfl ?_
  refine tri_split rfl rfl (fun h1 => ?_) (fun h1 => ?_)
  ·obtain ⟨rfl, hlk, ⟨k1, hik, hk40, hn1⟩, hx1, hm1, hr1⟩ := ho h1
   have hlv : (R6.nd s1.ns n1).lv = k1 + 2 := by rw [hn1.2]; omega
   have go : ∀ R : R9.L9, R9.grow room s1 n1 = R → (i < 2 ∨ (R6.nd s1.ns n1).lv < j + 3) → (R.2.2 = 0 → R9.Lk room R.1 ∧ (∃ k : Nat, i + 1 ≤ k ∧ k ≤ 40 ∧ R7.IsN R.1.ns (k + 2) R.2.1) ∧ r0 = R9.more room j (i + 1) R.1 R.2.1) ∧ (R.2.2 ≠ 0 → r0.2.2 = R.2.2) := by
    intro R hR hc
    have e := hr1
    rw [R9.more_step (by omega) hc, hR] at e
    refine ⟨fun e2 => ?_, fun e2 => by rw [e, R9.bindS_err e2]⟩
    have g := R9.grow_gd hlk hn1 (by rw [hR]; exact e2)
    rw [hR] at g
    have hb := (g.lk.wf.lvb g.is.1).2
    rw [g.is.2] at hb
    exact ⟨g.lk, ⟨k1 + 1, by omega, by omega, g.is⟩, by rw [e, R9.bindS_ok e2]⟩
   refine tri_guard_run rfl rfl rfl (tM rfl rfl (tri_guard_run rfl rfl rfl ?_))
   refine tri_v (opv_lss rfl rfl) rfl ?_
   refine tri_guard_run rfl rfl rfl (tM rfl rfl ?_)
   refine tri_split rfl rfl (fun h2 => ?_) (fun h2 => ?_)
   ·refine tri_guard_skip rfl rfl rfl rfl (tri_guard_skip rfl rfl rfl rfl (tri_guard_skip rfl rfl rfl rfl (tri_guard_skip rfl rfl rfl rfl (tri_guard_skip rfl rfl rfl rfl (tri_guard_skip rfl rfl rfl rfl (tri_guard_run rfl rfl rfl ?_))))))
    refine tri_v (opv_pick_t rfl rfl) rfl ?_
    refine tri_v (opv_pick_t rfl rfl) rfl ?_
    refine tN (tT ?_)
    refine tri_cond_true rfl ?_
    refine tri_skip (tT (tS (tri_block (tR (tM rfl rfl (tM rfl rfl ?_))))))
    obtain ⟨R, hR⟩ : ∃ R, R9.grow room s1 n1 = R := ⟨_, rfl⟩
    have hg := go R hR (.inl (by omega))
    refine tri_g (opg_call (xs := [_, _]) rfl (leaper_grow hlk hn1 hx1 hm1 hR)) rfl ?_
    rintro _ _ _ ⟨a3, c3, es3, ds3, ns3, m3, rfl, rfl, h3, rfl⟩
    refine tM rfl rfl ?_
    refine tri_v (opv_extract rfl rfl) rfl ?_
    refine tri_v (opv_extract rfl rfl) rfl ?_
    refine tA rfl rfl (tA rfl rfl (tN ?_))
    refine tri_inBlock ?_
    refine tT (tR (tM rfl rfl ?_))
    refine tU rfl rfl (by omega) (by omega) rfl ?_
    refine tA rfl rfl (tN (tT ?_))
    refine tri_sub ?_ (hK (i + 1, R.1, m3, a3, c3, es3, ds3, ns3, R.2.2) ⟨fun e => ?_, fun e => ?_, by simp only; omega⟩ (by simp only; omega))
    ·exact ⟨rfl, rfl, rfl, rfl, rfl, trivial⟩
    ·obtain ⟨b1, b2, b3⟩ := hg.1 e
     obtain ⟨d1, rfl, d3, d4⟩ := h3 e
     exact ⟨d1, b1, b2, d3, d4, b3⟩
    ·exact hg.2 e
   ·refine tri_guard_run rfl rfl rfl (tM rfl rfl (tri_guard_run rfl rfl rfl (tM rfl rfl (tri_guard_run rfl rfl rfl ?_))))
    refine tri_g (opg_call (xs := [_, _]) rfl (leaper_level hn1.1)) rfl ?_
    rintro _ _ _ ⟨rfl, rfl, rfl⟩
    refine tri_guard_run rfl rfl rfl (tM rfl rfl (tri_guard_run rfl rfl rfl ?_))
    refine tU rfl rfl (by omega) (by omega) rfl ?_
    refine tri_guard_run rfl rfl rfl ?_
    refine tri_v (opv_lss rfl rfl) rfl ?_
    refine tri_guard_run rfl rfl rfl ?_
    refine tri_v (opv_pick_f rfl rfl) rfl ?_
    refine tri_v (opv_pick_t rfl rfl) rfl ?_
    refine tN (tT ?_)
    refine tri_cond_dec rfl (fun h4 => ?_) (fun h4 => ?_)
    ·refine tri_skip (tT (tS (tri_block (tR (tM rfl rfl (tM rfl rfl ?_))))))
     obtain ⟨R, hR⟩ : ∃ R, R9.grow room s1 n1 = R := ⟨_, rfl⟩
     have hg := go R hR (.inr (by omega))
     refine tri_g (opg_call (xs := [_, _]) rfl (leaper_grow hlk hn1 hx1 hm1 hR)) rfl ?_
     rintro _ _ _ ⟨a3, c3, es3, ds3, ns3, m3, rfl, rfl, h3, rfl⟩
     refine tM rfl rfl ?_
     refine tri_v (opv_extract rfl rfl) rfl ?_
     refine tri_v (opv_extract rfl rfl) rfl ?_
     refine tA rfl rfl (tA rfl rfl (tN ?_))
     refine tri_inBlock ?_
     refine tT (tR (tM rfl rfl ?_))
     refine tU rfl rfl (by omega) (by omega) rfl ?_
     refine tA rfl rfl (tN (tT ?_))
     refine tri_sub ?_ (hK (i + 1, R.1, m3, a3, c3, es3, ds3, ns3, R.2.2) ⟨fun e => ?_, fun e => ?_, by simp only; omega⟩ (by simp only; omega))
     ·exact ⟨rfl, rfl, rfl, rfl, rfl, trivial⟩
     ·obtain ⟨b1, b2, b3⟩ := hg.1 e
      obtain ⟨d1, rfl, d3, d4⟩ := h3 e
      exact ⟨d1, b1, b2, d3, d4, b3⟩
     ·exact hg.2 e
    ·rw [R9.more_stop (by omega) (by omega)] at hr1
     rw [R9.bindS_ok (by rw [hr1]), hr1] at hr
     simp only at hr
     rw [R9.lvS_is hn1] at hr
     refine tri_exit ?_
     refine tri_then_exit ?_
     refine tri_then_exit ?_
     refine tri_inBlock_hit rfl ?_
     refine tT (tS (tS (tR (tM rfl rfl ?_))))
     refine tri_v (opv_neq rfl rfl) rfl ?_
     refine tN (tT ?_)
     refine tri_cond_not rfl (by omega) ?_
     refine tri_skip (tT (tS (tR (tM rfl rfl (tM rfl rfl (tM rfl rfl ?_))))))
     refine tri_g (opg_call (xs := [_, _, _]) rfl (leaper_leap k1 _ _ s1 _ _ _ _ _ _ _ n1 j _ _ r hlk hn1 hx1 hm1 (by omega) hr)) rfl ?_
     rintro _ _ _ ⟨a4, c4, es4, ds4, ns4, m4, rfl, rfl, h4, rfl⟩
     refine tri_v (opv_extract rfl rfl) rfl ?_
     refine tri_v (opv_extract rfl rfl) rfl ?_
     refine tA rfl rfl (tA rfl rfl (tN (tT (tri_ret ?_))))
     refine tri_end _ (⟨[], rfl⟩) rfl (.cons (rv_tmp rfl) (.cons (rv_tmp rfl) .nil)) ⟨a4, c4, es4, ds4, ns4, m4, rfl, rfl, h4, rfl⟩
  ·have e0 : r0.2.2 ≠ 0 := by rw [hne h1]; exact h1
   rw [R9.bindS_err e0] at hr
   subst hr
   refine tri_guard_skip rfl rfl rfl rfl (tri_guard_skip rfl rfl rfl rfl (tri_guard_skip rfl rfl rfl rfl ?_))
   refine tri_guard_skip_u rfl rfl rfl ?_
   refine tri_guard_skip_u rfl rfl rfl ?_
   refine tri_guard_skip_u rfl rfl rfl ?_
   refine tri_guard_skip_u rfl rfl rfl ?_
   refine tri_guard_skip_u rfl rfl rfl ?_
   refine tri_guard_skip_u rfl rfl rfl ?_
   refine tri_guard_skip rfl rfl rfl rfl ?_
   refine tri_v (opv_pick_f rfl rfl) rfl ?_
   refine tN (tT ?_)
   refine tri_cond_false rfl ?_
   refine tri_exit ?_
   refine tri_then_exit ?_
   refine tri_then_exit ?_
   refine tri_inBlock_hit rfl ?_
   refine tT (tS (tS (tR (tM rfl rfl ?_))))
   refine tri_v (opv_neq rfl rfl) rfl ?_
   refine tN (tT ?_)
   refine tri_cond_is rfl (h1) ?_
   refine tS (tR (tM rfl rfl (tA rfl rfl (tA rfl rfl (tN (tT (tri_ret ?_)))))))
   refine tri_then_ret ?_
   refine tri_end _ (⟨[], rfl⟩) rfl (.cons (rv_tmp rfl) (.cons (rv_tmp rfl) .nil)) ⟨a1, c1, es1, ds1, ns1, 0, by rw [← hne h1]; rfl, rfl, fun e => absurd e e0, rfl⟩
 ·simp only at e ⊢
  obtain ⟨d1, rfl, d3, d4⟩ := h1 e
  have g := hge e
  obtain ⟨k', hk'⟩ := g.is
  have hb := (g.lk.wf.lvb hk'.1).2
  rw [hk'.2] at hb
  rw [R9.bindS_ok e] at hr0
  exact ⟨d1, g.lk, ⟨k', by omega, by omega, hk'⟩, d3, d4, hr0.symm⟩
 ·simp only at e ⊢
  rw [R9.bindS_err e] at hr0
  rw [← hr0]
end Go.GL

set_option linter.unusedVariables false
namespace Go.GL
open Go.Proofs
attribute [local irreducible] wpList Code.wp Exit.then Exit.inBlock Ends Tri TriH OpV OpG FnC epf wpAnyH
variable {A : List Asrt} {I : List Chunk}
namespace R9
def bitsTo (c : Int) (k : Nat) : List Int := ((List.range k).filter fun i => decide (c / 2 ^ i % 2 = 1)).map fun i => ((i : Nat) : Int)
theorem bitsTo_succ (c : Int) (k : Nat) : bitsTo c (k + 1) = if c / 2 ^ k % 2 = 1 then bitsTo c k ++ [(k : Int)] else bitsTo c k := by
 unfold bitsTo
 rw [List.range_succ, List.filter_append, List.map_append]
 by_cases h : c / 2 ^ k % 2 = 1
 ·rw [if_pos h]; simp [h]
 ·rw [if_neg h]; simp [h]
theorem bitsTo_len (c : Int) (k : Nat) : (bitsTo c k).length ≤ k := by
 unfold bitsTo
 rw [List.length_map]
 exact Nat.le_trans (List.length_filter_le _ _) (by rw [List.length_range]; exact Nat.le_refl _)
theorem bits_bd {c j : Int} (h : j ∈ bits c) : 0 ≤ j ∧ j ≤ 61 := by
 unfold bits at h
 obtain ⟨i, hi, rfl⟩ := List.mem_map.1 h
 have := List.mem_range.1 (List.mem_filter.1 hi).1
 omega
end R9
/-- What tells the bits of a count. -/
def BitsR (c : Int) (A : List Asrt) (I : List Chunk) : Value → List Asrt → List Chunk → Prop := fun v A' I' => ∃ a' cap', v = .slice a' (R9.bits c).length cap' ∧ SlAt I' a' (R9.bits c) ∧ A = A' ∧ I ⊆ I'
set_option maxHeartbeats 2000000 in
set_option maxRecDepth 100000 in
theorem count_bits {c : Int} (hc : 0 ≤ c ∧ c ≤ 4611686018427387903) :
  FnC Try.prog 76 [.int .i64 c].toArray A I (BitsR c A I) := by
 skip
 skip
 refine fn_enter1 Try.func76 rfl Try.ntmps76 rfl fun w0 => ?_
 refine tS (tR (tA rfl rfl (tN (tT (tS (tS (tR ?_)))))))
 refine tM rfl rfl ?_
 refine tri_v (opv_lss rfl rfl) rfl ?_
 refine tM rfl rfl ?_
 refine tri_false rfl rfl (by omega) ?_
 refine tri_guard_run rfl rfl rfl (tM rfl rfl (tri_guard_run rfl rfl rfl ?_))
 refine tri_v (opv_gtr rfl rfl) rfl ?_
 refine tri_v (opv_pick_f rfl rfl) rfl ?_
 refine tN (tT ?_)
 refine tri_cond_not rfl (by omega) ?_
 refine tri_skip (tT (tS (tS (tR (tM rfl rfl (tN (tT ?_)))))))
 refine tri_block ?_
 refine tri_nilRow (E := 3) (sz := 1) ?_
 refine tri_sub (F' := [(0, .int .i64 c), (2, .slice none 0 0), (10, .int .i64 (0 : Nat))]) ⟨rfl, rfl, rfl, trivial⟩ ?_
 refine loop_ind (G := Nat × Option Addr × Nat) (fun g => 62 - g.1) (fun g => g.1 ≤ 62) (fun g => [(0, .int .i64 c), (2, .slice g.2.1 (R9.bitsTo c g.1).length g.2.2), (10, .int .i64 (g.1 : Nat))]) (fun g => Row g.2.1 g.2.2 (R9.bitsTo c g.1).length 3 1 (encs (R9.bitsTo c g.1)) :: A) (fun _ => I) ?_ (0, none, 0) (by omega)
 rintro ⟨i, a1, cap1⟩ hi K hK
 simp only at hi hK ⊢
 have hbl := R9.bitsTo_len c i
 skip
 refine tS (tR ?_)
 refine tri_v (opv_lss rfl rfl) rfl ?_
 refine tN (tT (tS ?_))
 refine tri_cond_dec rfl (fun h => ?_) (fun h => ?_)
 ·have hlt : i < 62 := by omega
  have hs := R9.bitsTo_succ c i
  refine tri_skip (tT (tS (tri_block (tS (tR (tM rfl rfl (tA rfl rfl ?_)))))))
  refine tN (tT (tS (tR (tM rfl rfl (tM rfl rfl ?_)))))
  refine tri_v (opv_shl1 rfl rfl (by omega) (by omega)) rfl ?_
  refine tri_v (opv_bit (k := i) rfl rfl hc.1 (by omega) (by rw [Int.toNat_natCast]) (by omega)) rfl ?_
  refine tri_v (opv_neq rfl rfl) rfl ?_
  refine tN (tT ?_)
  refine tri_cond_dec rfl (fun hb => ?_) (fun hb => ?_)
  ·have hb1 : c / 2 ^ i % 2 = 1 := Decidable.byContradiction fun e => hb (if_neg e)
   rw [if_pos hb1] at hs
   refine tR (tM rfl rfl (tM rfl rfl ?_))
   refine tri_g (opg_buildSlice rfl rfl rfl rfl) rfl ?_
   rintro _ _ _ ⟨b20, rfl, rfl, rfl⟩
   refine tri_g (opg_appendB rfl rfl rfl rfl (by omega) rfl) rfl ?_
   rintro _ _ _ ⟨a3, cap3, rfl, rfl, rfl⟩
   refine tA rfl rfl (tN ?_)
   refine tri_inBlock ?_
   refine tT (tR ?_)
   refine tU rfl rfl (by omega) (by omega) rfl ?_
   refine tM rfl rfl (tN (tT ?_))
   refine tri_drop ?_
   refine tri_rowEq (len' := (R9.bitsTo c (i + 1)).length) (cells' := encs (R9.bitsTo c (i + 1))) (by rw [hs, List.length_append]; rfl) (by rw [hs, encs_append]; rfl) ?_
   refine tri_sub ?_ (hK (i + 1, a3, cap3) (by simp only; omega) (by simp only; omega))
   exact ⟨rfl, by rw [hs, List.length_append]; rfl, rfl, trivial⟩
  ·have hb1 : ¬ c / 2 ^ i % 2 = 1 := fun e => hb (by rw [if_pos e]; exact Int.ne_of_gt (Int.pow_pos (by omega)))
   rw [if_neg hb1] at hs
   refine tri_skip ?_
   refine tri_inBlock ?_
   refine tT (tR ?_)
   refine tU rfl rfl (by omega) (by omega) rfl ?_
   refine tM rfl rfl (tN (tT ?_))
   refine tri_rowEq (len' := (R9.bitsTo c (i + 1)).length) (cells' := encs (R9.bitsTo c (i + 1))) (by rw [hs]) (by rw [hs]) ?_
   refine tri_sub ?_ (hK (i + 1, a1, cap1) (by simp only; omega) (by simp only; omega))
   exact ⟨rfl, by rw [hs]; rfl, rfl, trivial⟩
 ·have hi' : i = 62 := by omega
  subst hi'
  refine tri_exit ?_
  refine tri_then_exit ?_
  refine tri_then_exit ?_
  refine tri_inBlock_hit rfl ?_
  refine tT (tS (tR (tM rfl rfl (tA rfl rfl (tN (tT (tri_ret ?_)))))))
  refine tri_freezeRow rfl fun I' hI hs' => ?_
  refine tri_end A Suf.h rfl (.cons (rv_tmp rfl) .nil) ⟨a1, cap1, rfl, hs', rfl, hI⟩
set_option maxHeartbeats 2000000 in
set_option maxRecDepth 100000 in
theorem ref03_bits {c : Int} (hc : 0 ≤ c ∧ c ≤ 4611686018427387903) :
  FnC Try.prog 53 [.int .i64 c].toArray A I (BitsR c A I) := by
 skip
 skip
 refine fn_enter1 Try.func53 rfl Try.ntmps53 rfl fun w0 => ?_
 refine tS (tR (tA rfl rfl (tN (tT (tS (tR (tA rfl rfl ?_)))))))
 refine tN (tT (tS (tS (tR (tA rfl rfl (tN (tT ?_)))))))
 refine tri_block ?_
 refine tri_nilRow (E := 3) (sz := 1) ?_
 refine tri_sub (F' := [(0, .int .i64 c), (3, .slice none 0 0), (4, .int .i64 (0 : Nat))]) ⟨rfl, rfl, rfl, trivial⟩ ?_
 refine loop_ind (G := Nat × Option Addr × Nat) (fun g => 62 - g.1) (fun g => g.1 ≤ 62) (fun g => [(0, .int .i64 c), (3, .slice g.2.1 (R9.bitsTo c g.1).length g.2.2), (4, .int .i64 (g.1 : Nat))]) (fun g => Row g.2.1 g.2.2 (R9.bitsTo c g.1).length 3 1 (encs (R9.bitsTo c g.1)) :: A) (fun _ => I) ?_ (0, none, 0) (by omega)
 rintro ⟨i, a1, cap1⟩ hi K hK
 simp only at hi hK ⊢
 have hbl := R9.bitsTo_len c i
 skip
 refine tS (tS (tR (tM rfl rfl ?_)))
 refine tri_v (opv_lss rfl rfl) rfl ?_
 refine tM rfl rfl ?_
 refine tri_split rfl rfl (fun h => ?_) (fun h => ?_)
 ·have hlt : i < 62 := by omega
  have hs := R9.bitsTo_succ c i
  have hd := div_pow_bd (a := c) (k := i) hc.1
  refine tri_guard_run rfl rfl rfl (tM rfl rfl (tri_guard_run rfl rfl rfl ?_))
  refine tri_v (opv_geq rfl rfl) rfl ?_
  refine tri_v (opv_pick_t rfl rfl) rfl ?_
  refine tM rfl rfl ?_
  refine tri_true rfl rfl (hc.1) ?_
  refine tri_guard_run rfl rfl rfl (tM rfl rfl (tri_guard_run rfl rfl rfl ?_))
  refine tri_v (opv_leq rfl rfl) rfl ?_
  refine tri_v (opv_pick_t rfl rfl) rfl ?_
  refine tN (tT ?_)
  refine tri_cond_is rfl (hc.2) ?_
  refine tri_skip (tT (tS (tri_block (tS (tR (tM rfl rfl (tM rfl rfl ?_)))))))
  refine tri_v (opv_shrN (k := i) rfl rfl hc.1 rfl (by omega)) rfl ?_
  generalize hdd : c / 2 ^ i = d at hd
  refine tri_v (opv_remE rfl rfl (by omega) (by omega)) rfl ?_
  refine tri_v (opv_eql rfl rfl) rfl ?_
  refine tN (tT ?_)
  refine tri_cond_dec rfl (fun hb => ?_) (fun hb => ?_)
  ·have hb1 : c / 2 ^ i % 2 = 1 := by rw [hdd]; exact hb
   rw [if_pos hb1] at hs
   refine tR (tM rfl rfl (tM rfl rfl ?_))
   refine tri_g (opg_buildSlice rfl rfl rfl rfl) rfl ?_
   rintro _ _ _ ⟨b24, rfl, rfl, rfl⟩
   refine tri_g (opg_appendB rfl rfl rfl rfl (by omega) rfl) rfl ?_
   rintro _ _ _ ⟨a3, cap3, rfl, rfl, rfl⟩
   refine tA rfl rfl (tN ?_)
   refine tri_inBlock ?_
   refine tT (tR (tM rfl rfl ?_))
   refine tU rfl rfl (by omega) (by omega) rfl ?_
   refine tA rfl rfl (tN (tT ?_))
   refine tri_drop ?_
   refine tri_rowEq (len' := (R9.bitsTo c (i + 1)).length) (cells' := encs (R9.bitsTo c (i + 1))) (by rw [hs, List.length_append]; rfl) (by rw [hs, encs_append]; rfl) ?_
   refine tri_sub ?_ (hK (i + 1, a3, cap3) (by simp only; omega) (by simp only; omega))
   exact ⟨rfl, by rw [hs, List.length_append]; rfl, rfl, trivial⟩
  ·have hb1 : ¬ c / 2 ^ i % 2 = 1 := by rw [hdd]; exact hb
   rw [if_neg hb1] at hs
   refine tri_skip ?_
   refine tri_inBlock ?_
   refine tT (tR (tM rfl rfl ?_))
   refine tU rfl rfl (by omega) (by omega) rfl ?_
   refine tA rfl rfl (tN (tT ?_))
   refine tri_rowEq (len' := (R9.bitsTo c (i + 1)).length) (cells' := encs (R9.bitsTo c (i + 1))) (by rw [hs]) (by rw [hs]) ?_
   refine tri_sub ?_ (hK (i + 1, a1, cap1) (by simp only; omega) (by simp only; omega))
   exact ⟨rfl, by rw [hs]; rfl, rfl, trivial⟩
 ·have hi' : i = 62 := by omega
  subst hi'
  refine tri_guard_skip rfl rfl rfl rfl (tri_guard_skip rfl rfl rfl rfl ?_)
  refine tri_v (opv_pick_f rfl rfl) rfl ?_
  refine tM rfl rfl (tri_guard_skip rfl rfl rfl rfl (tri_guard_skip rfl rfl rfl rfl ?_))
  refine tri_v (opv_pick_f rfl rfl) rfl ?_
  refine tN (tT ?_)
  refine tri_cond_false rfl ?_
  refine tri_exit ?_
  refine tri_then_exit ?_
  refine tri_then_exit ?_
  refine tri_inBlock_hit rfl ?_
  refine tT (tS (tR (tM rfl rfl (tA rfl rfl (tN (tT (tri_ret ?_)))))))
  refine tri_freezeRow rfl fun I' hI hs' => ?_
  refine tri_end A Suf.h rfl (.cons (rv_tmp rfl) .nil) ⟨a1, cap1, rfl, hs', rfl, hI⟩
end Go.GL

set_option linter.unusedVariables false
namespace Go.GL
open Go.Proofs
attribute [local irreducible] wpList Code.wp Exit.then Exit.inBlock Ends Tri TriH OpV OpG FnC epf wpAnyH
variable {A : List Asrt} {I : List Chunk}
/-- As LxR, where something may have been frozen. -/
def LxS (bl bx mb db : Nat) (r : R9.L9) (room : Int) (A : List Asrt) (I : List Chunk) : Value → List Asrt → List Chunk → Prop :=
 fun v A' I' => ∃ a' cap' es' ds' ns' m, v = .tuple [.int .i64 m, .int .i64 r.2.2].toArray ∧ A' = LxA bl bx mb db a' cap' ns' room es' ds' A ∧ (r.2.2 = 0 → ns' = r.1.ns ∧ m = r.2.1 ∧ Idx r.1.ns es' ∧ MemIx r.1.mm ds') ∧ I ⊆ I'
theorem runL_drop {room : Int} {js : List Int} {i : Nat} (hi : i < js.length) (t : R9.LS) (n : Int) : R9.runL room (js.drop i) t n = R9.bindS (R9.power room t n (js.getD i default)) (R9.runL room (js.drop (i + 1))) := by
 rw [List.drop_eq_getElem_cons hi, show js.getD i default = js[i] by simp [hi]]
 rfl
set_option maxHeartbeats 2000000 in
set_option maxRecDepth 100000 in
theorem leaper_run {k : Nat} {s : R9.LS} {a : Option Addr} {cap bl bx mb db : Nat} {room n c : Int} {es ds : KVs} {r : R9.L9} (h : R9.Lk room s) (hn : R7.IsN s.ns (k + 2) n) (hix : Idx s.ns es) (hmx : MemIx s.mm ds) (hc : 0 ≤ c ∧ c ≤ 4611686018427387903) (hr : R9.runL room (R9.bits c) s n = r) :
  FnC Try.prog 52 [pt bl 0, .int .i64 n, .int .i64 c].toArray (LxA bl bx mb db a cap s.ns room es ds A) I (LxS bl bx mb db r room A I) := by
 have hbd := fun j (hj : j ∈ R9.bits c) => R9.bits_bd hj
 have hbl : (R9.bits c).length ≤ 62 := R9.bitsTo_len c 62
 skip
 refine fn_enter3 Try.func52 rfl Try.ntmps52 rfl fun w0 => ?_
 refine tS (tR (tA rfl rfl (tA rfl rfl (tN (tT (tS (tS ?_)))))))
 refine tR (tM rfl rfl ?_)
 refine tri_g (opg_call (xs := [_]) rfl (count_bits hc)) rfl ?_
 rintro _ _ I1 ⟨a1, c1, rfl, hs, rfl, hI⟩
 generalize R9.bits c = js at *
 refine tri_v (opv_len rfl) rfl ?_
 refine tM rfl rfl (tN (tT (tri_block ?_)))
 refine tri_sub (F' := [(0, pt bl 0), (1, .int .i64 n), (12, .slice a1 js.length c1), (13, .int .i64 (js.length : Nat)), (14, .int .i64 (0 : Nat))]) ⟨rfl, rfl, rfl, rfl, rfl, trivial⟩ ?_
 refine loop_ind (G := Nat × R9.LS × Int × Option Addr × Nat × KVs × KVs) (fun g => js.length - g.1) (fun g => g.1 ≤ js.length ∧ R9.Lk room g.2.1 ∧ (∃ k : Nat, R7.IsN g.2.1.ns (k + 2) g.2.2.1) ∧ Idx g.2.1.ns g.2.2.2.2.2.1 ∧ MemIx g.2.1.mm g.2.2.2.2.2.2 ∧ R9.runL room (js.drop g.1) g.2.1 g.2.2.1 = r) (fun g => [(0, pt bl 0), (1, .int .i64 g.2.2.1), (12, .slice a1 js.length c1), (13, .int .i64 (js.length : Nat)), (14, .int .i64 (g.1 : Nat))]) (fun g => LxA bl bx mb db g.2.2.2.1 g.2.2.2.2.1 g.2.1.ns room g.2.2.2.2.2.1 g.2.2.2.2.2.2 A) (fun _ => I1) ?_ (0, s, n, a, cap, es, ds) ⟨by omega, h, ⟨k, hn⟩, hix, hmx, hr⟩
 rintro ⟨i, t, n1, a2, c2, es2, ds2⟩ ⟨hi, hlk, ⟨k1, hn1⟩, hx1, hm1, hr1⟩ K hK
 simp only at hi hlk hn1 hx1 hm1 hr1 hK ⊢
 skip
 refine tS (tR ?_)
 refine tri_v (opv_lss rfl rfl) rfl ?_
 refine tN (tT (tS ?_))
 refine tri_cond_dec rfl (fun h1 => ?_) (fun h1 => ?_)
 ·have hlt : i < js.length := by omega
  rw [runL_drop hlt] at hr1
  have hj := hbd (js.getD i default) (by simp [hlt])
  obtain ⟨R, hR⟩ : ∃ R, R9.power room t n1 (js.getD i default) = R := ⟨_, rfl⟩
  rw [hR] at hr1
  have hge := fun e : R.2.2 = 0 => R9.power_ge hlk hn1 (by rw [hR]; exact e)
  rw [hR] at hge
  refine tri_skip (tT (tS (tri_block (tS (tR ?_)))))
  refine tri_v (opv_indexAddrSN rfl rfl (by omega) (by assumption) rfl) rfl ?_
  refine tri_v (opv_loadE1 rfl (by assumption) rfl (by omega) rfl rfl) rfl ?_
  refine tA rfl rfl (tN (tT (tS (tR (tA rfl rfl (tN (tT ?_)))))))
  refine tS (tR (tM rfl rfl (tM rfl rfl (tM rfl rfl ?_))))
  refine tri_g (opg_call (xs := [_, _, _]) rfl (leaper_power hlk hn1 hx1 hm1 (by omega) hR)) rfl ?_
  rintro _ _ _ ⟨a3, c3, es3, ds3, ns3, m3, rfl, rfl, h3, rfl⟩
  refine tM rfl rfl ?_
  refine tri_v (opv_extract rfl rfl) rfl ?_
  refine tri_v (opv_extract rfl rfl) rfl ?_
  refine tA rfl rfl (tA rfl rfl (tN (tT (tS (tR (tM rfl rfl ?_))))))
  refine tri_v (opv_neq rfl rfl) rfl ?_
  refine tN (tT ?_)
  refine tri_cond_dec rfl (fun x => ?_) (fun x => ?_)
  ·rw [R9.bindS_err x] at hr1
   subst hr1
   refine tS (tR (tM rfl rfl (tA rfl rfl (tA rfl rfl (tN (tT (tri_ret ?_)))))))
   refine tri_inBlock_ret ?_
   refine tri_then_ret (tri_then_ret ?_)
   refine tri_inBlock_ret ?_
   refine tri_then_ret ?_
   refine tri_end _ (⟨[], rfl⟩) rfl (.cons (rv_tmp rfl) (.cons (rv_tmp rfl) .nil)) ⟨a3, c3, es3, ds3, ns3, 0, rfl, rfl, fun e => absurd e x, hI⟩
  ·have x' : R.2.2 = 0 := Decidable.not_not.1 x
   rw [R9.bindS_ok x'] at hr1
   obtain ⟨rfl, rfl, h5, h6⟩ := h3 x'
   have g := hge x'
   refine tri_skip ?_
   refine tri_inBlock ?_
   refine tT (tR ?_)
   refine tU rfl rfl (by omega) (by omega) rfl ?_
   refine tM rfl rfl (tN (tT ?_))
   refine tri_sub ?_ (hK (i + 1, R.1, R.2.1, a3, c3, es3, ds3) ⟨by simp only; omega, g.lk, g.is, h5, h6, hr1⟩ (by simp only; omega))
   exact ⟨rfl, rfl, rfl, rfl, rfl, trivial⟩
 ·have hi' : i = js.length := by omega
  subst hi'
  rw [List.drop_of_length_le (by omega)] at hr1
  unfold R9.runL R9.trimS at hr1
  rw [R9.lvS_is hn1] at hr1
  refine tri_exit ?_
  refine tri_then_exit ?_
  refine tri_then_exit ?_
  refine tri_inBlock_hit rfl ?_
  refine tT (tS (tR (tM rfl rfl (tM rfl rfl ?_))))
  refine tri_g (opg_call (xs := [_, _]) rfl (leaper_trim hlk hn1 hx1 hm1 hr1)) rfl ?_
  rintro _ _ _ ⟨a3, c3, es3, ds3, ns3, m3, rfl, rfl, h3, rfl⟩
  refine tri_v (opv_extract rfl rfl) rfl ?_
  refine tri_v (opv_extract rfl rfl) rfl ?_
  refine tA rfl rfl (tA rfl rfl (tN (tT (tri_ret ?_))))
  refine tri_end _ (⟨[], rfl⟩) rfl (.cons (rv_tmp rfl) (.cons (rv_tmp rfl) .nil)) ⟨a3, c3, es3, ds3, ns3, m3, rfl, rfl, h3, hI⟩
end Go.GL

set_option linter.unusedVariables false
namespace Go.GL
open Go.Proofs
attribute [local irreducible] wpList Code.wp Exit.then Exit.inBlock Ends Tri TriH OpV OpG FnC epf wpAnyH
variable {A : List Asrt} {I : List Chunk}
def LeapOfR (ns : List Node) (room n : Int) (A : List Asrt) (I : List Chunk) : Value → List Asrt → List Chunk → Prop := fun v A' I' =>
 (R8.may ns room n 2 ∧ ∃ bl bx mb db a' cap' es, v = .tuple [pt bl 0, .bool true].toArray ∧ A' = LxA bl bx mb db a' cap' ns room es [] A ∧ Idx ns es ∧ I = I') ∨ (¬ R8.may ns room n 2 ∧ ∃ p, v = .tuple [p, .bool false].toArray ∧ A = A' ∧ I = I')
set_option maxHeartbeats 1000000 in
set_option maxRecDepth 100000 in
theorem leap_of {ns : List Node} {a : Option Addr} {cap : Nat} {room n : Int} (hs : StA I a cap ns) (hn : ns.length ≤ 1000000000) :
  FnC Try.prog 67 [storeV a ns.length cap room, .int .i64 n].toArray A I (LeapOfR ns room n A I) := by
 skip
 refine fn_enter2 Try.func67 rfl Try.ntmps67 rfl fun w0 => ?_
 refine tS (tR ?_)
 refine tri_g (opg_box_agg rfl) rfl ?_
 rintro _ _ _ ⟨b2, rfl, rfl, rfl⟩
 refine tA rfl rfl (tA rfl rfl (tN (tT (tS (tR ?_)))))
 refine tri_v (opv_loadA rfl rfl rfl) rfl ?_
 refine tM rfl rfl ?_
 refine tri_g (opg_call (xs := [_, _, _]) rfl (base_of (lv := 2) hs hn)) rfl ?_
 rintro v A1 I1 hR
 rcases hR with ⟨hr, bx, mb, a1, c1, es, rfl, rfl, hix, rfl⟩ | ⟨hr, p, rfl, rfl, rfl⟩
 ·refine tM rfl rfl ?_
  refine tri_v (opv_extract rfl rfl) rfl ?_
  refine tri_v (opv_extract rfl rfl) rfl ?_
  refine tri_g opg_alloc rfl ?_
  rintro _ _ _ ⟨b6, rfl, rfl, rfl⟩
  refine tri_g (opg_store rfl rfl rfl rfl rfl rfl) rfl ?_
  rintro _ _ _ ⟨rfl, rfl⟩
  refine tA rfl rfl (tN (tT (tS (tR ?_))))
  refine tri_v (opv_loadA rfl rfl rfl) rfl ?_
  refine tri_g opg_makeMap rfl ?_
  rintro _ _ _ ⟨b15, rfl, rfl, rfl⟩
  refine tri_v (opv_buildS rfl rfl) rfl ?_
  refine tri_g (opg_box_agg rfl) rfl ?_
  rintro _ _ _ ⟨b17, rfl, rfl, rfl⟩
  refine tM rfl rfl (tA rfl rfl (tA rfl rfl (tN (tT (tri_ret ?_)))))
  refine tri_perm (A := ?a1_0 :: ?a1_1 :: ?a1_2 :: ?a1_3 :: ?a1_4 :: ?a1_5 :: ?a1_6 :: ?T1) (B := ?a1_2 :: ?a1_6 :: ?a1_3 :: ?a1_4 :: ?a1_5 :: ?a1_0 :: ?a1_1 :: ?T1) (by exact permL [2, 6, 3, 4, 5, 0, 1] [?a1_0, ?a1_1, ?a1_2, ?a1_3, ?a1_4, ?a1_5, ?a1_6] ?T1 (by decide) rfl) ?_
  refine tri_end _ (⟨[_, _], rfl⟩) rfl (.cons (rv_tmp rfl) (.cons (rv_tmp rfl) .nil)) (.inl ⟨hr, b17, bx, mb, b15, a1, c1, es, rfl, rfl, hix, rfl⟩)
 ·refine tM rfl rfl ?_
  refine tri_v (opv_extract rfl rfl) rfl ?_
  refine tri_v (opv_extract rfl rfl) rfl ?_
  refine tri_g opg_alloc rfl ?_
  rintro _ _ _ ⟨b6, rfl, rfl, rfl⟩
  refine tri_g (opg_store rfl rfl rfl rfl rfl rfl) rfl ?_
  rintro _ _ _ ⟨rfl, rfl⟩
  refine tA rfl rfl (tN (tT (tS (tR ?_))))
  refine tri_v (opv_loadA rfl rfl rfl) rfl ?_
  refine tri_g opg_makeMap rfl ?_
  rintro _ _ _ ⟨b15, rfl, rfl, rfl⟩
  refine tri_v (opv_buildS rfl rfl) rfl ?_
  refine tri_g (opg_box_agg rfl) rfl ?_
  rintro _ _ _ ⟨b17, rfl, rfl, rfl⟩
  refine tM rfl rfl (tA rfl rfl (tA rfl rfl (tN (tT (tri_ret ?_)))))
  refine tri_end A Suf.h rfl (.cons (rv_tmp rfl) (.cons (rv_tmp rfl) .nil)) (.inr ⟨hr, _, rfl, rfl, rfl⟩)
/-- What told makes of what a leaper told. -/
def toldL (ns : List Node) (room n : Int) (p : Prop) [Decidable p] (r : R9.L9) : List Node × Int × Int := if R8.may ns room n 2 ∧ p then R9.out ns r else (ns, 0, 1)
set_option maxHeartbeats 1000000 in
set_option maxRecDepth 100000 in
theorem leap_told {ns : List Node} {a : Option Addr} {cap f1 f2 : Nat} {room n : Int} {ca1 ca2 : List Value} {p : Prop} [Decidable p] {r : R9.L9} [FnI Try.prog f1] [FnI Try.prog f2] (hs : StA I a cap ns) (hn : ns.length ≤ 1000000000)
  (hc1 : R8.may ns room n 2 → ∀ bl bx mb db a cap es (X Y : Asrt), Idx ns es → FnC Try.prog f1 (pt bl 0 :: ca1).toArray (LxA bl bx mb db a cap ns room es [] (X :: Y :: A)) I (fun v A' I' => v = .bool (decide p) ∧ LxA bl bx mb db a cap ns room es [] (X :: Y :: A) = A' ∧ I = I'))
  (hc2 : R8.may ns room n 2 → p → ∀ bl bx mb db a cap es (X Y : Asrt), Idx ns es → FnC Try.prog f2 (pt bl 0 :: ca2).toArray (LxA bl bx mb db a cap ns room es [] (X :: Y :: A)) I (LxS bl bx mb db r room (X :: Y :: A) I)) :
  FnC Try.prog 39 [storeV a ns.length cap room, .int .i64 n, .func (.func f1) [].toArray ca1.toArray, .func (.func f2) [].toArray ca2.toArray].toArray A I (StoreR (toldL ns room n p r) room A I) := by
 skip
 refine fn_enter4 Try.func39 rfl Try.ntmps39 rfl fun w0 => ?_
 refine tS (tR ?_)
 refine tri_g (opg_box_agg rfl) rfl ?_
 rintro _ _ _ ⟨b4, rfl, rfl, rfl⟩
 refine tri_g opg_alloc rfl ?_
 rintro _ _ _ ⟨b8, rfl, rfl, rfl⟩
 refine tA rfl rfl (tA rfl rfl (tN (tT (tS (tR ?_)))))
 refine tri_v (opv_loadA rfl rfl rfl) rfl ?_
 refine tM rfl rfl ?_
 refine tri_g (opg_call (xs := [_, _]) rfl (leap_of hs hn)) rfl ?_
 rintro v A1 I1 hR
 rcases hR with ⟨hr, bl, bx, mb, db, a1, c1, es, rfl, rfl, hix, rfl⟩ | ⟨hr, q, rfl, rfl, rfl⟩
 ·refine tM rfl rfl ?_
  refine tri_v (opv_extract rfl rfl) rfl ?_
  refine tri_v (opv_extract rfl rfl) rfl ?_
  refine tA rfl rfl (tA rfl rfl (tN (tT (tS (tS (tR (tM rfl rfl ?_)))))))
  refine tri_v (opv_not rfl) rfl ?_
  refine tM rfl rfl ?_
  skip
  refine tri_guard_run rfl rfl rfl (tM rfl rfl (tri_guard_run rfl rfl rfl (tM rfl rfl (tri_guard_run rfl rfl rfl ?_))))
  refine tri_g (opg_callv (vs := [pt bl 0]) (xs := [_]) rfl rfl (hc1 hr bl bx mb db a1 c1 es _ _ hix)) rfl ?_
  rintro _ _ _ ⟨rfl, rfl, rfl⟩
  refine tri_guard_run rfl rfl rfl ?_
  refine tri_v (opv_notD rfl) rfl ?_
  refine tri_v (opv_pick_f rfl rfl) rfl ?_
  refine tN (tT ?_)
  refine tri_cond rfl (fun hp => ?_) (fun hp => ?_)
  ·have hp' : ¬ p := by simpa using hp
   refine tS (tR ?_)
   refine tri_v (opv_loadA rfl rfl rfl) rfl ?_
   refine tri_g (opg_store rfl rfl rfl rfl rfl rfl) rfl ?_
   rintro _ _ _ ⟨rfl, rfl⟩
   refine tA rfl rfl (tA rfl rfl (tN (tT (tri_ret (tri_then_ret ?_)))))
   refine tri_end A Suf.h rfl (.cons (rv_cellA rfl rfl rfl) (.cons (rv_tmp rfl) (.cons (rv_tmp rfl) .nil))) ?_
   rw [show toldL ns room n p r = (ns, 0, 1) from if_neg fun h => hp' h.2]
   exact ⟨a, cap, rfl, hs, rfl, fun _ h => h⟩
  ·have hp' : p := by simpa using hp
   refine tri_skip (tT (tS (tR (tM rfl rfl (tM rfl rfl ?_)))))
   refine tri_g (opg_callv (vs := [pt bl 0]) (xs := [_]) rfl rfl (hc2 hr hp' bl bx mb db a1 c1 es _ _ hix)) rfl ?_
   rintro _ _ I2 ⟨a2, c2, es2, ds2, ns2, m2, rfl, rfl, h2, hI⟩
   refine tM rfl rfl ?_
   refine tri_v (opv_extract rfl rfl) rfl ?_
   refine tri_v (opv_extract rfl rfl) rfl ?_
   refine tA rfl rfl (tA rfl rfl (tN (tT (tS (tS (tR (tM rfl rfl ?_)))))))
   refine tri_v (opv_neq rfl rfl) rfl ?_
   refine tN (tT ?_)
   refine tri_cond_dec rfl (fun h => ?_) (fun h => ?_)
   ·refine tS (tR ?_)
    refine tri_v (opv_loadA rfl rfl rfl) rfl ?_
    refine tM rfl rfl ?_
    refine tri_g (opg_store rfl rfl rfl rfl rfl rfl) rfl ?_
    rintro _ _ _ ⟨rfl, rfl⟩
    refine tA rfl rfl (tA rfl rfl (tN (tT (tri_ret (tri_then_ret ?_)))))
    refine tri_end A Suf.h rfl (.cons (rv_cellA rfl rfl rfl) (.cons (rv_tmp rfl) (.cons (rv_tmp rfl) .nil))) ?_
    rw [show toldL ns room n p r = (ns, 0, r.2.2) from (if_pos ⟨hr, hp'⟩).trans (if_pos h)]
    exact ⟨a, cap, rfl, hs.mono hI, rfl, hI⟩
   ·have h0 : r.2.2 = 0 := Decidable.not_not.1 h
    obtain ⟨rfl, rfl, _, _⟩ := h2 h0
    refine tri_skip (tT (tS (tR (tM rfl rfl ?_))))
    refine tri_v (opv_nilCheck rfl) rfl ?_
    refine tri_v (opv_fieldAddr rfl rfl) rfl ?_
    refine tri_v (opv_fieldAddr rfl rfl) rfl ?_
    refine tri_v (opv_load1 rfl rfl rfl) rfl ?_
    refine tri_v (opv_nilCheck rfl) rfl ?_
    refine tri_v (opv_fieldAddr rfl rfl) rfl ?_
    refine tri_v (opv_loadA rfl rfl rfl) rfl ?_
    refine tM rfl rfl ?_
    refine tri_g (opg_store rfl rfl rfl rfl rfl rfl) rfl ?_
    rintro _ _ _ ⟨rfl, rfl⟩
    refine tA rfl rfl (tA rfl rfl (tN (tT (tri_ret ?_))))
    refine tri_perm (A := ?a2_0 :: ?a2_1 :: ?T2) (B := ?a2_1 :: ?a2_0 :: ?T2) (by exact permL [1, 0] [?a2_0, ?a2_1] ?T2 (by decide) rfl) ?_
    refine tri_freezeRowC rfl fun I' hI' hs' => ?_
    refine tri_end A Suf.h rfl (.cons (rv_cellA rfl rfl rfl) (.cons (rv_tmp rfl) (.cons (rv_tmp rfl) .nil))) ?_
    rw [show toldL ns room n p r = (r.1.ns, r.2.1, 0) from (if_pos ⟨hr, hp'⟩).trans (if_neg h)]
    exact ⟨a2, c2, rfl, hs', rfl, fun _ h => hI' (hI h)⟩
 ·refine tM rfl rfl ?_
  refine tri_v (opv_extract rfl rfl) rfl ?_
  refine tri_v (opv_extract rfl rfl) rfl ?_
  refine tA rfl rfl (tA rfl rfl (tN (tT (tS (tS (tR (tM rfl rfl ?_)))))))
  refine tri_v (opv_not rfl) rfl ?_
  refine tM rfl rfl ?_
  skip
  refine tri_guard_skip rfl rfl rfl rfl (tri_guard_skip rfl rfl rfl rfl (tri_guard_skip rfl rfl rfl rfl (tri_guard_skip rfl rfl rfl rfl ?_)))
  refine tri_v (opv_pick_t rfl rfl) rfl ?_
  refine tN (tT ?_)
  refine tri_cond_true rfl ?_
  refine tS (tR ?_)
  refine tri_v (opv_loadA rfl rfl rfl) rfl ?_
  refine tri_g (opg_store rfl rfl rfl rfl rfl rfl) rfl ?_
  rintro _ _ _ ⟨rfl, rfl⟩
  refine tA rfl rfl (tA rfl rfl (tN (tT (tri_ret (tri_then_ret ?_)))))
  refine tri_end A Suf.h rfl (.cons (rv_cellA rfl rfl rfl) (.cons (rv_tmp rfl) (.cons (rv_tmp rfl) .nil))) ?_
  rw [show toldL ns room n p r = (ns, 0, 1) from if_neg fun h => hr h.1]
  exact ⟨a, cap, rfl, hs, rfl, fun _ h => h⟩
end Go.GL

set_option linter.unusedVariables false
namespace Go.GL
open Go.Proofs
attribute [local irreducible] wpList Code.wp Exit.then Exit.inBlock Ends Tri TriH OpV OpG FnC epf wpAnyH
variable {A : List Asrt} {I : List Chunk}
theorem may_lk {ns : List Node} {room n : Int} (h : R8.may ns room n 2) : R9.Lk room (⟨ns, []⟩ : R9.LS) ∧ ∃ k : Nat, R7.IsN ns (k + 2) n ∧ R9.lvS (⟨ns, []⟩ : R9.LS) n = k := by
 have h2 := h.2.2
 refine ⟨⟨h.1, fun p hp => by cases hp⟩, ((R6.nd ns n).lv - 2).toNat, ⟨h.2.1, by omega⟩, rfl⟩
set_option maxHeartbeats 1000000 in
set_option maxRecDepth 100000 in
theorem leap_clo1 {ns : List Node} {bn bj : Nat} {room n j : Int} (hr : R8.may ns room n 2) (bl bx mb db : Nat) (a : Option Addr) (cap : Nat) (es : KVs) (X Y : Asrt) (hix : Idx ns es) :
  FnC Try.prog 40 [pt bl 0, pt bj 0, pt bn 0].toArray (LxA bl bx mb db a cap ns room es [] (X :: Y :: Box bj [.int .i64 j] 3 :: Box bn [.int .i64 n] 3 :: A)) I (fun v A' I' => v = .bool (decide (0 ≤ j ∧ j ≤ (R6.nd ns n).lv - 2)) ∧ LxA bl bx mb db a cap ns room es [] (X :: Y :: Box bj [.int .i64 j] 3 :: Box bn [.int .i64 n] 3 :: A) = A' ∧ I = I') := by
 obtain ⟨lk, k, hn, hk⟩ := may_lk hr
 have hlb := lk.wf.lvb hn.1
 simp only at hlb
 skip
 refine fn_enter3 Try.func40 rfl Try.ntmps40 rfl fun w0 => ?_
 refine tS (tR (tA rfl rfl (tN (tT (tS ?_)))))
 refine tri_draw [0, 1, 2, 3, 4, 5, 6, 7, 8, 9, 10] rfl [] rfl mixed ?_
 refine th_take rfl rfl (by kernel_rfl)  (opv_load1 rfl rfl rfl) ?_
 refine th_take rfl rfl (by kernel_rfl)  (opv_geq rfl rfl) ?_
 refine th_take rfl rfl (by kernel_rfl)  (opv_move rfl) ?_
 refine th_split rfl rfl rfl (fun h1 => ?_) (fun h1 => ?_)
 ·refine th_take_g rfl rfl rfl rfl rfl (by kernel_rfl)  (opv_load1 rfl rfl rfl) ?_
  refine th_take_g rfl rfl rfl rfl rfl (by kernel_rfl)  (opv_move rfl) ?_
  refine th_take_g rfl rfl rfl rfl rfl (by kernel_rfl)  (opv_load1 rfl rfl rfl) ?_
  refine th_one (by kernel_rfl) (step_mg rfl rfl rfl rfl rfl (opg_call (xs := [_, _]) rfl (leaper_level hn.1)) ?_)
  rintro _ _ _ ⟨rfl, rfl, rfl⟩
  refine ⟨Suf.h, (fun _ h => h), ?_⟩
  refine th_take_g rfl rfl rfl rfl rfl (by kernel_rfl)  (opv_sub rfl rfl (w64 (by omega) (by omega))) ?_
  refine th_take_g rfl rfl rfl rfl rfl (by kernel_rfl)  (opv_leq rfl rfl) ?_
  refine th_take rfl rfl (by kernel_rfl)  (opv_pick_t rfl rfl) ?_
  refine th_take rfl rfl (by kernel_rfl)  (opv_assign rfl) ?_
  refine th_done (by kernel_rfl) ?_
  refine tT (tri_ret ?_)
  refine tri_end _ (⟨[], rfl⟩) rfl (.cons (rv_tmp rfl) .nil) ⟨?_, rfl, rfl⟩
  rw [show decide (0 ≤ j ∧ j ≤ (R6.nd ns n).lv - 2) = decide (j ≤ (R6.nd ns n).lv - 2) from decide_eq_decide.2 ⟨fun h => h.2, fun h => ⟨h1, h⟩⟩]
  rfl
 ·refine th_skip rfl rfl rfl rfl rfl (by kernel_rfl)  ?_
  refine th_skip rfl rfl rfl rfl rfl (by kernel_rfl)  ?_
  refine th_skip rfl rfl rfl rfl rfl (by kernel_rfl)  ?_
  refine th_one (by kernel_rfl) (step_skip rfl rfl rfl rfl rfl ?_)
  refine th_skip rfl rfl rfl rfl rfl (by kernel_rfl)  ?_
  refine th_skip rfl rfl rfl rfl rfl (by kernel_rfl)  ?_
  refine th_take rfl rfl (by kernel_rfl)  (opv_pick_f rfl rfl) ?_
  refine th_take rfl rfl (by kernel_rfl)  (opv_assign rfl) ?_
  refine th_done (by kernel_rfl) ?_
  refine tT (tri_ret ?_)
  refine tri_end _ (⟨[], rfl⟩) rfl (.cons (rv_tmp rfl) .nil) ⟨?_, rfl, rfl⟩
  rw [decide_eq_false fun h => h1 h.1]
  rfl
set_option maxHeartbeats 1000000 in
set_option maxRecDepth 100000 in
theorem leap_clo2 {ns : List Node} {bn bj : Nat} {room n j : Int} (hr : R8.may ns room n 2) (hj : 0 ≤ j ∧ j ≤ (R6.nd ns n).lv - 2) (bl bx mb db : Nat) (a : Option Addr) (cap : Nat) (es : KVs) (X Y : Asrt) (hix : Idx ns es) :
  FnC Try.prog 42 [pt bl 0, pt bn 0, pt bj 0].toArray (LxA bl bx mb db a cap ns room es [] (X :: Y :: Box bj [.int .i64 j] 3 :: Box bn [.int .i64 n] 3 :: A)) I (LxS bl bx mb db (R9.leap room (R9.lvS (⟨ns, []⟩ : R9.LS) n) ⟨ns, []⟩ n j) room (X :: Y :: Box bj [.int .i64 j] 3 :: Box bn [.int .i64 n] 3 :: A) I) := by
 obtain ⟨lk, k, hn, hk⟩ := may_lk hr
 have hlb := lk.wf.lvb hn.1
 simp only at hlb
 rw [hk]
 skip
 refine fn_enter3 Try.func42 rfl Try.ntmps42 rfl fun w0 => ?_
 refine tS (tR (tA rfl rfl (tA rfl rfl (tN (tT (tS (tR ?_)))))))
 refine tM rfl rfl ?_
 refine tri_v (opv_load1 rfl rfl rfl) rfl ?_
 refine tri_v (opv_load1 rfl rfl rfl) rfl ?_
 refine tri_g (opg_call (xs := [_, _, _]) rfl (leaper_leap k _ _ (⟨ns, []⟩ : R9.LS) _ _ _ _ _ _ _ n j _ _ _ lk hn hix MemIx.nil (by omega) rfl)) rfl ?_
 rintro _ _ _ ⟨a4, c4, es4, ds4, ns4, m4, rfl, rfl, h4, rfl⟩
 refine tri_v (opv_extract rfl rfl) rfl ?_
 refine tri_v (opv_extract rfl rfl) rfl ?_
 refine tA rfl rfl (tA rfl rfl (tN (tT (tri_ret ?_))))
 refine tri_end _ (⟨[], rfl⟩) rfl (.cons (rv_tmp rfl) (.cons (rv_tmp rfl) .nil)) ⟨a4, c4, es4, ds4, ns4, m4, rfl, rfl, h4, fun _ h => h⟩
set_option maxHeartbeats 1000000 in
set_option maxRecDepth 100000 in
theorem leap_leap {ns : List Node} {a : Option Addr} {cap : Nat} {room n j : Int} (hs : StA I a cap ns) (hn : ns.length ≤ 1000000000) :
  FnC Try.prog 15 [storeV a ns.length cap room, .int .i64 n, .int .i64 j].toArray A I (StoreR (R9.leapT ns room n j) room A I) := by
 skip
 refine fn_enter3 Try.func15 rfl Try.ntmps15 rfl fun w0 => ?_
 refine tS (tR ?_)
 refine tri_g (opg_box_agg rfl) rfl ?_
 rintro _ _ _ ⟨b3, rfl, rfl, rfl⟩
 refine tri_g (opg_box1 rfl rfl) rfl ?_
 rintro _ _ _ ⟨b4, rfl, rfl, rfl⟩
 refine tri_g (opg_box1 rfl rfl) rfl ?_
 rintro _ _ _ ⟨b5, rfl, rfl, rfl⟩
 refine tri_g opg_alloc rfl ?_
 rintro _ _ _ ⟨b6, rfl, rfl, rfl⟩
 refine tA rfl rfl (tA rfl rfl (tN (tT (tS (tR ?_)))))
 refine tri_v (opv_loadA rfl rfl rfl) rfl ?_
 refine tri_v (opv_load1 rfl rfl rfl) rfl ?_
 refine tri_v (opv_makeFunc (fs := []) (cs := [_, _]) (vf := []) (vc := [_, _]) rfl rfl) rfl ?_
 refine tri_v (opv_makeFunc (fs := []) (cs := [_, _]) (vf := []) (vc := [_, _]) rfl rfl) rfl ?_
 refine tri_perm (A := ?a1_0 :: ?a1_1 :: ?a1_2 :: ?a1_3 :: ?T1) (B := ?a1_1 :: ?a1_2 :: ?a1_0 :: ?a1_3 :: ?T1) (by exact permL [1, 2, 0, 3] [?a1_0, ?a1_1, ?a1_2, ?a1_3] ?T1 (by decide) rfl) ?_
 refine tri_g (opg_call (xs := [_, _, _, _]) rfl (leap_told (ca1 := [_, _]) (ca2 := [_, _]) (p := 0 ≤ j ∧ j ≤ (R6.nd ns n).lv - 2) (r := R9.leap room (R9.lvS (⟨ns, []⟩ : R9.LS) n) ⟨ns, []⟩ n j) hs hn (fun hr bl bx mb db a cap es X Y hix => leap_clo1 hr bl bx mb db a cap es X Y hix) (fun hr hp bl bx mb db a cap es X Y hix => leap_clo2 hr hp bl bx mb db a cap es X Y hix))) rfl ?_
 rintro _ _ _ ⟨a2, c2, rfl, hs2, rfl, hI⟩
 refine tri_v (opv_extract rfl rfl) rfl ?_
 refine tri_v (opv_extract rfl rfl) rfl ?_
 refine tri_v (opv_extract rfl rfl) rfl ?_
 refine tri_g (opg_store rfl rfl rfl rfl rfl rfl) rfl ?_
 rintro _ _ _ ⟨rfl, rfl⟩
 refine tA rfl rfl (tA rfl rfl (tN (tT (tri_ret ?_))))
 refine tri_end A Suf.h rfl (.cons (rv_cellA rfl rfl rfl) (.cons (rv_tmp rfl) (.cons (rv_tmp rfl) .nil))) ⟨a2, c2, rfl, hs2, rfl, hI⟩
set_option maxHeartbeats 1000000 in
set_option maxRecDepth 100000 in
theorem run_clo1 {ns : List Node} {bn bj : Nat} {room n j : Int} (hr : R8.may ns room n 2) (bl bx mb db : Nat) (a : Option Addr) (cap : Nat) (es : KVs) (X Y : Asrt) (hix : Idx ns es) :
  FnC Try.prog 50 [pt bl 0, pt bj 0].toArray (LxA bl bx mb db a cap ns room es [] (X :: Y :: Box bj [.int .i64 j] 3 :: Box bn [.int .i64 n] 3 :: A)) I (fun v A' I' => v = .bool (decide (0 ≤ j ∧ j ≤ 4611686018427387903)) ∧ LxA bl bx mb db a cap ns room es [] (X :: Y :: Box bj [.int .i64 j] 3 :: Box bn [.int .i64 n] 3 :: A) = A' ∧ I = I') := by
 skip
 refine fn_enter2 Try.func50 rfl Try.ntmps50 rfl fun w0 => ?_
 refine tS (tR (tA rfl rfl (tN (tT (tS (tR ?_))))))
 refine tri_v (opv_load1 rfl rfl rfl) rfl ?_
 refine tri_v (opv_geq rfl rfl) rfl ?_
 refine tM rfl rfl ?_
 refine tri_split rfl rfl (fun h1 => ?_) (fun h1 => ?_)
 ·refine tri_guard_run rfl rfl rfl ?_
  refine tri_v (opv_load1 rfl rfl rfl) rfl ?_
  refine tri_guard_run rfl rfl rfl ?_
  refine tri_v (opv_leq rfl rfl) rfl ?_
  refine tri_v (opv_pick_t rfl rfl) rfl ?_
  refine tA rfl rfl (tN (tT (tri_ret ?_)))
  refine tri_end _ (⟨[], rfl⟩) rfl (.cons (rv_tmp rfl) .nil) ⟨?_, rfl, rfl⟩
  rw [show decide (0 ≤ j ∧ j ≤ 4611686018427387903) = decide (j ≤ 4611686018427387903) from decide_eq_decide.2 ⟨fun h => h.2, fun h => ⟨h1, h⟩⟩]
  rfl
 ·refine tri_guard_skip rfl rfl rfl rfl (tri_guard_skip rfl rfl rfl rfl ?_)
  refine tri_v (opv_pick_f rfl rfl) rfl ?_
  refine tA rfl rfl (tN (tT (tri_ret ?_)))
  refine tri_end _ (⟨[], rfl⟩) rfl (.cons (rv_tmp rfl) .nil) ⟨?_, rfl, rfl⟩
  rw [decide_eq_false fun h => h1 h.1]
  rfl
set_option maxHeartbeats 1000000 in
set_option maxRecDepth 100000 in
theorem run_clo2 {ns : List Node} {bn bj : Nat} {room n j : Int} (hr : R8.may ns room n 2) (hj : 0 ≤ j ∧ j ≤ 4611686018427387903) (bl bx mb db : Nat) (a : Option Addr) (cap : Nat) (es : KVs) (X Y : Asrt) (hix : Idx ns es) :
  FnC Try.prog 51 [pt bl 0, pt bn 0, pt bj 0].toArray (LxA bl bx mb db a cap ns room es [] (X :: Y :: Box bj [.int .i64 j] 3 :: Box bn [.int .i64 n] 3 :: A)) I (LxS bl bx mb db (R9.runL room (R9.bits j) ⟨ns, []⟩ n) room (X :: Y :: Box bj [.int .i64 j] 3 :: Box bn [.int .i64 n] 3 :: A) I) := by
 obtain ⟨lk, k, hn, hk⟩ := may_lk hr
 skip
 refine fn_enter3 Try.func51 rfl Try.ntmps51 rfl fun w0 => ?_
 refine tS (tR (tA rfl rfl (tA rfl rfl (tN (tT (tS (tR ?_)))))))
 refine tM rfl rfl ?_
 refine tri_v (opv_load1 rfl rfl rfl) rfl ?_
 refine tri_v (opv_load1 rfl rfl rfl) rfl ?_
 refine tri_g (opg_call (xs := [_, _, _]) rfl (leaper_run (s := (⟨ns, []⟩ : R9.LS)) lk hn hix MemIx.nil hj rfl)) rfl ?_
 rintro _ _ _ ⟨a4, c4, es4, ds4, ns4, m4, rfl, rfl, h4, hI⟩
 refine tri_v (opv_extract rfl rfl) rfl ?_
 refine tri_v (opv_extract rfl rfl) rfl ?_
 refine tA rfl rfl (tA rfl rfl (tN (tT (tri_ret ?_))))
 refine tri_end _ (⟨[], rfl⟩) rfl (.cons (rv_tmp rfl) (.cons (rv_tmp rfl) .nil)) ⟨a4, c4, es4, ds4, ns4, m4, rfl, rfl, h4, hI⟩
set_option maxHeartbeats 1000000 in
set_option maxRecDepth 100000 in
theorem leap_run {ns : List Node} {a : Option Addr} {cap : Nat} {room n j : Int} (hs : StA I a cap ns) (hn : ns.length ≤ 1000000000) :
  FnC Try.prog 20 [storeV a ns.length cap room, .int .i64 n, .int .i64 j].toArray A I (StoreR (R9.runT ns room n j) room A I) := by
 skip
 refine fn_enter3 Try.func20 rfl Try.ntmps20 rfl fun w0 => ?_
 refine tS (tR ?_)
 refine tri_g (opg_box_agg rfl) rfl ?_
 rintro _ _ _ ⟨b3, rfl, rfl, rfl⟩
 refine tri_g (opg_box1 rfl rfl) rfl ?_
 rintro _ _ _ ⟨b4, rfl, rfl, rfl⟩
 refine tri_g (opg_box1 rfl rfl) rfl ?_
 rintro _ _ _ ⟨b5, rfl, rfl, rfl⟩
 refine tri_g opg_alloc rfl ?_
 rintro _ _ _ ⟨b6, rfl, rfl, rfl⟩
 refine tA rfl rfl (tA rfl rfl (tN (tT (tS (tR ?_)))))
 refine tri_v (opv_loadA rfl rfl rfl) rfl ?_
 refine tri_v (opv_load1 rfl rfl rfl) rfl ?_
 refine tri_v (opv_makeFunc (fs := []) (cs := [_]) (vf := []) (vc := [_]) rfl rfl) rfl ?_
 refine tri_v (opv_makeFunc (fs := []) (cs := [_, _]) (vf := []) (vc := [_, _]) rfl rfl) rfl ?_
 refine tri_perm (A := ?a2_0 :: ?a2_1 :: ?a2_2 :: ?a2_3 :: ?T2) (B := ?a2_1 :: ?a2_2 :: ?a2_0 :: ?a2_3 :: ?T2) (by exact permL [1, 2, 0, 3] [?a2_0, ?a2_1, ?a2_2, ?a2_3] ?T2 (by decide) rfl) ?_
 refine tri_g (opg_call (xs := [_, _, _, _]) rfl (leap_told (ca1 := [_]) (ca2 := [_, _]) (p := 0 ≤ j ∧ j ≤ 4611686018427387903) (r := R9.runL room (R9.bits j) ⟨ns, []⟩ n) hs hn (fun hr bl bx mb db a cap es X Y hix => run_clo1 hr bl bx mb db a cap es X Y hix) (fun hr hp bl bx mb db a cap es X Y hix => run_clo2 hr hp bl bx mb db a cap es X Y hix))) rfl ?_
 rintro _ _ _ ⟨a2, c2, rfl, hs2, rfl, hI⟩
 refine tri_v (opv_extract rfl rfl) rfl ?_
 refine tri_v (opv_extract rfl rfl) rfl ?_
 refine tri_v (opv_extract rfl rfl) rfl ?_
 refine tri_g (opg_store rfl rfl rfl rfl rfl rfl) rfl ?_
 rintro _ _ _ ⟨rfl, rfl⟩
 refine tA rfl rfl (tA rfl rfl (tN (tT (tri_ret ?_))))
 refine tri_end A Suf.h rfl (.cons (rv_cellA rfl rfl rfl) (.cons (rv_tmp rfl) (.cons (rv_tmp rfl) .nil))) ⟨a2, c2, rfl, hs2, rfl, hI⟩
set_option maxHeartbeats 1000000 in
set_option maxRecDepth 100000 in
theorem trim_clo1 {ns : List Node} {bn : Nat} {room n : Int} (bl bx mb db : Nat) (a : Option Addr) (cap : Nat) (es : KVs) (X Y : Asrt) :
  FnC Try.prog 46 [pt bl 0].toArray (LxA bl bx mb db a cap ns room es [] (X :: Y :: Box bn [.int .i64 n] 3 :: A)) I (fun v A' I' => v = .bool (decide True) ∧ LxA bl bx mb db a cap ns room es [] (X :: Y :: Box bn [.int .i64 n] 3 :: A) = A' ∧ I = I') := by
 skip
 refine fn_enter1 Try.func46 rfl Try.ntmps46 rfl fun w0 => ?_
 refine tS (tR (tA rfl rfl (tN (tT (tS (tR (tA rfl rfl ?_)))))))
 refine tN (tT (tri_ret ?_))
 refine tri_end _ (⟨[], rfl⟩) rfl (.cons (rv_tmp rfl) .nil) ⟨rfl, rfl, rfl⟩
set_option maxHeartbeats 1000000 in
set_option maxRecDepth 100000 in
theorem trim_clo2 {ns : List Node} {bn : Nat} {room n : Int} (hr : R8.may ns room n 2) (bl bx mb db : Nat) (a : Option Addr) (cap : Nat) (es : KVs) (X Y : Asrt) (hix : Idx ns es) :
  FnC Try.prog 47 [pt bl 0, pt bn 0].toArray (LxA bl bx mb db a cap ns room es [] (X :: Y :: Box bn [.int .i64 n] 3 :: A)) I (LxS bl bx mb db (R9.trimS room ⟨ns, []⟩ n) room (X :: Y :: Box bn [.int .i64 n] 3 :: A) I) := by
 obtain ⟨lk, k, hn, hk⟩ := may_lk hr
 unfold R9.trimS
 rw [hk]
 skip
 refine fn_enter2 Try.func47 rfl Try.ntmps47 rfl fun w0 => ?_
 refine tS (tR (tA rfl rfl (tA rfl rfl (tN (tT (tS (tR ?_)))))))
 refine tM rfl rfl ?_
 refine tri_v (opv_load1 rfl rfl rfl) rfl ?_
 refine tri_g (opg_call (xs := [_, _]) rfl (leaper_trim (s := (⟨ns, []⟩ : R9.LS)) lk hn hix MemIx.nil rfl)) rfl ?_
 rintro _ _ _ ⟨a4, c4, es4, ds4, ns4, m4, rfl, rfl, h4, rfl⟩
 refine tri_v (opv_extract rfl rfl) rfl ?_
 refine tri_v (opv_extract rfl rfl) rfl ?_
 refine tA rfl rfl (tA rfl rfl (tN (tT (tri_ret ?_))))
 refine tri_end _ (⟨[], rfl⟩) rfl (.cons (rv_tmp rfl) (.cons (rv_tmp rfl) .nil)) ⟨a4, c4, es4, ds4, ns4, m4, rfl, rfl, h4, fun _ h => h⟩
set_option maxHeartbeats 1000000 in
set_option maxRecDepth 100000 in
theorem leap_trim {ns : List Node} {a : Option Addr} {cap : Nat} {room n : Int} (hs : StA I a cap ns) (hn : ns.length ≤ 1000000000) :
  FnC Try.prog 18 [storeV a ns.length cap room, .int .i64 n].toArray A I (StoreR (R9.trimT ns room n) room A I) := by
 have e : R9.trimT ns room n = toldL ns room n True (R9.trimS room ⟨ns, []⟩ n) := by
  unfold R9.trimT toldL
  by_cases h : R8.may ns room n 2
  ·rw [if_pos h, if_pos ⟨h, trivial⟩]
  ·rw [if_neg h, if_neg fun x => h x.1]
 rw [e]
 skip
 refine fn_enter2 Try.func18 rfl Try.ntmps18 rfl fun w0 => ?_
 refine tS (tR ?_)
 refine tri_g (opg_box_agg rfl) rfl ?_
 rintro _ _ _ ⟨b2, rfl, rfl, rfl⟩
 refine tri_g (opg_box1 rfl rfl) rfl ?_
 rintro _ _ _ ⟨b3, rfl, rfl, rfl⟩
 refine tri_g opg_alloc rfl ?_
 rintro _ _ _ ⟨b4, rfl, rfl, rfl⟩
 refine tA rfl rfl (tA rfl rfl (tN (tT (tS (tR ?_)))))
 refine tri_v (opv_loadA rfl rfl rfl) rfl ?_
 refine tri_v (opv_load1 rfl rfl rfl) rfl ?_
 refine tri_v (opv_makeFunc (fs := []) (cs := [_]) (vf := []) (vc := [_]) rfl rfl) rfl ?_
 refine tri_perm (A := ?a3_0 :: ?a3_1 :: ?a3_2 :: ?T3) (B := ?a3_1 :: ?a3_0 :: ?a3_2 :: ?T3) (by exact permL [1, 0, 2] [?a3_0, ?a3_1, ?a3_2] ?T3 (by decide) rfl) ?_
 refine tri_g (opg_call (xs := [_, _, _, _]) rfl (leap_told (ca1 := []) (ca2 := [_]) (p := True) (r := R9.trimS room ⟨ns, []⟩ n) hs hn (fun hr bl bx mb db a cap es X Y hix => trim_clo1 bl bx mb db a cap es X Y) (fun hr _ bl bx mb db a cap es X Y hix => trim_clo2 hr bl bx mb db a cap es X Y hix))) rfl ?_
 rintro _ _ _ ⟨a2, c2, rfl, hs2, rfl, hI⟩
 refine tri_v (opv_extract rfl rfl) rfl ?_
 refine tri_v (opv_extract rfl rfl) rfl ?_
 refine tri_v (opv_extract rfl rfl) rfl ?_
 refine tri_g (opg_store rfl rfl rfl rfl rfl rfl) rfl ?_
 rintro _ _ _ ⟨rfl, rfl⟩
 refine tA rfl rfl (tA rfl rfl (tN (tT (tri_ret ?_))))
 refine tri_end A Suf.h rfl (.cons (rv_cellA rfl rfl rfl) (.cons (rv_tmp rfl) (.cons (rv_tmp rfl) .nil))) ⟨a2, c2, rfl, hs2, rfl, hI⟩
end Go.GL

set_option linter.unusedVariables false
namespace Go.GL
namespace RL
def glider : List Cell := [⟨0, 0⟩, ⟨1, 1⟩, ⟨-1, 2⟩, ⟨0, 2⟩, ⟨1, 2⟩]
def awM9 : List Node × Int × Int := R7.make [R6.n0, R6.n1] 9000 glider 4
def awA9 : List Node × Int × Int := R9.runT awM9.1 9000 awM9.2.1 4
def awB9 : List Node × Int × Int := R9.leapT awM9.1 9000 awM9.2.1 2
def awT9 : List Node × Int × Int := R9.trimT awM9.1 9000 awM9.2.1
set_option maxRecDepth 100000 in
theorem aw9_ok : (R6.right awM9.1 9000 ∧ R6.inS awM9.1 awM9.2.1)
  ∧ (0 ≤ awA9.2.1 ∧ awA9.2.1 < awA9.1.length ∧ awA9.2.2 = 0 ∧ 2 ≤ (awA9.1.getD awA9.2.1.toNat default).lv ∧ R6.right awA9.1 9000 ∧ (R7.of awA9.1 awA9.2.1).length = 5)
  ∧ (0 ≤ awB9.2.1 ∧ awB9.2.1 < awB9.1.length ∧ 3 ≤ awB9.1.length ∧ awB9.2.2 = 0 ∧ (awB9.1.getD awB9.2.1.toNat default).lv = 3 ∧ (awB9.1.getD awB9.2.1.toNat default).pop = 5)
  ∧ (0 ≤ awT9.2.1 ∧ awT9.2.1 < awT9.1.length ∧ awT9.2.2 = 0 ∧ (awT9.1.getD awT9.2.1.toNat default).lv = 3)
  ∧ (R9.leapT awM9.1 9000 awM9.2.1 3).2.2 = 1 ∧ (R9.runT awM9.1 9000 awM9.2.1 2305843009213693952).2.2 = 2 := by
 refine ⟨by decide +kernel, by decide +kernel, by decide +kernel, by decide +kernel, by decide +kernel, by decide +kernel⟩
end RL
end Go.GL

set_option linter.unusedVariables false
namespace Go.GL
open Go.Proofs
attribute [local irreducible] wpList Code.wp Exit.then Exit.inBlock Ends Tri TriH OpV OpG FnC epf wpAnyH
variable {A : List Asrt} {I : List Chunk}
set_option maxRecDepth 100000 in
theorem law09_glider : FnC Try.prog 32 #[] A I (fun v A' I' => ∃ a' cap', v = .slice a' RL.glider.length cap' ∧ SlAt I' a' RL.glider ∧ A = A' ∧ I ⊆ I') := by
 skip
 refine fn_enter0 Try.func32 rfl Try.ntmps32 rfl fun w0 => ?_
 refine tS (tR (tA rfl rfl (tN (tT (tS (tR ?_))))))
 refine tri_v (opv_buildS rfl rfl) rfl ?_
 refine tri_v (opv_buildS rfl rfl) rfl ?_
 refine tri_v (opv_buildS rfl rfl) rfl ?_
 refine tri_v (opv_buildS rfl rfl) rfl ?_
 refine tri_v (opv_buildS rfl rfl) rfl ?_
 refine tri_g (opg_buildSlice rfl rfl rfl rfl) rfl ?_
 rintro _ _ _ ⟨b6, rfl, rfl, rfl⟩
 refine tA rfl rfl (tN (tT (tri_ret ?_)))
 refine tri_freezeBoxS RL.glider rfl fun I1 hI1 hs1 => ?_
 refine tri_end A Suf.h rfl (.cons (rv_tmp rfl) .nil) ⟨_, _, rfl, hs1, rfl, hI1⟩
theorem ref06_newR {room : Int} {p : List Node × Int} (h : R6.new room = p) : FnC Try.prog 31 [.int .i64 room].toArray A I (fun v A' I' => ∃ a' cap', v = storeV a' p.1.length cap' p.2 ∧ StA I' a' cap' p.1 ∧ A = A' ∧ I ⊆ I') := by
 subst h
 exact ref06_new
theorem ref07_makeR {ns : List Node} {a bb : Option Addr} {cap cap2 : Nat} {room lv : Int} {l : List Cell} {p : List Node × Int × Int} (hs : StA I a cap ns) (hn : ns.length ≤ 1000000000) (hr : R6.Rng ns) (hsl : SlAt I bb l) (hnl : l.length ≤ 1000000000) (h : R7.make ns room l lv = p) :
  FnC Try.prog 30 [storeV a ns.length cap room, .slice bb l.length cap2, .int .i64 lv].toArray A I (StoreR p room A I) := by
 subst h
 exact ref07_make hs hn hr hsl hnl
theorem leap_leapR {ns : List Node} {a : Option Addr} {cap : Nat} {room n j : Int} {p : List Node × Int × Int} (hs : StA I a cap ns) (hn : ns.length ≤ 1000000000) (h : R9.leapT ns room n j = p) :
  FnC Try.prog 15 [storeV a ns.length cap room, .int .i64 n, .int .i64 j].toArray A I (StoreR p room A I) := by
 subst h
 exact leap_leap hs hn
theorem leap_runR {ns : List Node} {a : Option Addr} {cap : Nat} {room n j : Int} {p : List Node × Int × Int} (hs : StA I a cap ns) (hn : ns.length ≤ 1000000000) (h : R9.runT ns room n j = p) :
  FnC Try.prog 20 [storeV a ns.length cap room, .int .i64 n, .int .i64 j].toArray A I (StoreR p room A I) := by
 subst h
 exact leap_run hs hn
theorem leap_trimR {ns : List Node} {a : Option Addr} {cap : Nat} {room n : Int} {p : List Node × Int × Int} (hs : StA I a cap ns) (hn : ns.length ≤ 1000000000) (h : R9.trimT ns room n = p) :
  FnC Try.prog 18 [storeV a ns.length cap room, .int .i64 n].toArray A I (StoreR p room A I) := by
 subst h
 exact leap_trim hs hn
set_option maxHeartbeats 2000000 in
set_option maxRecDepth 100000 in
theorem law09_awake : FnC Try.prog 12 #[] A I (fun v A' I' => v = .bool true ∧ A = A' ∧ I ⊆ I') := by
 obtain ⟨⟨hmr, hmi⟩, ⟨a1, a2, a3, a4, a5, a6⟩, ⟨g1, g2, g3, g4, g5, g6⟩, ⟨t1, t2, t3, t4⟩, e1, e2⟩ := RL.aw9_ok
 have eN : R6.new 9000 = ([R6.n0, R6.n1], 9000) := by decide
 obtain ⟨M, eM⟩ : ∃ M, RL.awM9 = M := ⟨_, rfl⟩
 obtain ⟨rA, eA⟩ : ∃ M, RL.awA9 = M := ⟨_, rfl⟩
 obtain ⟨rB, eB⟩ : ∃ M, RL.awB9 = M := ⟨_, rfl⟩
 obtain ⟨rT, eT⟩ : ∃ M, RL.awT9 = M := ⟨_, rfl⟩
 have eM' : R7.make [R6.n0, R6.n1] 9000 RL.glider 4 = M := eM
 have eA' : R9.runT M.1 9000 M.2.1 4 = rA := by rw [← eM]; exact eA
 have eB' : R9.leapT M.1 9000 M.2.1 2 = rB := by rw [← eM]; exact eB
 have eT' : R9.trimT M.1 9000 M.2.1 = rT := by rw [← eM]; exact eT
 rw [eM] at hmr hmi e1 e2
 rw [eA] at a1 a2 a3 a4 a5 a6
 rw [eB] at g1 g2 g3 g4 g5 g6
 rw [eT] at t1 t2 t3 t4
 obtain ⟨rC, eC⟩ : ∃ r, R9.leapT M.1 9000 M.2.1 3 = r := ⟨_, rfl⟩
 obtain ⟨rD, eD⟩ : ∃ r, R9.runT M.1 9000 M.2.1 2305843009213693952 = r := ⟨_, rfl⟩
 rw [eC] at e1
 rw [eD] at e2
 have hml : M.1.length ≤ 1000000000 := by have := hmr.1; omega
 skip
 refine fn_enter0 Try.func12 rfl Try.ntmps12 rfl fun w0 => ?_
 refine tS (tR (tA rfl rfl (tN (tT (tS (tR ?_))))))
 refine tri_g (opg_call (xs := [_]) rfl (ref06_newR eN)) rfl ?_
 rintro _ _ I0 ⟨x0, y0, rfl, hs0, rfl, hI0⟩
 skip
 refine tri_g (opg_call (xs := []) rfl (law09_glider)) rfl ?_
 rintro _ _ I1 ⟨x1, y1, rfl, hs1, rfl, hI1⟩
 skip
 refine tri_g (opg_call (xs := [_, _, _]) rfl (ref07_makeR (hs0.mono hI1) (by decide) (by unfold R6.Rng; decide) hs1 (by decide) eM')) rfl ?_
 rintro _ _ I2 ⟨x2, y2, rfl, hs2, rfl, hI2⟩
 refine tM rfl rfl ?_
 refine tri_v (opv_extract rfl rfl) rfl ?_
 refine tri_v (opv_extract rfl rfl) rfl ?_
 refine tri_v (opv_extract rfl rfl) rfl ?_
 refine tri_g opg_alloc rfl ?_
 rintro _ _ _ ⟨b1, rfl, rfl, rfl⟩
 refine tri_g (opg_store rfl rfl rfl rfl rfl rfl) rfl ?_
 rintro _ _ _ ⟨rfl, rfl⟩
 refine tA rfl rfl (tA rfl rfl (tN (tT (tS (tR ?_)))))
 refine tri_v (opv_loadA rfl rfl rfl) rfl ?_
 refine tM rfl rfl ?_
 refine tri_g (opg_call (xs := [_, _, _]) rfl (leap_runR hs2 hml eA')) rfl ?_
 rintro _ _ I3 ⟨x3, y3, rfl, hs3, rfl, hI3⟩
 refine tM rfl rfl ?_
 refine tri_v (opv_extract rfl rfl) rfl ?_
 refine tri_v (opv_extract rfl rfl) rfl ?_
 refine tri_v (opv_extract rfl rfl) rfl ?_
 refine tri_g opg_alloc rfl ?_
 rintro _ _ _ ⟨b4, rfl, rfl, rfl⟩
 refine tri_g (opg_store rfl rfl rfl rfl rfl rfl) rfl ?_
 rintro _ _ _ ⟨rfl, rfl⟩
 refine tA rfl rfl (tA rfl rfl (tN (tT (tS (tR ?_)))))
 refine tri_v (opv_loadA rfl rfl rfl) rfl ?_
 refine tM rfl rfl ?_
 refine tri_g (opg_call (xs := [_, _, _]) rfl (leap_leapR (hs2.mono hI3) hml eB')) rfl ?_
 rintro _ _ I4 ⟨x4, y4, rfl, hs4, rfl, hI4⟩
 refine tM rfl rfl ?_
 refine tri_v (opv_extract rfl rfl) rfl ?_
 refine tri_v (opv_extract rfl rfl) rfl ?_
 refine tri_v (opv_extract rfl rfl) rfl ?_
 refine tri_g opg_alloc rfl ?_
 rintro _ _ _ ⟨b7, rfl, rfl, rfl⟩
 refine tri_g (opg_store rfl rfl rfl rfl rfl rfl) rfl ?_
 rintro _ _ _ ⟨rfl, rfl⟩
 refine tA rfl rfl (tA rfl rfl (tN (tT (tS (tR ?_)))))
 refine tri_v (opv_loadA rfl rfl rfl) rfl ?_
 refine tM rfl rfl ?_
 refine tri_g (opg_call (xs := [_, _]) rfl (leap_trimR ((hs2.mono hI3).mono hI4) hml eT')) rfl ?_
 rintro _ _ I5 ⟨x5, y5, rfl, hs5, rfl, hI5⟩
 refine tM rfl rfl ?_
 refine tri_v (opv_extract rfl rfl) rfl ?_
 refine tri_v (opv_extract rfl rfl) rfl ?_
 refine tri_v (opv_extract rfl rfl) rfl ?_
 refine tri_g opg_alloc rfl ?_
 rintro _ _ _ ⟨b10, rfl, rfl, rfl⟩
 refine tri_g (opg_store rfl rfl rfl rfl rfl rfl) rfl ?_
 rintro _ _ _ ⟨rfl, rfl⟩
 refine tA rfl rfl (tA rfl rfl (tN (tT (tS (tR ?_)))))
 refine tri_v (opv_loadA rfl rfl rfl) rfl ?_
 refine tM rfl rfl ?_
 refine tri_g (opg_call (xs := [_, _, _]) rfl (leap_leapR (((hs2.mono hI3).mono hI4).mono hI5) hml eC)) rfl ?_
 rintro _ _ I6 ⟨x6, y6, rfl, hs6, rfl, hI6⟩
 refine tM rfl rfl ?_
 refine tri_v (opv_extract rfl rfl) rfl ?_
 refine tri_v (opv_extract rfl rfl) rfl ?_
 refine tri_v (opv_extract rfl rfl) rfl ?_
 refine tri_g opg_alloc rfl ?_
 rintro _ _ _ ⟨b13, rfl, rfl, rfl⟩
 refine tri_g (opg_store rfl rfl rfl rfl rfl rfl) rfl ?_
 rintro _ _ _ ⟨rfl, rfl⟩
 refine tA rfl rfl (tA rfl rfl (tN (tT (tS (tR ?_)))))
 refine tri_v (opv_loadA rfl rfl rfl) rfl ?_
 refine tM rfl rfl ?_
 refine tri_g (opg_call (xs := [_, _, _]) rfl (leap_runR ((((hs2.mono hI3).mono hI4).mono hI5).mono hI6) hml eD)) rfl ?_
 rintro _ _ I7 ⟨x7, y7, rfl, hs7, rfl, hI7⟩
 have sA : SlAt I7 x3 rA.1 := ((((hs3.mono hI4).mono hI5).mono hI6).mono hI7).sl
 have sB : SlAt I7 x4 rB.1 := (((hs4.mono hI5).mono hI6).mono hI7).sl
 have sT : SlAt I7 x5 rT.1 := ((hs5.mono hI6).mono hI7).sl
 refine tM rfl rfl ?_
 refine tri_v (opv_extract rfl rfl) rfl ?_
 refine tri_v (opv_extract rfl rfl) rfl ?_
 refine tri_v (opv_extract rfl rfl) rfl ?_
 refine tri_g opg_alloc rfl ?_
 rintro _ _ _ ⟨b16, rfl, rfl, rfl⟩
 refine tri_g (opg_store rfl rfl rfl rfl rfl rfl) rfl ?_
 rintro _ _ _ ⟨rfl, rfl⟩
 refine tA rfl rfl (tA rfl rfl (tN (tT (tS (tS (tR (tM rfl rfl ?_)))))))
 refine tri_v (opv_fieldAddr rfl rfl) rfl ?_
 refine tri_v (opv_load1 rfl rfl rfl) rfl ?_
 refine tri_v (opv_len rfl) rfl ?_
 refine tri_v (opv_geq rfl rfl) rfl ?_
 refine tM rfl rfl ?_
 refine tri_false rfl rfl (by omega) ?_
 refine tri_guard_run rfl rfl rfl (tM rfl rfl (tri_guard_run rfl rfl rfl ?_))
 refine tri_v (opv_fieldAddr rfl rfl) rfl ?_
 refine tri_guard_run rfl rfl rfl ?_
 refine tri_v (opv_load1 rfl rfl rfl) rfl ?_
 refine tri_guard_run rfl rfl rfl ?_
 refine tri_v (opv_len rfl) rfl ?_
 refine tri_guard_run rfl rfl rfl ?_
 refine tri_v (opv_geq rfl rfl) rfl ?_
 refine tri_v (opv_pick_f rfl rfl) rfl ?_
 refine tM rfl rfl ?_
 refine tri_false rfl rfl (by omega) ?_
 refine tri_guard_run rfl rfl rfl (tM rfl rfl (tri_guard_run rfl rfl rfl ?_))
 refine tri_v (opv_fieldAddr rfl rfl) rfl ?_
 refine tri_guard_run rfl rfl rfl ?_
 refine tri_v (opv_load1 rfl rfl rfl) rfl ?_
 refine tri_guard_run rfl rfl rfl ?_
 refine tri_v (opv_len rfl) rfl ?_
 refine tri_guard_run rfl rfl rfl ?_
 refine tri_v (opv_geq rfl rfl) rfl ?_
 refine tri_v (opv_pick_f rfl rfl) rfl ?_
 refine tM rfl rfl ?_
 refine tri_false rfl rfl (by omega) ?_
 refine tri_guard_run rfl rfl rfl ?_
 refine tri_v (opv_fieldAddr rfl rfl) rfl ?_
 refine tri_guard_run rfl rfl rfl ?_
 refine tri_v (opv_load1 rfl rfl rfl) rfl ?_
 refine tri_guard_run rfl rfl rfl ?_
 refine tri_v (opv_len rfl) rfl ?_
 refine tri_guard_run rfl rfl rfl ?_
 refine tri_v (opv_lss rfl rfl) rfl ?_
 refine tri_v (opv_pick_f rfl rfl) rfl ?_
 refine tM rfl rfl ?_
 refine tri_false rfl rfl (by omega) ?_
 refine tri_guard_run rfl rfl rfl ?_
 refine tri_v (opv_fieldAddr rfl rfl) rfl ?_
 refine tri_guard_run rfl rfl rfl ?_
 refine tri_v (opv_load1 rfl rfl rfl) rfl ?_
 refine tri_guard_run rfl rfl rfl (tM rfl rfl (tri_guard_run rfl rfl rfl ?_))
 refine tri_v (opv_indexAddrS rfl rfl (by omega) (by omega) (by assumption) rfl) rfl ?_
 refine tri_guard_run rfl rfl rfl ?_
 refine tri_v (opv_fieldAddrE rfl (by assumption) (by omega) rfl) rfl ?_
 refine tri_guard_run rfl rfl rfl ?_
 refine tri_v (opv_loadE1 rfl (by assumption) rfl (by omega) rfl rfl) rfl ?_
 refine tri_guard_run rfl rfl rfl ?_
 refine tri_v (opv_lss rfl rfl) rfl ?_
 refine tri_v (opv_pick_f rfl rfl) rfl ?_
 refine tN (tT ?_)
 refine tri_cond_not rfl (by omega) ?_
 refine tri_skip (tT (tS (tR ?_)))
 refine tri_v (opv_loadA rfl rfl rfl) rfl ?_
 refine tM rfl rfl ?_
 refine tri_g (opg_call (xs := [_, _]) rfl (ref07_of a5 sA ⟨a1, a2⟩ (show 1 ≤ (R6.nd rA.1 rA.2.1).lv by unfold R6.nd; omega) (by omega))) rfl ?_
 rintro _ _ I8 ⟨x8, y8, rfl, hs8, rfl, hI8⟩
 have sB' := sB.mono hI8
 have sT' := sT.mono hI8
 rw [a6]
 refine tA rfl rfl (tN (tT (tS (tR (tM rfl rfl ?_)))))
 refine tri_v (opv_eql rfl rfl) rfl ?_
 refine tM rfl rfl ?_
 refine tri_true rfl rfl (a3) ?_
 refine tri_guard_run rfl rfl rfl (tM rfl rfl (tri_guard_run rfl rfl rfl ?_))
 refine tri_v (opv_len rfl) rfl ?_
 refine tri_guard_run rfl rfl rfl ?_
 refine tri_v (opv_eql rfl rfl) rfl ?_
 refine tri_v (opv_pick_t rfl rfl) rfl ?_
 refine tM rfl rfl ?_
 refine tri_true rfl rfl (by decide) ?_
 refine tri_guard_run rfl rfl rfl (tM rfl rfl (tri_guard_run rfl rfl rfl ?_))
 refine tri_v (opv_eql rfl rfl) rfl ?_
 refine tri_v (opv_pick_t rfl rfl) rfl ?_
 refine tM rfl rfl ?_
 refine tri_true rfl rfl (g4) ?_
 refine tri_guard_run rfl rfl rfl ?_
 refine tri_v (opv_fieldAddr rfl rfl) rfl ?_
 refine tri_guard_run rfl rfl rfl ?_
 refine tri_v (opv_load1 rfl rfl rfl) rfl ?_
 refine tri_guard_run rfl rfl rfl (tM rfl rfl (tri_guard_run rfl rfl rfl ?_))
 refine tri_v (opv_indexAddrS rfl rfl (by omega) (by omega) (by assumption) rfl) rfl ?_
 refine tri_guard_run rfl rfl rfl ?_
 refine tri_v (opv_fieldAddrE rfl (by assumption) (by omega) rfl) rfl ?_
 refine tri_guard_run rfl rfl rfl ?_
 refine tri_v (opv_loadE1 rfl (by assumption) rfl (by omega) rfl rfl) rfl ?_
 refine tri_guard_run rfl rfl rfl ?_
 refine tri_v (opv_eql rfl rfl) rfl ?_
 refine tri_v (opv_pick_t rfl rfl) rfl ?_
 refine tM rfl rfl ?_
 refine tri_true rfl rfl (g5) ?_
 refine tri_guard_run rfl rfl rfl ?_
 refine tri_v (opv_fieldAddr rfl rfl) rfl ?_
 refine tri_guard_run rfl rfl rfl ?_
 refine tri_v (opv_load1 rfl rfl rfl) rfl ?_
 refine tri_guard_run rfl rfl rfl (tM rfl rfl (tri_guard_run rfl rfl rfl ?_))
 refine tri_v (opv_indexAddrS rfl rfl (by omega) (by omega) (by assumption) rfl) rfl ?_
 refine tri_guard_run rfl rfl rfl ?_
 refine tri_v (opv_fieldAddrE rfl (by assumption) (by omega) rfl) rfl ?_
 refine tri_guard_run rfl rfl rfl ?_
 refine tri_v (opv_loadE1 rfl (by assumption) rfl (by omega) rfl rfl) rfl ?_
 refine tri_guard_run rfl rfl rfl ?_
 refine tri_v (opv_eql rfl rfl) rfl ?_
 refine tri_v (opv_pick_t rfl rfl) rfl ?_
 refine tM rfl rfl ?_
 refine tri_true rfl rfl (g6) ?_
 refine tri_guard_run rfl rfl rfl (tM rfl rfl (tri_guard_run rfl rfl rfl ?_))
 refine tri_v (opv_eql rfl rfl) rfl ?_
 refine tri_v (opv_pick_t rfl rfl) rfl ?_
 refine tM rfl rfl ?_
 refine tri_true rfl rfl (t3) ?_
 refine tri_guard_run rfl rfl rfl ?_
 refine tri_v (opv_fieldAddr rfl rfl) rfl ?_
 refine tri_guard_run rfl rfl rfl ?_
 refine tri_v (opv_load1 rfl rfl rfl) rfl ?_
 refine tri_guard_run rfl rfl rfl (tM rfl rfl (tri_guard_run rfl rfl rfl ?_))
 refine tri_v (opv_indexAddrS rfl rfl (by omega) (by omega) (by assumption) rfl) rfl ?_
 refine tri_guard_run rfl rfl rfl ?_
 refine tri_v (opv_fieldAddrE rfl (by assumption) (by omega) rfl) rfl ?_
 refine tri_guard_run rfl rfl rfl ?_
 refine tri_v (opv_loadE1 rfl (by assumption) rfl (by omega) rfl rfl) rfl ?_
 refine tri_guard_run rfl rfl rfl ?_
 refine tri_v (opv_eql rfl rfl) rfl ?_
 refine tri_v (opv_pick_t rfl rfl) rfl ?_
 refine tM rfl rfl ?_
 refine tri_true rfl rfl (t4) ?_
 refine tri_guard_run rfl rfl rfl (tM rfl rfl (tri_guard_run rfl rfl rfl ?_))
 refine tri_v (opv_eql rfl rfl) rfl ?_
 refine tri_v (opv_pick_t rfl rfl) rfl ?_
 refine tM rfl rfl ?_
 refine tri_true rfl rfl (e1) ?_
 refine tri_guard_run rfl rfl rfl (tM rfl rfl (tri_guard_run rfl rfl rfl ?_))
 refine tri_v (opv_eql rfl rfl) rfl ?_
 refine tri_v (opv_pick_t rfl rfl) rfl ?_
 refine tA rfl rfl (tN (tT (tri_ret ?_)))
 refine tri_end A Suf.h rfl (.cons (rv_tmp rfl) .nil) ⟨congrArg Value.bool (decide_eq_true e2), rfl, fun _ h => hI8 (hI7 (hI6 (hI5 (hI4 (hI3 (hI2 (hI1 (hI0 h)))))))) ⟩
end Go.GL

set_option linter.unusedVariables false
namespace Go.GL
open Go.Proofs
attribute [local irreducible] wpList Code.wp Exit.then Exit.inBlock Ends Tri TriH OpV OpG FnC epf wpAnyH
variable {A : List Asrt} {I : List Chunk}
instance : Enc (Int × Int × Int) := ⟨fun p => [.int .i64 p.1, .int .i64 p.2.1, .int .i64 p.2.2], 3, fun _ => rfl, fun _ => rfl⟩
/-- The document's leaper, as it lies in the heap. -/
abbrev LgA (bl : Nat) (a : Option Addr) (cap len : Nat) (room : Int) (ad : Option Addr) (cd : Nat) (mm : R9.Memo) (e : Int) (A : List Asrt) : List Asrt :=
 Box bl [.slice a len cap, .int .i64 room, .slice ad mm.length cd, .int .i64 e] 81 :: Row ad cd mm.length 104 3 (encs mm) :: A
/-- What its functions tell and leave behind. -/
def LgR (bl : Nat) (r : R9.L9) (room : Int) (A : List Asrt) (I : List Chunk) : Value → List Asrt → List Chunk → Prop :=
 fun v A' I' => ∃ a' cap' ad' cd' ns' mm' m, v = .int .i64 m ∧ A' = LgA bl a' cap' (List.length ns') room ad' cd' mm' r.2.2 A ∧ StA I' a' cap' (ns' : List Node) ∧ (r.2.2 = 0 → ns' = r.1.ns ∧ mm' = r.1.mm ∧ m = r.2.1) ∧ I ⊆ I'
theorem er_pick (e : Int) (M : R9.L9) : ∃ R : R9.L9, (e = 0 → M = R) ∧ (e ≠ 0 → R.2.2 = e) := by
 by_cases h : e = 0
 ·exact ⟨M, fun _ => rfl, fun x => absurd h x⟩
 ·exact ⟨(M.1, 0, e), fun x => absurd x h, fun _ => rfl⟩
theorem er_zero {e : Int} {R : R9.L9} (h : e ≠ 0 → R.2.2 = e) (h0 : R.2.2 = 0) : e = 0 := Decidable.byContradiction fun x => x (by rw [← h x]; exact h0)
set_option maxHeartbeats 1000000 in
set_option maxRecDepth 100000 in
theorem ref09_put {ns : List Node} {mm : R9.Memo} {a ad : Option Addr} {cap cd bl : Nat} {room e q0 q1 q2 q3 : Int} {r : R9.L9} (hs : StA I a cap ns) (h0 : e = 0 → R6.Good ns room ∧ R9.putS room ⟨ns, mm⟩ q0 q1 q2 q3 = r) (h1 : e ≠ 0 → r.2.2 = e) :
  FnC Try.prog 91 [pt bl 0, int4V q0 q1 q2 q3].toArray (LgA bl a cap ns.length room ad cd mm e A) I (LgR bl r room A I) := by
 skip
 refine fn_enter2 Try.func91 rfl Try.ntmps91 rfl fun w0 => ?_
 refine tS (tR ?_)
 refine tri_g (opg_box_agg rfl) rfl ?_
 rintro _ _ _ ⟨b3, rfl, rfl, rfl⟩
 refine tA rfl rfl (tN (tT (tS (tS (tR (tM rfl rfl ?_))))))
 refine tri_v (opv_nilCheck rfl) rfl ?_
 refine tri_v (opv_fieldAddr rfl rfl) rfl ?_
 refine tri_v (opv_load1 rfl rfl rfl) rfl ?_
 refine tri_v (opv_neq rfl rfl) rfl ?_
 refine tN (tT ?_)
 refine tri_cond_dec rfl (fun h => ?_) (fun h => ?_)
 ·refine tS (tR (tA rfl rfl (tN (tT (tri_ret (tri_then_ret ?_))))))
  refine tri_end (LgA bl a cap ns.length room ad cd mm e A) Suf.h rfl (.cons (rv_tmp rfl) .nil) ⟨a, cap, ad, cd, ns, mm, 0, rfl, by rw [h1 h], hs, fun x => absurd (er_zero h1 x) h, fun _ h => h⟩
 refine tri_skip (tT (tS ?_))
 refine tri_draw [0, 1, 2, 3, 4, 5, 6, 7, 8, 9, 10, 11, 12, 13] rfl [] rfl mixed ?_
 refine th_take rfl rfl (by kernel_rfl)  (opv_move rfl) ?_
 refine th_take rfl rfl (by kernel_rfl)  (opv_nilCheck rfl) ?_
 refine th_take rfl rfl (by kernel_rfl)  (opv_fieldAddr rfl rfl) ?_
 refine th_take rfl rfl (by kernel_rfl)  (opv_loadA rfl rfl rfl) ?_
 refine th_take rfl rfl (by kernel_rfl)  (opv_loadA rfl rfl rfl) ?_
 obtain ⟨hg, hr⟩ := h0 (Decidable.not_not.1 h)
 have er1 : R6.put ns room q0 q1 q2 q3 = (r.1.ns, r.2.1, r.2.2) := by rw [← hr]; rfl
 have er4 : r.1.mm = mm := by rw [← hr]; rfl
 refine th_two (j := 10) [5, 6, 7, 8, 9, 11, 12, 13] (by kernel_rfl) rfl ?_ ?_
 ·refine (step_m rfl rfl (opg_call (xs := [_, _]) rfl (ref06_putSq hs hg er1)) ?_)
  rintro _ _ I2 ⟨a2, c2, rfl, hs2, rfl, hI⟩
  refine ⟨Suf.h, (by assumption), ?_⟩
  refine th_take rfl rfl (by kernel_rfl)  (opv_move rfl) ?_
  refine th_take rfl rfl (by kernel_rfl)  (opv_extract rfl rfl) ?_
  refine th_take rfl rfl (by kernel_rfl)  (opv_extract rfl rfl) ?_
  refine th_take rfl rfl (by kernel_rfl)  (opv_extract rfl rfl) ?_
  refine th_one (by kernel_rfl) (step_m rfl rfl opg_alloc ?_)
  rintro _ _ _ ⟨b5, rfl, rfl, rfl⟩
  refine ⟨Suf.h, (by assumption), ?_⟩
  refine th_one (by kernel_rfl) (step_m rfl rfl (opg_store rfl rfl rfl rfl rfl rfl) ?_)
  rintro _ _ _ ⟨rfl, rfl⟩
  refine ⟨Suf.h, (by assumption), ?_⟩
  refine th_take rfl rfl (by kernel_rfl)  (opv_assign rfl) ?_
  refine th_take rfl rfl (by kernel_rfl)  (opv_assign rfl) ?_
  refine th_done (by kernel_rfl) ?_
  refine tT (tS (tR (tM rfl rfl ?_)))
  refine tri_v (opv_loadA rfl rfl rfl) rfl ?_
  refine tri_v (opv_nilCheck rfl) rfl ?_
  refine tri_v (opv_fieldAddr rfl rfl) rfl ?_
  refine tri_g (opg_store rfl rfl rfl rfl rfl rfl) rfl ?_
  rintro _ _ _ ⟨rfl, rfl⟩
  refine tN (tT (tS (tR (tM rfl rfl (tM rfl rfl ?_)))))
  refine tri_v (opv_nilCheck rfl) rfl ?_
  refine tri_v (opv_fieldAddr rfl rfl) rfl ?_
  refine tri_g (opg_store rfl rfl rfl rfl rfl rfl) rfl ?_
  rintro _ _ _ ⟨rfl, rfl⟩
  refine tN (tT (tS (tR (tM rfl rfl (tA rfl rfl (tN (tT ?_)))))))
  refine tri_ret ?_
  refine tri_end (LgA bl a2 c2 r.1.ns.length room ad cd mm r.2.2 A) Suf.h rfl (.cons (rv_tmp rfl) .nil) ⟨a2, c2, ad, cd, r.1.ns, mm, r.2.1, rfl, rfl, hs2, fun x => ⟨rfl, er4.symm, rfl⟩, hI⟩
 ·refine (step_m rfl rfl opg_alloc ?_)
  rintro _ _ _ ⟨b5, rfl, rfl, rfl⟩
  refine ⟨Suf.h, (fun _ h => h), ?_⟩
  refine th_one (by kernel_rfl) (step_m rfl rfl (opg_call (xs := [_, _]) rfl (ref06_putSq hs hg er1)) ?_)
  rintro _ _ I2 ⟨a2, c2, rfl, hs2, rfl, hI⟩
  refine ⟨Suf.h, (by assumption), ?_⟩
  refine th_take rfl rfl (by kernel_rfl)  (opv_move rfl) ?_
  refine th_take rfl rfl (by kernel_rfl)  (opv_extract rfl rfl) ?_
  refine th_take rfl rfl (by kernel_rfl)  (opv_extract rfl rfl) ?_
  refine th_take rfl rfl (by kernel_rfl)  (opv_extract rfl rfl) ?_
  refine th_one (by kernel_rfl) (step_m rfl rfl (opg_store rfl rfl rfl rfl rfl rfl) ?_)
  rintro _ _ _ ⟨rfl, rfl⟩
  refine ⟨Suf.h, (by assumption), ?_⟩
  refine th_take rfl rfl (by kernel_rfl)  (opv_assign rfl) ?_
  refine th_take rfl rfl (by kernel_rfl)  (opv_assign rfl) ?_
  refine th_done (by kernel_rfl) ?_
  refine tT (tS (tR (tM rfl rfl ?_)))
  refine tri_v (opv_loadA rfl rfl rfl) rfl ?_
  refine tri_v (opv_nilCheck rfl) rfl ?_
  refine tri_v (opv_fieldAddr rfl rfl) rfl ?_
  refine tri_g (opg_store rfl rfl rfl rfl rfl rfl) rfl ?_
  rintro _ _ _ ⟨rfl, rfl⟩
  refine tN (tT (tS (tR (tM rfl rfl (tM rfl rfl ?_)))))
  refine tri_v (opv_nilCheck rfl) rfl ?_
  refine tri_v (opv_fieldAddr rfl rfl) rfl ?_
  refine tri_g (opg_store rfl rfl rfl rfl rfl rfl) rfl ?_
  rintro _ _ _ ⟨rfl, rfl⟩
  refine tN (tT (tS (tR (tM rfl rfl (tA rfl rfl (tN (tT ?_)))))))
  refine tri_ret ?_
  refine tri_end (LgA bl a2 c2 r.1.ns.length room ad cd mm r.2.2 A) Suf.h rfl (.cons (rv_tmp rfl) .nil) ⟨a2, c2, ad, cd, r.1.ns, mm, r.2.1, rfl, rfl, hs2, fun x => ⟨rfl, er4.symm, rfl⟩, hI⟩
end Go.GL

set_option linter.unusedVariables false
namespace Go.GL
open Go.Proofs
attribute [local irreducible] wpList Code.wp Exit.then Exit.inBlock Ends Tri TriH OpV OpG FnC epf wpAnyH
variable {A : List Asrt} {I : List Chunk}
namespace R9
/-- A round of the document's, that goes on behind an error. -/
structure MP (room : Int) (f : LS → Int → L9) (qs dest : List Int) (r : LS × List Int × Int) (rF : Int) (base : List Node) (Q : Prop) (i : Nat) (t : LS) (l : List Int) (e : Int) : Prop where
 len : l.length = qs.length
 ok : e = 0 → (∃ res, res.length = i ∧ l = midL res dest ∧ r = ((mapS f t (qs.drop i)).1, res ++ (mapS f t (qs.drop i)).2.1, (mapS f t (qs.drop i)).2.2)) ∧ Lk room t ∧ Kn t.mm ∧ base <+: t.ns ∧ (r.2.2 ≠ 0 → rF = r.2.2) ∧ Q
 er : e ≠ 0 → rF = e
theorem MP.step {room : Int} {f : LS → Int → L9} {qs dest : List Int} {r : LS × List Int × Int} {rF : Int} {base : List Node} {Q : Prop} {i : Nat} {t : LS} {l : List Int} {e : Int} (h : MP room f qs dest r rF base Q i t l e) (hd : dest.length = qs.length) (hi : i < qs.length) {R : L9} {lv : Nat} (hR : e = 0 → f t (qs.getD i default) = R) (hRe : e ≠ 0 → R.2.2 = e) (hg : e = 0 → R.2.2 = 0 → Gd room t R lv ∧ Kn R.1.mm) {t' : LS} {m : Int} (hm : R.2.2 = 0 → t' = R.1 ∧ m = R.2.1) : MP room f qs dest r rF base Q (i + 1) t' (l.set i m) R.2.2 := by
 refine ⟨by rw [List.length_set]; exact h.len, fun e0 => ?_, fun e0 => ?_⟩
 ·have e1 : e = 0 := er_zero hRe e0
  obtain ⟨⟨res, h1, h2, h3⟩, h4, h5, h6, h7⟩ := h.ok e1
  obtain ⟨rfl, rfl⟩ := hm e0
  obtain ⟨g, kn⟩ := hg e1 e0
  have nx := (mapS_next h1 hi h3 (hR e1)).1 e0
  exact ⟨⟨res ++ [R.2.1], nx.1, by rw [h2, ← h1]; exact midL_set (by omega) _, nx.2⟩, g.lk, kn, h6.trans g.pre, h7.1, h7.2⟩
 ·by_cases e1 : e = 0
  ·obtain ⟨⟨res, h1, h2, h3⟩, h4, h5, h6, h7⟩ := h.ok e1
   have nx := (mapS_next h1 hi h3 (hR e1)).2 e0
   rw [← nx]
   exact h7.1 (by rw [nx]; exact e0)
  ·rw [hRe e1]; exact h.er e1
theorem MP.last {room : Int} {f : LS → Int → L9} {qs dest : List Int} {r : LS × List Int × Int} {rF : Int} {base : List Node} {Q : Prop} {i : Nat} {t : LS} {l : List Int} {e : Int} (h : MP room f qs dest r rF base Q i t l e) (hd : dest.length = qs.length) (hi : i = qs.length) (h0 : e = 0) : r = (t, l, 0) := by
 obtain ⟨⟨res, h1, h2, h3⟩, _⟩ := h.ok h0
 subst hi
 rw [h3, List.drop_of_length_le (Nat.le_refl _), h2, midL_done (by omega)]
 simp [mapS]
theorem MP.at {room : Int} {f : LS → Int → L9} {qs : List Int} {r : LS × List Int × Int} {rF : Int} {base : List Node} {Q : Prop} {i : Nat} {t : LS} {l : List Int} {e : Int} (h : MP room f qs qs r rF base Q i t l e) (hi : i < qs.length) (h0 : e = 0) : l.getD i default = qs.getD i default := by
 obtain ⟨⟨res, h1, h2, h3⟩, _⟩ := h.ok h0
 rw [h2, ← h1]
 exact midL_at (by omega)
theorem MP.start {room : Int} {f : LS → Int → L9} {qs dest : List Int} {r : LS × List Int × Int} {rF : Int} {Q : Prop} {t : LS} {e : Int} (hd : dest.length = qs.length) (hr : e = 0 → mapS f t qs = r) (hlk : e = 0 → Lk room t ∧ Kn t.mm) (h7 : e = 0 → r.2.2 ≠ 0 → rF = r.2.2) (hq : e = 0 → Q) (her : e ≠ 0 → rF = e) : MP room f qs dest r rF t.ns Q 0 t dest e :=
 ⟨hd, fun h0 => ⟨⟨[], rfl, rfl, by rw [List.drop_zero]; exact (hr h0).symm⟩, (hlk h0).1, (hlk h0).2, List.prefix_refl _, h7 h0, hq h0⟩, her⟩
end R9
theorem ref08_middleR {ns : List Node} {a : Option Addr} {cap : Nat} {room n : Int} {p : List Node × Int × Int} (hs : StA I a cap ns) (hg : R6.Good ns room) (hk : R8.Kid ns n) (he : R8.putSq ns room (R8.s16 ns n) 1 1 = p) :
  FnC Try.prog 75 [storeV a ns.length cap room, .int .i64 n].toArray A I (StoreR p room A I) := by
 subst he
 exact ref08_middle hs hg hk
def LgSpec (k : Nat) : Prop := ∀ (A : List Asrt) (I : List Chunk) (ns : List Node) (mm : R9.Memo) (a ad : Option Addr) (cap cd bl : Nat) (room e n j : Int) (r : R9.L9), StA I a cap ns → (e = 0 → R9.Lk room ⟨ns, mm⟩ ∧ R9.Kn mm ∧ R7.IsN ns (k + 2) n ∧ R9.leap room k ⟨ns, mm⟩ n j = r) → (e ≠ 0 → r.2.2 = e) → 0 ≤ j ∧ j ≤ 1000000 →
 FnC Try.prog 45 [pt bl 0, .int .i64 n, .int .i64 j].toArray (LgA bl a cap ns.length room ad cd mm e A) I (LgR bl r room A I)
set_option maxHeartbeats 2000000 in
set_option maxRecDepth 100000 in
theorem ref09_far {k : Nat} (ih : LgSpec k) {ns : List Node} {mm : R9.Memo} {a ad : Option Addr} {cap cd bl : Nat} {room n j : Int} {full : Bool} {r : R9.L9} (hs : StA I a cap ns) (h : R9.Lk room ⟨ns, mm⟩) (hkn : R9.Kn mm) (hn : R7.IsN ns (k + 3) n) (hj : 0 ≤ j ∧ j ≤ 1000000) (hfull : full = true → 1 ≤ j)
  (hr : R9.far (R9.leap room k) room full ⟨ns, mm⟩ n j = r) :
  FnC Try.prog 71 [pt bl 0, .int .i64 n, .int .i64 j, .bool full].toArray (LgA bl a cap ns.length room ad cd mm 0 A) I (LgR bl r room A I) := by
 have hk := h.kid hn
 have hg := h.good
 simp only at hk hg
 skip
 skip
 refine fn_enter4 Try.func71 rfl Try.ntmps71 rfl fun w0 => ?_
 refine tS (tR (tA rfl rfl (tN (tT (tS (tR (tM rfl rfl ?_)))))))
 refine tri_v (opv_nilCheck rfl) rfl ?_
 refine tri_v (opv_fieldAddr rfl rfl) rfl ?_
 refine tri_v (opv_loadA rfl rfl rfl) rfl ?_
 refine tM rfl rfl ?_
 obtain ⟨X, hX⟩ : ∃ X, R8.all ns room n = X := ⟨_, rfl⟩
 refine tri_g (opg_call (xs := [_, _]) rfl (ref08_all hs hg hk)) rfl ?_
 rintro _ _ I1 ⟨a1, c1, q0, q1, q2, q3, q4, q5, q6, q7, q8, hq, rfl, hs1, rfl, hI1⟩
 rw [hX] at hq hs1
 rw [hX]
 obtain ⟨r1, hr1⟩ : ∃ r1, R9.half (R9.leap room k) room full ⟨ns, mm⟩ n j = r1 := ⟨_, rfl⟩
 unfold R9.far at hr
 rw [hr1] at hr
 have hxg := fun e : X.2.2 = 0 => R9.all_gd h.right hn (by rw [hX]; exact e)
 simp only at hxg
 rw [hX, hq] at hxg
 have hr1' := hr1
 unfold R9.half at hr1'
 simp only at hr1'
 rw [hX, hq] at hr1'
 have hF1 : r1.2.2 ≠ 0 → r.2.2 = r1.2.2 := fun e => by rw [← hr, R9.bindM_err e]
 refine tM rfl rfl ?_
 refine tri_v (opv_extract rfl rfl) rfl ?_
 refine tri_v (opv_extract rfl rfl) rfl ?_
 refine tri_v (opv_extract rfl rfl) rfl ?_
 refine tri_g opg_alloc rfl ?_
 rintro _ _ _ ⟨b9, rfl, rfl, rfl⟩
 refine tri_g opg_alloc rfl ?_
 rintro _ _ _ ⟨b10, rfl, rfl, rfl⟩
 refine tri_g (opg_store rfl rfl rfl rfl rfl rfl) rfl ?_
 rintro _ _ _ ⟨rfl, rfl⟩
 refine tri_g (opg_store rfl rfl rfl rfl rfl rfl) rfl ?_
 rintro _ _ _ ⟨rfl, rfl⟩
 refine tA rfl rfl (tN (tT (tS (tR (tM rfl rfl ?_)))))
 refine tri_v (opv_loadA rfl rfl rfl) rfl ?_
 refine tri_v (opv_nilCheck rfl) rfl ?_
 refine tri_v (opv_fieldAddr rfl rfl) rfl ?_
 refine tri_g (opg_store rfl rfl rfl rfl rfl rfl) rfl ?_
 rintro _ _ _ ⟨rfl, rfl⟩
 refine tN (tT (tS (tR (tM rfl rfl (tM rfl rfl ?_)))))
 refine tri_v (opv_nilCheck rfl) rfl ?_
 refine tri_v (opv_fieldAddr rfl rfl) rfl ?_
 refine tri_g (opg_store rfl rfl rfl rfl rfl rfl) rfl ?_
 rintro _ _ _ ⟨rfl, rfl⟩
 refine tN (tT (tS (tS (tR (tA rfl rfl (tN (tT ?_)))))))
 refine tri_perm (A := ?a1_0 :: ?a1_1 :: ?a1_2 :: ?a1_3 :: ?T1) (B := ?a1_2 :: ?a1_3 :: ?a1_0 :: ?a1_1 :: ?T1) (by exact permL [2, 3, 0, 1] [?a1_0, ?a1_1, ?a1_2, ?a1_3] ?T1 (by decide) rfl) ?_
 rw [show ([.int .i64 q0, .int .i64 q1, .int .i64 q2, .int .i64 q3, .int .i64 q4, .int .i64 q5, .int .i64 q6, .int .i64 q7, .int .i64 q8] : List Value) = ints [q0, q1, q2, q3, q4, q5, q6, q7, q8] from rfl]
 generalize hqs : ([q0, q1, q2, q3, q4, q5, q6, q7, q8] : List Int) = qs at *
 have hl9 : qs.length = 9 := by rw [← hqs]; rfl
 have hmp0 : R9.MP room (R9.halfF (R9.leap room k) room full j) qs qs r1 r.2.2 X.1 (∀ q ∈ qs, R7.IsN X.1 (k + 2) q) 0 ⟨X.1, mm⟩ qs X.2.2 := R9.MP.start (t := ⟨X.1, mm⟩) rfl (fun e => by rw [if_neg (by simpa using e)] at hr1'; exact hr1') (fun e => ⟨⟨(hxg e).1, h.mem.pre (hxg e).2.1⟩, hkn⟩) (fun _ => hF1) (fun e => (hxg e).2.2.2) (fun e => by
  rw [if_pos e] at hr1'
  rw [hF1 (by rw [← hr1']; exact e), ← hr1'])
 refine tri_cut (fun F' A' J => ∃ (t : R9.LS) (a' : Option Addr) (cap' : Nat) (ad' : Option Addr) (cd' : Nat) (l : List Int) (e : Int), F' = [(0, pt bl 0), (2, .int .i64 j), (3, .bool full), (10, pt b10 0)] ∧ A' = LgA bl a' cap' t.ns.length room ad' cd' t.mm e (Box b10 (ints l) 117 :: Box b9 [.slice a1 X.1.length c1, .int .i64 room] 26 :: A) ∧ StA J a' cap' t.ns ∧ I1 ⊆ J ∧ l.length = 9 ∧ (e = 0 → r1 = (t, l, 0) ∧ R9.Lk room t ∧ R9.Kn t.mm) ∧ (e ≠ 0 → r.2.2 = e)) ?_ ?_
 ·refine tri_block ?_
  refine tri_sub (F' := [(0, pt bl 0), (2, .int .i64 j), (3, .bool full), (10, pt b10 0), (12, .int .i64 (0 : Nat))]) ⟨rfl, rfl, rfl, rfl, rfl, trivial⟩ ?_
  refine loop_ind (G := Nat × R9.LS × List Int × Int × Option Addr × Nat × Option Addr × Nat × List Chunk) (fun g => 9 - g.1) (fun g => g.1 ≤ 9 ∧ R9.MP room (R9.halfF (R9.leap room k) room full j) qs qs r1 r.2.2 X.1 (∀ q ∈ qs, R7.IsN X.1 (k + 2) q) g.1 g.2.1 g.2.2.1 g.2.2.2.1 ∧ StA g.2.2.2.2.2.2.2.2 g.2.2.2.2.1 g.2.2.2.2.2.1 g.2.1.ns ∧ I1 ⊆ g.2.2.2.2.2.2.2.2) (fun g => [(0, pt bl 0), (2, .int .i64 j), (3, .bool full), (10, pt b10 0), (12, .int .i64 (g.1 : Nat))]) (fun g => LgA bl g.2.2.2.2.1 g.2.2.2.2.2.1 g.2.1.ns.length room g.2.2.2.2.2.2.1 g.2.2.2.2.2.2.2.1 g.2.1.mm g.2.2.2.1 (Box b10 (ints g.2.2.1) 117 :: Box b9 [.slice a1 X.1.length c1, .int .i64 room] 26 :: A)) (fun g => g.2.2.2.2.2.2.2.2) ?_ (0, ⟨X.1, mm⟩, qs, X.2.2, a1, c1, ad, cd, I1) ⟨by omega, hmp0, hs1, fun _ h => h⟩
  rintro ⟨i, t, l, e, a2, c2, ad2, cd2, I2⟩ ⟨hi, hmp, hs2, hI2⟩ K hK
  simp only at hi hmp hs2 hI2 hK ⊢
  have hll := hmp.len
  rw [hl9] at hll
  skip
  refine tS (tS (tR (tM rfl rfl ?_)))
  refine tri_v (opv_lss rfl rfl) rfl ?_
  refine tM rfl rfl ?_
  refine tri_split rfl rfl (fun h9 => ?_) (fun h9 => ?_)
  ·refine tri_guard_run rfl rfl rfl (tM rfl rfl (tri_guard_run rfl rfl rfl ?_))
   refine tri_v (opv_nilCheck rfl) rfl ?_
   refine tri_guard_run rfl rfl rfl ?_
   refine tri_v (opv_fieldAddr rfl rfl) rfl ?_
   refine tri_guard_run rfl rfl rfl ?_
   refine tri_v (opv_load1 rfl rfl rfl) rfl ?_
   refine tri_guard_run rfl rfl rfl ?_
   refine tri_v (opv_eql rfl rfl) rfl ?_
   refine tri_v (opv_pick_t rfl rfl) rfl ?_
   refine tN (tT ?_)
   refine tri_cond_dec rfl (fun he => ?_) (fun he => ?_)
   ·have hi9 : i < 9 := by omega
    have ei : 0 + ((i : Nat) : Int).toNat * 1 = i := by omega
    obtain ⟨_, hlk, hkt, hpre, _, hQ⟩ := hmp.ok he
    have hat := hmp.at (by omega) he
    have hqn : R7.IsN t.ns (k + 2) (l.getD i default) := by
     rw [hat]
     exact (hQ _ (by simp [show i < qs.length by omega])).pre hpre
    refine tri_skip (tT (tS (tri_block (tS (tS (tR (tM rfl rfl ?_)))))))
    refine tN (tT ?_)
    refine tri_cond rfl (fun hf => ?_) (fun hf => ?_)
    ·have hf1 : full = true := by simpa using hf
     have hj1 := hfull hf1
     obtain ⟨R, hR⟩ : ∃ R, R9.leap room k t (l.getD i default) (j - 1) = R := ⟨_, rfl⟩
     have hgd := fun e : R.2.2 = 0 => R9.leap_gd k t _ (j - 1) hlk hqn (by rw [hR]; exact e)
     have hkd := fun e : R.2.2 = 0 => R9.leap_kn k t _ (j - 1) hlk hqn (by omega) (by rw [hR]; exact e) hkt
     rw [hR] at hgd hkd
     refine tS (tR (tM rfl rfl (tM rfl rfl (tM rfl rfl ?_))))
     refine tri_v (opv_indexAddrA rfl rfl (by omega) (by omega)) rfl ?_
     refine tri_v (opv_loadIX rfl rfl (by omega)) rfl ?_
     refine tM rfl rfl ?_
     refine tri_v (opv_sub rfl rfl (w64 (by omega) (by omega))) rfl ?_
     rw [ei]
     refine tri_g (opg_call (xs := [_, _, _]) rfl (ih _ _ t.ns t.mm _ _ _ _ _ room e _ (j - 1) R hs2 (fun _ => ⟨hlk, hkt, hqn, hR⟩) (fun x => absurd he x) (by omega))) rfl ?_
     rintro _ _ I3 ⟨a3, c3, ad3, cd3, ns3, mm3, m3, rfl, rfl, hs3, hm3, hI3⟩
     refine tri_v (opv_indexAddrA rfl rfl (by omega) (by omega)) rfl ?_
     refine tri_g (opg_storeIX rfl rfl (by omega)) rfl ?_
     rintro _ _ _ ⟨rfl, rfl⟩
     rw [ei]
     refine tN (tT ?_)
     refine tri_exit ?_
     refine tri_then_exit ?_
     refine tri_inBlock_hit rfl ?_
     refine tT (tR (tM rfl rfl ?_))
     refine tU rfl rfl (by omega) (by omega) rfl ?_
     refine tA rfl rfl (tN (tT ?_))
     refine tri_sub ?_ (hK (i + 1, ⟨ns3, mm3⟩, l.set i m3, R.2.2, a3, c3, ad3, cd3, I3) ⟨by simp only; omega, hmp.step rfl (by omega) (fun _ => by unfold R9.halfF; rw [if_pos hf1, ← hat]; exact hR) (fun x => absurd he x) (fun _ x => ⟨hgd x, hkd x⟩) (fun x => ⟨by rw [(hm3 x).1, (hm3 x).2.1], (hm3 x).2.2⟩), hs3, fun _ h => hI3 (hI2 h)⟩ (by simp only; omega))
     exact ⟨rfl, rfl, rfl, rfl, rfl, trivial⟩
    ·have hf1 : ¬ full = true := by simpa using hf
     obtain ⟨R, hR⟩ : ∃ R, R9.midS room t (l.getD i default) = R := ⟨_, rfl⟩
     have hgd := fun e : R.2.2 = 0 => R9.midS_gd (lv := k) hlk hqn (by rw [hR]; exact e)
     rw [hR] at hgd
     have er1 : R8.putSq t.ns room (R8.s16 t.ns (l.getD i default)) 1 1 = (R.1.ns, R.2.1, R.2.2) := by rw [← hR]; rfl
     have er4 : R.1.mm = t.mm := by rw [← hR]; rfl
     refine tri_skip (tT (tS ?_))
     refine tri_cut (fun F' A' J => ∃ b13 a3 c3, F' = [(0, pt bl 0), (2, .int .i64 j), (3, .bool full), (10, pt b10 0), (12, .int .i64 (i : Nat)), (13, pt b13 0), (14, .int .i64 R.2.1), (15, .int .i64 R.2.2)] ∧ A' = Box b13 [.slice a3 R.1.ns.length c3, .int .i64 room] 26 :: LgA bl a2 c2 t.ns.length room ad2 cd2 t.mm e (Box b10 (ints l) 117 :: Box b9 [.slice a1 X.1.length c1, .int .i64 room] 26 :: A) ∧ StA J a3 c3 R.1.ns ∧ I2 ⊆ J) ?_ ?_
     ·refine tri_draw [0, 1, 2, 3, 4, 5, 6, 7, 8, 9, 10, 11, 12, 13, 14, 15] rfl [] rfl mixed ?_
      refine th_take rfl rfl (by kernel_rfl)  (opv_move rfl) ?_
      refine th_take rfl rfl (by kernel_rfl)  (opv_nilCheck rfl) ?_
      refine th_take rfl rfl (by kernel_rfl)  (opv_fieldAddr rfl rfl) ?_
      refine th_take rfl rfl (by kernel_rfl)  (opv_loadA rfl rfl rfl) ?_
      refine th_take rfl rfl (by kernel_rfl)  (opv_move rfl) ?_
      refine th_take rfl rfl (by kernel_rfl)  (opv_indexAddrA rfl rfl (by omega) (by omega)) ?_
      refine th_take rfl rfl (by kernel_rfl)  (opv_loadIX rfl rfl (by omega)) ?_
      rw [ei]
      refine th_two (j := 12) [7, 8, 9, 10, 11, 13, 14, 15] (by kernel_rfl) rfl ?_ ?_
      ·refine (step_m rfl rfl (opg_call (xs := [_, _]) rfl (ref08_middleR hs2 hlk.good (hlk.kid hqn) er1)) ?_)
       rintro _ _ I3 ⟨a3, c3, rfl, hs3, rfl, hI3⟩
       refine ⟨Suf.h, (by assumption), ?_⟩
       refine th_take rfl rfl (by kernel_rfl)  (opv_move rfl) ?_
       refine th_take rfl rfl (by kernel_rfl)  (opv_extract rfl rfl) ?_
       refine th_take rfl rfl (by kernel_rfl)  (opv_extract rfl rfl) ?_
       refine th_take rfl rfl (by kernel_rfl)  (opv_extract rfl rfl) ?_
       refine th_one (by kernel_rfl) (step_m rfl rfl opg_alloc ?_)
       rintro _ _ _ ⟨b13, rfl, rfl, rfl⟩
       refine ⟨Suf.h, (by assumption), ?_⟩
       refine th_one (by kernel_rfl) (step_m rfl rfl (opg_store rfl rfl rfl rfl rfl rfl) ?_)
       rintro _ _ _ ⟨rfl, rfl⟩
       refine ⟨Suf.h, (by assumption), ?_⟩
       refine th_take rfl rfl (by kernel_rfl)  (opv_assign rfl) ?_
       refine th_take rfl rfl (by kernel_rfl)  (opv_assign rfl) ?_
       refine th_done (by kernel_rfl) ?_
       exact tri_cutEnd _ ⟨b13, a3, c3, rfl, rfl, hs3, hI3⟩ ⟨rfl, rfl, rfl, rfl, rfl, rfl, rfl, rfl, trivial⟩
      ·refine (step_m rfl rfl opg_alloc ?_)
       rintro _ _ _ ⟨b13, rfl, rfl, rfl⟩
       refine ⟨Suf.h, (fun _ h => h), ?_⟩
       refine th_one (by kernel_rfl) (step_m rfl rfl (opg_call (xs := [_, _]) rfl (ref08_middleR hs2 hlk.good (hlk.kid hqn) er1)) ?_)
       rintro _ _ I3 ⟨a3, c3, rfl, hs3, rfl, hI3⟩
       refine ⟨Suf.h, (by assumption), ?_⟩
       refine th_take rfl rfl (by kernel_rfl)  (opv_move rfl) ?_
       refine th_take rfl rfl (by kernel_rfl)  (opv_extract rfl rfl) ?_
       refine th_take rfl rfl (by kernel_rfl)  (opv_extract rfl rfl) ?_
       refine th_take rfl rfl (by kernel_rfl)  (opv_extract rfl rfl) ?_
       refine th_one (by kernel_rfl) (step_m rfl rfl (opg_store rfl rfl rfl rfl rfl rfl) ?_)
       rintro _ _ _ ⟨rfl, rfl⟩
       refine ⟨Suf.h, (by assumption), ?_⟩
       refine th_take rfl rfl (by kernel_rfl)  (opv_assign rfl) ?_
       refine th_take rfl rfl (by kernel_rfl)  (opv_assign rfl) ?_
       refine th_done (by kernel_rfl) ?_
       exact tri_cutEnd _ ⟨b13, a3, c3, rfl, rfl, hs3, hI3⟩ ⟨rfl, rfl, rfl, rfl, rfl, rfl, rfl, rfl, trivial⟩
     rintro _ _ I3 ⟨b13, a3, c3, rfl, rfl, hs3, hI3⟩
     skip
     refine tT (tS (tR (tM rfl rfl ?_)))
     refine tri_v (opv_loadA rfl rfl rfl) rfl ?_
     refine tri_v (opv_nilCheck rfl) rfl ?_
     refine tri_v (opv_fieldAddr rfl rfl) rfl ?_
     refine tri_g (opg_store rfl rfl rfl rfl rfl rfl) rfl ?_
     rintro _ _ _ ⟨rfl, rfl⟩
     refine tN (tT (tS (tR (tM rfl rfl (tM rfl rfl ?_)))))
     refine tri_v (opv_nilCheck rfl) rfl ?_
     refine tri_v (opv_fieldAddr rfl rfl) rfl ?_
     refine tri_g (opg_store rfl rfl rfl rfl rfl rfl) rfl ?_
     rintro _ _ _ ⟨rfl, rfl⟩
     refine tN (tT (tR (tM rfl rfl (tM rfl rfl ?_))))
     refine tri_v (opv_indexAddrA rfl rfl (by omega) (by omega)) rfl ?_
     skip
     refine tri_g (opg_storeIX rfl rfl (by omega)) rfl ?_
     rintro _ _ _ ⟨rfl, rfl⟩
     rw [ei]
     refine tN ?_
     refine tri_inBlock ?_
     refine tT (tR (tM rfl rfl ?_))
     refine tU rfl rfl (by omega) (by omega) rfl ?_
     refine tA rfl rfl (tN (tT ?_))
     refine tri_drop ?_
     rw [← er4]
     refine tri_sub ?_ (hK (i + 1, R.1, l.set i R.2.1, R.2.2, a3, c3, ad2, cd2, I3) ⟨by simp only; omega, hmp.step rfl (by omega) (fun _ => by unfold R9.halfF; rw [if_neg hf1, ← hat]; exact hR) (fun x => absurd he x) (fun _ x => ⟨hgd x, by rw [er4]; exact hkt⟩) (fun x => ⟨rfl, rfl⟩), hs3, fun _ h => hI3 (hI2 h)⟩ (by simp only; omega))
     exact ⟨rfl, rfl, rfl, rfl, rfl, trivial⟩
   ·refine tri_exit ?_
    refine tri_then_exit ?_
    refine tri_then_exit ?_
    refine tri_inBlock_hit rfl ?_
    exact tri_cutEnd _ ⟨t, a2, c2, ad2, cd2, l, e, rfl, rfl, hs2, hI2, hll, fun x => absurd x he, hmp.er⟩ ⟨rfl, rfl, rfl, rfl, trivial⟩
  ·refine tri_guard_skip rfl rfl rfl rfl (tri_guard_skip rfl rfl rfl rfl (tri_guard_skip rfl rfl rfl rfl (tri_guard_skip rfl rfl rfl rfl (tri_guard_skip rfl rfl rfl rfl ?_))))
   refine tri_v (opv_pick_f rfl rfl) rfl ?_
   refine tN (tT ?_)
   refine tri_cond_false rfl ?_
   refine tri_exit ?_
   refine tri_then_exit ?_
   refine tri_then_exit ?_
   refine tri_inBlock_hit rfl ?_
   exact tri_cutEnd _ ⟨t, a2, c2, ad2, cd2, l, e, rfl, rfl, hs2, hI2, hll, fun x => ⟨hmp.last rfl (by omega) x, (hmp.ok x).2.1, (hmp.ok x).2.2.1⟩, hmp.er⟩ ⟨rfl, rfl, rfl, rfl, trivial⟩
 rintro _ _ I2 ⟨t, a2, c2, ad2, cd2, l, e, rfl, rfl, hs2, hI2, hll, hok, her⟩
 skip
 refine tT (tS (tR ?_))
 refine tri_g opg_alloc rfl ?_
 rintro _ _ _ ⟨b16, rfl, rfl, rfl⟩
 refine tN (tT (tS (tS (tR (tA rfl rfl (tN (tT ?_)))))))
 refine tri_block ?_
 obtain ⟨r2, hr2⟩ : ∃ r2, R9.mapS (R9.fourP room l) t R9.fourE = r2 := ⟨_, rfl⟩
 have hr' : e = 0 → (R9.bindM r2 fun t l => R9.bindM (R9.mapS (R9.lastF (R9.leap room k) (if full = true then j - 1 else j)) t l) (R9.put4 room)) = r := fun x => by
  rw [(hok x).1, R9.bindM_ok rfl] at hr
  simp only at hr
  rw [hr2] at hr
  exact hr
 have hgl : e = 0 → ∀ q ∈ l, R7.IsN t.ns (k + 1) q := fun x => by
  have := R9.half_gd (fun s q j hs hq he => R9.leap_gd k s q j hs hq he) h hn hr1 (by rw [(hok x).1])
  rw [(hok x).1] at this
  exact this.2.2.2
 have hmp0 : R9.MP room (R9.fourP room l) R9.fourE [0, 0, 0, 0] r2 r.2.2 t.ns (R9.Lk room t ∧ (∀ q ∈ l, R7.IsN t.ns (k + 1) q) ∧ (R9.bindM r2 fun t l => R9.bindM (R9.mapS (R9.lastF (R9.leap room k) (if full = true then j - 1 else j)) t l) (R9.put4 room)) = r) 0 t [0, 0, 0, 0] e := R9.MP.start rfl (fun _ => hr2) (fun x => (hok x).2) (fun x y => by rw [← hr' x, R9.bindM_err y]) (fun x => ⟨(hok x).2.1, hgl x, hr' x⟩) her
 skip
 refine tri_perm (A := ?a2_0 :: ?a2_1 :: ?a2_2 :: ?a2_3 :: ?a2_4 :: ?T2) (B := ?a2_1 :: ?a2_2 :: ?a2_0 :: ?a2_3 :: ?a2_4 :: ?T2) (by exact permL [1, 2, 0, 3, 4] [?a2_0, ?a2_1, ?a2_2, ?a2_3, ?a2_4] ?T2 (by decide) rfl) ?_
 refine tri_sub (F' := [(0, pt bl 0), (2, .int .i64 j), (3, .bool full), (10, pt b10 0), (16, pt b16 0), (17, .int .i64 (0 : Nat))]) ⟨rfl, rfl, rfl, rfl, rfl, rfl, trivial⟩ ?_
 refine loop_ind (G := Nat × R9.LS × List Int × Int × Option Addr × Nat × Option Addr × Nat × List Chunk) (fun g => 4 - g.1) (fun g => g.1 ≤ 4 ∧ R9.MP room (R9.fourP room l) R9.fourE [0, 0, 0, 0] r2 r.2.2 t.ns (R9.Lk room t ∧ (∀ q ∈ l, R7.IsN t.ns (k + 1) q) ∧ (R9.bindM r2 fun t l => R9.bindM (R9.mapS (R9.lastF (R9.leap room k) (if full = true then j - 1 else j)) t l) (R9.put4 room)) = r) g.1 g.2.1 g.2.2.1 g.2.2.2.1 ∧ StA g.2.2.2.2.2.2.2.2 g.2.2.2.2.1 g.2.2.2.2.2.1 g.2.1.ns ∧ I2 ⊆ g.2.2.2.2.2.2.2.2) (fun g => [(0, pt bl 0), (2, .int .i64 j), (3, .bool full), (10, pt b10 0), (16, pt b16 0), (17, .int .i64 (g.1 : Nat))]) (fun g => LgA bl g.2.2.2.2.1 g.2.2.2.2.2.1 g.2.1.ns.length room g.2.2.2.2.2.2.1 g.2.2.2.2.2.2.2.1 g.2.1.mm g.2.2.2.1 (Box b16 (ints g.2.2.1) 33 :: Box b10 (ints l) 117 :: Box b9 [.slice a1 X.1.length c1, .int .i64 room] 26 :: A)) (fun g => g.2.2.2.2.2.2.2.2) ?_ (0, t, [0, 0, 0, 0], e, a2, c2, ad2, cd2, I2) ⟨by omega, hmp0, hs2, fun _ h => h⟩
 clear hmp0 hok her hs2
 rintro ⟨i, t3, l3, e3, a3, c3, ad3, cd3, I3⟩ ⟨hi, hmp, hs3, hI3⟩ K hK
 simp only at hi hmp hs3 hI3 hK ⊢
 have hl3 : l3.length = 4 := hmp.len
 skip
 refine tS (tS (tR (tM rfl rfl ?_)))
 refine tri_v (opv_lss rfl rfl) rfl ?_
 refine tN (tT ?_)
 refine tri_cond_dec rfl (fun h4 => ?_) (fun h4 => ?_)
 ·have hi4 : i < 4 := by omega
  have ei : 0 + ((i : Nat) : Int).toNat * 1 = i := by omega
  have ekk : R9.fourE.getD i default = (i : Int) / 2 * 3 + (i : Int) % 2 := by
   rcases (by omega : i = 0 ∨ i = 1 ∨ i = 2 ∨ i = 3) with rfl | rfl | rfl | rfl <;> rfl
  have eg : ∀ x : Int, l.getD (0 + x.toNat * 1) default = R8.g l x := fun x => by rw [show 0 + x.toNat * 1 = x.toNat by omega]; rfl
  obtain ⟨R, hR0, hRe⟩ := er_pick e3 (R9.fourP room l t3 (R9.fourE.getD i default))
  have hgd := fun (x : e3 = 0) (y : R.2.2 = 0) => R9.putS_gd (lv := k + 1) (hmp.ok x).2.1 (((hmp.ok x).2.2.2.2.2.2.1 _ (R9.g_mem (i := R9.fourE.getD i default) (by rw [ekk]; omega) (by rw [ekk, hll]; omega))).pre (hmp.ok x).2.2.2.1) (show (R9.fourP room l t3 (R9.fourE.getD i default)).2.2 = 0 by rw [hR0 x]; exact y)
  have hgd' : e3 = 0 → R.2.2 = 0 → R9.Gd room t3 R (k + 2) ∧ R9.Kn R.1.mm := fun x y => by
   have := hgd x y
   refine ⟨?_, ?_⟩
   ·rw [← hR0 x]; exact this
   ·rw [← hR0 x]; exact (hmp.ok x).2.2.1
  have e4 : R9.fourP room l t3 (R9.fourE.getD i default) = R9.putS room t3 (l.getD (0 + ((i : Int) / 2 * 3 + (i : Int) % 2).toNat * 1) default) (l.getD (0 + ((i : Int) / 2 * 3 + (i : Int) % 2 + 1).toNat * 1) default) (l.getD (0 + ((i : Int) / 2 * 3 + (i : Int) % 2 + 3).toNat * 1) default) (l.getD (0 + ((i : Int) / 2 * 3 + (i : Int) % 2 + 4).toNat * 1) default) := by
   rw [eg, eg, eg, eg, ekk]; rfl
  refine tri_skip (tT (tS (tri_block (tS (tR (tM rfl rfl ?_))))))
  refine tri_v (opv_quoE rfl rfl (by omega) (by omega) (by omega)) rfl ?_
  refine tri_v (opv_mul rfl rfl (w64 (by omega) (by omega))) rfl ?_
  refine tM rfl rfl ?_
  refine tri_v (opv_remE rfl rfl (by omega) (by omega)) rfl ?_
  refine tU rfl rfl (by omega) (by omega) rfl ?_
  refine tA rfl rfl (tN (tT ?_))
  skip
  refine tri_draw [0, 1, 2, 3, 4, 5, 6, 7, 8, 9, 10, 11, 12, 13, 14, 15, 16, 17, 18, 19, 20] rfl [_, _, _] rfl mixed ?_
  refine th_take rfl rfl (by kernel_rfl)  (opv_move rfl) ?_
  refine th_take rfl rfl (by kernel_rfl)  (opv_move rfl) ?_
  refine th_take rfl rfl (by kernel_rfl)  (opv_move rfl) ?_
  refine th_take rfl rfl (by kernel_rfl)  (opv_indexAddrA rfl rfl (by omega) (by omega)) ?_
  refine th_take rfl rfl (by kernel_rfl)  (opv_loadIX rfl rfl (by omega)) ?_
  refine th_take rfl rfl (by kernel_rfl)  (opv_move rfl) ?_
  refine th_take rfl rfl (by kernel_rfl)  (opv_add rfl rfl (w64 (by omega) (by omega))) ?_
  refine th_take rfl rfl (by kernel_rfl)  (opv_indexAddrA rfl rfl (by omega) (by omega)) ?_
  refine th_take rfl rfl (by kernel_rfl)  (opv_loadIX rfl rfl (by omega)) ?_
  refine th_take rfl rfl (by kernel_rfl)  (opv_move rfl) ?_
  refine th_take rfl rfl (by kernel_rfl)  (opv_add rfl rfl (w64 (by omega) (by omega))) ?_
  refine th_take rfl rfl (by kernel_rfl)  (opv_indexAddrA rfl rfl (by omega) (by omega)) ?_
  refine th_take rfl rfl (by kernel_rfl)  (opv_loadIX rfl rfl (by omega)) ?_
  refine th_take rfl rfl (by kernel_rfl)  (opv_move rfl) ?_
  refine th_take rfl rfl (by kernel_rfl)  (opv_add rfl rfl (w64 (by omega) (by omega))) ?_
  refine th_take rfl rfl (by kernel_rfl)  (opv_indexAddrA rfl rfl (by omega) (by omega)) ?_
  refine th_take rfl rfl (by kernel_rfl)  (opv_loadIX rfl rfl (by omega)) ?_
  refine th_take rfl rfl (by kernel_rfl)  (opv_buildA rfl rfl) ?_
  refine th_one (by kernel_rfl) (step_m rfl rfl (opg_call (xs := [_, _]) rfl (ref09_put (r := R) hs3 (fun x => ⟨(hmp.ok x).2.1.good, e4.symm.trans (hR0 x)⟩) hRe)) ?_)
  rintro _ _ I4 ⟨a4, c4, ad4, cd4, ns4, mm4, m4, rfl, rfl, hs4, hm4, hI4⟩
  refine ⟨Suf.h, (by assumption), ?_⟩
  refine th_take rfl rfl (by kernel_rfl)  (opv_indexAddrA rfl rfl (by omega) (by omega)) ?_
  refine th_one (by kernel_rfl) (step_m rfl rfl (opg_storeIX rfl rfl (by omega)) ?_)
  rintro _ _ _ ⟨rfl, rfl⟩
  refine ⟨Suf.h, (by assumption), ?_⟩
  rw [ei]
  refine th_done (by kernel_rfl) ?_
  refine tri_inBlock ?_
  refine tT (tR (tM rfl rfl ?_))
  refine tU rfl rfl (by omega) (by omega) rfl ?_
  refine tA rfl rfl (tN (tT ?_))
  refine tri_sub ?_ (hK (i + 1, ⟨ns4, mm4⟩, l3.set i m4, R.2.2, a4, c4, ad4, cd4, I4) ⟨by simp only; omega, hmp.step rfl hi4 hR0 hRe hgd' (fun x => ⟨by rw [(hm4 x).1, (hm4 x).2.1], (hm4 x).2.2⟩), hs4, fun _ h => hI4 (hI3 h)⟩ (by simp only; omega))
  exact ⟨rfl, rfl, rfl, rfl, rfl, rfl, trivial⟩
 ·have hr2' := fun x => hmp.last rfl (by show i = 4; omega) x
  have hg2 : e3 = 0 → ∀ q ∈ l3, R7.IsN t3.ns (k + 2) q := fun x => by
   obtain ⟨q1, q2, q3⟩ := (hmp.ok x).2.2.2.2.2
   have := R9.four_gd q1 hll q2 (by rw [hr2, hr2' x])
   rw [hr2, hr2' x] at this
   exact this.2.2.2
  obtain ⟨j', hj'⟩ : ∃ j', (if full = true then j - 1 else j) = j' := ⟨_, rfl⟩
  rw [hj'] at hmp
  have hjb : 0 ≤ j' ∧ j' ≤ 1000000 := by
   rw [← hj']
   split
   ·rename_i x; have := hfull x; omega
   ·omega
  obtain ⟨r3, hr3⟩ : ∃ r3, R9.mapS (R9.lastF (R9.leap room k) j') t3 l3 = r3 := ⟨_, rfl⟩
  have hr'' : e3 = 0 → R9.bindM r3 (R9.put4 room) = r := fun x => by
   have := (hmp.ok x).2.2.2.2.2.2.2
   rw [hr2' x, R9.bindM_ok rfl] at this
   simp only at this
   rw [hr3] at this
   exact this
  have hmp3 : R9.MP room (R9.lastF (R9.leap room k) j') l3 l3 r3 r.2.2 t3.ns ((∀ q ∈ l3, R7.IsN t3.ns (k + 2) q) ∧ R9.bindM r3 (R9.put4 room) = r) 0 t3 l3 e3 := R9.MP.start rfl (fun _ => hr3) (fun x => ⟨(hmp.ok x).2.1, (hmp.ok x).2.2.1⟩) (fun x y => by rw [← hr'' x, R9.bindM_err y]) (fun x => ⟨hg2 x, hr'' x⟩) hmp.er
  clear hmp hr2' hg2 hr'' hK
  refine tri_exit ?_
  refine tri_then_exit ?_
  refine tri_then_exit ?_
  refine tri_inBlock_hit rfl ?_
  refine tT (tS (tS (tR (tA rfl rfl (tN (tT (tri_block ?_)))))))
  refine tri_sub (F' := [(0, pt bl 0), (2, .int .i64 j), (3, .bool full), (16, pt b16 0), (19, .int .i64 (0 : Nat))]) ⟨rfl, rfl, rfl, rfl, rfl, trivial⟩ ?_
  refine loop_ind (G := Nat × R9.LS × List Int × Int × Option Addr × Nat × Option Addr × Nat × List Chunk) (fun g => 4 - g.1) (fun g => g.1 ≤ 4 ∧ R9.MP room (R9.lastF (R9.leap room k) j') l3 l3 r3 r.2.2 t3.ns ((∀ q ∈ l3, R7.IsN t3.ns (k + 2) q) ∧ R9.bindM r3 (R9.put4 room) = r) g.1 g.2.1 g.2.2.1 g.2.2.2.1 ∧ StA g.2.2.2.2.2.2.2.2 g.2.2.2.2.1 g.2.2.2.2.2.1 g.2.1.ns ∧ I3 ⊆ g.2.2.2.2.2.2.2.2) (fun g => [(0, pt bl 0), (2, .int .i64 j), (3, .bool full), (16, pt b16 0), (19, .int .i64 (g.1 : Nat))]) (fun g => LgA bl g.2.2.2.2.1 g.2.2.2.2.2.1 g.2.1.ns.length room g.2.2.2.2.2.2.1 g.2.2.2.2.2.2.2.1 g.2.1.mm g.2.2.2.1 (Box b16 (ints g.2.2.1) 33 :: Box b10 (ints l) 117 :: Box b9 [.slice a1 X.1.length c1, .int .i64 room] 26 :: A)) (fun g => g.2.2.2.2.2.2.2.2) ?_ (0, t3, l3, e3, a3, c3, ad3, cd3, I3) ⟨by omega, hmp3, hs3, fun _ h => h⟩
  clear hmp3 hs3
  rintro ⟨i, t4, l4, e4, a4, c4, ad4, cd4, I4⟩ ⟨hi, hmp, hs4, hI4⟩ K2 hK
  simp only at hi hmp hs4 hI4 hK ⊢
  have hl4 : l4.length = 4 := by rw [hmp.len]; exact hl3
  skip
  refine tS (tS (tR (tM rfl rfl ?_)))
  refine tri_v (opv_lss rfl rfl) rfl ?_
  refine tN (tT ?_)
  refine tri_cond_dec rfl (fun h5 => ?_) (fun h5 => ?_)
  ·have hi4 : i < 4 := by omega
   have ei : 0 + ((i : Nat) : Int).toNat * 1 = i := by omega
   obtain ⟨R, hR0, hRe⟩ := er_pick e4 (R9.leap room k t4 (l4.getD i default) j')
   have hat := fun x => hmp.at (by omega) x
   have hqn : e4 = 0 → R7.IsN t4.ns (k + 2) (l4.getD i default) := fun x => by
    rw [hat x]
    exact ((hmp.ok x).2.2.2.2.2.1 _ (by simp [show i < l3.length by omega])).pre (hmp.ok x).2.2.2.1
   have hR0' : e4 = 0 → R9.lastF (R9.leap room k) j' t4 (l3.getD i default) = R := fun x => by
    rw [← hat x]; exact hR0 x
   have hgd : e4 = 0 → R.2.2 = 0 → R9.Gd room t4 R (k + 1) ∧ R9.Kn R.1.mm := fun x y => by
    have h1 := R9.leap_gd k t4 _ j' (hmp.ok x).2.1 (hqn x) (by rw [hR0 x]; exact y)
    have h2 := R9.leap_kn k t4 _ j' (hmp.ok x).2.1 (hqn x) hjb (by rw [hR0 x]; exact y) (hmp.ok x).2.2.1
    rw [hR0 x] at h1 h2
    exact ⟨h1, h2⟩
   refine tri_skip (tT (tS (tri_block (tS (tR (tM rfl rfl (tN ?_)))))))
   refine tT ?_
   refine tri_cond rfl (fun hf => ?_) (fun hf => ?_)
   ·have hf1 : full = true := by simpa using hf
    rw [if_pos hf1] at hj'
    refine tR (tM rfl rfl (tM rfl rfl (tM rfl rfl ?_)))
    refine tri_v (opv_indexAddrA rfl rfl (by omega) (by omega)) rfl ?_
    refine tri_v (opv_loadIX rfl rfl (by omega)) rfl ?_
    refine tM rfl rfl ?_
    refine tri_v (opv_sub rfl rfl (w64 (by omega) (by omega))) rfl ?_
    rw [ei, hj']
    refine tri_g (opg_call (xs := [_, _, _]) rfl (ih _ _ t4.ns t4.mm _ _ _ _ _ room e4 _ j' R hs4 (fun x => ⟨(hmp.ok x).2.1, (hmp.ok x).2.2.1, hqn x, hR0 x⟩) hRe hjb)) rfl ?_
    rintro _ _ I5 ⟨a5, c5, ad5, cd5, ns5, mm5, m5, rfl, rfl, hs5, hm5, hI5⟩
    refine tri_v (opv_indexAddrA rfl rfl (by omega) (by omega)) rfl ?_
    refine tri_g (opg_storeIX rfl rfl (by omega)) rfl ?_
    rintro _ _ _ ⟨rfl, rfl⟩
    rw [ei]
    refine tN ?_
    refine tri_inBlock ?_
    refine tT (tR (tM rfl rfl ?_))
    refine tU rfl rfl (by omega) (by omega) rfl ?_
    refine tA rfl rfl (tN (tT ?_))
    refine tri_sub ?_ (hK (i + 1, ⟨ns5, mm5⟩, l4.set i m5, R.2.2, a5, c5, ad5, cd5, I5) ⟨by simp only; omega, hmp.step rfl (by omega) hR0' hRe hgd (fun x => ⟨by rw [(hm5 x).1, (hm5 x).2.1], (hm5 x).2.2⟩), hs5, fun _ h => hI5 (hI4 h)⟩ (by simp only; omega))
    exact ⟨rfl, rfl, rfl, rfl, rfl, trivial⟩
   ·have hf1 : ¬ full = true := by simpa using hf
    rw [if_neg hf1] at hj'
    refine tR (tM rfl rfl (tM rfl rfl (tM rfl rfl ?_)))
    refine tri_v (opv_indexAddrA rfl rfl (by omega) (by omega)) rfl ?_
    refine tri_v (opv_loadIX rfl rfl (by omega)) rfl ?_
    refine tM rfl rfl ?_
    rw [ei, hj']
    refine tri_g (opg_call (xs := [_, _, _]) rfl (ih _ _ t4.ns t4.mm _ _ _ _ _ room e4 _ j' R hs4 (fun x => ⟨(hmp.ok x).2.1, (hmp.ok x).2.2.1, hqn x, hR0 x⟩) hRe hjb)) rfl ?_
    rintro _ _ I5 ⟨a5, c5, ad5, cd5, ns5, mm5, m5, rfl, rfl, hs5, hm5, hI5⟩
    refine tri_v (opv_indexAddrA rfl rfl (by omega) (by omega)) rfl ?_
    refine tri_g (opg_storeIX rfl rfl (by omega)) rfl ?_
    rintro _ _ _ ⟨rfl, rfl⟩
    rw [ei]
    refine tN ?_
    refine tri_inBlock ?_
    refine tT (tR (tM rfl rfl ?_))
    refine tU rfl rfl (by omega) (by omega) rfl ?_
    refine tA rfl rfl (tN (tT ?_))
    rw [← hj']
    refine tri_sub ?_ (hK (i + 1, ⟨ns5, mm5⟩, l4.set i m5, R.2.2, a5, c5, ad5, cd5, I5) ⟨by simp only; omega, hmp.step rfl (by omega) hR0' hRe hgd (fun x => ⟨by rw [(hm5 x).1, (hm5 x).2.1], (hm5 x).2.2⟩), hs5, fun _ h => hI5 (hI4 h)⟩ (by simp only; omega))
    exact ⟨rfl, rfl, rfl, rfl, rfl, trivial⟩
  ·have hr3' := fun x => hmp.last rfl (by omega) x
   obtain ⟨p0, p1, p2, p3, hp⟩ := four_len hl4
   have hput : e4 = 0 → R6.Good t4.ns room ∧ R9.putS room ⟨t4.ns, t4.mm⟩ p0 p1 p2 p3 = r := fun x => ⟨(hmp.ok x).2.1.good, by
    have := (hmp.ok x).2.2.2.2.2.2
    rw [hr3' x, R9.bindM_ok rfl, hp] at this
    exact this⟩
   rw [hp]
   refine tri_exit ?_
   refine tri_then_exit ?_
   refine tri_then_exit ?_
   refine tri_inBlock_hit rfl ?_
   refine tT (tS (tR (tM rfl rfl ?_)))
   refine tri_v (opv_loadA rfl rfl rfl) rfl ?_
   refine tri_g (opg_call (xs := [_, _]) rfl (ref09_put (r := r) hs4 hput hmp.er)) rfl ?_
   rintro _ _ I5 ⟨a5, c5, ad5, cd5, ns5, mm5, m5, rfl, rfl, hs5, hm5, hI5⟩
   refine tA rfl rfl (tN (tT (tri_ret ?_)))
   refine tri_perm (A := ?a3_0 :: ?a3_1 :: ?a3_2 :: ?a3_3 :: ?a3_4 :: ?T3) (B := ?a3_2 :: ?a3_3 :: ?a3_4 :: ?a3_0 :: ?a3_1 :: ?T3) (by exact permL [2, 3, 4, 0, 1] [?a3_0, ?a3_1, ?a3_2, ?a3_3, ?a3_4] ?T3 (by decide) rfl) ?_
   refine tri_end (LgA bl a5 c5 ns5.length room ad5 cd5 mm5 r.2.2 A) Suf.h rfl (.cons (rv_tmp rfl) .nil) ⟨a5, c5, ad5, cd5, ns5, mm5, m5, rfl, rfl, hs5, hm5, fun _ h => hI5 (hI4 (hI3 (hI2 (hI1 h))))⟩
end Go.GL

set_option linter.unusedVariables false
namespace Go.GL
open Go.Proofs
attribute [local irreducible] wpList Code.wp Exit.then Exit.inBlock Ends Tri TriH OpV OpG FnC epf wpAnyH
variable {A : List Asrt} {I : List Chunk}
namespace R9
def leapM (room : Int) : Nat → LS → Int → Int → L9
 | 0, s, n, _ => oneS room s n
 | k + 1, s, n, j => far (leap room k) room (decide (j = k + 1)) s n j
theorem leap_none {room : Int} {k : Nat} {s : LS} {n j : Int} (h : look9 s.mm n j = none) : leap room k s n j = keep n j (leapM room k s n j) := by
 cases k with
 | zero => unfold leap; rw [h]; rfl
 | succ k => unfold leap; rw [h]; rfl
theorem leap_some {room : Int} {k : Nat} {s : LS} {n j to : Int} (h : look9 s.mm n j = some to) : leap room k s n j = (s, to, 0) := by
 cases k with
 | zero => unfold leap; rw [h]
 | succ k => unfold leap; rw [h]
theorem leapM_gd {room : Int} {k : Nat} {s : LS} {n j : Int} (h : Lk room s) (hn : R7.IsN s.ns (k + 2) n) (hj : 0 ≤ j ∧ j ≤ 1000000) (hk : Kn s.mm) (he : (leapM room k s n j).2.2 = 0) : Gd room s (leapM room k s n j) (k + 1) ∧ Kn (leapM room k s n j).1.mm := by
 cases k with
 | zero => exact ⟨oneS_gd h he, hk⟩
 | succ k => exact ⟨far_gd (fun s q j hs hq he => leap_gd k s q j hs hq he) h hn he, far_kn (fun s q j hs hq he => leap_gd k s q j hs hq he) (fun s q j hs hq hj he => leap_kn k s q j hs hq hj he) h hn hj (fun e => by have := of_decide_eq_true e; omega) he hk⟩
theorem look9_drop {mm : Memo} {i : Nat} (hi : i < mm.length) (n j : Int) : look9 (mm.drop i) n j = if (mm.getD i default).1 = n ∧ (mm.getD i default).2.1 = j then some (mm.getD i default).2.2 else look9 (mm.drop (i + 1)) n j := by
 rw [List.drop_eq_getElem_cons hi, show mm.getD i default = mm[i] by simp [hi]]
 rfl
end R9
theorem ref08_oneR {ns : List Node} {a : Option Addr} {cap : Nat} {room n : Int} {p : List Node × Int × Int} (hs : StA I a cap ns) (hg : R6.Good ns room) (hk : R8.Kid ns n) (hb : ∀ i, 0 ≤ R8.g (R8.s16 ns n) i ∧ R8.g (R8.s16 ns n) i ≤ 1) (he : R8.one ns room n = p) :
  FnC Try.prog 70 [storeV a ns.length cap room, .int .i64 n].toArray A I (StoreR p room A I) := by
 subst he
 exact ref08_one hs hg hk hb
set_option maxHeartbeats 2000000 in
set_option maxRecDepth 100000 in
theorem ref09_leap_step {k : Nat} (ih : ∀ m, m < k → LgSpec m) : LgSpec k := by
 intro A I ns mm a ad cap cd bl room e n j r hs h0 h1 hj
 have hsl := hs.sl
 skip
 refine fn_enter3 Try.func45 rfl Try.ntmps45 rfl fun w0 => ?_
 refine tS (tR (tA rfl rfl (tN (tT (tS (tS (tR ?_)))))))
 refine tM rfl rfl ?_
 refine tri_v (opv_nilCheck rfl) rfl ?_
 refine tri_v (opv_fieldAddr rfl rfl) rfl ?_
 refine tri_v (opv_load1 rfl rfl rfl) rfl ?_
 refine tri_v (opv_neq rfl rfl) rfl ?_
 refine tN (tT ?_)
 refine tri_cond_dec rfl (fun he => ?_) (fun he => ?_)
 ·refine tS (tR (tA rfl rfl (tN (tT (tri_ret (tri_then_ret ?_))))))
  refine tri_end (LgA bl a cap ns.length room ad cd mm e A) Suf.h rfl (.cons (rv_tmp rfl) .nil) ⟨a, cap, ad, cd, ns, mm, 0, rfl, by rw [h1 he], hs, fun x => absurd (er_zero h1 x) he, fun _ h => h⟩
 refine tri_skip (tT (tS (tS (tR (tA rfl rfl (tN (tT ?_)))))))
 refine tri_block ?_
 have he0 : e = 0 := Decidable.not_not.1 he
 obtain ⟨hlk, hkn, hn, hr⟩ := h0 he0
 subst he0
 have hmm := hkn.len hlk.mem (by have := hlk.right.1; simp only at this ⊢; omega)
 simp only at hmm
 have hlv : (R6.nd ns n).lv = (k + 2 : Nat) := hn.2
 obtain ⟨hn0, hn1⟩ := hn.1
 refine tri_sub (F' := [(0, pt bl 0), (1, .int .i64 n), (2, .int .i64 j), (7, .int .i64 (0 : Nat))]) ⟨rfl, rfl, rfl, rfl, trivial⟩ ?_
 refine loop_ind (G := Nat) (fun i => mm.length - i) (fun i => i ≤ mm.length ∧ R9.look9 mm n j = R9.look9 (mm.drop i) n j) (fun i => [(0, pt bl 0), (1, .int .i64 n), (2, .int .i64 j), (7, .int .i64 (i : Nat))]) (fun _ => LgA bl a cap ns.length room ad cd mm 0 A) (fun _ => I) ?_ 0 ⟨by omega, rfl⟩
 rintro i ⟨hi, hlo⟩ K hK
 skip
 refine tS (tS (tR (tM rfl rfl (tM rfl rfl ?_))))
 refine tri_v (opv_nilCheck rfl) rfl ?_
 refine tri_v (opv_fieldAddr rfl rfl) rfl ?_
 refine tri_v (opv_load1 rfl rfl rfl) rfl ?_
 refine tri_v (opv_len rfl) rfl ?_
 refine tri_v (opv_lss rfl rfl) rfl ?_
 refine tN (tT ?_)
 refine tri_cond_dec rfl (fun h2 => ?_) (fun h2 => ?_)
 ·have hlt : i < mm.length := by omega
  rw [R9.look9_drop hlt] at hlo
  refine tri_skip (tT (tS (tri_block (tS (tR (tM rfl rfl ?_))))))
  refine tri_v (opv_nilCheck rfl) rfl ?_
  refine tri_v (opv_fieldAddr rfl rfl) rfl ?_
  refine tri_v (opv_load1 rfl rfl rfl) rfl ?_
  refine tM rfl rfl ?_
  refine tri_v (opv_indexAddrRN rfl rfl (by omega)) rfl ?_
  refine tri_v (opv_fieldAddrR rfl (by omega) rfl) rfl ?_
  refine tri_v (opv_loadRX1 rfl rfl (by omega) rfl rfl) rfl ?_
  refine tM rfl rfl ?_
  refine tri_v (opv_eql rfl rfl) rfl ?_
  refine tM rfl rfl ?_
  refine tri_split rfl rfl (fun h3 => ?_) (fun h3 => ?_)
  ·refine tri_guard_run rfl rfl rfl (tM rfl rfl (tri_guard_run rfl rfl rfl ?_))
   refine tri_v (opv_nilCheck rfl) rfl ?_
   refine tri_guard_run rfl rfl rfl ?_
   refine tri_v (opv_fieldAddr rfl rfl) rfl ?_
   refine tri_guard_run rfl rfl rfl ?_
   refine tri_v (opv_load1 rfl rfl rfl) rfl ?_
   refine tri_guard_run rfl rfl rfl (tM rfl rfl (tri_guard_run rfl rfl rfl ?_))
   refine tri_v (opv_indexAddrRN rfl rfl (by omega)) rfl ?_
   refine tri_guard_run rfl rfl rfl ?_
   refine tri_v (opv_fieldAddrR rfl (by omega) rfl) rfl ?_
   refine tri_guard_run rfl rfl rfl ?_
   refine tri_v (opv_loadRX1 rfl rfl (by omega) rfl rfl) rfl ?_
   refine tri_guard_run rfl rfl rfl (tM rfl rfl (tri_guard_run rfl rfl rfl ?_))
   refine tri_v (opv_eql rfl rfl) rfl ?_
   refine tri_v (opv_pick_t rfl rfl) rfl ?_
   refine tN (tT ?_)
   refine tri_cond_dec rfl (fun h4 => ?_) (fun h4 => ?_)
   ·rw [if_pos ⟨h3, h4⟩] at hlo
    rw [R9.leap_some hlo] at hr
    subst hr
    refine tS (tR (tM rfl rfl ?_))
    refine tri_v (opv_nilCheck rfl) rfl ?_
    refine tri_v (opv_fieldAddr rfl rfl) rfl ?_
    refine tri_v (opv_load1 rfl rfl rfl) rfl ?_
    refine tM rfl rfl ?_
    refine tri_v (opv_indexAddrRN rfl rfl (by omega)) rfl ?_
    refine tri_v (opv_fieldAddrR rfl (by omega) rfl) rfl ?_
    refine tri_v (opv_loadRX1 rfl rfl (by omega) rfl rfl) rfl ?_
    refine tA rfl rfl (tN (tT (tri_ret ?_)))
    refine tri_inBlock_ret ?_
    refine tri_then_ret (tri_then_ret ?_)
    refine tri_inBlock_ret ?_
    refine tri_then_ret ?_
    refine tri_end (LgA bl a cap ns.length room ad cd mm 0 A) Suf.h rfl (.cons (rv_tmp rfl) .nil) ⟨a, cap, ad, cd, ns, mm, _, rfl, rfl, hs, fun x => ⟨rfl, rfl, rfl⟩, fun _ h => h⟩
   ·rw [if_neg (fun x => h4 x.2)] at hlo
    refine tri_skip ?_
    refine tri_inBlock ?_
    refine tT (tR (tM rfl rfl ?_))
    refine tU rfl rfl (by omega) (by omega) rfl ?_
    refine tA rfl rfl (tN (tT ?_))
    refine tri_sub ?_ (hK (i + 1) ⟨by omega, hlo⟩ (by omega))
    exact ⟨rfl, rfl, rfl, rfl, trivial⟩
  ·rw [if_neg (fun x => h3 x.1)] at hlo
   refine tri_guard_skip rfl rfl rfl rfl (tri_guard_skip rfl rfl rfl rfl (tri_guard_skip rfl rfl rfl rfl (tri_guard_skip rfl rfl rfl rfl (tri_guard_skip rfl rfl rfl rfl (tri_guard_skip rfl rfl rfl rfl (tri_guard_skip rfl rfl rfl rfl (tri_guard_skip rfl rfl rfl rfl ?_)))))))
   refine tri_guard_skip rfl rfl rfl rfl (tri_guard_skip rfl rfl rfl rfl ?_)
   refine tri_v (opv_pick_f rfl rfl) rfl ?_
   refine tN (tT ?_)
   refine tri_cond_false rfl ?_
   refine tri_skip ?_
   refine tri_inBlock ?_
   refine tT (tR (tM rfl rfl ?_))
   refine tU rfl rfl (by omega) (by omega) rfl ?_
   refine tA rfl rfl (tN (tT ?_))
   refine tri_sub ?_ (hK (i + 1) ⟨by omega, hlo⟩ (by omega))
   exact ⟨rfl, rfl, rfl, rfl, trivial⟩
 ·rw [List.drop_of_length_le (by omega)] at hlo
  rw [R9.leap_none hlo] at hr
  obtain ⟨R, hR⟩ : ∃ R, R9.leapM room k ⟨ns, mm⟩ n j = R := ⟨_, rfl⟩
  rw [hR] at hr
  have hgd := fun x : R.2.2 = 0 => R9.leapM_gd hlk hn hj hkn (by rw [hR]; exact x)
  rw [hR] at hgd
  refine tri_exit ?_
  refine tri_then_exit ?_
  refine tri_then_exit ?_
  refine tri_inBlock_hit rfl ?_
  refine tT (tS (tR (tM rfl rfl ?_)))
  refine tri_v (opv_nilCheck rfl) rfl ?_
  refine tri_v (opv_fieldAddr rfl rfl) rfl ?_
  refine tri_v (opv_fieldAddr rfl rfl) rfl ?_
  refine tri_v (opv_load1 rfl rfl rfl) rfl ?_
  refine tM rfl rfl ?_
  refine tri_v (opv_indexAddrS rfl rfl (by omega) (by omega) (by assumption) rfl) rfl ?_
  refine tri_v (opv_fieldAddrE rfl (by assumption) (by omega) rfl) rfl ?_
  refine tri_v (opv_loadE1 rfl (by assumption) rfl (by omega) rfl rfl) rfl ?_
  refine tA rfl rfl (tN (tT (tS ?_)))
  skip
  refine tR (tA rfl rfl (tN (tT (tS (tS ?_)))))
  skip
  refine tR (tM rfl rfl ?_)
  refine tri_v (opv_eql rfl rfl) rfl ?_
  refine tN (tT ?_)
  refine tri_cut (fun F' A' J => ∃ (a3 : Option Addr) (c3 : Nat) (ad3 : Option Addr) (cd3 : Nat) (ns3 : List Node) (mm3 : R9.Memo) (m3 : Int), F' = [(0, pt bl 0), (1, .int .i64 n), (2, .int .i64 j), (9, .int .i64 m3)] ∧ A' = LgA bl a3 c3 ns3.length room ad3 cd3 mm3 R.2.2 A ∧ StA J a3 c3 ns3 ∧ I ⊆ J ∧ (R.2.2 = 0 → ns3 = R.1.ns ∧ mm3 = R.1.mm ∧ m3 = R.2.1)) ?_ ?_
  ·refine tri_cond_dec rfl (fun h5 => ?_) (fun h5 => ?_)
   ·have hk0 : k = 0 := by
     have h6 : (R6.nd ns n).lv = 2 := h5
     omega
    subst hk0
    have er1 : R8.one ns room n = (R.1.ns, R.2.1, R.2.2) := by rw [← hR]; rfl
    have er4 : R.1.mm = mm := by rw [← hR]; rfl
    have hgd := hlk.good
    have hkid := hlk.kid hn
    have hbit := hlk.right.bits hn.1 h5
    simp only at hgd hkid hbit
    refine tS (tR (tM rfl rfl ?_))
    refine tri_v (opv_nilCheck rfl) rfl ?_
    refine tri_v (opv_fieldAddr rfl rfl) rfl ?_
    refine tri_v (opv_loadA rfl rfl rfl) rfl ?_
    refine tM rfl rfl ?_
    refine tri_g (opg_call (xs := [_, _]) rfl (ref08_oneR hs hgd hkid hbit er1)) rfl ?_
    rintro _ _ I3 ⟨a3, c3, rfl, hs3, rfl, hI3⟩
    refine tM rfl rfl ?_
    refine tri_v (opv_extract rfl rfl) rfl ?_
    refine tri_v (opv_extract rfl rfl) rfl ?_
    refine tri_v (opv_extract rfl rfl) rfl ?_
    refine tri_g opg_alloc rfl ?_
    rintro _ _ _ ⟨b10, rfl, rfl, rfl⟩
    refine tri_g (opg_store rfl rfl rfl rfl rfl rfl) rfl ?_
    rintro _ _ _ ⟨rfl, rfl⟩
    refine tA rfl rfl (tA rfl rfl (tN (tT (tS (tR (tM rfl rfl ?_))))))
    refine tri_v (opv_loadA rfl rfl rfl) rfl ?_
    refine tri_v (opv_nilCheck rfl) rfl ?_
    refine tri_v (opv_fieldAddr rfl rfl) rfl ?_
    refine tri_g (opg_store rfl rfl rfl rfl rfl rfl) rfl ?_
    rintro _ _ _ ⟨rfl, rfl⟩
    refine tN (tT (tS (tR (tM rfl rfl (tM rfl rfl ?_)))))
    refine tri_v (opv_nilCheck rfl) rfl ?_
    refine tri_v (opv_fieldAddr rfl rfl) rfl ?_
    refine tri_g (opg_store rfl rfl rfl rfl rfl rfl) rfl ?_
    rintro _ _ _ ⟨rfl, rfl⟩
    refine tN (tT (tR (tM rfl rfl (tA rfl rfl (tN ?_)))))
    refine tri_drop ?_
    exact tri_cutEnd _ ⟨a3, c3, ad, cd, R.1.ns, mm, R.2.1, rfl, rfl, hs3, hI3, fun x => ⟨rfl, er4.symm, rfl⟩⟩ ⟨rfl, rfl, rfl, rfl, trivial⟩
   ·obtain ⟨k', rfl⟩ : ∃ k', k = k' + 1 := ⟨k - 1, by
     have h6 : (R6.nd ns n).lv ≠ 2 := h5
     omega⟩
    have efull : decide (j = (ns.getD n.toNat default).lv - 2) = decide (j = k' + 1) := decide_eq_decide.2 (by
     have h6 : (ns.getD n.toNat default).lv = (k' + 1 + 2 : Nat) := hlv
     rw [h6]; omega)
    have hlb := (hlk.wf.lvb hn.1).2
    have hlb' : (ns.getD n.toNat default).lv ≤ 42 := hlb
    have hlb2 : 0 ≤ (ns.getD n.toNat default).lv := (hlk.wf.lvb hn.1).1
    refine tR (tM rfl rfl (tM rfl rfl (tM rfl rfl (tM rfl rfl (tM rfl rfl ?_)))))
    refine tri_v (opv_sub rfl rfl (w64 (by omega) (by omega))) rfl ?_
    refine tri_v (opv_eql rfl rfl) rfl ?_
    rw [efull]
    refine tri_g (opg_call (xs := [_, _, _, _]) rfl (ref09_far (ih k' (by omega)) hs hlk hkn hn hj (fun e => by have := of_decide_eq_true e; omega) hR)) rfl ?_
    rintro _ _ I3 ⟨a3, c3, ad3, cd3, ns3, mm3, m3, rfl, rfl, hs3, hm3, hI3⟩
    refine tA rfl rfl (tN ?_)
    exact tri_cutEnd _ ⟨a3, c3, ad3, cd3, ns3, mm3, m3, rfl, rfl, hs3, hI3, hm3⟩ ⟨rfl, rfl, rfl, rfl, trivial⟩
  rintro _ _ I3 ⟨a3, c3, ad3, cd3, ns3, mm3, m3, rfl, rfl, hs3, hI3, hm3⟩
  skip
  refine tT (tS (tS (tR (tM rfl rfl ?_))))
  refine tri_v (opv_nilCheck rfl) rfl ?_
  refine tri_v (opv_fieldAddr rfl rfl) rfl ?_
  refine tri_v (opv_load1 rfl rfl rfl) rfl ?_
  refine tri_v (opv_eql rfl rfl) rfl ?_
  refine tN (tT ?_)
  have hre : r.2.2 = R.2.2 := by
   rw [← hr]; unfold R9.keep
   split
   ·rfl
   ·rename_i x; exact (Decidable.not_not.1 x).symm
  skip
  refine tri_cond_dec rfl (fun x => ?_) (fun x => ?_)
  ·obtain ⟨e1, e2, e3⟩ := hm3 x
   obtain ⟨g1, g2⟩ := hgd x
   have hm4 := g2.len g1.lk.mem (by have := g1.lk.right.1; omega)
   rw [← e2] at hm4
   have hr' : r = (⟨R.1.ns, R.1.mm ++ [(n, j, R.2.1)]⟩, R.2.1, 0) := by rw [← hr]; unfold R9.keep; rw [if_neg (by simpa using x)]
   refine tR (tM rfl rfl (tM rfl rfl ?_))
   refine tri_v (opv_nilCheck rfl) rfl ?_
   refine tri_v (opv_fieldAddr rfl rfl) rfl ?_
   refine tri_v (opv_load1 rfl rfl rfl) rfl ?_
   refine tM rfl rfl (tM rfl rfl (tM rfl rfl ?_))
   refine tri_v (opv_buildS rfl rfl) rfl ?_
   refine tri_g (opg_buildSlice rfl rfl rfl rfl) rfl ?_
   rintro _ _ _ ⟨b109, rfl, rfl, rfl⟩
   refine tri_g (opg_appendB rfl rfl rfl rfl (by omega) rfl) rfl ?_
   rintro _ _ _ ⟨a4, c4, rfl, rfl, rfl⟩
   refine tri_v (opv_nilCheck rfl) rfl ?_
   refine tri_v (opv_fieldAddr rfl rfl) rfl ?_
   refine tri_g (opg_store rfl rfl rfl rfl rfl rfl) rfl ?_
   rintro _ _ _ ⟨rfl, rfl⟩
   refine tN (tT (tS (tR (tM rfl rfl (tA rfl rfl (tN (tT ?_)))))))
   refine tri_ret ?_
   rw [show mm3.length + 1 = (mm3 ++ [(n, j, m3)]).length by simp]
   refine tri_perm (A := ?a1_0 :: ?a1_1 :: ?a1_2 :: ?T1) (B := ?a1_2 :: ?a1_0 :: ?a1_1 :: ?T1) (by exact permL [2, 0, 1] [?a1_0, ?a1_1, ?a1_2] ?T1 (by decide) rfl) ?_
   refine tri_rowEq (len' := (mm3 ++ [(n, j, m3)]).length) (cells' := encs (mm3 ++ [(n, j, m3)])) rfl (by rw [encs_append]; rfl) ?_
   refine tri_perm (A := ?a2_0 :: ?a2_1 :: ?a2_2 :: ?T2) (B := ?a2_1 :: ?a2_2 :: ?a2_0 :: ?T2) (by exact permL [1, 2, 0] [?a2_0, ?a2_1, ?a2_2] ?T2 (by decide) rfl) ?_
   refine tri_end (LgA bl a3 c3 ns3.length room a4 c4 (mm3 ++ [(n, j, m3)]) R.2.2 A) Suf.h rfl (.cons (rv_tmp rfl) .nil) ⟨a3, c3, a4, c4, ns3, mm3 ++ [(n, j, m3)], m3, rfl, by rw [hre], hs3, fun _ => ?_, hI3⟩
   rw [hr', e1, e2, e3]
   exact ⟨rfl, rfl, rfl⟩
  ·refine tri_skip (tT (tS (tR (tM rfl rfl (tA rfl rfl (tN (tT ?_)))))))
   refine tri_ret ?_
   refine tri_end (LgA bl a3 c3 ns3.length room ad3 cd3 mm3 R.2.2 A) Suf.h rfl (.cons (rv_tmp rfl) .nil) ⟨a3, c3, ad3, cd3, ns3, mm3, m3, rfl, by rw [hre], hs3, fun y => absurd (hre.symm.trans y) x, hI3⟩
theorem ref09_leap : ∀ k, LgSpec k := fun k => by
 induction k using Nat.strongRecOn with
 | ind k ih => exact ref09_leap_step ih
end Go.GL

set_option linter.unusedVariables false
namespace Go.GL
open Go.Proofs
attribute [local irreducible] wpList Code.wp Exit.then Exit.inBlock Ends Tri TriH OpV OpG FnC epf wpAnyH
variable {A : List Asrt} {I : List Chunk}
namespace R9
def mid (i : Nat) : Prop := 1 ≤ (i : Int) / 4 ∧ (i : Int) / 4 ≤ 2 ∧ 1 ≤ (i : Int) % 4 ∧ (i : Int) % 4 ≤ 2
instance (i : Nat) : Decidable (mid i) := inferInstanceAs (Decidable (_ ∧ _))
theorem mid_iff : ∀ i : Nat, i < 16 → (mid i ↔ ¬ (i : Int) ∈ [0, 1, 2, 3, 4, 7, 8, 11, 12, 13, 14, (15 : Int)]) := by decide
theorem edged_mid (ns : List Node) (n : Int) : edged ns n = true ↔ ∃ i : Nat, i < 16 ∧ ¬ mid i ∧ (R6.nd ns ((R8.s16 ns n).getD i default)).pop ≠ 0 := by
 unfold edged
 rw [List.any_eq_true]
 constructor
 ·rintro ⟨x, hx, h⟩
  have h' := of_decide_eq_true h
  have hb : 0 ≤ x ∧ x < 16 := by
   simp only [List.mem_cons, List.not_mem_nil, or_false] at hx
   omega
  have hxn : ((x.toNat : Nat) : Int) = x := by omega
  refine ⟨x.toNat, by omega, fun hm => (mid_iff x.toNat (by omega)).1 hm (by rw [hxn]; exact hx), h'⟩
 ·rintro ⟨i, hi, hm, h⟩
  have hx : (i : Int) ∈ [0, 1, 2, 3, 4, 7, 8, 11, 12, 13, 14, (15 : Int)] := Decidable.byContradiction fun x => hm ((mid_iff i hi).2 x)
  exact ⟨(i : Int), hx, decide_eq_true h⟩
end R9
set_option maxHeartbeats 2000000 in
set_option maxRecDepth 100000 in
theorem ref09_edge {ns : List Node} {a : Option Addr} {cap k : Nat} {room n : Int} (hs : StA I a cap ns) (h : R6.right ns room) (hn : R7.IsN ns (k + 2) n) :
  FnC Try.prog 74 [storeV a ns.length cap room, .int .i64 n].toArray A I (fun v A' I' => v = .bool (R9.edged ns n) ∧ A = A' ∧ I ⊆ I') := by
 have hk := h.kids hn.1 (by rw [hn.2]; omega)
 have hw := (R6.right_iff.1 h).2
 have hi16 := R9.s16_isN hw hn
 have hsl := hs.sl
 have hlen := R8.s16_len ns n
 have hed := R9.edged_mid ns n
 skip
 refine fn_enter2 Try.func74 rfl Try.ntmps74 rfl fun w0 => ?_
 refine tS (tR ?_)
 refine tri_g (opg_box_agg rfl) rfl ?_
 rintro _ _ _ ⟨b2, rfl, rfl, rfl⟩
 refine tA rfl rfl (tN (tT (tS (tR ?_))))
 refine tri_v (opv_loadA rfl rfl rfl) rfl ?_
 refine tM rfl rfl ?_
 refine tri_g (opg_call (xs := [_, _]) rfl (ref08_sixteen hsl hk)) rfl ?_
 rintro _ _ I1 ⟨a1, c1, rfl, hs16, rfl, hI1⟩
 have hsl1 := hsl.mono hI1
 generalize R8.s16 ns n = l at *
 refine tA rfl rfl (tN (tT (tS (tS (tR (tA rfl rfl (tN ?_)))))))
 refine tT (tri_block ?_)
 refine tri_sub (F' := [(1, .int .i64 n), (2, pt b2 0), (5, .slice a1 l.length c1), (6, .int .i64 (0 : Nat))]) ⟨rfl, rfl, rfl, rfl, trivial⟩ ?_
 refine loop_ind (G := Nat) (fun i => 16 - i) (fun i => i ≤ 16 ∧ ∀ q : Nat, q < i → ¬ R9.mid q → (R6.nd ns (l.getD q default)).pop = 0) (fun i => [(1, .int .i64 n), (2, pt b2 0), (5, .slice a1 l.length c1), (6, .int .i64 (i : Nat))]) (fun _ => Box b2 [.slice a ns.length cap, .int .i64 room] 26 :: A) (fun _ => I1) ?_ 0 ⟨by omega, fun q hq => absurd hq (by omega)⟩
 rintro i ⟨hi, hz⟩ K hK
 skip
 refine tS (tS (tR (tM rfl rfl ?_)))
 refine tri_v (opv_lss rfl rfl) rfl ?_
 refine tN (tT ?_)
 refine tri_cond_dec rfl (fun h1 => ?_) (fun h1 => ?_)
 ·have hlt : i < 16 := by omega
  have hq := (hi16 (i : Int) (by omega) (by omega)).1
  obtain ⟨hq0, hq1⟩ := hq
  unfold R8.g at hq0 hq1
  rw [Int.toNat_natCast] at hq0 hq1
  refine tri_skip (tT (tS (tri_block (tS ?_))))
  refine tri_cut (fun F' A' J => F' = [(1, .int .i64 n), (2, pt b2 0), (5, .slice a1 l.length c1), (6, .int .i64 (i : Nat)), (7, .bool (decide (R9.mid i)))] ∧ A' = Box b2 [.slice a ns.length cap, .int .i64 room] 26 :: A ∧ J = I1) ?_ ?_
  ·refine tR (tM rfl rfl ?_)
   refine tri_v (opv_quoE rfl rfl (by omega) (by omega) (by omega)) rfl ?_
   refine tri_v (opv_geq rfl rfl) rfl ?_
   refine tM rfl rfl ?_
   refine tri_split rfl rfl (fun g1 => ?_) (fun g1 => ?_)
   ·refine tri_guard_run rfl rfl rfl (tM rfl rfl (tri_guard_run rfl rfl rfl ?_))
    refine tri_v (opv_quoE rfl rfl (by omega) (by omega) (by omega)) rfl ?_
    refine tri_guard_run rfl rfl rfl ?_
    refine tri_v (opv_leq rfl rfl) rfl ?_
    refine tri_v (opv_pick_t rfl rfl) rfl ?_
    refine tM rfl rfl ?_
    refine tri_split rfl rfl (fun g2 => ?_) (fun g2 => ?_)
    ·refine tri_guard_run rfl rfl rfl (tM rfl rfl (tri_guard_run rfl rfl rfl ?_))
     refine tri_v (opv_remE rfl rfl (by omega) (by omega)) rfl ?_
     refine tri_guard_run rfl rfl rfl ?_
     refine tri_v (opv_geq rfl rfl) rfl ?_
     refine tri_v (opv_pick_t rfl rfl) rfl ?_
     refine tM rfl rfl ?_
     refine tri_split rfl rfl (fun g3 => ?_) (fun g3 => ?_)
     ·refine tri_guard_run rfl rfl rfl (tM rfl rfl (tri_guard_run rfl rfl rfl ?_))
      refine tri_v (opv_remE rfl rfl (by omega) (by omega)) rfl ?_
      refine tri_guard_run rfl rfl rfl ?_
      refine tri_v (opv_leq rfl rfl) rfl ?_
      refine tri_v (opv_pick_t rfl rfl) rfl ?_
      refine tA rfl rfl (tN ?_)
      exact tri_cutEnd _ ⟨rfl, rfl, rfl⟩ ⟨rfl, rfl, rfl, rfl, by rw [show decide (R9.mid i) = decide ((i : Int) % 4 ≤ 2) from decide_eq_decide.2 ⟨fun x => x.2.2.2, fun x => ⟨g1, g2, g3, x⟩⟩]; rfl, trivial⟩
     ·refine tri_guard_skip rfl rfl rfl rfl (tri_guard_skip rfl rfl rfl rfl (tri_guard_skip rfl rfl rfl rfl ?_))
      refine tri_v (opv_pick_f rfl rfl) rfl ?_
      refine tA rfl rfl (tN ?_)
      exact tri_cutEnd _ ⟨rfl, rfl, rfl⟩ ⟨rfl, rfl, rfl, rfl, by rw [decide_eq_false (fun x : R9.mid i => g3 x.2.2.1)]; rfl, trivial⟩
    ·refine tri_guard_skip rfl rfl rfl rfl (tri_guard_skip rfl rfl rfl rfl (tri_guard_skip rfl rfl rfl rfl ?_))
     refine tri_v (opv_pick_f rfl rfl) rfl ?_
     refine tM rfl rfl (tri_guard_skip rfl rfl rfl rfl (tri_guard_skip rfl rfl rfl rfl (tri_guard_skip rfl rfl rfl rfl ?_)))
     refine tri_v (opv_pick_f rfl rfl) rfl ?_
     refine tA rfl rfl (tN ?_)
     exact tri_cutEnd _ ⟨rfl, rfl, rfl⟩ ⟨rfl, rfl, rfl, rfl, by rw [decide_eq_false (fun x : R9.mid i => g2 x.2.1)]; rfl, trivial⟩
   ·refine tri_guard_skip rfl rfl rfl rfl (tri_guard_skip rfl rfl rfl rfl (tri_guard_skip rfl rfl rfl rfl ?_))
    refine tri_v (opv_pick_f rfl rfl) rfl ?_
    refine tM rfl rfl (tri_guard_skip rfl rfl rfl rfl (tri_guard_skip rfl rfl rfl rfl (tri_guard_skip rfl rfl rfl rfl ?_)))
    refine tri_v (opv_pick_f rfl rfl) rfl ?_
    refine tM rfl rfl (tri_guard_skip rfl rfl rfl rfl (tri_guard_skip rfl rfl rfl rfl (tri_guard_skip rfl rfl rfl rfl ?_)))
    refine tri_v (opv_pick_f rfl rfl) rfl ?_
    refine tA rfl rfl (tN ?_)
    exact tri_cutEnd _ ⟨rfl, rfl, rfl⟩ ⟨rfl, rfl, rfl, rfl, by rw [decide_eq_false (fun x : R9.mid i => g1 x.1)]; rfl, trivial⟩
  rintro _ _ _ ⟨rfl, rfl, rfl⟩
  skip
  refine tT (tS ?_)
  refine tri_draw [0, 1, 2, 3, 4, 5, 6, 7, 8, 9, 10, 11, 12, 13] rfl [] rfl mixed ?_
  refine th_take rfl rfl (by kernel_rfl)  (opv_move rfl) ?_
  refine th_take rfl rfl (by kernel_rfl)  (opv_notD rfl) ?_
  refine th_take rfl rfl (by kernel_rfl)  (opv_move rfl) ?_
  skip
  refine th_split rfl rfl rfl (fun hm => ?_) (fun hm => ?_)
  ·refine th_take_g rfl rfl rfl rfl rfl (by kernel_rfl)  (opv_fieldAddr rfl rfl) ?_
   refine th_take_g rfl rfl rfl rfl rfl (by kernel_rfl)  (opv_load1 rfl rfl rfl) ?_
   refine th_take_g rfl rfl rfl rfl rfl (by kernel_rfl)  (opv_move rfl) ?_
   refine th_take_g rfl rfl rfl rfl rfl (by kernel_rfl)  (opv_move rfl) ?_
   refine th_take_g rfl rfl rfl rfl rfl (by kernel_rfl)  (opv_indexAddrSN rfl rfl (by omega) (by assumption) rfl) ?_
   refine th_take_g rfl rfl rfl rfl rfl (by kernel_rfl)  (opv_loadE1 rfl (by assumption) rfl (by omega) rfl rfl) ?_
   refine th_take_g rfl rfl rfl rfl rfl (by kernel_rfl)  (opv_indexAddrS rfl rfl (by omega) (by omega) (by assumption) rfl) ?_
   refine th_take_g rfl rfl rfl rfl rfl (by kernel_rfl)  (opv_fieldAddrE rfl (by assumption) (by omega) rfl) ?_
   refine th_take_g rfl rfl rfl rfl rfl (by kernel_rfl)  (opv_loadE1 rfl (by assumption) rfl (by omega) rfl rfl) ?_
   refine th_take_g rfl rfl rfl rfl rfl (by kernel_rfl)  (opv_neq rfl rfl) ?_
   refine th_take rfl rfl (by kernel_rfl)  (opv_pick_t rfl rfl) ?_
   refine th_done (by kernel_rfl) ?_
   refine tT ?_
   refine tri_cond_dec rfl (fun h2 => ?_) (fun h2 => ?_)
   ·refine tS (tR (tA rfl rfl (tN (tT (tri_ret ?_)))))
    refine tri_inBlock_ret ?_
    refine tri_then_ret (tri_then_ret ?_)
    refine tri_inBlock_ret ?_
    refine tri_then_ret ?_
    refine tri_end A Suf.h rfl (.cons (rv_tmp rfl) .nil) ⟨?_, rfl, hI1⟩
    rw [hed.2 ⟨i, hlt, hm, h2⟩]; rfl
   ·refine tri_skip ?_
    refine tri_inBlock ?_
    refine tT (tR (tM rfl rfl ?_))
    refine tU rfl rfl (by omega) (by omega) rfl ?_
    refine tA rfl rfl (tN (tT ?_))
    refine tri_sub ?_ (hK (i + 1) ⟨by omega, fun q hq' hnm => ?_⟩ (by omega))
    ·exact ⟨rfl, rfl, rfl, rfl, trivial⟩
    ·by_cases e : q = i
     ·subst e; exact Decidable.not_not.1 h2
     ·exact hz q (by omega) hnm
  ·refine th_skip rfl rfl rfl rfl rfl (by kernel_rfl)  ?_
   refine th_skip rfl rfl rfl rfl rfl (by kernel_rfl)  ?_
   refine th_skip rfl rfl rfl rfl rfl (by kernel_rfl)  ?_
   refine th_skip rfl rfl rfl rfl rfl (by kernel_rfl)  ?_
   refine th_skip rfl rfl rfl rfl rfl (by kernel_rfl)  ?_
   refine th_skip rfl rfl rfl rfl rfl (by kernel_rfl)  ?_
   refine th_skip rfl rfl rfl rfl rfl (by kernel_rfl)  ?_
   refine th_skip rfl rfl rfl rfl rfl (by kernel_rfl)  ?_
   refine th_skip rfl rfl rfl rfl rfl (by kernel_rfl)  ?_
   refine th_skip rfl rfl rfl rfl rfl (by kernel_rfl)  ?_
   refine th_take rfl rfl (by kernel_rfl)  (opv_pick_f rfl rfl) ?_
   refine th_done (by kernel_rfl) ?_
   refine tT ?_
   refine tri_cond_false rfl ?_
   refine tri_skip ?_
   refine tri_inBlock ?_
   refine tT (tR (tM rfl rfl ?_))
   refine tU rfl rfl (by omega) (by omega) rfl ?_
   refine tA rfl rfl (tN (tT ?_))
   refine tri_sub ?_ (hK (i + 1) ⟨by omega, fun q hq' hnm => ?_⟩ (by omega))
   ·exact ⟨rfl, rfl, rfl, rfl, trivial⟩
   ·by_cases e : q = i
    ·subst e; exact absurd hnm hm
    ·exact hz q (by omega) hnm
 ·refine tri_exit ?_
  refine tri_then_exit ?_
  refine tri_then_exit ?_
  refine tri_inBlock_hit rfl ?_
  refine tT (tS (tR (tA rfl rfl (tN (tT (tri_ret ?_))))))
  refine tri_end A Suf.h rfl (.cons (rv_tmp rfl) .nil) ⟨?_, rfl, hI1⟩
  have : R9.edged ns n = false := by
   cases he : R9.edged ns n
   ·rfl
   ·obtain ⟨q, hq, hm, hp⟩ := hed.1 he
    exact absurd (hz q (by omega) hm) hp
  rw [this]; rfl
namespace R9
theorem trim_mm {room : Int} : ∀ (k : Nat) (s : LS) (n : Int), (trim room k s n).1.mm = s.mm
 | 0, _, _ => rfl
 | k + 1, s, n => by
  unfold trim
  split
  ·rfl
  ·split
   ·rfl
   ·exact trim_mm k _ _
end R9
set_option maxHeartbeats 2000000 in
set_option maxRecDepth 100000 in
theorem ref09_trim {k : Nat} {ns : List Node} {mm : R9.Memo} {a ad : Option Addr} {cap cd bl : Nat} {room e n : Int} {r : R9.L9} (hs : StA I a cap ns) (h0 : e = 0 → R9.Lk room ⟨ns, mm⟩ ∧ R7.IsN ns (k + 2) n ∧ R9.trim room k ⟨ns, mm⟩ n = r) (h1 : e ≠ 0 → r.2.2 = e) :
  FnC Try.prog 49 [pt bl 0, .int .i64 n].toArray (LgA bl a cap ns.length room ad cd mm e A) I (LgR bl r room A I) := by
 skip
 refine fn_enter2 Try.func49 rfl Try.ntmps49 rfl fun w0 => ?_
 refine tS (tR (tA rfl rfl (tN (tT (tS (tri_block ?_))))))
 refine tri_sub (F' := [(0, pt bl 0), (1, .int .i64 n)]) ⟨rfl, rfl, trivial⟩ ?_
 refine loop_ind (G := Nat × R9.LS × Int × Int × Option Addr × Nat × List Chunk) (fun g => 2 * g.1 + (if g.2.2.2.1 = 0 then 1 else 0)) (fun g => (g.2.2.2.1 = 0 → R9.Lk room g.2.1 ∧ R7.IsN g.2.1.ns (g.1 + 2) g.2.2.1 ∧ R9.trim room g.1 g.2.1 g.2.2.1 = r) ∧ (g.2.2.2.1 ≠ 0 → r.2.2 = g.2.2.2.1) ∧ StA g.2.2.2.2.2.2 g.2.2.2.2.1 g.2.2.2.2.2.1 g.2.1.ns ∧ I ⊆ g.2.2.2.2.2.2) (fun g => [(0, pt bl 0), (1, .int .i64 g.2.2.1)]) (fun g => LgA bl g.2.2.2.2.1 g.2.2.2.2.2.1 g.2.1.ns.length room ad cd g.2.1.mm g.2.2.2.1 A) (fun g => g.2.2.2.2.2.2) ?_ (k, ⟨ns, mm⟩, n, e, a, cap, I) ⟨h0, h1, hs, fun _ h => h⟩
 rintro ⟨k1, s1, n1, e1, a1, c1, I1⟩ ⟨ho, hne, hs1, hI1⟩ K hK
 simp only at ho hne hs1 hI1 hK ⊢
 have hsl := hs1.sl
 skip
 refine tS (tS (tR (tM rfl rfl ?_)))
 refine tri_v (opv_nilCheck rfl) rfl ?_
 refine tri_v (opv_fieldAddr rfl rfl) rfl ?_
 refine tri_v (opv_load1 rfl rfl rfl) rfl ?_
 refine tri_v (opv_eql rfl rfl) rfl ?_
 refine tM rfl rfl ?_
 refine tri_split rfl rfl (fun g1 => ?_) (fun g1 => ?_)
 ·obtain ⟨hlk, hn1, hr1⟩ := ho g1
  have hlv : (R6.nd s1.ns n1).lv = k1 + 2 := by rw [hn1.2]; omega
  obtain ⟨hb0, hb1⟩ := hn1.1
  refine tri_guard_run rfl rfl rfl (tM rfl rfl (tri_guard_run rfl rfl rfl ?_))
  refine tri_v (opv_nilCheck rfl) rfl ?_
  refine tri_guard_run rfl rfl rfl ?_
  refine tri_v (opv_fieldAddr rfl rfl) rfl ?_
  refine tri_guard_run rfl rfl rfl ?_
  refine tri_v (opv_fieldAddr rfl rfl) rfl ?_
  refine tri_guard_run rfl rfl rfl ?_
  refine tri_v (opv_load1 rfl rfl rfl) rfl ?_
  refine tri_guard_run rfl rfl rfl (tM rfl rfl (tri_guard_run rfl rfl rfl ?_))
  refine tri_v (opv_indexAddrS rfl rfl (by omega) (by omega) (by assumption) rfl) rfl ?_
  refine tri_guard_run rfl rfl rfl ?_
  refine tri_v (opv_fieldAddrE rfl (by assumption) (by omega) rfl) rfl ?_
  refine tri_guard_run rfl rfl rfl ?_
  refine tri_v (opv_loadE1 rfl (by assumption) rfl (by omega) rfl rfl) rfl ?_
  refine tri_guard_run rfl rfl rfl ?_
  refine tri_v (opv_gtr rfl rfl) rfl ?_
  refine tri_v (opv_pick_t rfl rfl) rfl ?_
  refine tM rfl rfl ?_
  refine tri_split rfl rfl (fun g2 => ?_) (fun g2 => ?_)
  ·obtain ⟨k2, rfl⟩ : ∃ k2, k1 = k2 + 1 := ⟨k1 - 1, by
    have h6 : 2 < (R6.nd s1.ns n1).lv := g2
    omega⟩
   unfold R9.trim at hr1
   refine tri_guard_run rfl rfl rfl (tM rfl rfl (tri_guard_run rfl rfl rfl ?_))
   refine tri_v (opv_nilCheck rfl) rfl ?_
   refine tri_guard_run rfl rfl rfl ?_
   refine tri_v (opv_fieldAddr rfl rfl) rfl ?_
   refine tri_guard_run rfl rfl rfl ?_
   refine tri_v (opv_loadA rfl rfl rfl) rfl ?_
   refine tri_guard_run rfl rfl rfl (tM rfl rfl (tri_guard_run rfl rfl rfl ?_))
   refine tri_g (opg_call (xs := [_, _]) rfl (ref09_edge (k := k2 + 1) hs1 hlk.right hn1)) rfl ?_
   rintro _ _ I2 ⟨rfl, rfl, hI2⟩
   have hs2 := hs1.mono hI2
   refine tri_guard_run rfl rfl rfl ?_
   refine tri_v (opv_not rfl) rfl ?_
   refine tri_v (opv_pick_t rfl rfl) rfl ?_
   refine tN (tT ?_)
   refine tri_cond rfl (fun h3 => ?_) (fun h3 => ?_)
   ·have h3' : ¬ R9.edged s1.ns n1 = true := by simpa using h3
    rw [if_neg h3'] at hr1
    obtain ⟨R, hR⟩ : ∃ R, R9.midS room s1 n1 = R := ⟨_, rfl⟩
    rw [hR] at hr1
    have hgd := fun e => R9.midS_gd (lv := k2 + 1) hlk hn1 (by rw [hR]; exact e)
    rw [hR] at hgd
    have er1 : R8.putSq s1.ns room (R8.s16 s1.ns n1) 1 1 = (R.1.ns, R.2.1, R.2.2) := by rw [← hR]; rfl
    have er4 : R.1.mm = s1.mm := by rw [← hR]; rfl
    refine tri_skip (tT (tri_block (tS (tR (tM rfl rfl ?_)))))
    refine tri_v (opv_nilCheck rfl) rfl ?_
    refine tri_v (opv_fieldAddr rfl rfl) rfl ?_
    refine tri_v (opv_loadA rfl rfl rfl) rfl ?_
    refine tM rfl rfl ?_
    refine tri_g (opg_call (xs := [_, _]) rfl (ref08_middleR hs2 hlk.good (hlk.kid hn1) er1)) rfl ?_
    rintro _ _ I3 ⟨a3, c3, rfl, hs3, rfl, hI3⟩
    refine tM rfl rfl ?_
    refine tri_v (opv_extract rfl rfl) rfl ?_
    refine tri_v (opv_extract rfl rfl) rfl ?_
    refine tri_v (opv_extract rfl rfl) rfl ?_
    refine tri_g opg_alloc rfl ?_
    rintro _ _ _ ⟨b5, rfl, rfl, rfl⟩
    refine tri_g (opg_store rfl rfl rfl rfl rfl rfl) rfl ?_
    rintro _ _ _ ⟨rfl, rfl⟩
    refine tA rfl rfl (tA rfl rfl (tN (tT (tS (tR (tM rfl rfl ?_))))))
    refine tri_v (opv_loadA rfl rfl rfl) rfl ?_
    refine tri_v (opv_nilCheck rfl) rfl ?_
    refine tri_v (opv_fieldAddr rfl rfl) rfl ?_
    refine tri_g (opg_store rfl rfl rfl rfl rfl rfl) rfl ?_
    rintro _ _ _ ⟨rfl, rfl⟩
    refine tN (tT (tS (tR (tM rfl rfl (tM rfl rfl ?_)))))
    refine tri_v (opv_nilCheck rfl) rfl ?_
    refine tri_v (opv_fieldAddr rfl rfl) rfl ?_
    refine tri_g (opg_store rfl rfl rfl rfl rfl rfl) rfl ?_
    rintro _ _ _ ⟨rfl, rfl⟩
    refine tN (tT (tR (tM rfl rfl (tA rfl rfl (tN ?_)))))
    refine tri_inBlock ?_
    refine tT ?_
    refine tri_drop ?_
    rw [← er4]
    refine tri_sub ?_ (hK (k2, R.1, R.2.1, R.2.2, a3, c3, I3) ⟨fun x => ?_, fun x => ?_, hs3, fun _ h => hI3 (hI2 (hI1 h))⟩ (by simp only; rw [if_pos g1]; split <;> omega))
    ·exact ⟨rfl, rfl, trivial⟩
    ·simp only at x
     rw [if_neg (by simpa using x)] at hr1
     exact ⟨(hgd x).lk, (hgd x).is, hr1⟩
    ·simp only at x
     rw [if_pos x] at hr1
     rw [← hr1]
   ·have h3' : R9.edged s1.ns n1 = true := by simpa using h3
    rw [if_pos h3'] at hr1
    subst hr1
    refine tri_exit ?_
    refine tri_then_exit ?_
    refine tri_then_exit ?_
    refine tri_inBlock_hit rfl ?_
    refine tT (tS (tR (tM rfl rfl (tA rfl rfl (tN (tT (tri_ret ?_)))))))
    refine tri_end (LgA bl a1 c1 s1.ns.length room ad cd s1.mm e1 A) Suf.h rfl (.cons (rv_tmp rfl) .nil) ⟨a1, c1, ad, cd, s1.ns, s1.mm, n1, rfl, by rw [g1], hs2, fun _ => ⟨rfl, rfl, rfl⟩, fun _ h => hI2 (hI1 h)⟩
  ·have hk0 : k1 = 0 := by
    have h6 : ¬ 2 < (R6.nd s1.ns n1).lv := g2
    omega
   subst hk0
   unfold R9.trim at hr1
   subst hr1
   refine tri_guard_skip rfl rfl rfl rfl (tri_guard_skip rfl rfl rfl rfl (tri_guard_skip rfl rfl rfl rfl (tri_guard_skip rfl rfl rfl rfl (tri_guard_skip rfl rfl rfl rfl (tri_guard_skip rfl rfl rfl rfl (tri_guard_skip rfl rfl rfl rfl ?_))))))
   refine tri_v (opv_pick_f rfl rfl) rfl ?_
   refine tN (tT ?_)
   refine tri_cond_false rfl ?_
   refine tri_exit ?_
   refine tri_then_exit ?_
   refine tri_then_exit ?_
   refine tri_inBlock_hit rfl ?_
   refine tT (tS (tR (tM rfl rfl (tA rfl rfl (tN (tT (tri_ret ?_)))))))
   refine tri_end (LgA bl a1 c1 s1.ns.length room ad cd s1.mm e1 A) Suf.h rfl (.cons (rv_tmp rfl) .nil) ⟨a1, c1, ad, cd, s1.ns, s1.mm, n1, rfl, by rw [g1], hs1, fun _ => ⟨rfl, rfl, rfl⟩, hI1⟩
 ·refine tri_guard_skip rfl rfl rfl rfl (tri_guard_skip rfl rfl rfl rfl (tri_guard_skip rfl rfl rfl rfl (tri_guard_skip rfl rfl rfl rfl (tri_guard_skip rfl rfl rfl rfl (tri_guard_skip rfl rfl rfl rfl (tri_guard_skip rfl rfl rfl rfl (tri_guard_skip rfl rfl rfl rfl ?_)))))))
  refine tri_guard_skip rfl rfl rfl rfl (tri_guard_skip rfl rfl rfl rfl ?_)
  refine tri_v (opv_pick_f rfl rfl) rfl ?_
  refine tM rfl rfl (tri_guard_skip rfl rfl rfl rfl (tri_guard_skip rfl rfl rfl rfl (tri_guard_skip rfl rfl rfl rfl (tri_guard_skip rfl rfl rfl rfl (tri_guard_skip rfl rfl rfl rfl (tri_guard_skip rfl rfl rfl rfl (tri_guard_skip rfl rfl rfl rfl ?_)))))))
  refine tri_v (opv_pick_f rfl rfl) rfl ?_
  refine tN (tT ?_)
  refine tri_cond_false rfl ?_
  refine tri_exit ?_
  refine tri_then_exit ?_
  refine tri_then_exit ?_
  refine tri_inBlock_hit rfl ?_
  refine tT (tS (tR (tM rfl rfl (tA rfl rfl (tN (tT (tri_ret ?_)))))))
  refine tri_end (LgA bl a1 c1 s1.ns.length room ad cd s1.mm e1 A) Suf.h rfl (.cons (rv_tmp rfl) .nil) ⟨a1, c1, ad, cd, s1.ns, s1.mm, n1, rfl, by rw [hne g1], hs1, fun y => absurd ((hne g1).symm.trans y) g1, hI1⟩
end Go.GL

set_option linter.unusedVariables false
namespace Go.GL
open Go.Proofs
attribute [local irreducible] wpList Code.wp Exit.then Exit.inBlock Ends Tri TriH OpV OpG FnC epf wpAnyH
variable {A : List Asrt} {I : List Chunk}
theorem ref07_emptyR {ns : List Node} {a : Option Addr} {cap lv : Nat} {room : Int} {p : List Node × Int × Int} (hs : StA I a cap ns) (hg : R6.Good ns room) (hlv : lv ≤ 1000) (he : R7.empty ns room lv = p) :
  FnC Try.prog 81 [storeV a ns.length cap room, .int .i64 (lv : Nat)].toArray A I (StoreR p room A I) := by
 subst he
 exact ref07_empty hs hg hlv
set_option maxHeartbeats 2000000 in
set_option maxRecDepth 100000 in
theorem ref07_larger {k : Nat} {ns : List Node} {mm : R9.Memo} {a : Option Addr} {cap : Nat} {room n : Int} {r : R9.L9} (hs : StA I a cap ns) (h : R9.Lk room ⟨ns, mm⟩) (hn : R7.IsN ns (k + 2) n) (hk42 : k + 2 < 42) (hr : R9.grow room ⟨ns, mm⟩ n = r) :
  FnC Try.prog 65 [storeV a ns.length cap room, .int .i64 n].toArray A I (StoreR (R9.out ns r) room A I) := by
 have hlv : (R6.nd ns n).lv = (k + 2 : Nat) := hn.2
 have hlv' : (ns.getD n.toNat default).lv = (k + 2 : Nat) := hn.2
 have hsl := hs.sl
 obtain ⟨hn0, hn1⟩ := hn.1
 rw [R9.grow_eq] at hr
 simp only at hr
 rw [show ((R6.nd ns n).lv - 1).toNat = k + 1 by omega, if_neg (by omega)] at hr
 obtain ⟨D, hD⟩ : ∃ D, R7.empty ns room (k + 1) = D := ⟨_, rfl⟩
 rw [hD] at hr
 have hDg := fun e : D.2.2 = 0 => R9.empty_gd (lv := k + 1) h.right (by simp only; rw [hD]; exact e)
 simp only at hDg
 rw [hD] at hDg
 have hgood := h.good
 simp only at hgood
 obtain ⟨ks, hks⟩ : ∃ ks, (R6.nd ns n).kids = ks := ⟨_, rfl⟩
 have hkl : ks.length = 4 := by rw [← hks]; rfl
 have hkid0 : ∀ q : Nat, q < 4 → R7.IsN ns (k + 1) (ks.getD q default) := fun q hq => by rw [← hks]; exact R9.kids_getD h.wf hn hq
 rw [hks] at hr
 skip
 skip
 refine fn_enter2 Try.func65 rfl Try.ntmps65 rfl fun w0 => ?_
 refine tS (tR ?_)
 refine tri_g (opg_box_agg rfl) rfl ?_
 rintro _ _ _ ⟨b2, rfl, rfl, rfl⟩
 refine tri_g opg_alloc rfl ?_
 rintro _ _ _ ⟨b4, rfl, rfl, rfl⟩
 refine tA rfl rfl (tA rfl rfl (tN (tT (tS ?_))))
 skip
 refine tR ?_
 refine tri_v (opv_fieldAddr rfl rfl) rfl ?_
 refine tri_v (opv_load1 rfl rfl rfl) rfl ?_
 refine tM rfl rfl ?_
 refine tri_v (opv_indexAddrS rfl rfl (by omega) (by omega) (by assumption) rfl) rfl ?_
 refine tri_v (opv_fieldAddrE rfl (by assumption) (by omega) rfl) rfl ?_
 refine tri_v (opv_loadEA rfl (by assumption) rfl (by omega) rfl rfl) rfl ?_
 refine tri_g opg_alloc rfl ?_
 rintro _ _ _ ⟨b7, rfl, rfl, rfl⟩
 refine tri_g (opg_store rfl rfl rfl rfl rfl rfl) rfl ?_
 rintro _ _ _ ⟨rfl, rfl⟩
 refine tN (tT (tS ?_))
 skip
 rw [show ([.int .i64 (ns.getD n.toNat default).k0, .int .i64 (ns.getD n.toNat default).k1, .int .i64 (ns.getD n.toNat default).k2, .int .i64 (ns.getD n.toNat default).k3] : List Value) = ints ks by rw [← hks]; rfl]
 refine tri_cut (fun F' A' J => ∃ b8 a3 c3, F' = [(1, .int .i64 n), (2, pt b2 0), (4, pt b4 0), (7, pt b7 0), (8, pt b8 0), (9, .int .i64 D.2.1), (10, .int .i64 D.2.2)] ∧ A' = Box b8 [.slice a3 D.1.length c3, .int .i64 room] 26 :: Box b7 (ints ks) 33 :: Box b4 [.slice none 0 0, .int .i64 0] 26 :: Box b2 [.slice a ns.length cap, .int .i64 room] 26 :: A ∧ StA J a3 c3 D.1 ∧ I ⊆ J) ?_ ?_
 ·refine tri_draw [0, 1, 2, 3, 4, 5, 6, 7, 8, 9, 10, 11, 12, 13, 14, 15, 16] rfl [] rfl mixed ?_
  refine th_take rfl rfl (by kernel_rfl)  (opv_loadA rfl rfl rfl) ?_
  refine th_take rfl rfl (by kernel_rfl)  (opv_fieldAddr rfl rfl) ?_
  refine th_take rfl rfl (by kernel_rfl)  (opv_load1 rfl rfl rfl) ?_
  refine th_take rfl rfl (by kernel_rfl)  (opv_move rfl) ?_
  refine th_take rfl rfl (by kernel_rfl)  (opv_indexAddrS rfl rfl (by omega) (by omega) (by assumption) rfl) ?_
  refine th_take rfl rfl (by kernel_rfl)  (opv_fieldAddrE rfl (by assumption) (by omega) rfl) ?_
  refine th_take rfl rfl (by kernel_rfl)  (opv_loadE1 rfl (by assumption) rfl (by omega) rfl rfl) ?_
  refine th_take rfl rfl (by kernel_rfl)  (opv_sub rfl rfl (w64 (by omega) (by omega))) ?_
  rw [show (ns.getD n.toNat default).lv - 1 = ((k + 1 : Nat) : Int) by omega]
  refine th_two (j := 13) [8, 9, 10, 11, 12, 14, 15, 16] (by kernel_rfl) rfl ?_ ?_
  ·refine (step_m rfl rfl (opg_call (xs := [_, _]) rfl (ref07_emptyR hs hgood (by omega) hD)) ?_)
   rintro _ _ I3 ⟨a3, c3, rfl, hs3, rfl, hI3⟩
   refine ⟨Suf.h, (by assumption), ?_⟩
   refine th_take rfl rfl (by kernel_rfl)  (opv_move rfl) ?_
   refine th_take rfl rfl (by kernel_rfl)  (opv_extract rfl rfl) ?_
   refine th_take rfl rfl (by kernel_rfl)  (opv_extract rfl rfl) ?_
   refine th_take rfl rfl (by kernel_rfl)  (opv_extract rfl rfl) ?_
   refine th_one (by kernel_rfl) (step_m rfl rfl opg_alloc ?_)
   rintro _ _ _ ⟨b8, rfl, rfl, rfl⟩
   refine ⟨Suf.h, (by assumption), ?_⟩
   refine th_one (by kernel_rfl) (step_m rfl rfl (opg_store rfl rfl rfl rfl rfl rfl) ?_)
   rintro _ _ _ ⟨rfl, rfl⟩
   refine ⟨Suf.h, (by assumption), ?_⟩
   refine th_take rfl rfl (by kernel_rfl)  (opv_assign rfl) ?_
   refine th_take rfl rfl (by kernel_rfl)  (opv_assign rfl) ?_
   refine th_done (by kernel_rfl) ?_
   exact tri_cutEnd _ ⟨b8, a3, c3, rfl, rfl, hs3, hI3⟩ ⟨rfl, rfl, rfl, rfl, rfl, rfl, rfl, trivial⟩
  ·refine (step_m rfl rfl opg_alloc ?_)
   rintro _ _ _ ⟨b8, rfl, rfl, rfl⟩
   refine ⟨Suf.h, (fun _ h => h), ?_⟩
   refine th_one (by kernel_rfl) (step_m rfl rfl (opg_call (xs := [_, _]) rfl (ref07_emptyR hs hgood (by omega) hD)) ?_)
   rintro _ _ I3 ⟨a3, c3, rfl, hs3, rfl, hI3⟩
   refine ⟨Suf.h, (by assumption), ?_⟩
   refine th_take rfl rfl (by kernel_rfl)  (opv_move rfl) ?_
   refine th_take rfl rfl (by kernel_rfl)  (opv_extract rfl rfl) ?_
   refine th_take rfl rfl (by kernel_rfl)  (opv_extract rfl rfl) ?_
   refine th_take rfl rfl (by kernel_rfl)  (opv_extract rfl rfl) ?_
   refine th_one (by kernel_rfl) (step_m rfl rfl (opg_store rfl rfl rfl rfl rfl rfl) ?_)
   rintro _ _ _ ⟨rfl, rfl⟩
   refine ⟨Suf.h, (by assumption), ?_⟩
   refine th_take rfl rfl (by kernel_rfl)  (opv_assign rfl) ?_
   refine th_take rfl rfl (by kernel_rfl)  (opv_assign rfl) ?_
   refine th_done (by kernel_rfl) ?_
   exact tri_cutEnd _ ⟨b8, a3, c3, rfl, rfl, hs3, hI3⟩ ⟨rfl, rfl, rfl, rfl, rfl, rfl, rfl, trivial⟩
 rintro _ _ I1 ⟨b8, a1, c1, rfl, rfl, hs1, hI1⟩
 skip
 refine tT (tS (tS (tR (tM rfl rfl ?_))))
 refine tri_v (opv_neq rfl rfl) rfl ?_
 refine tN (tT ?_)
 skip
 refine tri_cond_dec rfl (fun h2 => ?_) (fun h2 => ?_)
 ·rw [if_pos h2] at hr
  subst hr
  refine tS (tR ?_)
  refine tri_v (opv_loadA rfl rfl rfl) rfl ?_
  refine tM rfl rfl ?_
  refine tri_g (opg_store rfl rfl rfl rfl rfl rfl) rfl ?_
  rintro _ _ _ ⟨rfl, rfl⟩
  refine tA rfl rfl (tA rfl rfl (tN (tT (tri_ret (tri_then_ret ?_)))))
  refine tri_end A Suf.h rfl (.cons (rv_cellA rfl rfl rfl) (.cons (rv_tmp rfl) (.cons (rv_tmp rfl) .nil))) ⟨a, cap, by rw [show R9.out ns (⟨ns, mm⟩, 0, D.2.2) = (ns, 0, D.2.2) from if_pos h2]; rfl, ?_, rfl, hI1⟩
  rw [show R9.out ns (⟨ns, mm⟩, 0, D.2.2) = (ns, 0, D.2.2) from if_pos h2]
  exact hs.mono hI1
 skip
 have h2' : D.2.2 = 0 := Decidable.not_not.1 h2
 rw [if_neg h2] at hr
 obtain ⟨dr, dp, di⟩ := hDg h2'
 have lk1 : R9.Lk room (⟨D.1, mm⟩ : R9.LS) := ⟨dr, h.mem.pre dp⟩
 have hkid : ∀ q : Nat, q < 4 → R7.IsN D.1 (k + 1) (ks.getD q default) := fun q hq => (hkid0 q hq).pre dp
 obtain ⟨R2, hR2⟩ : ∃ R2, R9.mapS (R9.growF room D.2.1 ks) ⟨D.1, mm⟩ R9.k4 = R2 := ⟨_, rfl⟩
 rw [hR2] at hr
 refine tri_skip (tT (tS (tR ?_)))
 refine tri_g opg_alloc rfl ?_
 rintro _ _ _ ⟨b11, rfl, rfl, rfl⟩
 refine tN (tT (tS (tS (tR (tA rfl rfl (tN (tT ?_)))))))
 refine tri_block ?_
 refine tri_sub (F' := [(2, pt b2 0), (4, pt b4 0), (7, pt b7 0), (8, pt b8 0), (9, .int .i64 D.2.1), (11, pt b11 0), (12, .int .i64 (0 : Nat))]) ⟨rfl, rfl, rfl, rfl, rfl, rfl, rfl, trivial⟩ ?_
 refine loop_ind (G := Nat × R9.LS × List Int × Option Addr × Nat × List Chunk) (fun g => 4 - g.1) (fun g => g.1 ≤ 4 ∧ g.2.2.1.length = g.1 ∧ R2 = ((R9.mapS (R9.growF room D.2.1 ks) g.2.1 (R9.k4.drop g.1)).1, g.2.2.1 ++ (R9.mapS (R9.growF room D.2.1 ks) g.2.1 (R9.k4.drop g.1)).2.1, (R9.mapS (R9.growF room D.2.1 ks) g.2.1 (R9.k4.drop g.1)).2.2) ∧ R9.Lk room g.2.1 ∧ D.1 <+: g.2.1.ns ∧ StA g.2.2.2.2.2 g.2.2.2.1 g.2.2.2.2.1 g.2.1.ns ∧ I1 ⊆ g.2.2.2.2.2) (fun g => [(2, pt b2 0), (4, pt b4 0), (7, pt b7 0), (8, pt b8 0), (9, .int .i64 D.2.1), (11, pt b11 0), (12, .int .i64 (g.1 : Nat))]) (fun g => Box b11 (ints (midL g.2.2.1 [0, 0, 0, 0])) 33 :: Box b8 [.slice g.2.2.2.1 g.2.1.ns.length g.2.2.2.2.1, .int .i64 room] 26 :: Box b7 (ints ks) 33 :: Box b4 [.slice none 0 0, .int .i64 0] 26 :: Box b2 [.slice a ns.length cap, .int .i64 room] 26 :: A) (fun g => g.2.2.2.2.2) ?_ (0, ⟨D.1, mm⟩, [], a1, c1, I1) ⟨by omega, rfl, hR2.symm, lk1, List.prefix_refl _, hs1, fun _ h => h⟩
 rintro ⟨i, t, res, a2, c2, I2⟩ ⟨hi, hlen, hrr, hlk, hpre, hs2, hI2⟩ K hK
 simp only at hi hlen hrr hlk hpre hs2 hI2 hK ⊢
 have hml := midL_len (res := res) (qs := [0, 0, 0, 0]) (by simp only [List.length_cons, List.length_nil]; omega)
 simp only [List.length_cons, List.length_nil] at hml
 skip
 refine tS (tS (tR (tM rfl rfl ?_)))
 refine tri_v (opv_lss rfl rfl) rfl ?_
 refine tN (tT ?_)
 refine tri_cond_dec rfl (fun h4 => ?_) (fun h4 => ?_)
 ·have hi4 : i < 4 := by omega
  have ei : 0 + ((i : Nat) : Int).toNat * 1 = i := by omega
  have ekk : R9.k4.getD i default = (i : Int) := by
   rcases (by omega : i = 0 ∨ i = 1 ∨ i = 2 ∨ i = 3) with rfl | rfl | rfl | rfl <;> rfl
  have eset : ∀ v, (midL res [0, 0, 0, 0]).set (0 + ((i : Nat) : Int).toNat * 1) v = midL (res ++ [v]) [0, 0, 0, 0] := fun v => by
   rw [show 0 + ((i : Nat) : Int).toNat * 1 = i by omega, ← hlen]
   exact midL_set (res := res) (qs := [0, 0, 0, 0]) (by simp only [List.length_cons, List.length_nil]; omega) v
  obtain ⟨R, hR⟩ : ∃ R, R9.growF room D.2.1 ks t (R9.k4.getD i default) = R := ⟨_, rfl⟩
  have hnx := mapS_next (R := R) hlen (by show i < 4; omega) hrr hR
  rw [ekk] at hR
  have hgd := fun e : R.2.2 = 0 => R9.growF_gd (lv := k + 1) (k := (i : Int)) hlk ⟨di.pre hpre, by rw [Int.toNat_natCast]; exact (hkid i hi4).pre hpre⟩ (by rw [hR]; exact e)
  rw [hR] at hgd
  have er1 : R6.put t.ns room (R9.bigK D.2.1 i (ks.getD i default) 0) (R9.bigK D.2.1 i (ks.getD i default) 1) (R9.bigK D.2.1 i (ks.getD i default) 2) (R9.bigK D.2.1 i (ks.getD i default) 3) = (R.1.ns, R.2.1, R.2.2) := by rw [← hR]; rfl
  refine tri_skip (tT (tS (tri_block (tS (tR (tM rfl rfl (tM rfl rfl ?_)))))))
  refine tM rfl rfl (tM rfl rfl ?_)
  refine tri_v (opv_buildA rfl rfl) rfl ?_
  refine tri_g opg_alloc rfl ?_
  rintro _ _ _ ⟨b13, rfl, rfl, rfl⟩
  refine tri_g (opg_store rfl rfl rfl rfl rfl rfl) rfl ?_
  rintro _ _ _ ⟨rfl, rfl⟩
  refine tN (tT (tS ?_))
  rw [show ([.int .i64 D.2.1, .int .i64 D.2.1, .int .i64 D.2.1, .int .i64 D.2.1] : List Value) = ints [D.2.1, D.2.1, D.2.1, D.2.1] from rfl]
  refine tR (tM rfl rfl ?_)
  refine tri_v (opv_sub rfl rfl (w64 (by omega) (by omega))) rfl ?_
  refine tM rfl rfl ?_
  refine tri_v (opv_indexAddrA rfl rfl (by omega) (by omega)) rfl ?_
  refine tri_v (opv_loadIX rfl rfl (by omega)) rfl ?_
  refine tri_v (opv_indexAddrA rfl rfl (by omega) (by omega)) rfl ?_
  rw [ei]
  refine tri_g (opg_storeIX rfl rfl (by simp only [List.length_cons, List.length_nil]; omega)) rfl ?_
  rintro _ _ _ ⟨rfl, rfl⟩
  rw [bigK_set _ _ hi4]
  refine tN (tT (tS (tR ?_)))
  refine tri_v (opv_loadA rfl rfl rfl) rfl ?_
  refine tri_v (opv_loadA rfl rfl rfl) rfl ?_
  refine tri_g (opg_call (xs := [_, _]) rfl (ref06_putSq hs2 hlk.good er1)) rfl ?_
  rintro _ _ I3 ⟨a3, c3, rfl, hs3, rfl, hI3⟩
  refine tM rfl rfl ?_
  refine tri_v (opv_extract rfl rfl) rfl ?_
  refine tri_v (opv_extract rfl rfl) rfl ?_
  refine tri_v (opv_extract rfl rfl) rfl ?_
  refine tri_g opg_alloc rfl ?_
  rintro _ _ _ ⟨b14, rfl, rfl, rfl⟩
  refine tri_g (opg_store rfl rfl rfl rfl rfl rfl) rfl ?_
  rintro _ _ _ ⟨rfl, rfl⟩
  refine tA rfl rfl (tA rfl rfl (tN (tT (tS (tS (tR (tM rfl rfl ?_)))))))
  refine tri_v (opv_neq rfl rfl) rfl ?_
  refine tN (tT ?_)
  refine tri_cond_dec rfl (fun x2 => ?_) (fun x2 => ?_)
  ·have e2 := hnx.2 x2
   rw [R9.bindM_err (by rw [e2]; exact x2), e2] at hr
   subst hr
   refine tS (tR ?_)
   refine tri_v (opv_loadA rfl rfl rfl) rfl ?_
   refine tM rfl rfl ?_
   refine tri_g (opg_store rfl rfl rfl rfl rfl rfl) rfl ?_
   rintro _ _ _ ⟨rfl, rfl⟩
   refine tA rfl rfl (tA rfl rfl (tN (tT (tri_ret (tri_then_ret ?_)))))
   refine tri_inBlock_ret ?_
   refine tri_then_ret (tri_then_ret ?_)
   refine tri_inBlock_ret ?_
   refine tri_then_ret ?_
   refine tri_end A Suf.h rfl (.cons (rv_cellA rfl rfl rfl) (.cons (rv_tmp rfl) (.cons (rv_tmp rfl) .nil))) ⟨a, cap, by rw [show R9.out ns (R2.1, 0, R.2.2) = (ns, 0, R.2.2) from if_pos x2]; rfl, ?_, rfl, fun _ h => hI3 (hI2 (hI1 h))⟩
   rw [show R9.out ns (R2.1, 0, R.2.2) = (ns, 0, R.2.2) from if_pos x2]
   exact hs.mono fun _ h => hI3 (hI2 (hI1 h))
  ·have x2' : R.2.2 = 0 := Decidable.not_not.1 x2
   refine tri_skip (tT (tS (tR ?_)))
   refine tri_v (opv_loadA rfl rfl rfl) rfl ?_
   refine tri_g (opg_store rfl rfl rfl rfl rfl rfl) rfl ?_
   rintro _ _ _ ⟨rfl, rfl⟩
   refine tN (tT (tR (tM rfl rfl (tM rfl rfl ?_))))
   refine tri_v (opv_indexAddrA rfl rfl (by omega) (by omega)) rfl ?_
   refine tri_g (opg_storeIX rfl rfl (by omega)) rfl ?_
   rintro _ _ _ ⟨rfl, rfl⟩
   rw [eset]
   refine tN ?_
   refine tri_inBlock ?_
   refine tT (tR (tM rfl rfl ?_))
   refine tU rfl rfl (by omega) (by omega) rfl ?_
   refine tA rfl rfl (tN (tT ?_))
   refine tri_drop ?_
   refine tri_drop ?_
   refine tri_sub ?_ (hK (i + 1, R.1, res ++ [R.2.1], a3, c3, I3) ⟨by simp only; omega, (hnx.1 x2').1, (hnx.1 x2').2, (hgd x2').lk, hpre.trans (hgd x2').pre, hs3, fun _ h => hI3 (hI2 h)⟩ (by simp only; omega))
   exact ⟨rfl, rfl, rfl, rfl, rfl, rfl, rfl, trivial⟩
 ·have hi4 : i = 4 := by omega
  subst hi4
  have hR2' : R2 = (t, res, 0) := by rw [hrr]; simp [R9.k4, R9.mapS]
  rw [hR2', R9.bindM_ok rfl] at hr
  simp only at hr
  obtain ⟨p0, p1, p2, p3, hp⟩ := four_len hlen
  rw [midL_done (by rw [hlen]; rfl), hp]
  rw [hp] at hr
  have er1 : R6.put t.ns room p0 p1 p2 p3 = (r.1.ns, r.2.1, r.2.2) := by rw [← hr]; rfl
  refine tri_exit ?_
  refine tri_then_exit ?_
  refine tri_then_exit ?_
  refine tri_inBlock_hit rfl ?_
  refine tT (tS (tR ?_))
  refine tri_v (opv_loadA rfl rfl rfl) rfl ?_
  refine tri_v (opv_loadA rfl rfl rfl) rfl ?_
  refine tri_g (opg_call (xs := [_, _]) rfl (ref06_putSq hs2 hlk.good er1)) rfl ?_
  rintro _ _ I3 ⟨a3, c3, rfl, hs3, rfl, hI3⟩
  refine tM rfl rfl ?_
  refine tri_v (opv_extract rfl rfl) rfl ?_
  refine tri_v (opv_extract rfl rfl) rfl ?_
  refine tri_v (opv_extract rfl rfl) rfl ?_
  refine tri_g opg_alloc rfl ?_
  rintro _ _ _ ⟨b17, rfl, rfl, rfl⟩
  refine tri_g (opg_store rfl rfl rfl rfl rfl rfl) rfl ?_
  rintro _ _ _ ⟨rfl, rfl⟩
  refine tA rfl rfl (tA rfl rfl (tN (tT (tS (tS (tR (tM rfl rfl ?_)))))))
  refine tri_v (opv_neq rfl rfl) rfl ?_
  refine tN (tT ?_)
  refine tri_cond_dec rfl (fun x3 => ?_) (fun x3 => ?_)
  ·refine tS (tR ?_)
   refine tri_v (opv_loadA rfl rfl rfl) rfl ?_
   refine tM rfl rfl ?_
   refine tri_g (opg_store rfl rfl rfl rfl rfl rfl) rfl ?_
   rintro _ _ _ ⟨rfl, rfl⟩
   refine tA rfl rfl (tA rfl rfl (tN (tT (tri_ret (tri_then_ret ?_)))))
   refine tri_end A Suf.h rfl (.cons (rv_cellA rfl rfl rfl) (.cons (rv_tmp rfl) (.cons (rv_tmp rfl) .nil))) ⟨a, cap, by rw [show R9.out ns r = (ns, 0, r.2.2) from if_pos x3]; rfl, ?_, rfl, fun _ h => hI3 (hI2 (hI1 h))⟩
   rw [show R9.out ns r = (ns, 0, r.2.2) from if_pos x3]
   exact hs.mono fun _ h => hI3 (hI2 (hI1 h))
  ·refine tri_skip (tT (tS (tR ?_)))
   refine tri_v (opv_loadA rfl rfl rfl) rfl ?_
   refine tM rfl rfl ?_
   refine tri_g (opg_store rfl rfl rfl rfl rfl rfl) rfl ?_
   rintro _ _ _ ⟨rfl, rfl⟩
   refine tA rfl rfl (tA rfl rfl (tN (tT (tri_ret ?_))))
   refine tri_end A Suf.h rfl (.cons (rv_cellA rfl rfl rfl) (.cons (rv_tmp rfl) (.cons (rv_tmp rfl) .nil))) ⟨a3, c3, by rw [show R9.out ns r = (r.1.ns, r.2.1, 0) from if_neg x3]; rfl, ?_, rfl, fun _ h => hI3 (hI2 (hI1 h))⟩
   rw [show R9.out ns r = (r.1.ns, r.2.1, 0) from if_neg x3]
   exact hs3
end Go.GL

set_option linter.unusedVariables false
namespace Go.GL
open Go.Proofs
attribute [local irreducible] wpList Code.wp Exit.then Exit.inBlock Ends Tri TriH OpV OpG FnC epf wpAnyH
variable {A : List Asrt} {I : List Chunk}
namespace R9
theorem mapS_mm {f : LS → Int → L9} (hf : ∀ s q, (f s q).1.mm = s.mm) : ∀ (qs : List Int) (s : LS), (mapS f s qs).1.mm = s.mm
 | [], s => rfl
 | q :: qs, s => by
  unfold mapS
  split
  ·exact hf s q
  ·exact (mapS_mm hf qs _).trans (hf s q)
theorem grow_mm (room : Int) (s : LS) (n : Int) : (grow room s n).1.mm = s.mm := by
 rw [grow_eq]
 split
 ·rfl
 ·split
  ·rfl
  ·unfold bindM
   split
   ·exact mapS_mm (fun _ _ => rfl) _ _
   ·exact mapS_mm (fun _ _ => rfl) _ _
end R9
set_option maxHeartbeats 2000000 in
set_option maxRecDepth 100000 in
theorem ref09_grow {ns : List Node} {mm : R9.Memo} {a ad : Option Addr} {cap cd bl : Nat} {room e n : Int} {r : R9.L9} (hs : StA I a cap ns) (h0 : e = 0 → R9.Lk room ⟨ns, mm⟩ ∧ (∃ k : Nat, R7.IsN ns (k + 2) n) ∧ R9.grow room ⟨ns, mm⟩ n = r) (h1 : e ≠ 0 → r.2.2 = e) :
  FnC Try.prog 54 [pt bl 0, .int .i64 n].toArray (LgA bl a cap ns.length room ad cd mm e A) I (LgR bl r room A I) := by
 have hsl := hs.sl
 skip
 refine fn_enter2 Try.func54 rfl Try.ntmps54 rfl fun w0 => ?_
 refine tS (tR (tA rfl rfl (tN (tT (tS (tS (tR ?_)))))))
 refine tM rfl rfl ?_
 refine tri_v (opv_nilCheck rfl) rfl ?_
 refine tri_v (opv_fieldAddr rfl rfl) rfl ?_
 refine tri_v (opv_load1 rfl rfl rfl) rfl ?_
 refine tri_v (opv_eql rfl rfl) rfl ?_
 refine tM rfl rfl ?_
 refine tri_split rfl rfl (fun g1 => ?_) (fun g1 => ?_)
 ·obtain ⟨hlk, ⟨k, hn⟩, hr⟩ := h0 g1
  subst g1
  have hlv : (ns.getD n.toNat default).lv = (k + 2 : Nat) := hn.2
  have hlv2 : (R6.nd ns n).lv = (k + 2 : Nat) := hn.2
  obtain ⟨hn0, hn1⟩ := hn.1
  refine tri_guard_run rfl rfl rfl (tM rfl rfl (tri_guard_run rfl rfl rfl ?_))
  refine tri_v (opv_nilCheck rfl) rfl ?_
  refine tri_guard_run rfl rfl rfl ?_
  refine tri_v (opv_fieldAddr rfl rfl) rfl ?_
  refine tri_guard_run rfl rfl rfl ?_
  refine tri_v (opv_fieldAddr rfl rfl) rfl ?_
  refine tri_guard_run rfl rfl rfl ?_
  refine tri_v (opv_load1 rfl rfl rfl) rfl ?_
  refine tri_guard_run rfl rfl rfl (tM rfl rfl (tri_guard_run rfl rfl rfl ?_))
  refine tri_v (opv_indexAddrS rfl rfl (by omega) (by omega) (by assumption) rfl) rfl ?_
  refine tri_guard_run rfl rfl rfl ?_
  refine tri_v (opv_fieldAddrE rfl (by assumption) (by omega) rfl) rfl ?_
  refine tri_guard_run rfl rfl rfl ?_
  refine tri_v (opv_loadE1 rfl (by assumption) rfl (by omega) rfl rfl) rfl ?_
  refine tri_guard_run rfl rfl rfl ?_
  refine tri_v (opv_geq rfl rfl) rfl ?_
  refine tri_v (opv_pick_t rfl rfl) rfl ?_
  refine tN (tT ?_)
  refine tri_cond_dec rfl (fun h2 => ?_) (fun h2 => ?_)
  ·rw [R9.grow_eq, if_pos (show 42 ≤ (R6.nd ns n).lv by omega)] at hr
   subst hr
   refine tR (tM rfl rfl ?_)
   refine tri_v (opv_nilCheck rfl) rfl ?_
   refine tri_v (opv_fieldAddr rfl rfl) rfl ?_
   refine tri_g (opg_store rfl rfl rfl rfl rfl rfl) rfl ?_
   rintro _ _ _ ⟨rfl, rfl⟩
   refine tN (tT (tS (tS (tR (tM rfl rfl ?_)))))
   refine tri_v (opv_nilCheck rfl) rfl ?_
   refine tri_v (opv_fieldAddr rfl rfl) rfl ?_
   refine tri_v (opv_load1 rfl rfl rfl) rfl ?_
   refine tri_v (opv_neq rfl rfl) rfl ?_
   refine tN (tT ?_)
   refine tri_cond_is rfl (by decide) ?_
   refine tS (tR (tA rfl rfl (tN (tT (tri_ret (tri_then_ret ?_))))))
   refine tri_end (LgA bl a cap ns.length room ad cd mm 2 A) Suf.h rfl (.cons (rv_tmp rfl) .nil) ⟨a, cap, ad, cd, ns, mm, 0, rfl, rfl, hs, fun x => absurd x (show ¬ (2 : Int) = 0 by decide), fun _ h => h⟩
  ·refine tri_skip (tT (tS (tS (tR (tM rfl rfl ?_)))))
   refine tri_v (opv_nilCheck rfl) rfl ?_
   refine tri_v (opv_fieldAddr rfl rfl) rfl ?_
   refine tri_v (opv_load1 rfl rfl rfl) rfl ?_
   refine tri_v (opv_neq rfl rfl) rfl ?_
   refine tN (tT ?_)
   refine tri_cond_not rfl (by decide) ?_
   refine tri_skip (tT (tS (tR (tM rfl rfl ?_))))
   refine tri_v (opv_nilCheck rfl) rfl ?_
   refine tri_v (opv_fieldAddr rfl rfl) rfl ?_
   refine tri_v (opv_loadA rfl rfl rfl) rfl ?_
   refine tM rfl rfl ?_
   refine tri_g (opg_call (xs := [_, _]) rfl (ref07_larger hs hlk hn (by omega) hr)) rfl ?_
   rintro _ _ I2 ⟨a2, c2, rfl, hs2, rfl, hI⟩
   refine tM rfl rfl ?_
   refine tri_v (opv_extract rfl rfl) rfl ?_
   refine tri_v (opv_extract rfl rfl) rfl ?_
   refine tri_v (opv_extract rfl rfl) rfl ?_
   refine tri_g opg_alloc rfl ?_
   rintro _ _ _ ⟨b5, rfl, rfl, rfl⟩
   refine tri_g (opg_store rfl rfl rfl rfl rfl rfl) rfl ?_
   rintro _ _ _ ⟨rfl, rfl⟩
   refine tA rfl rfl (tA rfl rfl (tN (tT (tS (tR (tM rfl rfl ?_))))))
   refine tri_v (opv_loadA rfl rfl rfl) rfl ?_
   refine tri_v (opv_nilCheck rfl) rfl ?_
   refine tri_v (opv_fieldAddr rfl rfl) rfl ?_
   refine tri_g (opg_store rfl rfl rfl rfl rfl rfl) rfl ?_
   rintro _ _ _ ⟨rfl, rfl⟩
   refine tN (tT (tS (tR (tM rfl rfl (tM rfl rfl ?_)))))
   refine tri_v (opv_nilCheck rfl) rfl ?_
   refine tri_v (opv_fieldAddr rfl rfl) rfl ?_
   refine tri_g (opg_store rfl rfl rfl rfl rfl rfl) rfl ?_
   rintro _ _ _ ⟨rfl, rfl⟩
   refine tN (tT (tS (tR (tM rfl rfl (tA rfl rfl (tN (tT ?_)))))))
   refine tri_ret ?_
   refine tri_end (LgA bl a2 c2 (R9.out ns r).1.length room ad cd mm (R9.out ns r).2.2 A) Suf.h rfl (.cons (rv_tmp rfl) .nil) ⟨a2, c2, ad, cd, (R9.out ns r).1, mm, (R9.out ns r).2.1, rfl, ?_, hs2, fun x => ?_, hI⟩
   ·rw [show (R9.out ns r).2.2 = r.2.2 from ?_]
    unfold R9.out
    split
    ·rfl
    ·rename_i x; exact (Decidable.not_not.1 x).symm
   ·rw [show R9.out ns r = (r.1.ns, r.2.1, 0) from if_neg (by simpa using x)]
    exact ⟨rfl, by rw [← hr]; exact (R9.grow_mm room ⟨ns, mm⟩ n).symm, rfl⟩
 ·refine tri_guard_skip rfl rfl rfl rfl (tri_guard_skip rfl rfl rfl rfl (tri_guard_skip rfl rfl rfl rfl (tri_guard_skip rfl rfl rfl rfl (tri_guard_skip rfl rfl rfl rfl (tri_guard_skip rfl rfl rfl rfl (tri_guard_skip rfl rfl rfl rfl (tri_guard_skip rfl rfl rfl rfl ?_)))))))
  refine tri_guard_skip rfl rfl rfl rfl (tri_guard_skip rfl rfl rfl rfl ?_)
  refine tri_v (opv_pick_f rfl rfl) rfl ?_
  refine tN (tT ?_)
  refine tri_cond_false rfl ?_
  refine tri_skip (tT (tS (tS (tR (tM rfl rfl ?_)))))
  refine tri_v (opv_nilCheck rfl) rfl ?_
  refine tri_v (opv_fieldAddr rfl rfl) rfl ?_
  refine tri_v (opv_load1 rfl rfl rfl) rfl ?_
  refine tri_v (opv_neq rfl rfl) rfl ?_
  refine tN (tT ?_)
  refine tri_cond_is rfl (g1) ?_
  refine tS (tR (tA rfl rfl (tN (tT (tri_ret (tri_then_ret ?_))))))
  refine tri_end (LgA bl a cap ns.length room ad cd mm e A) Suf.h rfl (.cons (rv_tmp rfl) .nil) ⟨a, cap, ad, cd, ns, mm, 0, rfl, by rw [h1 g1], hs, fun x => absurd (er_zero h1 x) g1, fun _ h => h⟩
namespace R9
/-- The document's growing, that goes on behind an error. -/
structure GS (room j : Int) (r0 : L9) (i : Nat) (t : LS) (m e : Int) : Prop where
 ok : e = 0 → Lk room t ∧ Kn t.mm ∧ (∃ k : Nat, i ≤ k ∧ k ≤ 40 ∧ R7.IsN t.ns (k + 2) m) ∧ r0 = more room j i t m
 er : e ≠ 0 → r0.2.2 = e
theorem GS.step {room j : Int} {r0 : L9} {i : Nat} {t : LS} {m e : Int} (h : GS room j r0 i t m e) (hc : e = 0 → i < 2 ∨ (R6.nd t.ns m).lv < j + 3) {R : L9} (hR : e = 0 → grow room t m = R) (hRe : e ≠ 0 → R.2.2 = e) {t' : LS} {m' : Int} (hm : R.2.2 = 0 → t' = R.1 ∧ m' = R.2.1) : GS room j r0 (i + 1) t' m' R.2.2 := by
 refine ⟨fun x => ?_, fun x => ?_⟩
 ·have e0 := er_zero hRe x
  obtain ⟨h1, h2, ⟨k, hk1, hk2, hk3⟩, h4⟩ := h.ok e0
  obtain ⟨rfl, rfl⟩ := hm x
  rw [more_step (by omega) (hc e0), hR e0, bindS_ok x] at h4
  have g := grow_gd h1 hk3 (by rw [hR e0]; exact x)
  rw [hR e0] at g
  have hb := (g.lk.wf.lvb g.is.1).2
  rw [g.is.2] at hb
  exact ⟨g.lk, by rw [← hR e0, grow_mm]; exact h2, ⟨k + 1, by omega, by omega, g.is⟩, h4⟩
 ·by_cases e0 : e = 0
  ·obtain ⟨h1, h2, ⟨k, hk1, hk2, hk3⟩, h4⟩ := h.ok e0
   rw [more_step (by omega) (hc e0), hR e0, bindS_err x] at h4
   rw [h4]
  ·rw [h.er e0, hRe e0]
end R9
theorem may_lk' {ns : List Node} {room n : Int} (h : R8.may ns room n 2) : R9.Lk room (⟨ns, []⟩ : R9.LS) ∧ ∃ k : Nat, R7.IsN ns (k + 2) n := by
 have h2 := h.2.2
 exact ⟨⟨h.1, fun p hp => by cases hp⟩, ((R6.nd ns n).lv - 2).toNat, ⟨h.2.1, by omega⟩⟩
theorem runL_drop' {room : Int} {js : List Int} {i : Nat} (hi : i < js.length) (t : R9.LS) (n : Int) : R9.runL room (js.drop i) t n = R9.bindS (R9.power room t n (js.getD i default)) (R9.runL room (js.drop (i + 1))) := by
 rw [List.drop_eq_getElem_cons hi, show js.getD i default = js[i] by simp [hi]]
 rfl
set_option maxHeartbeats 2000000 in
set_option maxRecDepth 100000 in
theorem ref09_run {ns : List Node} {a : Option Addr} {cap : Nat} {room n c : Int} (hs : StA I a cap ns) (hn : ns.length ≤ 1000000000) (hrg : R6.Rng ns) :
  FnC Try.prog 21 [storeV a ns.length cap room, .int .i64 n, .int .i64 c].toArray A I (StoreR (R9.runT ns room n c) room A I) := by
 have hsl := hs.sl
 have bad : ¬ (R8.may ns room n 2 ∧ 0 ≤ c ∧ c ≤ 4611686018427387903) → R9.runT ns room n c = (ns, 0, 1) := fun h => if_neg h
 skip
 refine fn_enter3 Try.func21 rfl Try.ntmps21 rfl fun w0 => ?_
 refine tS (tR ?_)
 refine tri_g (opg_box_agg rfl) rfl ?_
 rintro _ _ _ ⟨b3, rfl, rfl, rfl⟩
 refine tri_g opg_alloc rfl ?_
 rintro _ _ _ ⟨b6, rfl, rfl, rfl⟩
 refine tA rfl rfl (tA rfl rfl (tN (tT (tS (tS (tR ?_))))))
 refine tri_v (opv_loadA rfl rfl rfl) rfl ?_
 refine tM rfl rfl ?_
 refine tri_g (opg_call (xs := [_, _, _]) rfl (ref08_may hsl hn hrg)) rfl ?_
 rintro _ _ _ ⟨rfl, rfl, rfl⟩
 refine tri_v (opv_notD rfl) rfl ?_
 refine tM rfl rfl ?_
 refine tri_split rfl rfl (fun g1 => ?_) (fun g1 => ?_)
 ·rw [bad fun x => g1 x.1]
  refine tri_guard_skip rfl rfl rfl rfl (tri_guard_skip rfl rfl rfl rfl ?_)
  refine tri_v (opv_pick_t rfl rfl) rfl ?_
  refine tM rfl rfl (tri_guard_skip rfl rfl rfl rfl (tri_guard_skip rfl rfl rfl rfl ?_))
  refine tri_v (opv_pick_t rfl rfl) rfl ?_
  refine tN (tT ?_)
  refine tri_cond_true rfl ?_
  refine tS (tR ?_)
  refine tri_v (opv_loadA rfl rfl rfl) rfl ?_
  refine tri_g (opg_store rfl rfl rfl rfl rfl rfl) rfl ?_
  rintro _ _ _ ⟨rfl, rfl⟩
  refine tA rfl rfl (tA rfl rfl (tN (tT (tri_ret (tri_then_ret ?_)))))
  refine tri_end A Suf.h rfl (.cons (rv_cellA rfl rfl rfl) (.cons (rv_tmp rfl) (.cons (rv_tmp rfl) .nil))) ⟨a, cap, rfl, hs, rfl, fun _ h => h⟩
 ·have hm : R8.may ns room n 2 := Decidable.not_not.1 g1
  obtain ⟨lk0, k0, hn0⟩ := may_lk' hm
  refine tri_guard_run rfl rfl rfl (tM rfl rfl (tri_guard_run rfl rfl rfl ?_))
  refine tri_v (opv_lss rfl rfl) rfl ?_
  refine tri_v (opv_pick_f rfl rfl) rfl ?_
  refine tM rfl rfl ?_
  refine tri_split rfl rfl (fun g2 => ?_) (fun g2 => ?_)
  ·rw [bad fun x => by omega]
   refine tri_guard_skip rfl rfl rfl rfl (tri_guard_skip rfl rfl rfl rfl ?_)
   refine tri_v (opv_pick_t rfl rfl) rfl ?_
   refine tN (tT ?_)
   refine tri_cond_true rfl ?_
   refine tS (tR ?_)
   refine tri_v (opv_loadA rfl rfl rfl) rfl ?_
   refine tri_g (opg_store rfl rfl rfl rfl rfl rfl) rfl ?_
   rintro _ _ _ ⟨rfl, rfl⟩
   refine tA rfl rfl (tA rfl rfl (tN (tT (tri_ret (tri_then_ret ?_)))))
   refine tri_end A Suf.h rfl (.cons (rv_cellA rfl rfl rfl) (.cons (rv_tmp rfl) (.cons (rv_tmp rfl) .nil))) ⟨a, cap, rfl, hs, rfl, fun _ h => h⟩
  ·refine tri_guard_run rfl rfl rfl (tM rfl rfl (tri_guard_run rfl rfl rfl ?_))
   refine tri_v (opv_gtr rfl rfl) rfl ?_
   refine tri_v (opv_pick_f rfl rfl) rfl ?_
   refine tN (tT ?_)
   refine tri_cond_dec rfl (fun g3 => ?_) (fun g3 => ?_)
   ·rw [bad fun x => by omega]
    refine tS (tR ?_)
    refine tri_v (opv_loadA rfl rfl rfl) rfl ?_
    refine tri_g (opg_store rfl rfl rfl rfl rfl rfl) rfl ?_
    rintro _ _ _ ⟨rfl, rfl⟩
    refine tA rfl rfl (tA rfl rfl (tN (tT (tri_ret (tri_then_ret ?_)))))
    refine tri_end A Suf.h rfl (.cons (rv_cellA rfl rfl rfl) (.cons (rv_tmp rfl) (.cons (rv_tmp rfl) .nil))) ⟨a, cap, rfl, hs, rfl, fun _ h => h⟩
   ·have hc : 0 ≤ c ∧ c ≤ 4611686018427387903 := by omega
    have hbd := fun j (hj : j ∈ R9.bits c) => R9.bits_bd hj
    have hbl : (R9.bits c).length ≤ 62 := R9.bitsTo_len c 62
    obtain ⟨r, hr⟩ : ∃ r, R9.runL room (R9.bits c) ⟨ns, []⟩ n = r := ⟨_, rfl⟩
    have hrun : R9.runT ns room n c = R9.out ns r := by rw [← hr]; exact if_pos ⟨hm, hc⟩
    rw [hrun]
    refine tri_skip (tT (tS (tR ?_)))
    refine tri_v (opv_loadA rfl rfl rfl) rfl ?_
    refine tri_v (opv_buildS rfl rfl) rfl ?_
    refine tri_g (opg_box_agg rfl) rfl ?_
    rintro _ _ _ ⟨b28, rfl, rfl, rfl⟩
    refine tA rfl rfl (tN (tT (tS (tR (tM rfl rfl ?_)))))
    refine tri_g (opg_call (xs := [_]) rfl (ref03_bits hc)) rfl ?_
    rintro _ _ I1 ⟨ab, cb, rfl, hsb, rfl, hI1⟩
    generalize R9.bits c = js at *
    have hs1 := hs.mono hI1
    refine tA rfl rfl (tN (tT (tS (tR (tM rfl rfl (tA rfl rfl (tN ?_)))))))
    refine tT (tS (tS (tR (tA rfl rfl (tN (tT ?_))))))
    refine tri_nilRow (E := 104) (sz := 3) ?_
    refine tri_perm (A := ?a1_0 :: ?a1_1 :: ?a1_2 :: ?a1_3 :: ?T1) (B := ?a1_1 :: ?a1_0 :: ?a1_2 :: ?a1_3 :: ?T1) (by exact permL [1, 0, 2, 3] [?a1_0, ?a1_1, ?a1_2, ?a1_3] ?T1 (by decide) rfl) ?_
    refine tri_cut (fun F' A' J => ∃ (t : R9.LS) (a' : Option Addr) (c' : Nat) (ad' : Option Addr) (cd' : Nat) (m e : Int), F' = [(3, pt b3 0), (6, pt b6 0), (9, pt b28 0), (11, .int .i64 m)] ∧ A' = LgA b28 a' c' t.ns.length room ad' cd' t.mm e (Box b6 [.slice none 0 0, .int .i64 0] 26 :: Box b3 [.slice a ns.length cap, .int .i64 room] 26 :: A) ∧ StA J a' c' t.ns ∧ I1 ⊆ J ∧ (e = 0 → R9.Lk room t ∧ (∃ k : Nat, R7.IsN t.ns (k + 2) m) ∧ R9.trimS room t m = r) ∧ (e ≠ 0 → r.2.2 = e)) ?_ ?_
    ·refine tri_block ?_
     refine tri_sub (F' := [(3, pt b3 0), (6, pt b6 0), (9, pt b28 0), (10, .slice ab js.length cb), (11, .int .i64 n), (12, .int .i64 (0 : Nat))]) ⟨rfl, rfl, rfl, rfl, rfl, rfl, trivial⟩ ?_
     refine loop_ind (G := Nat × R9.LS × Int × Int × Option Addr × Nat × Option Addr × Nat × List Chunk) (fun g => js.length - g.1) (fun g => g.1 ≤ js.length ∧ (g.2.2.2.1 = 0 → R9.Lk room g.2.1 ∧ R9.Kn g.2.1.mm ∧ (∃ k : Nat, R7.IsN g.2.1.ns (k + 2) g.2.2.1) ∧ R9.runL room (js.drop g.1) g.2.1 g.2.2.1 = r) ∧ (g.2.2.2.1 ≠ 0 → r.2.2 = g.2.2.2.1) ∧ StA g.2.2.2.2.2.2.2.2 g.2.2.2.2.1 g.2.2.2.2.2.1 g.2.1.ns ∧ I1 ⊆ g.2.2.2.2.2.2.2.2) (fun g => [(3, pt b3 0), (6, pt b6 0), (9, pt b28 0), (10, .slice ab js.length cb), (11, .int .i64 g.2.2.1), (12, .int .i64 (g.1 : Nat))]) (fun g => LgA b28 g.2.2.2.2.1 g.2.2.2.2.2.1 g.2.1.ns.length room g.2.2.2.2.2.2.1 g.2.2.2.2.2.2.2.1 g.2.1.mm g.2.2.2.1 (Box b6 [.slice none 0 0, .int .i64 0] 26 :: Box b3 [.slice a ns.length cap, .int .i64 room] 26 :: A)) (fun g => g.2.2.2.2.2.2.2.2) ?_ (0, ⟨ns, []⟩, n, 0, a, cap, none, 0, I1) ⟨by omega, fun _ => ⟨lk0, R9.Kn.nil, ⟨k0, hn0⟩, hr⟩, fun x => absurd rfl x, hs1, fun _ h => h⟩
     rintro ⟨i, t, m, e, a2, c2, ad2, cd2, I2⟩ ⟨hi, hok, her, hs2, hI2⟩ K hK
     simp only at hi hok her hs2 hI2 hK ⊢
     skip
     refine tS (tS (tR (tM rfl rfl (tM rfl rfl ?_))))
     refine tri_v (opv_len rfl) rfl ?_
     refine tri_v (opv_lss rfl rfl) rfl ?_
     refine tM rfl rfl ?_
     refine tri_split rfl rfl (fun h1 => ?_) (fun h1 => ?_)
     ·have hlt : i < js.length := by omega
      refine tri_guard_run rfl rfl rfl (tM rfl rfl (tri_guard_run rfl rfl rfl ?_))
      refine tri_v (opv_nilCheck rfl) rfl ?_
      refine tri_guard_run rfl rfl rfl ?_
      refine tri_v (opv_fieldAddr rfl rfl) rfl ?_
      refine tri_guard_run rfl rfl rfl ?_
      refine tri_v (opv_load1 rfl rfl rfl) rfl ?_
      refine tri_guard_run rfl rfl rfl ?_
      refine tri_v (opv_eql rfl rfl) rfl ?_
      refine tri_v (opv_pick_t rfl rfl) rfl ?_
      refine tN (tT ?_)
      refine tri_cond_dec rfl (fun he => ?_) (fun he => ?_)
      ·obtain ⟨lk, kn, ⟨k, hnk⟩, hrl⟩ := hok he
       subst he
       rw [runL_drop' hlt] at hrl
       have hj := hbd (js.getD i default) (by simp [hlt])
       obtain ⟨j, hje⟩ : ∃ j, js.getD i default = j := ⟨_, rfl⟩
       rw [hje] at hrl hj
       obtain ⟨Rp, hRp⟩ : ∃ Rp, R9.power room t m j = Rp := ⟨_, rfl⟩
       rw [hRp] at hrl
       have hpge := fun x : Rp.2.2 = 0 => R9.power_ge lk hnk (by rw [hRp]; exact x)
       rw [hRp] at hpge
       rw [R9.power_eq] at hRp
       obtain ⟨R1, hR1⟩ : ∃ R1, R9.trimS room t m = R1 := ⟨_, rfl⟩
       rw [hR1] at hRp
       have htg := fun x : R1.2.2 = 0 => R9.trimS_ge lk hnk (by rw [hR1]; exact x)
       rw [hR1] at htg
       unfold R9.trimS at hR1
       rw [R9.lvS_is hnk] at hR1
       have hR1m : R1.1.mm = t.mm := by rw [← hR1]; exact R9.trim_mm ..
       obtain ⟨r0, hr0⟩ : ∃ r0, R9.bindS R1 (R9.more room j 0) = r0 := ⟨_, rfl⟩
       rw [hr0] at hRp
       refine tri_skip (tT (tS (tri_block (tS (tR (tM rfl rfl (tM rfl rfl ?_)))))))
       refine tri_g (opg_call (xs := [_, _]) rfl (ref09_trim (mm := t.mm) hs2 (fun _ => ⟨lk, hnk, hR1⟩) (fun x => absurd rfl x))) rfl ?_
       rintro _ _ I3 ⟨a3, c3, ad3, cd3, ns3, mm3, m3, rfl, rfl, hs3, hm3, hI3⟩
       have gs0 : R9.GS room j r0 0 ⟨ns3, mm3⟩ m3 R1.2.2 := by
        refine ⟨fun x => ?_, fun x => by rw [← hr0, R9.bindS_err x]⟩
        obtain ⟨rfl, rfl, rfl⟩ := hm3 x
        have g := htg x
        obtain ⟨k', hk'⟩ := g.is
        have hb := (g.lk.wf.lvb hk'.1).2
        rw [hk'.2] at hb
        exact ⟨g.lk, by rw [hR1m]; exact kn, ⟨k', by omega, by omega, hk'⟩, by rw [← hr0, R9.bindS_ok x]⟩
       obtain ⟨R2, hR2, hR2e⟩ := er_pick R1.2.2 (R9.grow room ⟨ns3, mm3⟩ m3)
       refine tA rfl rfl (tN (tT (tS (tR (tM rfl rfl (tM rfl rfl (tM rfl rfl ?_)))))))
       refine tri_g (opg_call (xs := [_, _]) rfl (ref09_grow hs3 (fun x => ⟨(gs0.ok x).1, (let ⟨k, _, _, h⟩ := (gs0.ok x).2.2.1; ⟨k, h⟩), hR2 x⟩) hR2e)) rfl ?_
       rintro _ _ I4 ⟨a4, c4, ad4, cd4, ns4, mm4, m4, rfl, rfl, hs4, hm4, hI4⟩
       have gs1 := gs0.step (fun _ => .inl (by omega)) hR2 hR2e (t' := ⟨ns4, mm4⟩) (m' := m4) (fun x => ⟨by rw [(hm4 x).1, (hm4 x).2.1], (hm4 x).2.2⟩)
       obtain ⟨R3, hR3, hR3e⟩ := er_pick R2.2.2 (R9.grow room ⟨ns4, mm4⟩ m4)
       skip
       refine tri_g (opg_call (xs := [_, _]) rfl (ref09_grow hs4 (fun x => ⟨(gs1.ok x).1, (let ⟨k, _, _, h⟩ := (gs1.ok x).2.2.1; ⟨k, h⟩), hR3 x⟩) hR3e)) rfl ?_
       rintro _ _ I5 ⟨a5, c5, ad5, cd5, ns5, mm5, m5, rfl, rfl, hs5, hm5, hI5⟩
       have gs2 := gs1.step (fun _ => .inl (by omega)) hR3 hR3e (t' := ⟨ns5, mm5⟩) (m' := m5) (fun x => ⟨by rw [(hm5 x).1, (hm5 x).2.1], (hm5 x).2.2⟩)
       generalize R3.2.2 = e5 at *
       refine tA rfl rfl (tN (tT (tS (tri_block ?_))))
       refine tri_sub (F' := [(3, pt b3 0), (6, pt b6 0), (9, pt b28 0), (10, .slice ab js.length cb), (11, .int .i64 m5), (12, .int .i64 (i : Nat))]) ⟨rfl, rfl, rfl, rfl, rfl, rfl, trivial⟩ ?_
       refine loop_ind (G := Nat × R9.LS × Int × Int × Option Addr × Nat × Option Addr × Nat × List Chunk) (fun g => 100 - g.1) (fun g => 2 ≤ g.1 ∧ g.1 ≤ 41 ∧ R9.GS room j r0 g.1 g.2.1 g.2.2.1 g.2.2.2.1 ∧ StA g.2.2.2.2.2.2.2.2 g.2.2.2.2.1 g.2.2.2.2.2.1 g.2.1.ns ∧ I1 ⊆ g.2.2.2.2.2.2.2.2) (fun g => [(3, pt b3 0), (6, pt b6 0), (9, pt b28 0), (10, .slice ab js.length cb), (11, .int .i64 g.2.2.1), (12, .int .i64 (i : Nat))]) (fun g => LgA b28 g.2.2.2.2.1 g.2.2.2.2.2.1 g.2.1.ns.length room g.2.2.2.2.2.2.1 g.2.2.2.2.2.2.2.1 g.2.1.mm g.2.2.2.1 (Box b6 [.slice none 0 0, .int .i64 0] 26 :: Box b3 [.slice a ns.length cap, .int .i64 room] 26 :: A)) (fun g => g.2.2.2.2.2.2.2.2) ?_ (2, ⟨ns5, mm5⟩, m5, e5, a5, c5, ad5, cd5, I5) ⟨by omega, by simp only; omega, gs2, hs5, fun _ h => hI5 (hI4 (hI3 (hI2 h)))⟩
       clear gs0 gs1 gs2 hm3 hm4 hm5 hR2 hR3 hR2e hR3e
       rintro ⟨q, t6, m6, e6, a6, c6, ad6, cd6, I6⟩ ⟨hq2, hq41, gs, hs6, hI6⟩ K2 hK2
       simp only at hq2 hq41 gs hs6 hI6 hK2 ⊢
       have hsl6 := hs6.sl
       have hsb6 := hsb.mono hI6
       have fin : ∀ (R4 : R9.L9), (e6 = 0 → r0 = (t6, m6, 0)) → (e6 = 0 → R9.leap room (R9.lvS t6 m6) t6 m6 j = R4) → (e6 ≠ 0 → R4.2.2 = e6) → (R4.2.2 = 0 → R9.Lk room R4.1 ∧ R9.Kn R4.1.mm ∧ (∃ k : Nat, R7.IsN R4.1.ns (k + 2) R4.2.1) ∧ R9.runL room (js.drop (i + 1)) R4.1 R4.2.1 = r) ∧ (R4.2.2 ≠ 0 → r.2.2 = R4.2.2) := by
        intro R4 q0 q1 q2
        by_cases x6 : e6 = 0
        ·have x0 := q0 x6
         have x1 := q1 x6
         have hp : Rp = R4 := by rw [← hRp, x0, R9.bindS_ok rfl]; exact x1
         subst hp
         refine ⟨fun x => ?_, fun x => by rw [← hrl, R9.bindS_err x]⟩
         rw [R9.bindS_ok x] at hrl
         obtain ⟨b1, b2, ⟨k6, _, _, b3⟩, b4⟩ := gs.ok x6
         refine ⟨(hpge x).lk, ?_, (hpge x).is, hrl⟩
         rw [← x1, R9.lvS_is b3]
         exact R9.leap_kn k6 _ _ _ b1 b3 (by omega) (by rw [← R9.lvS_is b3, x1]; exact x) b2
        ·refine ⟨fun x => absurd (er_zero q2 x) x6, fun x => ?_⟩
         rw [q2 x6]
         have h0 := gs.er x6
         have hp : Rp.2.2 = e6 := by rw [← hRp, R9.bindS_err (by rw [h0]; exact x6)]; exact h0
         rw [← hrl, R9.bindS_err (by rw [hp]; exact x6)]
         exact hp
       obtain ⟨k6, hk6⟩ : ∃ k6 : Nat, e6 = 0 → R7.IsN t6.ns (k6 + 2) m6 := by
        by_cases x6 : e6 = 0
        ·obtain ⟨_, _, ⟨k6, _, _, b3⟩, _⟩ := gs.ok x6
         exact ⟨k6, fun _ => b3⟩
        ·exact ⟨0, fun x => absurd x x6⟩
       obtain ⟨R4, hR4, hR4e⟩ := er_pick e6 (R9.leap room (R9.lvS t6 m6) t6 m6 j)
       skip
       refine tS (tS ?_)
       refine tri_draw [0, 1, 2, 3, 4, 5, 6, 7, 8, 9, 10, 11, 12, 13, 14, 15, 16, 17, 18, 19, 20, 21] rfl [] rfl mixed ?_
       refine th_take rfl rfl (by kernel_rfl)  (opv_move rfl) ?_
       refine th_take rfl rfl (by kernel_rfl)  (opv_nilCheck rfl) ?_
       refine th_take rfl rfl (by kernel_rfl)  (opv_fieldAddr rfl rfl) ?_
       refine th_take rfl rfl (by kernel_rfl)  (opv_load1 rfl rfl rfl) ?_
       refine th_take rfl rfl (by kernel_rfl)  (opv_eql rfl rfl) ?_
       refine th_take rfl rfl (by kernel_rfl)  (opv_move rfl) ?_
       refine th_split rfl rfl rfl (fun h2 => ?_) (fun h2 => ?_)
       ·have hk7 := hk6 h2
        obtain ⟨hb0, hb1⟩ := hk7.1
        refine th_take_g rfl rfl rfl rfl rfl (by kernel_rfl)  (opv_move rfl) ?_
        refine th_take_g rfl rfl rfl rfl rfl (by kernel_rfl)  (opv_nilCheck rfl) ?_
        refine th_take_g rfl rfl rfl rfl rfl (by kernel_rfl)  (opv_fieldAddr rfl rfl) ?_
        refine th_take_g rfl rfl rfl rfl rfl (by kernel_rfl)  (opv_fieldAddr rfl rfl) ?_
        refine th_take_g rfl rfl rfl rfl rfl (by kernel_rfl)  (opv_load1 rfl rfl rfl) ?_
        refine th_take_g rfl rfl rfl rfl rfl (by kernel_rfl)  (opv_move rfl) ?_
        refine th_take_g rfl rfl rfl rfl rfl (by kernel_rfl)  (opv_indexAddrS rfl rfl (by omega) (by omega) (by assumption) rfl) ?_
        refine th_take_g rfl rfl rfl rfl rfl (by kernel_rfl)  (opv_fieldAddrE rfl (by assumption) (by omega) rfl) ?_
        refine th_take_g rfl rfl rfl rfl rfl (by kernel_rfl)  (opv_loadE1 rfl (by assumption) rfl (by omega) rfl rfl) ?_
        refine th_take_g rfl rfl rfl rfl rfl (by kernel_rfl)  (opv_move rfl) ?_
        refine th_take_g rfl rfl rfl rfl rfl (by kernel_rfl)  (opv_move rfl) ?_
        refine th_take_g rfl rfl rfl rfl rfl (by kernel_rfl)  (opv_indexAddrSN rfl rfl (by omega) (by assumption) rfl) ?_
        refine th_take_g rfl rfl rfl rfl rfl (by kernel_rfl)  (opv_loadE1 rfl (by assumption) rfl (by omega) rfl rfl) ?_
        refine th_take_g rfl rfl rfl rfl rfl (by kernel_rfl)  (opv_add rfl rfl (w64 (by omega) (by omega))) ?_
        refine th_take_g rfl rfl rfl rfl rfl (by kernel_rfl)  (opv_lss rfl rfl) ?_
        refine th_take rfl rfl (by kernel_rfl)  (opv_pick_t rfl rfl) ?_
        refine th_done (by kernel_rfl) ?_
        refine tT ?_
        refine tri_cond_dec rfl (fun h3 => ?_) (fun h3 => ?_)
        ·obtain ⟨R7, hR7, hR7e⟩ := er_pick e6 (R9.grow room t6 m6)
         have hq40 : q ≤ 40 := by
          obtain ⟨_, _, ⟨k8, b1, b2, _⟩, _⟩ := gs.ok h2
          omega
         have hlt3 : (R6.nd t6.ns m6).lv < j + 3 := by rw [← hje]; exact h3
         refine tri_skip (tT (tri_block (tR (tM rfl rfl (tM rfl rfl ?_)))))
         refine tri_g (opg_call (xs := [_, _]) rfl (ref09_grow (mm := t6.mm) hs6 (fun x => ⟨(gs.ok x).1, ⟨k6, hk6 x⟩, hR7 x⟩) hR7e)) rfl ?_
         rintro _ _ I7 ⟨a7, c7, ad7, cd7, ns7, mm7, m7, rfl, rfl, hs7, hm7, hI7⟩
         refine tA rfl rfl (tN ?_)
         refine tri_inBlock ?_
         refine tT ?_
         refine tri_sub ?_ (hK2 (q + 1, ⟨ns7, mm7⟩, m7, R7.2.2, a7, c7, ad7, cd7, I7) ⟨by simp only; omega, by simp only; omega, gs.step (fun _ => .inr hlt3) hR7 hR7e (fun x => ⟨by rw [(hm7 x).1, (hm7 x).2.1], (hm7 x).2.2⟩), hs7, fun _ h => hI7 (hI6 h)⟩ (by simp only; omega))
         exact ⟨rfl, rfl, rfl, rfl, rfl, rfl, trivial⟩
        ·have hlt3 : ¬ (R6.nd t6.ns m6).lv < j + 3 := by rw [← hje]; exact h3
         have hst : e6 = 0 → r0 = (t6, m6, 0) := fun x => by
          obtain ⟨_, _, ⟨k8, b1, b2, _⟩, b4⟩ := gs.ok x
          rw [b4, R9.more_stop (by omega) (by omega)]
         obtain ⟨f1, f2⟩ := fin R4 hst hR4 hR4e
         refine tri_exit ?_
         refine tri_then_exit ?_
         refine tri_then_exit ?_
         refine tri_inBlock_hit rfl ?_
         refine tT (tR (tM rfl rfl (tM rfl rfl (tM rfl rfl (tM rfl rfl ?_)))))
         refine tri_v (opv_indexAddrSN rfl rfl (by omega) (by assumption) rfl) rfl ?_
         refine tri_v (opv_loadE1 rfl (by assumption) rfl (by omega) rfl rfl) rfl ?_
         rw [hje]
         refine tri_g (opg_call (xs := [_, _, _]) rfl (ref09_leap k6 _ _ t6.ns t6.mm _ _ _ _ _ room e6 _ j R4 hs6 (fun x => ⟨(gs.ok x).1, (gs.ok x).2.1, hk6 x, by rw [← R9.lvS_is (hk6 x)]; exact hR4 x⟩) hR4e (by omega))) rfl ?_
         rintro _ _ I7 ⟨a7, c7, ad7, cd7, ns7, mm7, m7, rfl, rfl, hs7, hm7, hI7⟩
         refine tA rfl rfl (tN ?_)
         refine tri_inBlock ?_
         refine tT (tR (tM rfl rfl ?_))
         refine tU rfl rfl (by omega) (by omega) rfl ?_
         refine tA rfl rfl (tN (tT ?_))
         refine tri_sub ?_ (hK (i + 1, ⟨ns7, mm7⟩, m7, R4.2.2, a7, c7, ad7, cd7, I7) ⟨by simp only; omega, fun x => ?_, f2, hs7, fun _ h => hI7 (hI6 h)⟩ (by simp only; omega))
         ·exact ⟨rfl, rfl, rfl, rfl, rfl, rfl, trivial⟩
         ·obtain ⟨rfl, rfl, rfl⟩ := hm7 x
          exact f1 x
       ·obtain ⟨f1, f2⟩ := fin R4 (fun x => absurd x h2) hR4 hR4e
        refine th_skip rfl rfl rfl rfl rfl (by kernel_rfl)  ?_
        refine th_skip rfl rfl rfl rfl rfl (by kernel_rfl)  ?_
        refine th_skip rfl rfl rfl rfl rfl (by kernel_rfl)  ?_
        refine th_skip rfl rfl rfl rfl rfl (by kernel_rfl)  ?_
        refine th_skip rfl rfl rfl rfl rfl (by kernel_rfl)  ?_
        refine th_skip rfl rfl rfl rfl rfl (by kernel_rfl)  ?_
        refine th_skip rfl rfl rfl rfl rfl (by kernel_rfl)  ?_
        refine th_skip rfl rfl rfl rfl rfl (by kernel_rfl)  ?_
        refine th_skip rfl rfl rfl rfl rfl (by kernel_rfl)  ?_
        refine th_skip rfl rfl rfl rfl rfl (by kernel_rfl)  ?_
        refine th_skip rfl rfl rfl rfl rfl (by kernel_rfl)  ?_
        refine th_skip rfl rfl rfl rfl rfl (by kernel_rfl)  ?_
        refine th_skip rfl rfl rfl rfl rfl (by kernel_rfl)  ?_
        refine th_skip rfl rfl rfl rfl rfl (by kernel_rfl)  ?_
        refine th_skip rfl rfl rfl rfl rfl (by kernel_rfl)  ?_
        refine th_take rfl rfl (by kernel_rfl)  (opv_pick_f rfl rfl) ?_
        refine th_done (by kernel_rfl) ?_
        refine tT ?_
        refine tri_cond_false rfl ?_
        refine tri_exit ?_
        refine tri_then_exit ?_
        refine tri_then_exit ?_
        refine tri_inBlock_hit rfl ?_
        refine tT (tR (tM rfl rfl (tM rfl rfl (tM rfl rfl (tM rfl rfl ?_)))))
        refine tri_v (opv_indexAddrSN rfl rfl (by omega) (by assumption) rfl) rfl ?_
        refine tri_v (opv_loadE1 rfl (by assumption) rfl (by omega) rfl rfl) rfl ?_
        rw [hje]
        refine tri_g (opg_call (xs := [_, _, _]) rfl (ref09_leap k6 _ _ t6.ns t6.mm _ _ _ _ _ room e6 _ j R4 hs6 (fun x => ⟨(gs.ok x).1, (gs.ok x).2.1, hk6 x, by rw [← R9.lvS_is (hk6 x)]; exact hR4 x⟩) hR4e (by omega))) rfl ?_
        rintro _ _ I7 ⟨a7, c7, ad7, cd7, ns7, mm7, m7, rfl, rfl, hs7, hm7, hI7⟩
        refine tA rfl rfl (tN ?_)
        refine tri_inBlock ?_
        refine tT (tR (tM rfl rfl ?_))
        refine tU rfl rfl (by omega) (by omega) rfl ?_
        refine tA rfl rfl (tN (tT ?_))
        refine tri_sub ?_ (hK (i + 1, ⟨ns7, mm7⟩, m7, R4.2.2, a7, c7, ad7, cd7, I7) ⟨by simp only; omega, fun x => ?_, f2, hs7, fun _ h => hI7 (hI6 h)⟩ (by simp only; omega))
        ·exact ⟨rfl, rfl, rfl, rfl, rfl, rfl, trivial⟩
        ·obtain ⟨rfl, rfl, rfl⟩ := hm7 x
         exact f1 x
      ·refine tri_exit ?_
       refine tri_then_exit ?_
       refine tri_then_exit ?_
       refine tri_inBlock_hit rfl ?_
       exact tri_cutEnd _ ⟨t, a2, c2, ad2, cd2, m, e, rfl, rfl, hs2, hI2, fun x => absurd x he, her⟩ ⟨rfl, rfl, rfl, rfl, trivial⟩
     ·refine tri_guard_skip rfl rfl rfl rfl (tri_guard_skip rfl rfl rfl rfl (tri_guard_skip rfl rfl rfl rfl (tri_guard_skip rfl rfl rfl rfl (tri_guard_skip rfl rfl rfl rfl ?_))))
      refine tri_v (opv_pick_f rfl rfl) rfl ?_
      refine tN (tT ?_)
      refine tri_cond_false rfl ?_
      refine tri_exit ?_
      refine tri_then_exit ?_
      refine tri_then_exit ?_
      refine tri_inBlock_hit rfl ?_
      exact tri_cutEnd _ ⟨t, a2, c2, ad2, cd2, m, e, rfl, rfl, hs2, hI2, fun x => by
       obtain ⟨b1, _, b2, b3⟩ := hok x
       rw [List.drop_of_length_le (by omega)] at b3
       exact ⟨b1, b2, b3⟩, her⟩ ⟨rfl, rfl, rfl, rfl, trivial⟩
    rintro _ _ I2 ⟨t, a2, c2, ad2, cd2, m, e, rfl, rfl, hs2, hI2, hok, her⟩
    skip
    refine tT (tS (tR (tM rfl rfl (tM rfl rfl ?_))))
    obtain ⟨k6, hk6⟩ : ∃ k6 : Nat, e = 0 → R7.IsN t.ns (k6 + 2) m := by
     by_cases x6 : e = 0
     ·obtain ⟨_, ⟨k6, b3⟩, _⟩ := hok x6
      exact ⟨k6, fun _ => b3⟩
     ·exact ⟨0, fun x => absurd x x6⟩
    skip
    refine tri_g (opg_call (xs := [_, _]) rfl (ref09_trim (k := k6) (mm := t.mm) (r := r) hs2 (fun x => ⟨(hok x).1, hk6 x, by have := (hok x).2.2; unfold R9.trimS at this; rw [R9.lvS_is (hk6 x)] at this; exact this⟩) her)) rfl ?_
    rintro _ _ I3 ⟨a3, c3, ad3, cd3, ns3, mm3, m3, rfl, rfl, hs3, hm3, hI3⟩
    refine tA rfl rfl (tN (tT (tS (tS (tR (tM rfl rfl ?_))))))
    refine tri_v (opv_nilCheck rfl) rfl ?_
    refine tri_v (opv_fieldAddr rfl rfl) rfl ?_
    refine tri_v (opv_load1 rfl rfl rfl) rfl ?_
    refine tri_v (opv_neq rfl rfl) rfl ?_
    refine tN (tT ?_)
    refine tri_cond_dec rfl (fun x3 => ?_) (fun x3 => ?_)
    ·refine tS ?_
     refine tri_perm (A := ?a2_0 :: ?a2_1 :: ?a2_2 :: ?a2_3 :: ?T2) (B := ?a2_2 :: ?a2_0 :: ?a2_1 :: ?a2_3 :: ?T2) (by exact permL [2, 0, 1, 3] [?a2_0, ?a2_1, ?a2_2, ?a2_3] ?T2 (by decide) rfl) ?_
     skip
     refine tri_draw [0, 1, 2, 3, 4, 5, 6, 7] rfl [_] rfl mixed ?_
     refine th_take rfl rfl (by kernel_rfl)  (opv_loadA rfl rfl rfl) ?_
     refine th_take rfl rfl (by kernel_rfl)  (opv_move rfl) ?_
     refine th_take rfl rfl (by kernel_rfl)  (opv_nilCheck rfl) ?_
     refine th_take rfl rfl (by kernel_rfl)  (opv_fieldAddr rfl rfl) ?_
     refine th_take rfl rfl (by kernel_rfl)  (opv_load1 rfl rfl rfl) ?_
     refine th_one (by kernel_rfl) (step_m rfl rfl (opg_store rfl rfl rfl rfl rfl rfl) ?_)
     rintro _ _ _ ⟨rfl, rfl⟩
     refine ⟨Suf.h, (fun _ h => h), ?_⟩
     refine th_take rfl rfl (by kernel_rfl)  (opv_assign rfl) ?_
     refine th_take rfl rfl (by kernel_rfl)  (opv_assign rfl) ?_
     refine th_done (by kernel_rfl) ?_
     refine tT (tri_ret (tri_then_ret ?_))
     refine tri_end A Suf.h rfl (.cons (rv_cellA rfl rfl rfl) (.cons (rv_tmp rfl) (.cons (rv_tmp rfl) .nil))) ⟨a, cap, by rw [show R9.out ns r = (ns, 0, r.2.2) from if_pos x3]; rfl, ?_, rfl, fun _ h => hI3 (hI2 (hI1 h))⟩
     rw [show R9.out ns r = (ns, 0, r.2.2) from if_pos x3]
     exact hs.mono fun _ h => hI3 (hI2 (hI1 h))
    ·obtain ⟨rfl, rfl, rfl⟩ := hm3 (Decidable.not_not.1 x3)
     refine tri_skip (tT (tS (tR (tM rfl rfl ?_))))
     refine tri_v (opv_nilCheck rfl) rfl ?_
     refine tri_v (opv_fieldAddr rfl rfl) rfl ?_
     refine tri_v (opv_loadA rfl rfl rfl) rfl ?_
     refine tM rfl rfl ?_
     refine tri_g (opg_store rfl rfl rfl rfl rfl rfl) rfl ?_
     rintro _ _ _ ⟨rfl, rfl⟩
     refine tA rfl rfl (tA rfl rfl (tN (tT (tri_ret ?_))))
     refine tri_end A Suf.h rfl (.cons (rv_cellA rfl rfl rfl) (.cons (rv_tmp rfl) (.cons (rv_tmp rfl) .nil))) ⟨a3, c3, by rw [show R9.out ns r = (r.1.ns, r.2.1, 0) from if_neg x3]; rfl, ?_, rfl, fun _ h => hI3 (hI2 (hI1 h))⟩
     rw [show R9.out ns r = (r.1.ns, r.2.1, 0) from if_neg x3]
     exact hs3
end Go.GL

set_option linter.unusedVariables false
namespace Go.GL
open Go.Proofs
attribute [local irreducible] wpList Code.wp Exit.then Exit.inBlock Ends Tri TriH OpV OpG FnC epf wpAnyH
variable {A : List Asrt} {I : List Chunk}
set_option maxHeartbeats 2000000 in
set_option maxRecDepth 100000 in
theorem ref09_leapT {ns : List Node} {a : Option Addr} {cap : Nat} {room n j : Int} (hs : StA I a cap ns) (hn : ns.length ≤ 1000000000) (hrg : R6.Rng ns) :
  FnC Try.prog 16 [storeV a ns.length cap room, .int .i64 n, .int .i64 j].toArray A I (StoreR (R9.leapT ns room n j) room A I) := by
 have hsl := hs.sl
 have bad : ¬ (R8.may ns room n 2 ∧ 0 ≤ j ∧ j ≤ (R6.nd ns n).lv - 2) → R9.leapT ns room n j = (ns, 0, 1) := fun h => if_neg h
 skip
 refine fn_enter3 Try.func16 rfl Try.ntmps16 rfl fun w0 => ?_
 refine tS (tR ?_)
 refine tri_g (opg_box_agg rfl) rfl ?_
 rintro _ _ _ ⟨b3, rfl, rfl, rfl⟩
 refine tri_g opg_alloc rfl ?_
 rintro _ _ _ ⟨b6, rfl, rfl, rfl⟩
 refine tA rfl rfl (tA rfl rfl (tN (tT (tS (tS (tR ?_))))))
 refine tri_v (opv_loadA rfl rfl rfl) rfl ?_
 refine tM rfl rfl ?_
 refine tri_g (opg_call (xs := [_, _, _]) rfl (ref08_may hsl hn hrg)) rfl ?_
 rintro _ _ _ ⟨rfl, rfl, rfl⟩
 refine tri_v (opv_notD rfl) rfl ?_
 refine tM rfl rfl ?_
 refine tri_split rfl rfl (fun g1 => ?_) (fun g1 => ?_)
 ·rw [bad fun x => g1 x.1]
  refine tri_guard_skip rfl rfl rfl rfl (tri_guard_skip rfl rfl rfl rfl ?_)
  refine tri_v (opv_pick_t rfl rfl) rfl ?_
  refine tM rfl rfl (tri_guard_skip rfl rfl rfl rfl (tri_guard_skip rfl rfl rfl rfl (tri_guard_skip rfl rfl rfl rfl (tri_guard_skip rfl rfl rfl rfl (tri_guard_skip rfl rfl rfl rfl (tri_guard_skip rfl rfl rfl rfl (tri_guard_skip rfl rfl rfl rfl ?_)))))))
  refine tri_guard_skip rfl rfl rfl rfl (tri_guard_skip rfl rfl rfl rfl ?_)
  refine tri_v (opv_pick_t rfl rfl) rfl ?_
  refine tN (tT ?_)
  refine tri_cond_true rfl ?_
  refine tS (tR ?_)
  refine tri_v (opv_loadA rfl rfl rfl) rfl ?_
  refine tri_g (opg_store rfl rfl rfl rfl rfl rfl) rfl ?_
  rintro _ _ _ ⟨rfl, rfl⟩
  refine tA rfl rfl (tA rfl rfl (tN (tT (tri_ret (tri_then_ret ?_)))))
  refine tri_end A Suf.h rfl (.cons (rv_cellA rfl rfl rfl) (.cons (rv_tmp rfl) (.cons (rv_tmp rfl) .nil))) ⟨a, cap, rfl, hs, rfl, fun _ h => h⟩
 ·have hm : R8.may ns room n 2 := Decidable.not_not.1 g1
  obtain ⟨lk0, k, hnk⟩ := may_lk' hm
  have hlb := (lk0.wf.lvb hnk.1).2
  have hlb' : (ns.getD n.toNat default).lv ≤ 42 := hlb
  have hlv : (ns.getD n.toNat default).lv = (k + 2 : Nat) := hnk.2
  have hlv2 : (R6.nd ns n).lv = (k + 2 : Nat) := hnk.2
  obtain ⟨hn0, hn1⟩ := hnk.1
  refine tri_guard_run rfl rfl rfl (tM rfl rfl (tri_guard_run rfl rfl rfl ?_))
  refine tri_v (opv_lss rfl rfl) rfl ?_
  refine tri_v (opv_pick_f rfl rfl) rfl ?_
  refine tM rfl rfl ?_
  refine tri_split rfl rfl (fun g2 => ?_) (fun g2 => ?_)
  ·rw [bad fun x => by omega]
   refine tri_guard_skip rfl rfl rfl rfl (tri_guard_skip rfl rfl rfl rfl (tri_guard_skip rfl rfl rfl rfl (tri_guard_skip rfl rfl rfl rfl (tri_guard_skip rfl rfl rfl rfl (tri_guard_skip rfl rfl rfl rfl (tri_guard_skip rfl rfl rfl rfl (tri_guard_skip rfl rfl rfl rfl ?_)))))))
   refine tri_guard_skip rfl rfl rfl rfl ?_
   refine tri_v (opv_pick_t rfl rfl) rfl ?_
   refine tN (tT ?_)
   refine tri_cond_true rfl ?_
   refine tS (tR ?_)
   refine tri_v (opv_loadA rfl rfl rfl) rfl ?_
   refine tri_g (opg_store rfl rfl rfl rfl rfl rfl) rfl ?_
   rintro _ _ _ ⟨rfl, rfl⟩
   refine tA rfl rfl (tA rfl rfl (tN (tT (tri_ret (tri_then_ret ?_)))))
   refine tri_end A Suf.h rfl (.cons (rv_cellA rfl rfl rfl) (.cons (rv_tmp rfl) (.cons (rv_tmp rfl) .nil))) ⟨a, cap, rfl, hs, rfl, fun _ h => h⟩
  ·refine tri_guard_run rfl rfl rfl (tM rfl rfl (tri_guard_run rfl rfl rfl ?_))
   refine tri_v (opv_fieldAddr rfl rfl) rfl ?_
   refine tri_guard_run rfl rfl rfl ?_
   refine tri_v (opv_load1 rfl rfl rfl) rfl ?_
   refine tri_guard_run rfl rfl rfl (tM rfl rfl (tri_guard_run rfl rfl rfl ?_))
   refine tri_v (opv_indexAddrS rfl rfl (by omega) (by omega) (by assumption) rfl) rfl ?_
   refine tri_guard_run rfl rfl rfl ?_
   refine tri_v (opv_fieldAddrE rfl (by assumption) (by omega) rfl) rfl ?_
   refine tri_guard_run rfl rfl rfl ?_
   refine tri_v (opv_loadE1 rfl (by assumption) rfl (by omega) rfl rfl) rfl ?_
   refine tri_guard_run rfl rfl rfl ?_
   refine tri_v (opv_sub rfl rfl (w64 (by omega) (by omega))) rfl ?_
   refine tri_guard_run rfl rfl rfl ?_
   refine tri_v (opv_gtr rfl rfl) rfl ?_
   refine tri_v (opv_pick_f rfl rfl) rfl ?_
   refine tN (tT ?_)
   refine tri_cond_dec rfl (fun g3 => ?_) (fun g3 => ?_)
   ·rw [bad fun x => by omega]
    refine tS (tR ?_)
    refine tri_v (opv_loadA rfl rfl rfl) rfl ?_
    refine tri_g (opg_store rfl rfl rfl rfl rfl rfl) rfl ?_
    rintro _ _ _ ⟨rfl, rfl⟩
    refine tA rfl rfl (tA rfl rfl (tN (tT (tri_ret (tri_then_ret ?_)))))
    refine tri_end A Suf.h rfl (.cons (rv_cellA rfl rfl rfl) (.cons (rv_tmp rfl) (.cons (rv_tmp rfl) .nil))) ⟨a, cap, rfl, hs, rfl, fun _ h => h⟩
   ·have hj : 0 ≤ j ∧ j ≤ (R6.nd ns n).lv - 2 := by omega
    obtain ⟨r, hr⟩ : ∃ r, R9.leap room k ⟨ns, []⟩ n j = r := ⟨_, rfl⟩
    have hrun : R9.leapT ns room n j = R9.out ns r := by
     rw [← hr, show k = R9.lvS ⟨ns, []⟩ n from (R9.lvS_is (s := ⟨ns, []⟩) hnk).symm]
     exact if_pos ⟨hm, hj⟩
    rw [hrun]
    refine tri_skip (tT (tS (tR ?_)))
    refine tri_v (opv_loadA rfl rfl rfl) rfl ?_
    refine tri_v (opv_buildS rfl rfl) rfl ?_
    refine tri_g (opg_box_agg rfl) rfl ?_
    rintro _ _ _ ⟨b33, rfl, rfl, rfl⟩
    refine tA rfl rfl (tN (tT (tS ?_)))
    refine tri_nilRow (E := 104) (sz := 3) ?_
    refine tri_perm (A := ?a1_0 :: ?a1_1 :: ?a1_2 :: ?a1_3 :: ?T1) (B := ?a1_1 :: ?a1_0 :: ?a1_2 :: ?a1_3 :: ?T1) (by exact permL [1, 0, 2, 3] [?a1_0, ?a1_1, ?a1_2, ?a1_3] ?T1 (by decide) rfl) ?_
    refine tR (tM rfl rfl (tM rfl rfl (tM rfl rfl ?_)))
    refine tri_g (opg_call (xs := [_, _, _]) rfl (ref09_leap k _ _ ns [] _ none _ 0 _ room 0 _ j r hs (fun _ => ⟨lk0, R9.Kn.nil, hnk, hr⟩) (fun x => absurd rfl x) (by omega))) rfl ?_
    rintro _ _ I3 ⟨a3, c3, ad3, cd3, ns3, mm3, m3, rfl, rfl, hs3, hm3, hI3⟩
    refine tA rfl rfl (tN (tT (tS (tS (tR (tM rfl rfl ?_))))))
    refine tri_v (opv_nilCheck rfl) rfl ?_
    refine tri_v (opv_fieldAddr rfl rfl) rfl ?_
    refine tri_v (opv_load1 rfl rfl rfl) rfl ?_
    refine tri_v (opv_neq rfl rfl) rfl ?_
    refine tN (tT ?_)
    refine tri_cond_dec rfl (fun x3 => ?_) (fun x3 => ?_)
    ·refine tS ?_
     refine tri_perm (A := ?a2_0 :: ?a2_1 :: ?a2_2 :: ?a2_3 :: ?T2) (B := ?a2_2 :: ?a2_0 :: ?a2_1 :: ?a2_3 :: ?T2) (by exact permL [2, 0, 1, 3] [?a2_0, ?a2_1, ?a2_2, ?a2_3] ?T2 (by decide) rfl) ?_
     skip
     refine tri_draw [0, 1, 2, 3, 4, 5, 6, 7] rfl [_] rfl mixed ?_
     refine th_take rfl rfl (by kernel_rfl)  (opv_loadA rfl rfl rfl) ?_
     refine th_take rfl rfl (by kernel_rfl)  (opv_move rfl) ?_
     refine th_take rfl rfl (by kernel_rfl)  (opv_nilCheck rfl) ?_
     refine th_take rfl rfl (by kernel_rfl)  (opv_fieldAddr rfl rfl) ?_
     refine th_take rfl rfl (by kernel_rfl)  (opv_load1 rfl rfl rfl) ?_
     refine th_one (by kernel_rfl) (step_m rfl rfl (opg_store rfl rfl rfl rfl rfl rfl) ?_)
     rintro _ _ _ ⟨rfl, rfl⟩
     refine ⟨Suf.h, (fun _ h => h), ?_⟩
     refine th_take rfl rfl (by kernel_rfl)  (opv_assign rfl) ?_
     refine th_take rfl rfl (by kernel_rfl)  (opv_assign rfl) ?_
     refine th_done (by kernel_rfl) ?_
     refine tT (tri_ret (tri_then_ret ?_))
     refine tri_end A Suf.h rfl (.cons (rv_cellA rfl rfl rfl) (.cons (rv_tmp rfl) (.cons (rv_tmp rfl) .nil))) ⟨a, cap, by rw [show R9.out ns r = (ns, 0, r.2.2) from if_pos x3]; rfl, ?_, rfl, hI3⟩
     rw [show R9.out ns r = (ns, 0, r.2.2) from if_pos x3]
     exact hs.mono hI3
    ·obtain ⟨rfl, rfl, rfl⟩ := hm3 (Decidable.not_not.1 x3)
     refine tri_skip (tT (tS (tR (tM rfl rfl ?_))))
     refine tri_v (opv_nilCheck rfl) rfl ?_
     refine tri_v (opv_fieldAddr rfl rfl) rfl ?_
     refine tri_v (opv_loadA rfl rfl rfl) rfl ?_
     refine tM rfl rfl ?_
     refine tri_g (opg_store rfl rfl rfl rfl rfl rfl) rfl ?_
     rintro _ _ _ ⟨rfl, rfl⟩
     refine tA rfl rfl (tA rfl rfl (tN (tT (tri_ret ?_))))
     refine tri_end A Suf.h rfl (.cons (rv_cellA rfl rfl rfl) (.cons (rv_tmp rfl) (.cons (rv_tmp rfl) .nil))) ⟨a3, c3, by rw [show R9.out ns r = (r.1.ns, r.2.1, 0) from if_neg x3]; rfl, ?_, rfl, hI3⟩
     rw [show R9.out ns r = (r.1.ns, r.2.1, 0) from if_neg x3]
     exact hs3
set_option maxHeartbeats 2000000 in
set_option maxRecDepth 100000 in
theorem ref09_trimT {ns : List Node} {a : Option Addr} {cap : Nat} {room n : Int} (hs : StA I a cap ns) (hn : ns.length ≤ 1000000000) (hrg : R6.Rng ns) :
  FnC Try.prog 19 [storeV a ns.length cap room, .int .i64 n].toArray A I (StoreR (R9.trimT ns room n) room A I) := by
 have hsl := hs.sl
 have bad : ¬ R8.may ns room n 2 → R9.trimT ns room n = (ns, 0, 1) := fun h => if_neg h
 skip
 refine fn_enter2 Try.func19 rfl Try.ntmps19 rfl fun w0 => ?_
 refine tS (tR ?_)
 refine tri_g (opg_box_agg rfl) rfl ?_
 rintro _ _ _ ⟨b2, rfl, rfl, rfl⟩
 refine tri_g opg_alloc rfl ?_
 rintro _ _ _ ⟨b4, rfl, rfl, rfl⟩
 refine tA rfl rfl (tA rfl rfl (tN (tT (tS (tS (tR ?_))))))
 refine tri_v (opv_loadA rfl rfl rfl) rfl ?_
 refine tM rfl rfl ?_
 refine tri_g (opg_call (xs := [_, _, _]) rfl (ref08_may hsl hn hrg)) rfl ?_
 rintro _ _ _ ⟨rfl, rfl, rfl⟩
 refine tri_v (opv_notD rfl) rfl ?_
 refine tN (tT ?_)
 refine tri_cond_dec rfl (fun g1 => ?_) (fun g1 => ?_)
 ·rw [bad g1]
  refine tS (tR ?_)
  refine tri_v (opv_loadA rfl rfl rfl) rfl ?_
  refine tri_g (opg_store rfl rfl rfl rfl rfl rfl) rfl ?_
  rintro _ _ _ ⟨rfl, rfl⟩
  refine tA rfl rfl (tA rfl rfl (tN (tT (tri_ret (tri_then_ret ?_)))))
  refine tri_end A Suf.h rfl (.cons (rv_cellA rfl rfl rfl) (.cons (rv_tmp rfl) (.cons (rv_tmp rfl) .nil))) ⟨a, cap, rfl, hs, rfl, fun _ h => h⟩
 ·have hm : R8.may ns room n 2 := Decidable.not_not.1 g1
  obtain ⟨lk0, k, hnk⟩ := may_lk' hm
  obtain ⟨r, hr⟩ : ∃ r, R9.trim room k ⟨ns, []⟩ n = r := ⟨_, rfl⟩
  have hrun : R9.trimT ns room n = R9.out ns r := by
   rw [← hr, show k = R9.lvS ⟨ns, []⟩ n from (R9.lvS_is (s := ⟨ns, []⟩) hnk).symm]
   exact if_pos hm
  rw [hrun]
  refine tri_skip (tT (tS (tR ?_)))
  refine tri_v (opv_loadA rfl rfl rfl) rfl ?_
  refine tri_v (opv_buildS rfl rfl) rfl ?_
  refine tri_g (opg_box_agg rfl) rfl ?_
  rintro _ _ _ ⟨b16, rfl, rfl, rfl⟩
  refine tA rfl rfl (tN (tT (tS ?_)))
  refine tri_nilRow (E := 104) (sz := 3) ?_
  refine tri_perm (A := ?a3_0 :: ?a3_1 :: ?a3_2 :: ?a3_3 :: ?T3) (B := ?a3_1 :: ?a3_0 :: ?a3_2 :: ?a3_3 :: ?T3) (by exact permL [1, 0, 2, 3] [?a3_0, ?a3_1, ?a3_2, ?a3_3] ?T3 (by decide) rfl) ?_
  refine tR (tM rfl rfl (tM rfl rfl ?_))
  refine tri_g (opg_call (xs := [_, _]) rfl (ref09_trim (k := k) (mm := []) (ad := none) (cd := 0) (e := 0) (r := r) hs (fun _ => ⟨lk0, hnk, hr⟩) (fun x => absurd rfl x))) rfl ?_
  rintro _ _ I3 ⟨a3, c3, ad3, cd3, ns3, mm3, m3, rfl, rfl, hs3, hm3, hI3⟩
  refine tA rfl rfl (tN (tT (tS (tS (tR (tM rfl rfl ?_))))))
  refine tri_v (opv_nilCheck rfl) rfl ?_
  refine tri_v (opv_fieldAddr rfl rfl) rfl ?_
  refine tri_v (opv_load1 rfl rfl rfl) rfl ?_
  refine tri_v (opv_neq rfl rfl) rfl ?_
  refine tN (tT ?_)
  refine tri_cond_dec rfl (fun x3 => ?_) (fun x3 => ?_)
  ·refine tS ?_
   refine tri_perm (A := ?a4_0 :: ?a4_1 :: ?a4_2 :: ?a4_3 :: ?T4) (B := ?a4_2 :: ?a4_0 :: ?a4_1 :: ?a4_3 :: ?T4) (by exact permL [2, 0, 1, 3] [?a4_0, ?a4_1, ?a4_2, ?a4_3] ?T4 (by decide) rfl) ?_
   skip
   refine tri_draw [0, 1, 2, 3, 4, 5, 6, 7] rfl [_] rfl mixed ?_
   refine th_take rfl rfl (by kernel_rfl)  (opv_loadA rfl rfl rfl) ?_
   refine th_take rfl rfl (by kernel_rfl)  (opv_move rfl) ?_
   refine th_take rfl rfl (by kernel_rfl)  (opv_nilCheck rfl) ?_
   refine th_take rfl rfl (by kernel_rfl)  (opv_fieldAddr rfl rfl) ?_
   refine th_take rfl rfl (by kernel_rfl)  (opv_load1 rfl rfl rfl) ?_
   refine th_one (by kernel_rfl) (step_m rfl rfl (opg_store rfl rfl rfl rfl rfl rfl) ?_)
   rintro _ _ _ ⟨rfl, rfl⟩
   refine ⟨Suf.h, (fun _ h => h), ?_⟩
   refine th_take rfl rfl (by kernel_rfl)  (opv_assign rfl) ?_
   refine th_take rfl rfl (by kernel_rfl)  (opv_assign rfl) ?_
   refine th_done (by kernel_rfl) ?_
   refine tT (tri_ret (tri_then_ret ?_))
   refine tri_end A Suf.h rfl (.cons (rv_cellA rfl rfl rfl) (.cons (rv_tmp rfl) (.cons (rv_tmp rfl) .nil))) ⟨a, cap, by rw [show R9.out ns r = (ns, 0, r.2.2) from if_pos x3]; rfl, ?_, rfl, hI3⟩
   rw [show R9.out ns r = (ns, 0, r.2.2) from if_pos x3]
   exact hs.mono hI3
  ·obtain ⟨rfl, rfl, rfl⟩ := hm3 (Decidable.not_not.1 x3)
   refine tri_skip (tT (tS (tR (tM rfl rfl ?_))))
   refine tri_v (opv_nilCheck rfl) rfl ?_
   refine tri_v (opv_fieldAddr rfl rfl) rfl ?_
   refine tri_v (opv_loadA rfl rfl rfl) rfl ?_
   refine tM rfl rfl ?_
   refine tri_g (opg_store rfl rfl rfl rfl rfl rfl) rfl ?_
   rintro _ _ _ ⟨rfl, rfl⟩
   refine tA rfl rfl (tA rfl rfl (tN (tT (tri_ret ?_))))
   refine tri_end A Suf.h rfl (.cons (rv_cellA rfl rfl rfl) (.cons (rv_tmp rfl) (.cons (rv_tmp rfl) .nil))) ⟨a3, c3, by rw [show R9.out ns r = (r.1.ns, r.2.1, 0) from if_neg x3]; rfl, ?_, rfl, hI3⟩
   rw [show R9.out ns r = (r.1.ns, r.2.1, 0) from if_neg x3]
   exact hs3
end Go.GL

set_option linter.unusedVariables false
namespace Go.GL
open Go.Proofs
attribute [local irreducible] wpList Code.wp Exit.then Exit.inBlock Ends Tri TriH OpV OpG FnC epf wpAnyH
variable {A : List Asrt} {I : List Chunk}
/-- A store's head. -/
structure Sto where
 a : Option Addr
 len : Nat
 cap : Nat
 room : Int
 deriving Inhabited
instance : Enc Sto := ⟨fun s => [.slice s.a s.len s.cap, .int .i64 s.room], 2, fun _ => rfl, fun _ => rfl⟩
theorem R7.make_good {ns : List Node} {room : Int} (h : R6.Good ns room) (l : List Cell) (lv : Int) : R6.Good (R7.make ns room l lv).1 room := by
 unfold R7.make
 split
 ·split
  ·dsimp only
   split
   ·exact h
   ·exact R7.build_good room _ _ _ h
  ·exact h
 ·exact h
theorem RL.field_good (c : Int) (nodes : List Five) (raw : List Cell) (level : Int) : R6.Good (RL.field c nodes raw level).1 (RL.room c + 600) := by
 have hrm := RL.room_bd c
 have hg := RL.foldN_good (rm := RL.room c) (by omega) (by omega) (nodes.take 10) _ (RL.store0_good9 (by omega) (by omega))
 exact R7.make_good ⟨hg.mod, hg.len, by omega⟩ _ _
set_option maxHeartbeats 2000000 in
set_option maxRecDepth 100000 in
theorem law09_tells {nodes : List Five} {raw : List Cell} {os : List Node} {a a2 a3 : Option Addr} {cap cap2 cap3 : Nat} {c level rm n j ct : Int} (h0 : I64 c) (hs : SlAt I a nodes) (hf : RL.Fs nodes) (hs2 : SlAt I a2 raw) (hc : RL.Cs raw) (hl : I64 level)
  (hs3 : StA I a3 cap3 os) (hr : R6.Rng os) (hni : I64 n) (hji : I64 j) (hci : I64 ct) :
  FnC Try.prog 3 [.int .i64 c, .slice a nodes.length cap, .slice a2 raw.length cap2, .int .i64 level, storeV a3 os.length cap3 rm, .int .i64 n, .int .i64 j, .int .i64 ct].toArray A I (fun v A' I' => v = .bool true ∧ A = A' ∧ I ⊆ I') := by
 skip
 refine fn_enter8 Try.func3 rfl Try.ntmps3 rfl fun w0 => ?_
 refine tS (tR ?_)
 refine tri_g (opg_box_agg rfl) rfl ?_
 rintro _ _ _ ⟨b12, rfl, rfl, rfl⟩
 refine tA rfl rfl (tN (tT (tS (tR ?_))))
 refine tri_g (opg_call (xs := []) rfl (law09_awake)) rfl ?_
 rintro _ _ I0 ⟨rfl, rfl, hI0⟩
 refine tA rfl rfl (tN (tT (tS (tR (tM rfl rfl (tM rfl rfl (tM rfl rfl ?_)))))))
 refine tM rfl rfl ?_
 refine tri_g (opg_call (xs := [_, _, _, _]) rfl (law09_field h0 (hs.mono hI0) hf (hs2.mono hI0) hc hl)) rfl ?_
 rintro _ _ I1 ⟨a4, cap4, rfl, hs4, rfl, hI1⟩
 have hgd : (RL.field c nodes raw level).1.length ≤ 1000000000 ∧ R6.Rng (RL.field c nodes raw level).1 := ⟨(RL.field_good c nodes raw level).len, (RL.field_good c nodes raw level).mod.rng9⟩
 generalize hsq : RL.field c nodes raw level = sq at *
 refine tM rfl rfl ?_
 refine tri_v (opv_extract rfl rfl) rfl ?_
 refine tri_v (opv_extract rfl rfl) rfl ?_
 refine tri_g opg_alloc rfl ?_
 rintro _ _ _ ⟨b18, rfl, rfl, rfl⟩
 refine tri_g (opg_store rfl rfl rfl rfl rfl rfl) rfl ?_
 rintro _ _ _ ⟨rfl, rfl⟩
 refine tA rfl rfl (tN (tT (tS (tS (tR ?_)))))
 refine tri_v (opv_loadA rfl rfl rfl) rfl ?_
 refine tri_v (opv_loadA rfl rfl rfl) rfl ?_
 refine tri_g (opg_buildSlice rfl rfl rfl rfl) rfl ?_
 rintro _ _ _ ⟨b57, rfl, rfl, rfl⟩
 refine tri_v (opv_len rfl) rfl ?_
 refine tM rfl rfl (tN (tT (tri_block ?_)))
 refine tri_freezeBoxS [(⟨a4, sq.1.length, cap4, RL.room c + 600⟩ : Sto), ⟨a3, os.length, cap3, rm⟩] rfl fun I2 hI2 hs5 => ?_
 have hst : ∀ i, i < 2 → ∃ ns : List Node, StA I2 (([(⟨a4, sq.1.length, cap4, RL.room c + 600⟩ : Sto), ⟨a3, os.length, cap3, rm⟩] : List Sto).getD i default).a (([(⟨a4, sq.1.length, cap4, RL.room c + 600⟩ : Sto), ⟨a3, os.length, cap3, rm⟩] : List Sto).getD i default).cap ns ∧ (([(⟨a4, sq.1.length, cap4, RL.room c + 600⟩ : Sto), ⟨a3, os.length, cap3, rm⟩] : List Sto).getD i default).len = ns.length ∧ R6.Rng ns := by
  intro i hi
  rcases (by omega : i = 0 ∨ i = 1) with rfl | rfl
  ·exact ⟨sq.1, hs4.mono hI2, rfl, hgd.2⟩
  ·exact ⟨os, ((hs3.mono hI0).mono hI1).mono hI2, rfl, hr⟩
 generalize hls : ([(⟨a4, sq.1.length, cap4, RL.room c + 600⟩ : Sto), ⟨a3, os.length, cap3, rm⟩] : List Sto) = ss at *
 have hls2 : ss.length = 2 := by rw [← hls]; rfl
 have hI02 : I ⊆ I2 := fun _ h => hI2 (hI1 (hI0 h))
 skip
 refine tri_sub (F' := [(5, .int .i64 n), (6, .int .i64 j), (7, .int .i64 ct), (17, .bool true), (18, pt b18 0), (19, .int .i64 sq.2.1), (57, .slice (some ⟨b57, 0, none⟩) ss.length 2), (58, .int .i64 (2 : Nat)), (59, .int .i64 (0 : Nat))]) ⟨rfl, rfl, rfl, rfl, rfl, rfl, by rw [hls2]; rfl, rfl, rfl, trivial⟩ ?_
 refine loop_ind (G := Nat × List Chunk) (fun g => 2 - g.1) (fun g => g.1 ≤ 2 ∧ I2 ⊆ g.2) (fun g => [(5, .int .i64 n), (6, .int .i64 j), (7, .int .i64 ct), (17, .bool true), (18, pt b18 0), (19, .int .i64 sq.2.1), (57, .slice (some ⟨b57, 0, none⟩) ss.length 2), (58, .int .i64 (2 : Nat)), (59, .int .i64 (g.1 : Nat))]) (fun _ => Box b18 [.slice a4 sq.1.length cap4, .int .i64 (RL.room c + 600)] 26 :: Box b12 [.slice a3 os.length cap3, .int .i64 rm] 26 :: A) (fun g => g.2) ?_ (0, I2) ⟨by omega, fun _ h => h⟩
 rintro ⟨i, J0⟩ ⟨hi, hJ0⟩ K hK
 simp only at hi hJ0 hK ⊢
 skip
 refine tS (tR ?_)
 refine tri_v (opv_lss rfl rfl) rfl ?_
 refine tN (tT (tS ?_))
 refine tri_cond_dec rfl (fun h => ?_) (fun h => ?_)
 ·have hi2 : i < 2 := by omega
  obtain ⟨ns, hns, hlen, hrr⟩ := hst i hi2
  have hs5' := hs5.mono hJ0
  have hns' := hns.mono hJ0
  refine tri_skip (tT (tS (tri_block (tS (tR ?_)))))
  refine tri_v (opv_indexAddrSN rfl rfl (by omega) (by assumption) rfl) rfl ?_
  refine tri_v (opv_loadEA rfl (by assumption) rfl (by omega) rfl rfl) rfl ?_
  refine tri_g opg_alloc rfl ?_
  rintro _ _ _ ⟨b21, rfl, rfl, rfl⟩
  refine tri_g (opg_store rfl rfl rfl rfl rfl rfl) rfl ?_
  rintro _ _ _ ⟨rfl, rfl⟩
  refine tN (tT (tS (tS ?_)))
  rw [hlen] at *
  skip
  refine tri_cut (fun F' A' J => ∃ p : Bool, (p = false → ns.length ≤ 200) ∧ F' = [(5, .int .i64 n), (6, .int .i64 j), (7, .int .i64 ct), (17, .bool true), (18, pt b18 0), (19, .int .i64 sq.2.1), (57, .slice (some ⟨b57, 0, none⟩) ss.length 2), (58, .int .i64 (2 : Nat)), (59, .int .i64 (i : Nat)), (21, pt b21 0), (76, .bool p)] ∧ A' = Box b21 [.slice (ss.getD i default).a ns.length (ss.getD i default).cap, .int .i64 (ss.getD i default).room] 26 :: Box b18 [.slice a4 sq.1.length cap4, .int .i64 (RL.room c + 600)] 26 :: Box b12 [.slice a3 os.length cap3, .int .i64 rm] 26 :: A ∧ J0 = J) ?_ ?_
  ·refine tR ?_
   refine tri_v (opv_fieldAddr rfl rfl) rfl ?_
   refine tri_v (opv_load1 rfl rfl rfl) rfl ?_
   refine tri_v (opv_len rfl) rfl ?_
   refine tri_v (opv_gtr rfl rfl) rfl ?_
   refine tM rfl rfl ?_
   refine tri_split rfl rfl (fun h1 => ?_) (fun h1 => ?_)
   ·refine tri_guard_skip rfl rfl rfl rfl (tri_guard_skip rfl rfl rfl rfl (tri_guard_skip rfl rfl rfl rfl (tri_guard_skip rfl rfl rfl rfl ?_)))
    refine tri_guard_skip_u rfl rfl rfl ?_
    refine tri_guard_skip_u rfl rfl rfl ?_
    refine tri_guard_skip_u rfl rfl rfl ?_
    refine tri_guard_skip rfl rfl rfl rfl ?_
    refine tri_v (opv_pick_t rfl rfl) rfl ?_
    refine tN ?_
    exact tri_cutEnd _ ⟨true, fun x => (by cases x), rfl, rfl, rfl⟩ ⟨rfl, rfl, rfl, rfl, rfl, rfl, rfl, rfl, rfl, rfl, rfl, trivial⟩
   ·refine tri_guard_run rfl rfl rfl ?_
    refine tri_v (opv_fieldAddr rfl rfl) rfl ?_
    refine tri_guard_run rfl rfl rfl ?_
    refine tri_v (opv_load1 rfl rfl rfl) rfl ?_
    refine tri_guard_run rfl rfl rfl ?_
    refine tri_v (opv_gtr rfl rfl) rfl ?_
    refine tri_guard_run rfl rfl rfl (tM rfl rfl ?_)
    refine tri_split rfl rfl (fun h2 => ?_) (fun h2 => ?_)
    ·refine tri_guard_run rfl rfl rfl ?_
     refine tri_v (opv_fieldAddr rfl rfl) rfl ?_
     refine tri_guard_run rfl rfl rfl ?_
     refine tri_v (opv_load1 rfl rfl rfl) rfl ?_
     refine tri_guard_run rfl rfl rfl ?_
     refine tri_v (opv_leq rfl rfl) rfl ?_
     refine tri_guard_run rfl rfl rfl ?_
     refine tri_v (opv_pick_t rfl rfl) rfl ?_
     refine tri_v (opv_pick_f rfl rfl) rfl ?_
     refine tN ?_
     exact tri_cutEnd _ ⟨_, fun x => (by omega), rfl, rfl, rfl⟩ ⟨rfl, rfl, rfl, rfl, rfl, rfl, rfl, rfl, rfl, rfl, rfl, trivial⟩
    ·refine tri_guard_skip rfl rfl rfl rfl (tri_guard_skip rfl rfl rfl rfl (tri_guard_skip rfl rfl rfl rfl (tri_guard_run rfl rfl rfl ?_)))
     refine tri_v (opv_pick_f rfl rfl) rfl ?_
     refine tri_v (opv_pick_f rfl rfl) rfl ?_
     refine tN ?_
     exact tri_cutEnd _ ⟨_, fun x => (by omega), rfl, rfl, rfl⟩ ⟨rfl, rfl, rfl, rfl, rfl, rfl, rfl, rfl, rfl, rfl, rfl, trivial⟩
  rintro _ _ _ ⟨p, hp200, rfl, rfl, rfl⟩
  skip
  refine tT ?_
  refine tri_cond rfl (fun hbig => ?_) (fun hbig => ?_)
  ·refine tri_exit ?_
   refine tri_then_exit ?_
   refine tri_inBlock_hit rfl ?_
   refine tT (tR ?_)
   refine tU rfl rfl (by omega) (by omega) rfl ?_
   refine tM rfl rfl (tN (tT ?_))
   refine tri_drop ?_
   refine tri_sub ?_ (hK (i + 1, J0) ⟨by simp only; omega, hJ0⟩ (by simp only; omega))
   exact ⟨rfl, rfl, rfl, rfl, rfl, rfl, rfl, rfl, rfl, trivial⟩
  ·have hle := hp200 (by simpa using hbig)
   have hp := pk_bd (c := n) (n := ns.length + 1) (by omega)
   refine tri_skip (tT (tS (tR (tM rfl rfl (tM rfl rfl ?_)))))
   refine tri_v (opv_fieldAddr rfl rfl) rfl ?_
   refine tri_v (opv_load1 rfl rfl rfl) rfl ?_
   refine tri_v (opv_len rfl) rfl ?_
   refine tU rfl rfl (by omega) (by omega) rfl ?_
   refine tri_g (opg_call (xs := [_, _]) rfl (law09_pick hni.1 hni.2 (by omega))) rfl ?_
   rintro _ _ _ ⟨rfl, rfl, rfl⟩
   refine tM rfl rfl ?_
   refine tri_g (opg_buildSlice rfl rfl rfl rfl) rfl ?_
   rintro _ _ _ ⟨b85, rfl, rfl, rfl⟩
   refine tri_v (opv_len rfl) rfl ?_
   refine tM rfl rfl (tN (tT (tri_block ?_)))
   refine tri_freezeBoxS [n, pk n ((ns.length : Int) + 1), sq.2.1] rfl fun I3 hI3 hs6 => ?_
   generalize hms : ([n, pk n ((ns.length : Int) + 1), sq.2.1] : List Int) = ms at *
   have hms2 : ms.length = 3 := by rw [← hms]; rfl
   skip
   refine tri_sub (F' := [(5, .int .i64 n), (6, .int .i64 j), (7, .int .i64 ct), (17, .bool true), (18, pt b18 0), (19, .int .i64 sq.2.1), (21, pt b21 0), (57, .slice (some ⟨b57, 0, none⟩) ss.length 2), (58, .int .i64 (2 : Nat)), (59, .int .i64 (i : Nat)), (85, .slice (some ⟨b85, 0, none⟩) ms.length 3), (86, .int .i64 (3 : Nat)), (87, .int .i64 (0 : Nat))]) ⟨rfl, rfl, rfl, rfl, rfl, rfl, rfl, rfl, rfl, rfl, by rw [hms2]; rfl, rfl, rfl, trivial⟩ ?_
   refine loop_ind (G := Nat × List Chunk) (fun g => 3 - g.1) (fun g => g.1 ≤ 3 ∧ I3 ⊆ g.2) (fun g => [(5, .int .i64 n), (6, .int .i64 j), (7, .int .i64 ct), (17, .bool true), (18, pt b18 0), (19, .int .i64 sq.2.1), (21, pt b21 0), (57, .slice (some ⟨b57, 0, none⟩) ss.length 2), (58, .int .i64 (2 : Nat)), (59, .int .i64 (i : Nat)), (85, .slice (some ⟨b85, 0, none⟩) ms.length 3), (86, .int .i64 (3 : Nat)), (87, .int .i64 (g.1 : Nat))]) (fun _ => Box b21 [.slice (ss.getD i default).a ns.length (ss.getD i default).cap, .int .i64 (ss.getD i default).room] 26 :: Box b18 [.slice a4 sq.1.length cap4, .int .i64 (RL.room c + 600)] 26 :: Box b12 [.slice a3 os.length cap3, .int .i64 rm] 26 :: A) (fun g => g.2) ?_ (0, I3) ⟨by omega, fun _ h => h⟩
   rintro ⟨q, J1⟩ ⟨hq, hJ1⟩ K2 hK2
   simp only at hq hJ1 hK2 ⊢
   have hns2 := (hns'.mono hI3).mono hJ1
   have hnsl := hns2.sl
   have hs6' := hs6.mono hJ1
   skip
   refine tS (tR ?_)
   refine tri_v (opv_lss rfl rfl) rfl ?_
   refine tN (tT (tS ?_))
   refine tri_cond_dec rfl (fun h3 => ?_) (fun h3 => ?_)
   ·refine tri_skip (tT (tS (tri_block (tS (tR ?_)))))
    refine tri_v (opv_indexAddrSN rfl rfl (by omega) (by assumption) rfl) rfl ?_
    refine tri_v (opv_loadE1 rfl (by assumption) rfl (by omega) rfl rfl) rfl ?_
    refine tA rfl rfl (tN (tT (tS (tS ?_))))
    generalize hm : ms.getD q default = m at *
    skip
    refine tri_cut (fun F' A' J => ∃ p : Bool, F' = [(5, .int .i64 n), (6, .int .i64 j), (7, .int .i64 ct), (17, .bool true), (18, pt b18 0), (19, .int .i64 sq.2.1), (21, pt b21 0), (23, .int .i64 m), (57, .slice (some ⟨b57, 0, none⟩) ss.length 2), (58, .int .i64 (2 : Nat)), (59, .int .i64 (i : Nat)), (85, .slice (some ⟨b85, 0, none⟩) ms.length 3), (86, .int .i64 (3 : Nat)), (87, .int .i64 (q : Nat)), (113, .bool p)] ∧ A' = Box b21 [.slice (ss.getD i default).a ns.length (ss.getD i default).cap, .int .i64 (ss.getD i default).room] 26 :: Box b18 [.slice a4 sq.1.length cap4, .int .i64 (RL.room c + 600)] 26 :: Box b12 [.slice a3 os.length cap3, .int .i64 rm] 26 :: A ∧ J1 = J) ?_ ?_
    ·refine tR (tM rfl rfl ?_)
     refine tri_v (opv_geq rfl rfl) rfl ?_
     refine tM rfl rfl ?_
     refine tri_split rfl rfl (fun g1 => ?_) (fun g1 => ?_)
     ·refine tri_guard_run rfl rfl rfl (tM rfl rfl (tri_guard_run rfl rfl rfl ?_))
      refine tri_v (opv_fieldAddr rfl rfl) rfl ?_
      refine tri_guard_run rfl rfl rfl ?_
      refine tri_v (opv_load1 rfl rfl rfl) rfl ?_
      refine tri_guard_run rfl rfl rfl ?_
      refine tri_v (opv_len rfl) rfl ?_
      refine tri_guard_run rfl rfl rfl ?_
      refine tri_v (opv_lss rfl rfl) rfl ?_
      refine tri_v (opv_pick_t rfl rfl) rfl ?_
      refine tM rfl rfl ?_
      refine tri_split rfl rfl (fun g2 => ?_) (fun g2 => ?_)
      ·refine tri_guard_run rfl rfl rfl ?_
       refine tri_v (opv_fieldAddr rfl rfl) rfl ?_
       refine tri_guard_run rfl rfl rfl ?_
       refine tri_v (opv_load1 rfl rfl rfl) rfl ?_
       refine tri_guard_run rfl rfl rfl (tM rfl rfl (tri_guard_run rfl rfl rfl ?_))
       refine tri_v (opv_indexAddrS rfl rfl (by omega) (by omega) (by assumption) rfl) rfl ?_
       refine tri_guard_run rfl rfl rfl ?_
       refine tri_v (opv_fieldAddrE rfl (by assumption) (by omega) rfl) rfl ?_
       refine tri_guard_run rfl rfl rfl ?_
       refine tri_v (opv_loadE1 rfl (by assumption) rfl (by omega) rfl rfl) rfl ?_
       refine tri_guard_run rfl rfl rfl ?_
       refine tri_v (opv_gtr rfl rfl) rfl ?_
       refine tri_v (opv_pick_t rfl rfl) rfl ?_
       refine tM rfl rfl ?_
       refine tri_split rfl rfl (fun g3 => ?_) (fun g3 => ?_)
       ·refine tri_guard_run rfl rfl rfl (tM rfl rfl (tri_guard_run rfl rfl rfl (tM rfl rfl (tri_guard_run rfl rfl rfl ?_))))
        refine tri_v (opv_neq rfl rfl) rfl ?_
        refine tri_v (opv_pick_t rfl rfl) rfl ?_
        refine tN ?_
        exact tri_cutEnd _ ⟨_, rfl, rfl, rfl⟩ ⟨rfl, rfl, rfl, rfl, rfl, rfl, rfl, rfl, rfl, rfl, rfl, rfl, rfl, rfl, rfl, trivial⟩
       ·refine tri_guard_skip rfl rfl rfl rfl (tri_guard_skip rfl rfl rfl rfl (tri_guard_skip rfl rfl rfl rfl ?_))
        refine tri_v (opv_pick_f rfl rfl) rfl ?_
        refine tN ?_
        exact tri_cutEnd _ ⟨_, rfl, rfl, rfl⟩ ⟨rfl, rfl, rfl, rfl, rfl, rfl, rfl, rfl, rfl, rfl, rfl, rfl, rfl, rfl, rfl, trivial⟩
      ·refine tri_guard_skip rfl rfl rfl rfl (tri_guard_skip rfl rfl rfl rfl (tri_guard_skip rfl rfl rfl rfl (tri_guard_skip rfl rfl rfl rfl (tri_guard_skip rfl rfl rfl rfl (tri_guard_skip rfl rfl rfl rfl (tri_guard_skip rfl rfl rfl rfl ?_))))))
       refine tri_v (opv_pick_f rfl rfl) rfl ?_
       refine tM rfl rfl (tri_guard_skip rfl rfl rfl rfl (tri_guard_skip rfl rfl rfl rfl (tri_guard_skip rfl rfl rfl rfl ?_)))
       refine tri_v (opv_pick_f rfl rfl) rfl ?_
       refine tN ?_
       exact tri_cutEnd _ ⟨_, rfl, rfl, rfl⟩ ⟨rfl, rfl, rfl, rfl, rfl, rfl, rfl, rfl, rfl, rfl, rfl, rfl, rfl, rfl, rfl, trivial⟩
     ·refine tri_guard_skip rfl rfl rfl rfl (tri_guard_skip rfl rfl rfl rfl (tri_guard_skip rfl rfl rfl rfl (tri_guard_skip rfl rfl rfl rfl (tri_guard_skip rfl rfl rfl rfl ?_))))
      refine tri_v (opv_pick_f rfl rfl) rfl ?_
      refine tM rfl rfl (tri_guard_skip rfl rfl rfl rfl (tri_guard_skip rfl rfl rfl rfl (tri_guard_skip rfl rfl rfl rfl (tri_guard_skip rfl rfl rfl rfl (tri_guard_skip rfl rfl rfl rfl (tri_guard_skip rfl rfl rfl rfl (tri_guard_skip rfl rfl rfl rfl ?_)))))))
      refine tri_v (opv_pick_f rfl rfl) rfl ?_
      refine tM rfl rfl (tri_guard_skip rfl rfl rfl rfl (tri_guard_skip rfl rfl rfl rfl (tri_guard_skip rfl rfl rfl rfl ?_)))
      refine tri_v (opv_pick_f rfl rfl) rfl ?_
      refine tN ?_
      exact tri_cutEnd _ ⟨_, rfl, rfl, rfl⟩ ⟨rfl, rfl, rfl, rfl, rfl, rfl, rfl, rfl, rfl, rfl, rfl, rfl, rfl, rfl, rfl, trivial⟩
    rintro _ _ _ ⟨p, rfl, rfl, rfl⟩
    skip
    refine tT ?_
    refine tri_cond rfl (fun hskip => ?_) (fun hskip => ?_)
    ·refine tri_exit ?_
     refine tri_then_exit ?_
     refine tri_inBlock_hit rfl ?_
     refine tT (tR ?_)
     refine tU rfl rfl (by omega) (by omega) rfl ?_
     refine tM rfl rfl (tN (tT ?_))
     refine tri_sub ?_ (hK2 (q + 1, J1) ⟨by simp only; omega, hJ1⟩ (by simp only; omega))
     exact ⟨rfl, rfl, rfl, rfl, rfl, rfl, rfl, rfl, rfl, rfl, rfl, rfl, rfl, trivial⟩
    ·refine tri_skip (tT (tS (tS (tR (tM rfl rfl (tM rfl rfl ?_))))))
     refine tri_g (opg_call (xs := [_, _]) rfl (law09_pick hji.1 hji.2 (by decide))) rfl ?_
     rintro _ _ _ ⟨rfl, rfl, rfl⟩
     refine tri_g (opg_buildSlice rfl rfl rfl rfl) rfl ?_
     rintro _ _ _ ⟨b117, rfl, rfl, rfl⟩
     refine tri_v (opv_len rfl) rfl ?_
     refine tM rfl rfl (tN (tT (tri_block ?_)))
     refine tri_freezeBoxS [j, pk j 5] rfl fun I4 hI4 hs7 => ?_
     generalize hes : ([j, pk j 5] : List Int) = es at *
     have hes2 : es.length = 2 := by rw [← hes]; rfl
     skip
     refine tri_sub (F' := [(5, .int .i64 n), (6, .int .i64 j), (7, .int .i64 ct), (17, .bool true), (18, pt b18 0), (19, .int .i64 sq.2.1), (21, pt b21 0), (23, .int .i64 m), (57, .slice (some ⟨b57, 0, none⟩) ss.length 2), (58, .int .i64 (2 : Nat)), (59, .int .i64 (i : Nat)), (85, .slice (some ⟨b85, 0, none⟩) ms.length 3), (86, .int .i64 (3 : Nat)), (87, .int .i64 (q : Nat)), (117, .slice (some ⟨b117, 0, none⟩) es.length 2), (118, .int .i64 (2 : Nat)), (119, .int .i64 (0 : Nat))]) ⟨rfl, rfl, rfl, rfl, rfl, rfl, rfl, rfl, rfl, rfl, rfl, rfl, rfl, rfl, by rw [hes2]; rfl, rfl, rfl, trivial⟩ ?_
     refine loop_ind (G := Nat × List Chunk) (fun g => 2 - g.1) (fun g => g.1 ≤ 2 ∧ I4 ⊆ g.2) (fun g => [(5, .int .i64 n), (6, .int .i64 j), (7, .int .i64 ct), (17, .bool true), (18, pt b18 0), (19, .int .i64 sq.2.1), (21, pt b21 0), (23, .int .i64 m), (57, .slice (some ⟨b57, 0, none⟩) ss.length 2), (58, .int .i64 (2 : Nat)), (59, .int .i64 (i : Nat)), (85, .slice (some ⟨b85, 0, none⟩) ms.length 3), (86, .int .i64 (3 : Nat)), (87, .int .i64 (q : Nat)), (117, .slice (some ⟨b117, 0, none⟩) es.length 2), (118, .int .i64 (2 : Nat)), (119, .int .i64 (g.1 : Nat))]) (fun _ => Box b21 [.slice (ss.getD i default).a ns.length (ss.getD i default).cap, .int .i64 (ss.getD i default).room] 26 :: Box b18 [.slice a4 sq.1.length cap4, .int .i64 (RL.room c + 600)] 26 :: Box b12 [.slice a3 os.length cap3, .int .i64 rm] 26 :: A) (fun g => g.2) ?_ (0, I4) ⟨by omega, fun _ h => h⟩
     rintro ⟨w, J2⟩ ⟨hw, hJ2⟩ K3 hK3
     simp only at hw hJ2 hK3 ⊢
     have hns3 := (hns2.mono hI4).mono hJ2
     have hs7' := hs7.mono hJ2
     have ll := fun e => R9.leapT_len ns (ss.getD i default).room m e
     have lt := R9.trimT_len ns (ss.getD i default).room m
     skip
     refine tS (tR ?_)
     refine tri_v (opv_lss rfl rfl) rfl ?_
     refine tN (tT (tS ?_))
     refine tri_cond_dec rfl (fun h4 => ?_) (fun h4 => ?_)
     ·refine tri_skip (tT (tS (tri_block (tS (tR ?_)))))
      refine tri_v (opv_indexAddrSN rfl rfl (by omega) (by assumption) rfl) rfl ?_
      refine tri_v (opv_loadE1 rfl (by assumption) rfl (by omega) rfl rfl) rfl ?_
      refine tA rfl rfl (tN (tT (tS ?_)))
      generalize he : es.getD w default = e at *
      have lle := ll e
      refine tR ?_
      refine tri_v (opv_loadA rfl rfl rfl) rfl ?_
      refine tM rfl rfl (tM rfl rfl ?_)
      refine tri_g (opg_call (xs := [_, _, _]) rfl (leap_leap (room := (ss.getD i default).room) (n := m) (j := e) hns3 (by omega))) rfl ?_
      rintro _ _ J3 ⟨x0, y0, rfl, g0, rfl, hJ3⟩
      refine tM rfl rfl ?_
      refine tri_v (opv_extract rfl rfl) rfl ?_
      refine tri_v (opv_extract rfl rfl) rfl ?_
      refine tri_v (opv_extract rfl rfl) rfl ?_
      refine tri_g opg_alloc rfl ?_
      rintro _ _ _ ⟨b26, rfl, rfl, rfl⟩
      refine tri_g (opg_store rfl rfl rfl rfl rfl rfl) rfl ?_
      rintro _ _ _ ⟨rfl, rfl⟩
      refine tA rfl rfl (tA rfl rfl (tN (tT (tS (tR ?_)))))
      refine tri_v (opv_loadA rfl rfl rfl) rfl ?_
      refine tM rfl rfl (tM rfl rfl ?_)
      refine tri_g (opg_call (xs := [_, _, _]) rfl (ref09_leapT (room := (ss.getD i default).room) (n := m) (j := e) (hns3.mono hJ3) (by omega) hrr)) rfl ?_
      rintro _ _ J4 ⟨x1, y1, rfl, g1, rfl, hJ4⟩
      refine tM rfl rfl ?_
      refine tri_v (opv_extract rfl rfl) rfl ?_
      refine tri_v (opv_extract rfl rfl) rfl ?_
      refine tri_v (opv_extract rfl rfl) rfl ?_
      refine tri_g opg_alloc rfl ?_
      rintro _ _ _ ⟨b29, rfl, rfl, rfl⟩
      refine tri_g (opg_store rfl rfl rfl rfl rfl rfl) rfl ?_
      rintro _ _ _ ⟨rfl, rfl⟩
      refine tA rfl rfl (tA rfl rfl (tN (tT (tS (tR ?_)))))
      refine tri_v (opv_loadA rfl rfl rfl) rfl ?_
      refine tri_v (opv_loadA rfl rfl rfl) rfl ?_
      refine tri_g (opg_call (xs := [_, _]) rfl (ref06_same (g0.mono hJ4).sl g1.sl (by omega))) rfl ?_
      rintro _ _ _ ⟨rfl, rfl, rfl⟩
      refine tri_v (opv_notD rfl) rfl ?_
      refine tM rfl rfl ?_
      refine tri_false rfl rfl (fun h => h ⟨rfl, rfl⟩) ?_
      refine tri_guard_run rfl rfl rfl (tM rfl rfl (tri_guard_run rfl rfl rfl (tM rfl rfl (tri_guard_run rfl rfl rfl ?_))))
      refine tri_v (opv_neq rfl rfl) rfl ?_
      refine tri_v (opv_pick_f rfl rfl) rfl ?_
      refine tM rfl rfl ?_
      refine tri_false rfl rfl (fun h => h rfl) ?_
      refine tri_guard_run rfl rfl rfl (tM rfl rfl (tri_guard_run rfl rfl rfl (tM rfl rfl (tri_guard_run rfl rfl rfl ?_))))
      refine tri_v (opv_neq rfl rfl) rfl ?_
      refine tri_v (opv_pick_f rfl rfl) rfl ?_
      refine tN (tT ?_)
      refine tri_cond_not rfl (fun h => h rfl) ?_
      refine tri_skip ?_
      refine tri_inBlock ?_
      refine tT (tR ?_)
      refine tU rfl rfl (by omega) (by omega) rfl ?_
      refine tM rfl rfl (tN (tT ?_))
      refine tri_drop (tri_drop ?_)
      refine tri_sub ?_ (hK3 (w + 1, J4) ⟨by simp only; omega, fun _ h => hJ4 (hJ3 (hJ2 h))⟩ (by simp only; omega))
      exact ⟨rfl, rfl, rfl, rfl, rfl, rfl, rfl, rfl, rfl, rfl, rfl, rfl, rfl, rfl, rfl, rfl, rfl, trivial⟩
     ·refine tri_exit ?_
      refine tri_then_exit ?_
      refine tri_then_exit ?_
      refine tri_inBlock_hit rfl ?_
      refine tT (tS (tR ?_))
      refine tri_v (opv_loadA rfl rfl rfl) rfl ?_
      refine tM rfl rfl ?_
      refine tri_g (opg_call (xs := [_, _]) rfl (leap_trim (room := (ss.getD i default).room) (n := m) hns3 (by omega))) rfl ?_
      rintro _ _ J3 ⟨x0, y0, rfl, g0, rfl, hJ3⟩
      refine tM rfl rfl ?_
      refine tri_v (opv_extract rfl rfl) rfl ?_
      refine tri_v (opv_extract rfl rfl) rfl ?_
      refine tri_v (opv_extract rfl rfl) rfl ?_
      refine tri_g opg_alloc rfl ?_
      rintro _ _ _ ⟨b32, rfl, rfl, rfl⟩
      refine tri_g (opg_store rfl rfl rfl rfl rfl rfl) rfl ?_
      rintro _ _ _ ⟨rfl, rfl⟩
      refine tA rfl rfl (tA rfl rfl (tN (tT (tS (tR ?_)))))
      refine tri_v (opv_loadA rfl rfl rfl) rfl ?_
      refine tM rfl rfl ?_
      refine tri_g (opg_call (xs := [_, _]) rfl (ref09_trimT (room := (ss.getD i default).room) (n := m) (hns3.mono hJ3) (by omega) hrr)) rfl ?_
      rintro _ _ J4 ⟨x1, y1, rfl, g1, rfl, hJ4⟩
      refine tM rfl rfl ?_
      refine tri_v (opv_extract rfl rfl) rfl ?_
      refine tri_v (opv_extract rfl rfl) rfl ?_
      refine tri_v (opv_extract rfl rfl) rfl ?_
      refine tri_g opg_alloc rfl ?_
      rintro _ _ _ ⟨b35, rfl, rfl, rfl⟩
      refine tri_g (opg_store rfl rfl rfl rfl rfl rfl) rfl ?_
      rintro _ _ _ ⟨rfl, rfl⟩
      refine tA rfl rfl (tA rfl rfl (tN (tT (tS (tR ?_)))))
      refine tri_v (opv_loadA rfl rfl rfl) rfl ?_
      refine tri_v (opv_loadA rfl rfl rfl) rfl ?_
      refine tri_g (opg_call (xs := [_, _]) rfl (ref06_same (g0.mono hJ4).sl g1.sl (by omega))) rfl ?_
      rintro _ _ _ ⟨rfl, rfl, rfl⟩
      refine tri_v (opv_notD rfl) rfl ?_
      refine tM rfl rfl ?_
      refine tri_false rfl rfl (fun h => h ⟨rfl, rfl⟩) ?_
      refine tri_guard_run rfl rfl rfl (tM rfl rfl (tri_guard_run rfl rfl rfl (tM rfl rfl (tri_guard_run rfl rfl rfl ?_))))
      refine tri_v (opv_neq rfl rfl) rfl ?_
      refine tri_v (opv_pick_f rfl rfl) rfl ?_
      refine tM rfl rfl ?_
      refine tri_false rfl rfl (fun h => h rfl) ?_
      refine tri_guard_run rfl rfl rfl (tM rfl rfl (tri_guard_run rfl rfl rfl (tM rfl rfl (tri_guard_run rfl rfl rfl ?_))))
      refine tri_v (opv_neq rfl rfl) rfl ?_
      refine tri_v (opv_pick_f rfl rfl) rfl ?_
      refine tN (tT ?_)
      refine tri_cond_not rfl (fun h => h rfl) ?_
      refine tri_skip ?_
      refine tri_inBlock ?_
      refine tT (tR ?_)
      refine tU rfl rfl (by omega) (by omega) rfl ?_
      refine tM rfl rfl (tN (tT ?_))
      refine tri_drop (tri_drop ?_)
      refine tri_sub ?_ (hK2 (q + 1, J4) ⟨by simp only; omega, fun _ h => hJ4 (hJ3 (hJ2 (hI4 (hJ1 h))))⟩ (by simp only; omega))
      exact ⟨rfl, rfl, rfl, rfl, rfl, rfl, rfl, rfl, rfl, rfl, rfl, rfl, rfl, trivial⟩
   ·refine tri_exit ?_
    refine tri_then_exit ?_
    refine tri_then_exit ?_
    refine tri_inBlock_hit rfl ?_
    refine tri_inBlock ?_
    refine tT (tR ?_)
    refine tU rfl rfl (by omega) (by omega) rfl ?_
    refine tM rfl rfl (tN (tT ?_))
    refine tri_drop ?_
    refine tri_sub ?_ (hK (i + 1, J1) ⟨by simp only; omega, fun _ h => hJ1 (hI3 (hJ0 h))⟩ (by simp only; omega))
    exact ⟨rfl, rfl, rfl, rfl, rfl, rfl, rfl, rfl, rfl, trivial⟩
 ·refine tri_exit ?_
  refine tri_then_exit ?_
  refine tri_then_exit ?_
  refine tri_inBlock_hit rfl ?_
  refine tT (tS (tS (tR (tM rfl rfl ?_))))
  refine tri_g (opg_call (xs := [_, _]) rfl (law09_pick hci.1 hci.2 (by decide))) rfl ?_
  rintro _ _ _ ⟨rfl, rfl, rfl⟩
  refine tri_g (opg_buildSlice rfl rfl rfl rfl) rfl ?_
  rintro _ _ _ ⟨b186, rfl, rfl, rfl⟩
  refine tri_v (opv_len rfl) rfl ?_
  refine tM rfl rfl (tN (tT (tri_block ?_)))
  refine tri_freezeBoxS [pk ct 100, -1, 4611686018427387904, 1152921504606846976] rfl fun I3 hI3 hs6 => ?_
  generalize hcs : ([pk ct 100, -1, 4611686018427387904, 1152921504606846976] : List Int) = cs at *
  have hcs2 : cs.length = 4 := by rw [← hcs]; rfl
  have hns3 : StA I3 a4 cap4 sq.1 := ((hs4.mono hI2).mono hJ0).mono hI3
  skip
  refine tri_sub (F' := [(17, .bool true), (18, pt b18 0), (19, .int .i64 sq.2.1), (186, .slice (some ⟨b186, 0, none⟩) cs.length 4), (187, .int .i64 (4 : Nat)), (188, .int .i64 (0 : Nat))]) ⟨rfl, rfl, rfl, by rw [hcs2]; rfl, rfl, rfl, trivial⟩ ?_
  refine loop_ind (G := Nat × List Chunk) (fun g => 4 - g.1) (fun g => g.1 ≤ 4 ∧ I3 ⊆ g.2) (fun g => [(17, .bool true), (18, pt b18 0), (19, .int .i64 sq.2.1), (186, .slice (some ⟨b186, 0, none⟩) cs.length 4), (187, .int .i64 (4 : Nat)), (188, .int .i64 (g.1 : Nat))]) (fun _ => Box b18 [.slice a4 sq.1.length cap4, .int .i64 (RL.room c + 600)] 26 :: Box b12 [.slice a3 os.length cap3, .int .i64 rm] 26 :: A) (fun g => g.2) ?_ (0, I3) ⟨by omega, fun _ h => h⟩
  rintro ⟨w, J2⟩ ⟨hw, hJ2⟩ K3 hK3
  simp only at hw hJ2 hK3 ⊢
  have hns4 := hns3.mono hJ2
  have hs6' := hs6.mono hJ2
  have ll := fun e => R9.runT_le hgd.1 (by decide) (RL.room c + 600) sq.2.1 e
  skip
  refine tS (tR ?_)
  refine tri_v (opv_lss rfl rfl) rfl ?_
  refine tN (tT (tS ?_))
  refine tri_cond_dec rfl (fun h4 => ?_) (fun h4 => ?_)
  ·refine tri_skip (tT (tS (tri_block (tS (tR ?_)))))
   refine tri_v (opv_indexAddrSN rfl rfl (by omega) (by assumption) rfl) rfl ?_
   refine tri_v (opv_loadE1 rfl (by assumption) rfl (by omega) rfl rfl) rfl ?_
   refine tA rfl rfl (tN (tT (tS ?_)))
   generalize he : cs.getD w default = e at *
   have lle := ll e
   refine tR ?_
   refine tri_v (opv_loadA rfl rfl rfl) rfl ?_
   refine tM rfl rfl (tM rfl rfl ?_)
   refine tri_g (opg_call (xs := [_, _, _]) rfl (leap_run (room := RL.room c + 600) (n := sq.2.1) (j := e) hns4 hgd.1)) rfl ?_
   rintro _ _ J3 ⟨x0, y0, rfl, g0, rfl, hJ3⟩
   refine tM rfl rfl ?_
   refine tri_v (opv_extract rfl rfl) rfl ?_
   refine tri_v (opv_extract rfl rfl) rfl ?_
   refine tri_v (opv_extract rfl rfl) rfl ?_
   refine tri_g opg_alloc rfl ?_
   rintro _ _ _ ⟨b40, rfl, rfl, rfl⟩
   refine tri_g (opg_store rfl rfl rfl rfl rfl rfl) rfl ?_
   rintro _ _ _ ⟨rfl, rfl⟩
   refine tA rfl rfl (tA rfl rfl (tN (tT (tS (tR ?_)))))
   refine tri_v (opv_loadA rfl rfl rfl) rfl ?_
   refine tM rfl rfl (tM rfl rfl ?_)
   refine tri_g (opg_call (xs := [_, _, _]) rfl (ref09_run (room := RL.room c + 600) (n := sq.2.1) (c := e) (hns4.mono hJ3) hgd.1 hgd.2)) rfl ?_
   rintro _ _ J4 ⟨x1, y1, rfl, g1, rfl, hJ4⟩
   refine tM rfl rfl ?_
   refine tri_v (opv_extract rfl rfl) rfl ?_
   refine tri_v (opv_extract rfl rfl) rfl ?_
   refine tri_v (opv_extract rfl rfl) rfl ?_
   refine tri_g opg_alloc rfl ?_
   rintro _ _ _ ⟨b43, rfl, rfl, rfl⟩
   refine tri_g (opg_store rfl rfl rfl rfl rfl rfl) rfl ?_
   rintro _ _ _ ⟨rfl, rfl⟩
   refine tA rfl rfl (tA rfl rfl (tN (tT (tS (tR ?_)))))
   refine tri_v (opv_loadA rfl rfl rfl) rfl ?_
   refine tri_v (opv_loadA rfl rfl rfl) rfl ?_
   refine tri_g (opg_call (xs := [_, _]) rfl (ref06_same (g0.mono hJ4).sl g1.sl lle)) rfl ?_
   rintro _ _ _ ⟨rfl, rfl, rfl⟩
   refine tri_v (opv_notD rfl) rfl ?_
   refine tM rfl rfl ?_
   refine tri_false rfl rfl (fun h => h ⟨rfl, rfl⟩) ?_
   refine tri_guard_run rfl rfl rfl (tM rfl rfl (tri_guard_run rfl rfl rfl (tM rfl rfl (tri_guard_run rfl rfl rfl ?_))))
   refine tri_v (opv_neq rfl rfl) rfl ?_
   refine tri_v (opv_pick_f rfl rfl) rfl ?_
   refine tM rfl rfl ?_
   refine tri_false rfl rfl (fun h => h rfl) ?_
   refine tri_guard_run rfl rfl rfl (tM rfl rfl (tri_guard_run rfl rfl rfl (tM rfl rfl (tri_guard_run rfl rfl rfl ?_))))
   refine tri_v (opv_neq rfl rfl) rfl ?_
   refine tri_v (opv_pick_f rfl rfl) rfl ?_
   refine tN (tT ?_)
   refine tri_cond_not rfl (fun h => h rfl) ?_
   refine tri_skip ?_
   refine tri_inBlock ?_
   refine tT (tR ?_)
   refine tU rfl rfl (by omega) (by omega) rfl ?_
   refine tM rfl rfl (tN (tT ?_))
   refine tri_drop (tri_drop ?_)
   refine tri_sub ?_ (hK3 (w + 1, J4) ⟨by simp only; omega, fun _ h => hJ4 (hJ3 (hJ2 h))⟩ (by simp only; omega))
   exact ⟨rfl, rfl, rfl, rfl, rfl, rfl, trivial⟩
  ·refine tri_exit ?_
   refine tri_then_exit ?_
   refine tri_then_exit ?_
   refine tri_inBlock_hit rfl ?_
   refine tT (tS (tR (tM rfl rfl (tA rfl rfl (tN (tT (tri_ret ?_)))))))
   refine tri_end A Suf.h rfl (.cons (rv_tmp rfl) .nil) ⟨rfl, rfl, fun _ h => hJ2 (hI3 (hJ0 (hI02 h)))⟩
end Go.GL

set_option linter.unusedVariables false
namespace Go.GL
open Go.Proofs
theorem num_int : NumTy Try.prog 3 1 := NumTy.int
theorem num_2 : NumTy Try.prog 46 2 := NumTy.arr num_int (by decide)
theorem num_4 : NumTy Try.prog 33 4 := NumTy.arr num_int (by decide)
theorem num_5 : NumTy Try.prog 69 5 := NumTy.arr num_int (by decide)
theorem num_cell : NumTy Try.prog 48 2 := NumTy.str (ns := [1, 1]) (by exact ⟨num_int, num_int, trivial⟩) (by decide)
theorem num_node : NumTy Try.prog 35 6 := NumTy.str (ns := [1, 4, 1]) (by exact ⟨num_int, num_4, num_int, trivial⟩) (by decide)
theorem laid : laidOutB Try.prog = true := by kernel_rfl
theorem own : ownKnob Try.prog.godebug = none := by kernel_rfl
end Go.GL
