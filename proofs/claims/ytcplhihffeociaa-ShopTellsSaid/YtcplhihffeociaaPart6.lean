/- Part 6: contracts of the functions that the law reaches: each answers as its model does. No condition beyond those that each theorem states. -/
import Derived.Test.YtcplhihffeociaaPart5
set_option linter.unusedVariables false
namespace Go.GL
open Go.Proofs
attribute [local irreducible] wpList Code.wp Exit.then Exit.inBlock Ends Tri TriH OpV OpG FnC epf wpAnyH
variable {A : List Asrt} {I : List Chunk}
structure RunInvR (room : Int) (W b : Nat) (picks : List Int) (R : R21.Ms × Int × Int) (I : List Chunk) (n : Nat) (last : Int) (h : Hr) (s : R21.Ms) (J : List Chunk) : Prop where
 hn : n ≤ 100000
 ok : RsOk J h s
 m : R21.MOk room W (b + 9 * n) s
 kp : KpB n s.kp
 eq : R = R21.run room W picks (100000 - n) n last s
 l0 : -1 ≤ last
 l1 : last < W
 I : I ⊆ J
theorem permR1 {x a b : Asrt} {A : List Asrt} : (x :: a :: b :: A).Perm (a :: b :: x :: A) := (List.perm_middle (l₁ := [a, b])).symm
theorem permR2 {x a b : Asrt} {A : List Asrt} : (x :: b :: a :: A).Perm (a :: b :: x :: A) := permR1.trans (List.Perm.swap _ _ _)
theorem R21.D0 (W : Nat) (h : 1 ≤ W) : (List.replicate W (⟨none, 0, 0⟩ : Sl)).length = W := List.length_replicate
theorem rs_start {ns : List Node} {a : Option Addr} {cap : Nat} {W : Nat} {n j : Int} {l : Option Addr} {lc : Nat} {bt : Nat} (hW : 1 ≤ W) (hs : StA I a cap ns) (hl : StA I l lc [(0 : Int)]) : RsOk I ⟨a, cap, some ⟨bt, 0, none⟩, 1, (List.replicate W (⟨none, 0, 0⟩ : Sl)).set 0 ⟨l, 1, lc⟩, none, 0⟩ (R21.start ns W n j) := by
 obtain ⟨m, rfl⟩ : ∃ m, W = m + 1 := ⟨W - 1, by omega⟩
 refine ⟨hs, by simp [R21.start], fun k hk => ?_⟩
 cases k with
 | zero => exact ⟨hl, rfl⟩
 | succ k =>
  have hk' : k < m := by simpa [R21.start] using hk
  have e : (R21.start ns (m + 1) n j).D.getD (k + 1) default = [] := by
   show (List.replicate m ([] : List Int)).getD k default = []
   exact R21.rep_at hk'
  have e2 : ((List.replicate (m + 1) (⟨none, 0, 0⟩ : Sl)).set 0 ⟨l, 1, lc⟩).getD (k + 1) default = ⟨none, 0, 0⟩ := by
   show (List.replicate m (⟨none, 0, 0⟩ : Sl)).getD k default = _
   exact R21.rep_at hk'
  rw [e, e2]
  exact ⟨StA.nil, rfl⟩
set_option maxHeartbeats 8000000 in
set_option maxRecDepth 100000 in
theorem ref21_leap {ns : List Node} {a a2 : Option Addr} {cap cap2 : Nat} {room n j nw : Int} {picks : List Int} (hs : StA I a cap ns) (hn : ns.length ≤ 1000000000) (hrg : R6.Rng ns) (hs2 : SlAt I a2 picks) (hk : Is picks) (hpl : picks.length ≤ 9223372036854775807) :
  FnC Try.prog 13 [storeV a ns.length cap room, .int .i64 n, .int .i64 j, .int .i64 nw, .slice a2 picks.length cap2].toArray A I (LpPost (R21.leap ns room n j nw picks) A I) := by
 have hsl := hs.sl
 have bad : ¬ R21.good ns room n j nw → LpPost (R21.leap ns room n j nw picks) A I (.tuple [.agg [.slice none 0 0, .int .i64 0, .int .i64 0, .int .i64 0, .int .i64 0].toArray, .int .i64 1].toArray) A I := fun h => by
  rw [R21.leap_bad h]
  exact ⟨none, 0, rfl, StA.nil, rfl, fun _ h => h⟩
 skip
 skip
 skip
 refine fn_enter5 Try.func13 rfl Try.ntmps13 rfl fun w0 => ?_
 refine tS (tR ?_)
 refine tri_g (opg_box_agg rfl) rfl ?_
 rintro _ _ _ ⟨b5, rfl, rfl, rfl⟩
 refine tri_g opg_alloc rfl ?_
 rintro _ _ _ ⟨b10, rfl, rfl, rfl⟩
 refine tA rfl rfl (tN (tT (tS (tS (tR ?_)))))
 refine tri_v (opv_loadA rfl rfl rfl) rfl ?_
 refine tM rfl rfl ?_
 refine tri_g (opg_call (xs := [_, _, _]) rfl (ref08_may hsl hn hrg)) rfl ?_
 rintro _ _ _ ⟨rfl, rfl, rfl⟩
 refine tri_v (opv_notD rfl) rfl ?_
 refine tM rfl rfl ?_
 refine tri_split rfl rfl (fun h1 => ?_) (fun h1 => ?_)
 ·have hb : ¬ R21.good ns room n j nw := fun h => absurd (decide_eq_true h.1) (by simpa using h1)
  refine tri_guard_skip rfl rfl rfl rfl (tri_guard_skip rfl rfl rfl rfl ?_)
  refine tri_v (opv_pick_t rfl rfl) rfl ?_
  refine tM rfl rfl (tri_guard_skip rfl rfl rfl rfl (tri_guard_skip rfl rfl rfl rfl (tri_guard_skip rfl rfl rfl rfl (tri_guard_skip rfl rfl rfl rfl (tri_guard_skip rfl rfl rfl rfl (tri_guard_skip rfl rfl rfl rfl (tri_guard_skip rfl rfl rfl rfl ?_)))))))
  refine tri_guard_skip rfl rfl rfl rfl (tri_guard_skip rfl rfl rfl rfl ?_)
  refine tri_v (opv_pick_t rfl rfl) rfl ?_
  refine tM rfl rfl (tri_guard_skip rfl rfl rfl rfl (tri_guard_skip rfl rfl rfl rfl ?_))
  refine tri_v (opv_pick_t rfl rfl) rfl ?_
  refine tM rfl rfl (tri_guard_skip rfl rfl rfl rfl (tri_guard_skip rfl rfl rfl rfl ?_))
  refine tri_v (opv_pick_t rfl rfl) rfl ?_
  refine tN (tT ?_)
  refine tri_cond_true rfl ?_
  refine tS (tR ?_)
  refine tri_v (opv_buildS rfl rfl) rfl ?_
  refine tri_g (opg_store rfl rfl rfl rfl rfl rfl) rfl ?_
  rintro _ _ _ ⟨rfl, rfl⟩
  refine tA rfl rfl (tN (tT (tri_ret (tri_then_ret ?_))))
  refine tri_end A Suf.h rfl (.cons (rv_cellA rfl rfl rfl) (.cons (rv_tmp rfl) .nil)) (bad hb)
 ·have hmay : R8.may ns room n 2 := by simpa using h1
  obtain ⟨hr, ⟨hn0, hn1⟩, hl2⟩ := hmay
  have hl2' : 2 ≤ (ns.getD n.toNat default).lv := hl2
  have hlb : (ns.getD n.toNat default).lv ≤ 42 := (hr.good (r2 := room) (by have := hr.1.2.1; omega)).mod.nd ⟨hn0, hn1⟩ |>.2.1
  refine tri_guard_run rfl rfl rfl (tM rfl rfl (tri_guard_run rfl rfl rfl ?_))
  refine tri_v (opv_lss rfl rfl) rfl ?_
  refine tri_v (opv_pick_f rfl rfl) rfl ?_
  refine tM rfl rfl ?_
  refine tri_split rfl rfl (fun h2 => ?_) (fun h2 => ?_)
  ·have hb : ¬ R21.good ns room n j nw := fun h => by have := h.2.1; omega
   refine tri_guard_skip rfl rfl rfl rfl (tri_guard_skip rfl rfl rfl rfl (tri_guard_skip rfl rfl rfl rfl (tri_guard_skip rfl rfl rfl rfl (tri_guard_skip rfl rfl rfl rfl (tri_guard_skip rfl rfl rfl rfl (tri_guard_skip rfl rfl rfl rfl (tri_guard_skip rfl rfl rfl rfl ?_)))))))
   refine tri_guard_skip rfl rfl rfl rfl ?_
   refine tri_v (opv_pick_t rfl rfl) rfl ?_
   refine tM rfl rfl (tri_guard_skip rfl rfl rfl rfl (tri_guard_skip rfl rfl rfl rfl ?_))
   refine tri_v (opv_pick_t rfl rfl) rfl ?_
   refine tM rfl rfl (tri_guard_skip rfl rfl rfl rfl (tri_guard_skip rfl rfl rfl rfl ?_))
   refine tri_v (opv_pick_t rfl rfl) rfl ?_
   refine tN (tT ?_)
   refine tri_cond_true rfl ?_
   refine tS (tR ?_)
   refine tri_v (opv_buildS rfl rfl) rfl ?_
   refine tri_g (opg_store rfl rfl rfl rfl rfl rfl) rfl ?_
   rintro _ _ _ ⟨rfl, rfl⟩
   refine tA rfl rfl (tN (tT (tri_ret (tri_then_ret ?_))))
   refine tri_end A Suf.h rfl (.cons (rv_cellA rfl rfl rfl) (.cons (rv_tmp rfl) .nil)) (bad hb)
  ·refine tri_guard_run rfl rfl rfl (tM rfl rfl (tri_guard_run rfl rfl rfl ?_))
   refine tri_v (opv_fieldAddr rfl rfl) rfl ?_
   refine tri_guard_run rfl rfl rfl ?_
   refine tri_v (opv_load1 rfl rfl rfl) rfl ?_
   refine tri_guard_run rfl rfl rfl (tM rfl rfl (tri_guard_run rfl rfl rfl ?_))
   refine tri_v (opv_indexAddrS rfl rfl (by omega) (by omega) (by assumption) rfl) rfl ?_
   refine tri_guard_run rfl rfl rfl ?_
   refine tri_v (opv_fieldAddrE rfl (by assumption) (by omega) rfl) rfl ?_
   refine tri_guard_run rfl rfl rfl ?_
   refine tri_v (opv_loadE1 rfl (by assumption) rfl (by omega) rfl rfl) rfl ?_
   refine tri_guard_run rfl rfl rfl ?_
   refine tri_v (opv_sub rfl rfl (w64 (by omega) (by omega))) rfl ?_
   refine tri_guard_run rfl rfl rfl ?_
   refine tri_v (opv_gtr rfl rfl) rfl ?_
   refine tri_v (opv_pick_f rfl rfl) rfl ?_
   refine tM rfl rfl ?_
   refine tri_split rfl rfl (fun h3 => ?_) (fun h3 => ?_)
   ·have hb : ¬ R21.good ns room n j nw := fun h => by have := h.2.2.1; change _ ≤ (ns.getD n.toNat default).lv - 2 at this; omega
    refine tri_guard_skip rfl rfl rfl rfl (tri_guard_skip rfl rfl rfl rfl ?_)
    refine tri_v (opv_pick_t rfl rfl) rfl ?_
    refine tM rfl rfl (tri_guard_skip rfl rfl rfl rfl (tri_guard_skip rfl rfl rfl rfl ?_))
    refine tri_v (opv_pick_t rfl rfl) rfl ?_
    refine tN (tT ?_)
    refine tri_cond_true rfl ?_
    refine tS (tR ?_)
    refine tri_v (opv_buildS rfl rfl) rfl ?_
    refine tri_g (opg_store rfl rfl rfl rfl rfl rfl) rfl ?_
    rintro _ _ _ ⟨rfl, rfl⟩
    refine tA rfl rfl (tN (tT (tri_ret (tri_then_ret ?_))))
    refine tri_end A Suf.h rfl (.cons (rv_cellA rfl rfl rfl) (.cons (rv_tmp rfl) .nil)) (bad hb)
   ·refine tri_guard_run rfl rfl rfl (tM rfl rfl (tri_guard_run rfl rfl rfl ?_))
    refine tri_v (opv_lss rfl rfl) rfl ?_
    refine tri_v (opv_pick_f rfl rfl) rfl ?_
    refine tM rfl rfl ?_
    refine tri_split rfl rfl (fun h4 => ?_) (fun h4 => ?_)
    ·have hb : ¬ R21.good ns room n j nw := fun h => by have := h.2.2.2.1; omega
     refine tri_guard_skip rfl rfl rfl rfl (tri_guard_skip rfl rfl rfl rfl ?_)
     refine tri_v (opv_pick_t rfl rfl) rfl ?_
     refine tN (tT ?_)
     refine tri_cond_true rfl ?_
     refine tS (tR ?_)
     refine tri_v (opv_buildS rfl rfl) rfl ?_
     refine tri_g (opg_store rfl rfl rfl rfl rfl rfl) rfl ?_
     rintro _ _ _ ⟨rfl, rfl⟩
     refine tA rfl rfl (tN (tT (tri_ret (tri_then_ret ?_))))
     refine tri_end A Suf.h rfl (.cons (rv_cellA rfl rfl rfl) (.cons (rv_tmp rfl) .nil)) (bad hb)
    ·refine tri_guard_run rfl rfl rfl (tM rfl rfl (tri_guard_run rfl rfl rfl ?_))
     refine tri_v (opv_gtr rfl rfl) rfl ?_
     refine tri_v (opv_pick_f rfl rfl) rfl ?_
     refine tN (tT ?_)
     refine tri_cond_dec rfl (fun h5 => ?_) (fun h5 => ?_)
     ·have hb : ¬ R21.good ns room n j nw := fun h => by have := h.2.2.2.2; omega
      refine tS (tR ?_)
      refine tri_v (opv_buildS rfl rfl) rfl ?_
      refine tri_g (opg_store rfl rfl rfl rfl rfl rfl) rfl ?_
      rintro _ _ _ ⟨rfl, rfl⟩
      refine tA rfl rfl (tN (tT (tri_ret (tri_then_ret ?_))))
      refine tri_end A Suf.h rfl (.cons (rv_cellA rfl rfl rfl) (.cons (rv_tmp rfl) .nil)) (bad hb)
     ·have hg : R21.good ns room n j nw := ⟨⟨hr, ⟨hn0, hn1⟩, hl2⟩, by omega, by show _ ≤ (ns.getD n.toNat default).lv - 2; omega, by omega, by omega⟩
      obtain ⟨W, rfl⟩ : ∃ W : Nat, nw = (W : Int) := ⟨nw.toNat, by omega⟩
      have hW1 : 1 ≤ W := by omega
      refine tri_skip (tT (tS ?_))
      skip
      refine tri_cut (fun F' A' J => ∃ (bc b53 : Nat) (ad : Option Addr), ad ≠ none ∧ F' = [(1, .int .i64 n), (2, .int .i64 j), (3, .int .i64 (W : Nat)), (4, .slice a2 picks.length cap2), (10, pt b10 0), (12, pt bc 0)] ∧ A'.Perm (Row ad W W 27 1 (reps W [.slice none 0 0]) :: Box b53 (Enc.enc (R21.tk0 n j (-1) 0)) 91 :: Box bc [.slice a ns.length cap, .int .i64 room, .slice (some ⟨b53, 0, none⟩) 1 1, .slice ad W W, .slice none 0 0, .int .i64 0, .bool false, .int .i64 0] 95 :: Box b10 [.slice none 0 0, .int .i64 0, .int .i64 0, .int .i64 0, .int .i64 0] 34 :: Box b5 [.slice a ns.length cap, .int .i64 room] 26 :: A) ∧ I = J) ?_ ?_
      ·refine tri_draw [0, 1, 2, 3, 5, 4, 6, 7, 8, 9] rfl [] rfl mixed ?_
       refine th_take rfl rfl (by kernel_rfl)  (opv_loadA rfl rfl rfl) ?_
       refine th_take rfl rfl (by kernel_rfl)  (opv_move rfl) ?_
       refine th_take rfl rfl (by kernel_rfl)  (opv_move rfl) ?_
       refine th_take rfl rfl (by kernel_rfl)  (opv_buildS rfl rfl) ?_
       refine th_take rfl rfl (by kernel_rfl)  (opv_move rfl) ?_
       refine th_two (j := 6) [4, 7, 8, 9] (by kernel_rfl) rfl ?_ ?_
       ·refine (step_m rfl rfl (opg_buildSlice rfl rfl rfl rfl) ?_)
        rintro _ _ _ ⟨b53, rfl, rfl, rfl⟩
        refine ⟨Suf.h, (fun _ h => h), ?_⟩
        refine th_one (by kernel_rfl) (step_m rfl rfl (opg_makeSliceN (m := W) rfl rfl rfl (by omega) (by omega)) ?_)
        rintro _ _ _ ⟨ad, had, rfl, rfl, rfl⟩
        refine ⟨Suf.h, (fun _ h => h), ?_⟩
        refine th_take rfl rfl (by kernel_rfl)  (opv_buildS rfl rfl) ?_
        refine th_one (by kernel_rfl) (step_m rfl rfl (opg_box_agg rfl) ?_)
        rintro _ _ _ ⟨b57, rfl, rfl, rfl⟩
        refine ⟨Suf.h, (fun _ h => h), ?_⟩
        refine th_take rfl rfl (by kernel_rfl)  (opv_assign rfl) ?_
        refine th_done (by kernel_rfl) ?_
        refine tri_cutEnd _ ⟨_, _, ad, had, rfl, permR1, rfl⟩ ⟨rfl, rfl, rfl, rfl, rfl, rfl, trivial⟩
       ·refine (step_m rfl rfl (opg_makeSliceN (m := W) rfl rfl rfl (by omega) (by omega)) ?_)
        rintro _ _ _ ⟨ad, had, rfl, rfl, rfl⟩
        refine ⟨Suf.h, (fun _ h => h), ?_⟩
        refine th_one (by kernel_rfl) (step_m rfl rfl (opg_buildSlice rfl rfl rfl rfl) ?_)
        rintro _ _ _ ⟨b53, rfl, rfl, rfl⟩
        refine ⟨Suf.h, (fun _ h => h), ?_⟩
        refine th_take rfl rfl (by kernel_rfl)  (opv_buildS rfl rfl) ?_
        refine th_one (by kernel_rfl) (step_m rfl rfl (opg_box_agg rfl) ?_)
        rintro _ _ _ ⟨b57, rfl, rfl, rfl⟩
        refine ⟨Suf.h, (fun _ h => h), ?_⟩
        refine th_take rfl rfl (by kernel_rfl)  (opv_assign rfl) ?_
        refine th_done (by kernel_rfl) ?_
        refine tri_cutEnd _ ⟨_, _, ad, had, rfl, permR2, rfl⟩ ⟨rfl, rfl, rfl, rfl, rfl, rfl, trivial⟩
      rintro _ _ _ ⟨bc, b53, ad, had, rfl, hperm, rfl⟩
      skip
      refine tri_perm hperm ?_
      clear hperm
      refine tri_rowPt had fun bq ebd => ?_
      subst ebd
      rw [R21.reps_sl]
      refine tT (tS (tR (tM rfl rfl ?_)))
      refine tri_v (opv_nilCheck rfl) rfl ?_
      refine tri_v (opv_fieldAddr rfl rfl) rfl ?_
      refine tri_v (opv_load1 rfl rfl rfl) rfl ?_
      refine tri_g (opg_buildSlice rfl rfl rfl rfl) rfl ?_
      rintro _ _ _ ⟨b62, rfl, rfl, rfl⟩
      refine tri_v (opv_indexAddrR rfl rfl (by omega) (by omega)) rfl ?_
      refine tri_g (opg_storeRX (⟨some ⟨b62, 0, none⟩, 1, 1⟩ : Sl) rfl rfl rfl (by rw [List.length_replicate]; omega) (by rw [List.length_replicate]) rfl rfl rfl rfl) rfl ?_
      rintro _ _ _ ⟨rfl, rfl⟩
      refine tri_boxRow (k := 1) (sz := 1) rfl ?_
      refine tri_freezeRowC (xs := [(0 : Int)]) rfl fun J1 hJ1 hz1 => ?_
      refine tri_perm (A := ?a1_0 :: ?a1_1 :: ?a1_2 :: ?a1_3 :: ?a1_4 :: ?T1) (B := ?a1_1 :: ?a1_0 :: ?a1_2 :: ?a1_3 :: ?a1_4 :: ?T1) (by exact permL [1, 0, 2, 3, 4] [?a1_0, ?a1_1, ?a1_2, ?a1_3, ?a1_4] ?T1 (by decide) rfl) ?_
      refine tri_boxRow (k := 1) (sz := 15) rfl ?_
      refine tri_nilRow (E := 122) (sz := 3) ?_
      refine tri_perm (A := ?a2_0 :: ?a2_1 :: ?a2_2 :: ?a2_3 :: ?a2_4 :: ?a2_5 :: ?T2) (B := ?a2_3 :: ?a2_1 :: ?a2_2 :: ?a2_0 :: ?a2_4 :: ?a2_5 :: ?T2) (by exact permL [3, 1, 2, 0, 4, 5] [?a2_0, ?a2_1, ?a2_2, ?a2_3, ?a2_4, ?a2_5] ?T2 (by decide) rfl) ?_
      have ok0 := rs_start (n := n) (j := j) (bt := b53) hW1 (hs.mono hJ1) hz1
      have m0 := R21.start_ok (room := room) (n := n) (j := j) hW1 hr ⟨hn0, hn1⟩ (by show 1 ≤ (ns.getD n.toNat default).lv; omega)
      have e1 : (R21.start ns W n j).D.length = W := m0.dl
      have k0 : KpB 0 (R21.start ns W n j).kp := ⟨Nat.le_refl _, fun p hp => (nomatch hp)⟩
      refine tri_perm (B := RsA bc bq W room ⟨a, cap, some ⟨b53, 0, none⟩, 1, (List.replicate W (⟨none, 0, 0⟩ : Sl)).set 0 ⟨some ⟨b62, 0, none⟩, 1, 1⟩, none, 0⟩ (R21.start ns W n j) 0 (Box b10 [.slice none 0 0, .int .i64 0, .int .i64 0, .int .i64 0, .int .i64 0] 34 :: Box b5 [.slice a ns.length cap, .int .i64 room] 26 :: A)) (.refl _) ?_
      generalize (⟨a, cap, some ⟨b53, 0, none⟩, 1, (List.replicate W (⟨none, 0, 0⟩ : Sl)).set 0 ⟨some ⟨b62, 0, none⟩, 1, 1⟩, none, 0⟩ : Hr) = h0 at *
      have el : R21.leap ns room n j (W : Int) picks = if (R21.run room W picks 100000 0 (-1) (R21.start ns W n j)).2.2 ≠ 0 then ⟨[], 0, 0, 0, 0, (R21.run room W picks 100000 0 (-1) (R21.start ns W n j)).2.2⟩ else ⟨(R21.run room W picks 100000 0 (-1) (R21.start ns W n j)).1.ns, room, (R21.run room W picks 100000 0 (-1) (R21.start ns W n j)).1.node, (R21.run room W picks 100000 0 (-1) (R21.start ns W n j)).2.1, (R21.run room W picks 100000 0 (-1) (R21.start ns W n j)).1.ts.length, 0⟩ := by
       unfold R21.leap
       rw [if_pos hg, Int.toNat_natCast]
      rw [el]
      clear el bad
      obtain ⟨R, hR⟩ : ∃ R, R21.run room W picks 100000 0 (-1) (R21.start ns W n j) = R := ⟨_, rfl⟩
      rw [hR]
      generalize R21.start ns W n j = s0 at *
      refine tri_nilRow (E := 3) (sz := 1) ?_
      refine tN (tT (tS (tR (tA rfl rfl (tN (tT (tS ?_)))))))
      refine tS (tR (tA rfl rfl (tN (tT ?_))))
      refine tri_cut (fun F' A' J => ∃ (ao : Option Addr) (co : Nat), F' = [(4, .slice a2 picks.length cap2), (10, pt b10 0), (12, pt bc 0), (13, .slice ao W co)] ∧ A' = Row ao co W 3 1 (encs (List.replicate W (1 : Int))) :: RsA bc bq W room h0 s0 0 (Box b10 [.slice none 0 0, .int .i64 0, .int .i64 0, .int .i64 0, .int .i64 0] 34 :: Box b5 [.slice a ns.length cap, .int .i64 room] 26 :: A) ∧ J1 = J) ?_ ?_
      ·refine tri_block ?_
       refine tri_sub (F' := [(3, .int .i64 (W : Nat)), (4, .slice a2 picks.length cap2), (10, pt b10 0), (12, pt bc 0), (13, .slice none 0 0), (14, .int .i64 ((0 : Nat) : Int))]) ⟨rfl, rfl, rfl, rfl, rfl, rfl, trivial⟩ ?_
       refine loop_ind (G := Nat × Option Addr × Nat) (fun g => W - g.1) (fun g => g.1 ≤ W) (fun g => [(3, .int .i64 (W : Nat)), (4, .slice a2 picks.length cap2), (10, pt b10 0), (12, pt bc 0), (13, .slice g.2.1 g.1 g.2.2), (14, .int .i64 (g.1 : Nat))]) (fun g => Row g.2.1 g.2.2 g.1 3 1 (encs (List.replicate g.1 (1 : Int))) :: RsA bc bq W room h0 s0 0 (Box b10 [.slice none 0 0, .int .i64 0, .int .i64 0, .int .i64 0, .int .i64 0] 34 :: Box b5 [.slice a ns.length cap, .int .i64 room] 26 :: A)) (fun _ => J1) ?_ (0, none, 0) (Nat.zero_le _)
       rintro ⟨i, ao, co⟩ hi K hK
       simp only at hi hK ⊢
       skip
       refine tS (tS (tR (tM rfl rfl (tM rfl rfl ?_))))
       refine tri_v (opv_lss rfl rfl) rfl ?_
       refine tN (tT ?_)
       refine tri_cond_dec rfl (fun h6 => ?_) (fun h6 => ?_)
       ·refine tri_skip (tT (tS (tri_block (tR (tM rfl rfl ?_)))))
        refine tri_g (opg_buildSlice rfl rfl rfl rfl) rfl ?_
        rintro _ _ _ ⟨b70, rfl, rfl, rfl⟩
        refine tri_g (opg_appendB rfl rfl rfl rfl (by omega) rfl) rfl ?_
        rintro _ _ _ ⟨ao', co', rfl, rfl, rfl⟩
        refine tA rfl rfl (tN ?_)
        refine tri_inBlock ?_
        refine tT (tR (tM rfl rfl ?_))
        refine tU rfl rfl (by omega) (by omega) rfl ?_
        refine tA rfl rfl (tN (tT ?_))
        refine tri_drop ?_
        refine tri_rowEq (len' := i + 1) (cells' := encs (List.replicate (i + 1) (1 : Int))) rfl (by rw [List.replicate_succ', encs_append]; rfl) ?_
        refine tri_sub ?_ (hK (i + 1, ao', co') (by simp only; omega) (by simp only; omega))
        exact ⟨rfl, rfl, rfl, rfl, rfl, rfl, trivial⟩
       ·obtain rfl : i = W := by omega
        refine tri_exit ?_
        refine tri_then_exit ?_
        refine tri_then_exit ?_
        refine tri_inBlock_hit rfl ?_
        exact tri_cutEnd _ ⟨ao, co, rfl, rfl, rfl⟩ ⟨rfl, rfl, rfl, rfl, trivial⟩
      rintro _ _ _ ⟨ao, co, rfl, rfl, rfl⟩
      refine tT (tS (tR (tA rfl rfl (tN (tT (tS (tS ?_)))))))
      refine tR (tA rfl rfl (tN (tT (tri_block ?_))))
      have inv0 : RunInvR room W 1 picks R I 0 (-1) h0 s0 J1 := ⟨by omega, ok0, m0, k0, hR.symm, by omega, by omega, hJ1⟩
      clear k0 m0 ok0 hR e1 hz1
      refine tri_sub (F' := [(4, .slice a2 picks.length cap2), (10, pt b10 0), (12, pt bc 0), (13, .slice ao W co), (15, .int .i64 (-1)), (16, .int .i64 ((0 : Nat) : Int))]) ⟨rfl, rfl, rfl, rfl, rfl, rfl, trivial⟩ ?_
      refine loop_ind (G := Nat × Int × Hr × R21.Ms × List Chunk) (fun g => 100000 - g.1) (fun g => RunInvR room W 1 picks R I g.1 g.2.1 g.2.2.1 g.2.2.2.1 g.2.2.2.2) (fun g => [(4, .slice a2 picks.length cap2), (10, pt b10 0), (12, pt bc 0), (13, .slice ao W co), (15, .int .i64 g.2.1), (16, .int .i64 (g.1 : Nat))]) (fun g => Row ao co W 3 1 (encs (List.replicate W (1 : Int))) :: RsA bc bq W room g.2.2.1 g.2.2.2.1 0 (Box b10 [.slice none 0 0, .int .i64 0, .int .i64 0, .int .i64 0, .int .i64 0] 34 :: Box b5 [.slice a ns.length cap, .int .i64 room] 26 :: A)) (fun g => g.2.2.2.2) ?_ (0, -1, h0, s0, J1) inv0
      clear inv0
      rintro ⟨m, last, h1', s1, J2⟩ inv K hK
      simp only at inv hK ⊢
      have hm := inv.hn
      have hl0 := inv.l0
      have hl1 := inv.l1
      have hI2 := inv.I
      have eq := inv.eq
      have hsk := hs2.mono hI2
      have hD1 := inv.m.dl
      skip
      refine tS (tS (tR (tM rfl rfl ?_)))
      refine tri_v (opv_lss rfl rfl) rfl ?_
      refine tN (tT ?_)
      refine tri_cond_dec rfl (fun hc => ?_) (fun hc => ?_)
      ·obtain ⟨hx0, hx1⟩ := R19.nxt_ok (picks := picks) (nw := W) (n := m) (last := last) hW1
       obtain ⟨w, ew⟩ : ∃ w : Nat, R19.nxt picks W m last = (w : Int) := ⟨(R19.nxt picks W m last).toNat, by omega⟩
       have ew2 : R11.next picks m (List.replicate W 1) last = (w : Int) := ew
       rw [show 100000 - m = (100000 - (m + 1)) + 1 by omega, R21.run_succ _ _ _ _ _ _ _ ew] at eq
       have hwW : w < W := by omega
       refine tri_skip (tT (tS (tri_block (tS (tR (tM rfl rfl (tM rfl rfl ?_)))))))
       refine tM rfl rfl (tM rfl rfl ?_)
       refine tri_g (opg_call (xs := [_, _, _, _]) rfl (ref11_next hsk hk hW1 (by omega) hl0 hl1 (by omega) hpl)) rfl ?_
       rintro _ _ _ ⟨rfl, rfl, rfl⟩
       rw [ew2]
       refine tri_perm (A := ?a3_0 :: ?a3_1 :: ?a3_2 :: ?a3_3 :: ?a3_4 :: ?T3) (B := ?a3_1 :: ?a3_2 :: ?a3_3 :: ?a3_4 :: ?a3_0 :: ?T3) (by exact permL [1, 2, 3, 4, 0] [?a3_0, ?a3_1, ?a3_2, ?a3_3, ?a3_4] ?T3 (by decide) rfl) ?_
       refine tA rfl rfl (tN (tT (tS (tR (tM rfl rfl (tA rfl rfl (tN ?_)))))))
       refine tT (tS (tR (tM rfl rfl (tM rfl rfl ?_))))
       refine tri_g (opg_call (xs := [_, _]) rfl (ref21_take (s := s1) hD1 inv.ok (by omega) (by omega) (fun k hk => by have := (inv.m.dq k (by omega)).1; omega))) rfl ?_
       rintro _ _ J3 ⟨rfl, h2, rfl, ok2, hJ3⟩
       obtain ⟨m1, hx1'⟩ := inv.m.take hwW
       have kp1 := inv.kp
       have hm2 := inv.m.step (w := w) hwW
       have hk2 := R21.kp_step (w := w) kp1 inv.m.right
       obtain ⟨s2, hs2'⟩ : ∃ s2 : R21.Ms, s2 = { s1 with D := (R19.takeM s1.D w).2 } := ⟨_, rfl⟩
       have est : R21.step room s1 w = if (R19.takeM s1.D w).1 < 0 then (s2, 0) else if (s2.ts.getD (R19.takeM s1.D w).1.toNat default).wt = 9 then R21.join room s2 w (R19.takeM s1.D w).1.toNat else if (s2.ts.getD (R19.takeM s1.D w).1.toNat default).wt = 4 then R21.end_ room s2 w (R19.takeM s1.D w).1.toNat else R21.begin_ room s2 w (R19.takeM s1.D w).1.toNat := by
        rw [hs2']; rfl
       rw [← hs2'] at m1 ok2 ⊢
       rw [show s1.ts = s2.ts by rw [hs2']] at hx1'
       rw [show s1.kp = s2.kp by rw [hs2']] at kp1
       generalize (R19.takeM s1.D w).1 = x at *
       obtain ⟨r, hr'⟩ : ∃ r, R21.step room s1 w = r := ⟨_, rfl⟩
       rw [hr'] at est eq hm2 hk2
       have hts2 := m1.ts
       have kpk := kp1.ok (by omega)
       refine tA rfl rfl (tN (tT (tS ?_)))
       refine tri_cut (fun F' A' J => ∃ (h3 : Hr) (s3 : R21.Ms), F' = [(4, .slice a2 picks.length cap2), (10, pt b10 0), (12, pt bc 0), (13, .slice ao W co), (15, .int .i64 (w : Nat)), (16, .int .i64 (m : Nat))] ∧ A' = RsA bc bq W room h3 s3 r.2 (Row ao co W 3 1 (encs (List.replicate W (1 : Int))) :: (Box b10 [.slice none 0 0, .int .i64 0, .int .i64 0, .int .i64 0, .int .i64 0] 34 :: Box b5 [.slice a ns.length cap, .int .i64 room] 26 :: A)) ∧ (r.2 = 0 → s3 = r.1 ∧ RsOk J h3 s3) ∧ I ⊆ J) ?_ ?_
       ·refine tS (tR (tM rfl rfl ?_))
        refine tri_v (opv_geq rfl rfl) rfl ?_
        refine tM rfl rfl ?_
        refine tri_split rfl rfl (fun hx => ?_) (fun hx => ?_)
        ·obtain ⟨i, rfl⟩ : ∃ i : Nat, x = (i : Int) := ⟨x.toNat, by omega⟩
         rw [Int.toNat_natCast, if_neg (by omega)] at est
         have hi : i < s2.ts.length := by have := hx1' (by omega); omega
         have tk1 := m1.tkOk hi (by omega)
         have dq1 := m1.dqOk hwW (by omega)
         have htk := m1.tk i hi
         have hwt := htk.wt
         refine tri_guard_run rfl rfl rfl (tM rfl rfl (tri_guard_run rfl rfl rfl ?_))
         refine tri_v (opv_nilCheck rfl) rfl ?_
         refine tri_guard_run rfl rfl rfl ?_
         refine tri_v (opv_fieldAddr rfl rfl) rfl ?_
         refine tri_guard_run rfl rfl rfl ?_
         refine tri_v (opv_load1 rfl rfl rfl) rfl ?_
         refine tri_guard_run rfl rfl rfl (tM rfl rfl (tri_guard_run rfl rfl rfl ?_))
         refine tri_v (opv_indexAddrRN rfl rfl (by omega)) rfl ?_
         refine tri_guard_run rfl rfl rfl ?_
         refine tri_v (opv_fieldAddrR rfl (by omega) rfl) rfl ?_
         refine tri_guard_run rfl rfl rfl ?_
         refine tri_v (opv_loadRX1 rfl rfl (by omega) rfl rfl) rfl ?_
         refine tri_guard_run rfl rfl rfl ?_
         refine tri_v (opv_eql rfl rfl) rfl ?_
         refine tri_v (opv_pick_t rfl rfl) rfl ?_
         refine tN (tT ?_)
         refine tri_cond_dec rfl (fun c0 => ?_) (fun c0 => ?_)
         ·have c0' : (s2.ts.getD i default).wt = 0 := c0
          rw [if_neg (by rw [c0']; decide), if_neg (by rw [c0']; decide)] at est
          refine tR (tM rfl rfl (tM rfl rfl (tM rfl rfl ?_)))
          refine tri_g (opg_call (xs := [_, _, _]) rfl (ref21_begin (s := s2) m1.dl ok2 dq1 tk1 kpk m1.right htk.n)) rfl ?_
          rintro _ _ J5 ⟨h3, s3, rfl, hx5, hJ5⟩
          refine tN ?_
          exact tri_cutEnd _ ⟨h3, s3, rfl, by rw [est], by rw [est]; exact hx5, fun _ y => hJ5 (hJ3 (hI2 y))⟩ ⟨rfl, rfl, rfl, rfl, rfl, rfl, trivial⟩
         ·refine tS (tR (tM rfl rfl ?_))
          refine tri_v (opv_geq rfl rfl) rfl ?_
          refine tM rfl rfl ?_
          refine tri_true rfl rfl (by omega) ?_
          refine tri_guard_run rfl rfl rfl (tM rfl rfl (tri_guard_run rfl rfl rfl ?_))
          refine tri_v (opv_nilCheck rfl) rfl ?_
          refine tri_guard_run rfl rfl rfl ?_
          refine tri_v (opv_fieldAddr rfl rfl) rfl ?_
          refine tri_guard_run rfl rfl rfl ?_
          refine tri_v (opv_load1 rfl rfl rfl) rfl ?_
          refine tri_guard_run rfl rfl rfl (tM rfl rfl (tri_guard_run rfl rfl rfl ?_))
          refine tri_v (opv_indexAddrRN rfl rfl (by omega)) rfl ?_
          refine tri_guard_run rfl rfl rfl ?_
          refine tri_v (opv_fieldAddrR rfl (by omega) rfl) rfl ?_
          refine tri_guard_run rfl rfl rfl ?_
          refine tri_v (opv_loadRX1 rfl rfl (by omega) rfl rfl) rfl ?_
          refine tri_guard_run rfl rfl rfl ?_
          refine tri_v (opv_eql rfl rfl) rfl ?_
          refine tri_v (opv_pick_t rfl rfl) rfl ?_
          refine tN (tT ?_)
          refine tri_cond_dec rfl (fun c9 => ?_) (fun c9 => ?_)
          ·have c9' : (s2.ts.getD i default).wt = 9 := c9
           rw [if_pos c9'] at est
           refine tR (tM rfl rfl (tM rfl rfl (tM rfl rfl ?_)))
           refine tri_g (opg_call (xs := [_, _, _]) rfl (ref21_four (s := s2) m1.dl ok2 dq1 tk1 m1.right htk.n.1)) rfl ?_
           rintro _ _ J5 ⟨h3, s3, rfl, hx5, hJ5⟩
           refine tN ?_
           exact tri_cutEnd _ ⟨h3, s3, rfl, by rw [est], by rw [est]; exact hx5, fun _ y => hJ5 (hJ3 (hI2 y))⟩ ⟨rfl, rfl, rfl, rfl, rfl, rfl, trivial⟩
          ·have c9' : ¬ (s2.ts.getD i default).wt = 9 := c9
           have c0' : ¬ (s2.ts.getD i default).wt = 0 := c0
           rw [if_neg c9', if_pos (by omega)] at est
           have hg2 : R6.Good s2.ns room := m1.right.good (by have := m1.right.1.2.1; omega)
           obtain ⟨t, htt⟩ : ∃ t, s2.ts.getD i default = t := ⟨_, rfl⟩
           obtain ⟨p, hp⟩ : ∃ p, R6.put s2.ns room t.r0 t.r1 t.r2 t.r3 = p := ⟨_, rfl⟩
           have een : R21.end_ room s2 w i = if p.2.2 ≠ 0 then (s2, p.2.2) else (R21.tell { s2 with ns := p.1 } w i p.2.1, 0) := by
            rw [← hp]; unfold R21.end_; rw [htt]
           rw [een] at est
           refine tS (tR (tM rfl rfl ?_))
           refine tri_v (opv_geq rfl rfl) rfl ?_
           refine tN (tT ?_)
           refine tri_cond_is rfl (by omega) ?_
           refine tS (tR (tM rfl rfl ?_))
           refine tri_v (opv_nilCheck rfl) rfl ?_
           refine tri_v (opv_fieldAddr rfl rfl) rfl ?_
           refine tri_v (opv_load1 rfl rfl rfl) rfl ?_
           refine tM rfl rfl ?_
           refine tri_v (opv_indexAddrRN rfl rfl (by omega)) rfl ?_
           refine tri_v (opv_fieldAddrR rfl (by omega) rfl) rfl ?_
           refine tri_v (opv_loadRXA rfl rfl (by omega) rfl rfl rfl) rfl ?_
           refine tri_g opg_alloc rfl ?_
           rintro _ _ _ ⟨b19, rfl, rfl, rfl⟩
           refine tri_g (opg_store rfl rfl rfl rfl rfl rfl) rfl ?_
           rintro _ _ _ ⟨rfl, rfl⟩
           refine tN (tT (tS ?_))
           rw [htt]
           refine tri_perm (A := ?a4_0 :: ?a4_1 :: ?a4_2 :: ?a4_3 :: ?a4_4 :: ?T4) (B := ?a4_1 :: ?a4_2 :: ?a4_3 :: ?a4_4 :: ?a4_0 :: ?T4) (by exact permL [1, 2, 3, 4, 0] [?a4_0, ?a4_1, ?a4_2, ?a4_3, ?a4_4] ?T4 (by decide) rfl) ?_
           refine tR (tM rfl rfl ?_)
           refine tri_v (opv_indexAddrA rfl rfl (by decide) (by decide)) rfl ?_
           refine tri_v (opv_load1 rfl rfl rfl) rfl ?_
           refine tri_v (opv_indexAddrA rfl rfl (by decide) (by decide)) rfl ?_
           refine tri_v (opv_load1 rfl rfl rfl) rfl ?_
           refine tri_v (opv_indexAddrA rfl rfl (by decide) (by decide)) rfl ?_
           refine tri_v (opv_load1 rfl rfl rfl) rfl ?_
           refine tri_v (opv_indexAddrA rfl rfl (by decide) (by decide)) rfl ?_
           refine tri_v (opv_load1 rfl rfl rfl) rfl ?_
           refine tri_v (opv_buildA rfl rfl) rfl ?_
           refine tri_g (opg_call (xs := [_, _]) rfl (ref21_put (s := s2) (e := 0) (r := p) ok2 (fun _ => ⟨hg2, hp⟩) (fun h => absurd rfl h))) rfl ?_
           rintro _ _ J5 ⟨h3, n3, m3, rfl, rfl, ok3, hm3, hJ5⟩
           refine tA rfl rfl (tN (tT (tS (tR (tM rfl rfl ?_)))))
           refine tri_v (opv_nilCheck rfl) rfl ?_
           refine tri_v (opv_fieldAddr rfl rfl) rfl ?_
           refine tri_v (opv_load1 rfl rfl rfl) rfl ?_
           refine tri_v (opv_eql rfl rfl) rfl ?_
           refine tN (tT ?_)
           refine tri_cond_dec rfl (fun ce => ?_) (fun ce => ?_)
           ·rw [if_neg (by simpa using ce)] at est
            obtain ⟨rfl, rfl⟩ := hm3 ce
            rw [ce]
            refine tR (tM rfl rfl (tM rfl rfl (tM rfl rfl (tM rfl rfl ?_))))
            refine tri_g (opg_call (xs := [_, _, _, _]) rfl (ref21_tellR (s := { s2 with ns := p.1 }) (n := p.2.1) (i := i) m1.dl ok3 dq1 tk1 kpk rfl)) rfl ?_
            rintro _ _ J6 ⟨h4', rfl, ok4, hJ6⟩
            refine tN ?_
            refine tri_perm (A := ?a5_0 :: ?a5_1 :: ?a5_2 :: ?a5_3 :: ?a5_4 :: ?T5) (B := ?a5_4 :: ?a5_0 :: ?a5_1 :: ?a5_2 :: ?a5_3 :: ?T5) (by exact permL [4, 0, 1, 2, 3] [?a5_0, ?a5_1, ?a5_2, ?a5_3, ?a5_4] ?T5 (by decide) rfl) ?_
            refine tri_drop ?_
            exact tri_cutEnd _ ⟨h4', _, rfl, by rw [est], fun _ => by rw [est]; exact ⟨rfl, ok4⟩, fun _ y => hJ6 (hJ5 (hJ3 (hI2 y)))⟩ ⟨rfl, rfl, rfl, rfl, rfl, rfl, trivial⟩
           ·rw [if_pos (by simpa using ce)] at est
            refine tri_skip ?_
            refine tri_perm (A := ?a6_0 :: ?a6_1 :: ?a6_2 :: ?a6_3 :: ?a6_4 :: ?T6) (B := ?a6_4 :: ?a6_0 :: ?a6_1 :: ?a6_2 :: ?a6_3 :: ?T6) (by exact permL [4, 0, 1, 2, 3] [?a6_0, ?a6_1, ?a6_2, ?a6_3, ?a6_4] ?T6 (by decide) rfl) ?_
            refine tri_drop ?_
            exact tri_cutEnd _ ⟨h3, { s2 with ns := n3 }, rfl, by rw [est], fun y => absurd (by rw [est] at y; exact y) ce, fun _ y => hJ5 (hJ3 (hI2 y))⟩ ⟨rfl, rfl, rfl, rfl, rfl, rfl, trivial⟩
        ·rw [if_pos (by omega)] at est
         refine tri_guard_skip rfl rfl rfl rfl (tri_guard_skip rfl rfl rfl rfl (tri_guard_skip rfl rfl rfl rfl (tri_guard_skip rfl rfl rfl rfl (tri_guard_skip rfl rfl rfl rfl (tri_guard_skip rfl rfl rfl rfl (tri_guard_skip rfl rfl rfl rfl (tri_guard_skip rfl rfl rfl rfl ?_)))))))
         refine tri_guard_skip rfl rfl rfl rfl ?_
         refine tri_v (opv_pick_f rfl rfl) rfl ?_
         refine tN (tT ?_)
         refine tri_cond_false rfl ?_
         refine tS (tR (tM rfl rfl ?_))
         refine tri_v (opv_geq rfl rfl) rfl ?_
         refine tM rfl rfl ?_
         refine tri_false rfl rfl (by omega) ?_
         refine tri_guard_skip rfl rfl rfl rfl (tri_guard_skip rfl rfl rfl rfl (tri_guard_skip rfl rfl rfl rfl (tri_guard_skip rfl rfl rfl rfl (tri_guard_skip rfl rfl rfl rfl (tri_guard_skip rfl rfl rfl rfl (tri_guard_skip rfl rfl rfl rfl (tri_guard_skip rfl rfl rfl rfl ?_)))))))
         refine tri_guard_skip rfl rfl rfl rfl ?_
         refine tri_v (opv_pick_f rfl rfl) rfl ?_
         refine tN (tT ?_)
         refine tri_cond_false rfl ?_
         refine tS (tR (tM rfl rfl ?_))
         refine tri_v (opv_geq rfl rfl) rfl ?_
         refine tN (tT ?_)
         refine tri_cond_not rfl (by omega) ?_
         refine tri_skip ?_
         exact tri_cutEnd _ ⟨h2, s2, rfl, by rw [est], fun _ => by rw [est]; exact ⟨rfl, ok2⟩, fun _ y => hJ3 (hI2 y)⟩ ⟨rfl, rfl, rfl, rfl, rfl, rfl, trivial⟩
       ·rintro _ _ J ⟨h3, s3, rfl, rfl, hx, hJ⟩
        refine tT (tS (tS (tR (tM rfl rfl ?_))))
        refine tri_v (opv_nilCheck rfl) rfl ?_
        refine tri_v (opv_fieldAddr rfl rfl) rfl ?_
        refine tri_v (opv_load1 rfl rfl rfl) rfl ?_
        refine tri_v (opv_neq rfl rfl) rfl ?_
        refine tN (tT ?_)
        refine tri_cond_dec rfl (fun he => ?_) (fun he => ?_)
        ·rw [if_pos he] at eq
         rw [eq, if_pos he]
         refine tri_perm (A := ?a7_0 :: ?a7_1 :: ?a7_2 :: ?a7_3 :: ?a7_4 :: ?a7_5 :: ?a7_6 :: ?T7) (B := ?a7_5 :: ?a7_0 :: ?a7_1 :: ?a7_2 :: ?a7_3 :: ?a7_4 :: ?a7_6 :: ?T7) (by exact permL [5, 0, 1, 2, 3, 4, 6] [?a7_0, ?a7_1, ?a7_2, ?a7_3, ?a7_4, ?a7_5, ?a7_6] ?T7 (by decide) rfl) ?_
         skip
         refine tS ?_
         refine tri_draw [0, 1, 2, 3, 4, 5, 6] rfl [_] rfl mixed ?_
         refine th_take rfl rfl (by kernel_rfl)  (opv_buildS rfl rfl) ?_
         refine th_take rfl rfl (by kernel_rfl)  (opv_move rfl) ?_
         refine th_take rfl rfl (by kernel_rfl)  (opv_nilCheck rfl) ?_
         refine th_take rfl rfl (by kernel_rfl)  (opv_fieldAddr rfl rfl) ?_
         refine th_take rfl rfl (by kernel_rfl)  (opv_load1 rfl rfl rfl) ?_
         refine th_one (by kernel_rfl) (step_m rfl rfl (opg_store rfl rfl rfl rfl rfl rfl) ?_)
         rintro _ _ _ ⟨rfl, rfl⟩
         refine ⟨Suf.h, (fun _ h => h), ?_⟩
         refine th_take rfl rfl (by kernel_rfl)  (opv_assign rfl) ?_
         refine th_done (by kernel_rfl) ?_
         refine tT (tri_ret (tri_then_ret ?_))
         refine tri_inBlock_ret ?_
         refine tri_then_ret (tri_then_ret ?_)
         refine tri_inBlock_ret ?_
         refine tri_then_ret ?_
         refine tri_end A Suf.h rfl (.cons (rv_cellA rfl rfl rfl) (.cons (rv_tmp rfl) .nil)) ⟨none, 0, rfl, StA.nil, rfl, hJ⟩
        ·have he0 : r.2 = 0 := Decidable.not_not.1 he
         rw [if_neg he] at eq
         obtain ⟨rfl, ok3⟩ := hx he0
         have hm3 := hm2 he0
         have hk3 := hk2 he0
         refine tri_skip (tT (tS (tR (tM rfl rfl ?_))))
         refine tri_v (opv_nilCheck rfl) rfl ?_
         refine tri_v (opv_fieldAddr rfl rfl) rfl ?_
         refine tri_v (opv_load1 rfl rfl rfl) rfl ?_
         refine tN (tT ?_)
         refine tri_cond rfl (fun hd => ?_) (fun hd => ?_)
         ·rw [if_pos hd] at eq
          rw [eq, if_neg (by simp)]
          refine tri_perm (A := ?a8_0 :: ?a8_1 :: ?a8_2 :: ?a8_3 :: ?a8_4 :: ?a8_5 :: ?a8_6 :: ?T8) (B := ?a8_5 :: ?a8_0 :: ?a8_1 :: ?a8_2 :: ?a8_3 :: ?a8_4 :: ?a8_6 :: ?T8) (by exact permL [5, 0, 1, 2, 3, 4, 6] [?a8_0, ?a8_1, ?a8_2, ?a8_3, ?a8_4, ?a8_5, ?a8_6] ?T8 (by decide) rfl) ?_
          skip
          refine tS ?_
          refine tri_draw [0, 1, 2, 3, 4, 5, 6, 7, 8, 9, 10, 11, 12, 13, 14, 15, 16, 17] rfl [_] rfl mixed ?_
          refine th_take rfl rfl (by kernel_rfl)  (opv_move rfl) ?_
          refine th_take rfl rfl (by kernel_rfl)  (opv_nilCheck rfl) ?_
          refine th_take rfl rfl (by kernel_rfl)  (opv_fieldAddr rfl rfl) ?_
          refine th_take rfl rfl (by kernel_rfl)  (opv_loadA rfl rfl rfl) ?_
          refine th_take rfl rfl (by kernel_rfl)  (opv_move rfl) ?_
          refine th_take rfl rfl (by kernel_rfl)  (opv_nilCheck rfl) ?_
          refine th_take rfl rfl (by kernel_rfl)  (opv_fieldAddr rfl rfl) ?_
          refine th_take rfl rfl (by kernel_rfl)  (opv_load1 rfl rfl rfl) ?_
          refine th_take rfl rfl (by kernel_rfl)  (opv_move rfl) ?_
          refine th_take rfl rfl (by kernel_rfl)  (opv_add rfl rfl (w64 (by omega) (by omega))) ?_
          refine th_take rfl rfl (by kernel_rfl)  (opv_move rfl) ?_
          refine th_take rfl rfl (by kernel_rfl)  (opv_nilCheck rfl) ?_
          refine th_take rfl rfl (by kernel_rfl)  (opv_fieldAddr rfl rfl) ?_
          refine th_take rfl rfl (by kernel_rfl)  (opv_load1 rfl rfl rfl) ?_
          refine th_take rfl rfl (by kernel_rfl)  (opv_len rfl) ?_
          refine th_take rfl rfl (by kernel_rfl)  (opv_buildS rfl rfl) ?_
          refine th_one (by kernel_rfl) (step_m rfl rfl (opg_store rfl rfl rfl rfl rfl rfl) ?_)
          rintro _ _ _ ⟨rfl, rfl⟩
          refine ⟨Suf.h, (fun _ h => h), ?_⟩
          refine th_take rfl rfl (by kernel_rfl)  (opv_assign rfl) ?_
          refine th_done (by kernel_rfl) ?_
          refine tT (tri_ret ?_)
          refine tri_inBlock_ret ?_
          refine tri_then_ret (tri_then_ret ?_)
          refine tri_inBlock_ret ?_
          refine tri_then_ret ?_
          refine tri_end A Suf.h rfl (.cons (rv_cellA rfl rfl rfl) (.cons (rv_tmp rfl) .nil)) ⟨h3.a, h3.cap, rfl, ok3.ns, rfl, hJ⟩
         ·rw [if_neg (by rw [hd]; decide)] at eq
          rw [he0]
          refine tri_skip ?_
          refine tri_inBlock ?_
          refine tT (tR (tM rfl rfl ?_))
          refine tU rfl rfl (by omega) (by omega) rfl ?_
          refine tA rfl rfl (tN (tT ?_))
          refine tri_perm (A := ?a9_0 :: ?a9_1 :: ?a9_2 :: ?a9_3 :: ?a9_4 :: ?T9) (B := ?a9_4 :: ?a9_0 :: ?a9_1 :: ?a9_2 :: ?a9_3 :: ?T9) (by exact permL [4, 0, 1, 2, 3] [?a9_0, ?a9_1, ?a9_2, ?a9_3, ?a9_4] ?T9 (by decide) rfl) ?_
          refine tri_sub ?_ (hK (m + 1, (w : Int), h3, r.1, J) ⟨by simp only; omega, ok3, hm3.mono (by simp only; omega), hk3, eq, by simp only; omega, by simp only; omega, hJ⟩ (by simp only; omega))
          exact ⟨rfl, rfl, rfl, rfl, rfl, rfl, trivial⟩
      ·have hn0' : 100000 - m = 0 := by omega
       rw [hn0'] at eq
       have eq2 : R = (s1, 0, 3) := eq
       rw [eq2, if_pos (show (3 : Int) ≠ 0 by decide)]
       refine tri_exit ?_
       refine tri_then_exit ?_
       refine tri_then_exit ?_
       refine tri_inBlock_hit rfl ?_
       refine tT (tS (tR ?_))
       refine tri_v (opv_buildS rfl rfl) rfl ?_
       refine tri_g (opg_store rfl rfl rfl rfl rfl rfl) rfl ?_
       rintro _ _ _ ⟨rfl, rfl⟩
       refine tA rfl rfl (tN (tT (tri_ret ?_)))
       refine tri_end A Suf.h rfl (.cons (rv_cellA rfl rfl rfl) (.cons (rv_tmp rfl) .nil)) ⟨none, 0, rfl, StA.nil, rfl, hI2⟩
end Go.GL


set_option linter.unusedVariables false
namespace Go.GL
namespace RL
def three : List Cell := [⟨0, 0⟩, ⟨1, 0⟩, ⟨2, 0⟩]
def awM21 : List Node × Int × Int := R7.make [R6.n0, R6.n1] 90 three 3
def awA21 : R21.Lp := R21.leap awM21.1 90 awM21.2.1 1 1 []
def awB21 : R21.Lp := R21.leap awM21.1 90 awM21.2.1 0 3 [2, 1, 0, 1, 2]
def awC21 : R21.Lp := R21.leap awM21.1 90 awM21.2.1 2 1 []
set_option maxRecDepth 100000 in
theorem aw21_ok : awM21.1.length ≤ 1000
  ∧ (0 ≤ awA21.node ∧ awA21.node < awA21.ns.length ∧ awA21.err = 0 ∧ awA21.tasks = 14 ∧ awA21.steps = 16 ∧ (awA21.ns.getD awA21.node.toNat default).lv = 2)
  ∧ (0 ≤ awB21.node ∧ awB21.node < awB21.ns.length ∧ awB21.err = 0 ∧ awB21.tasks = 5)
  ∧ awC21.err = 1 := by
 refine ⟨by decide +kernel, by decide +kernel, by decide +kernel, by decide +kernel⟩
end RL
end Go.GL


set_option linter.unusedVariables false
namespace Go.GL
open Go.Proofs
attribute [local irreducible] wpList Code.wp Exit.then Exit.inBlock Ends Tri TriH OpV OpG FnC epf wpAnyH
variable {A : List Asrt} {I : List Chunk}
set_option maxRecDepth 100000 in
theorem law21_pick {c n : Int} (h : I64 c) (hn : 0 < n) : FnC Try.prog 11 [.int .i64 c, .int .i64 n].toArray A I (fun v A' I' => v = .int .i64 (pk c n) ∧ A = A' ∧ I = I') := by
 obtain ⟨h0, h1⟩ := h
 skip
 skip
 refine fn_enter2 Try.func11 rfl Try.ntmps11 rfl fun w0 => ?_
 refine tS (tR (tA rfl rfl (tN (tT (tS (tS (tR ?_)))))))
 refine tM rfl rfl ?_
 refine tri_v (opv_lss rfl rfl) rfl ?_
 refine tN (tT ?_)
 refine tri_cond_dec rfl (fun h => ?_) (fun h => ?_)
 ·refine tR (tM rfl rfl ?_)
  refine tU rfl rfl (by omega) (by omega) rfl ?_
  refine tri_v (opv_negE rfl (by omega) (by omega)) rfl ?_
  refine tA rfl rfl (tN (tT (tS (tR (tM rfl rfl (tM rfl rfl ?_))))))
  refine tri_v (opv_remE rfl rfl (by omega) (by omega)) rfl ?_
  refine tA rfl rfl (tN (tT (tri_ret ?_)))
  refine tri_end A Suf.h rfl (.cons (rv_tmp rfl) .nil) ⟨?_, rfl, rfl⟩
  rw [pk, if_pos h]; rfl
 ·refine tri_skip (tT (tS (tR (tM rfl rfl (tM rfl rfl ?_)))))
  refine tri_v (opv_remE rfl rfl (by omega) (by omega)) rfl ?_
  refine tA rfl rfl (tN (tT (tri_ret ?_)))
  refine tri_end A Suf.h rfl (.cons (rv_tmp rfl) .nil) ⟨?_, rfl, rfl⟩
  rw [pk, if_neg h]; rfl
theorem ref06_newS {room : Int} {p : List Node × Int} (h : R6.new room = p) : FnC Try.prog 25 [.int .i64 room].toArray A I (fun v A' I' => ∃ a' cap', v = storeV a' p.1.length cap' p.2 ∧ StA I' a' cap' p.1 ∧ A = A' ∧ I ⊆ I') := by
 subst h
 exact ref06_new
theorem ref07_makeS {ns : List Node} {a bb : Option Addr} {cap cap2 : Nat} {room lv : Int} {l : List Cell} {p : List Node × Int × Int} (hs : StA I a cap ns) (hn : ns.length ≤ 1000000000) (hr : R6.Rng ns) (hsl : SlAt I bb l) (hnl : l.length ≤ 1000000000) (h : R7.make ns room l lv = p) :
  FnC Try.prog 24 [storeV a ns.length cap room, .slice bb l.length cap2, .int .i64 lv].toArray A I (StoreR p room A I) := by
 subst h
 exact ref07_make hs hn hr hsl hnl
theorem shop_leapR {ns : List Node} {a a2 : Option Addr} {cap cap2 : Nat} {room n j nw : Int} {picks : List Int} {r : R21.Lp} (hs : StA I a cap ns) (hn : ns.length ≤ 1000000000) (hs2 : SlAt I a2 picks) (hk : Is picks) (hr : R21.leap ns room n j nw picks = r) :
  FnC Try.prog 12 [storeV a ns.length cap room, .int .i64 n, .int .i64 j, .int .i64 nw, .slice a2 picks.length cap2].toArray A I (LpPost r A I) := by
 subst hr
 exact shop_leap hs hn hs2 hk
theorem ref21_leapR {ns : List Node} {a a2 : Option Addr} {cap cap2 : Nat} {room n j nw : Int} {picks : List Int} {r : R21.Lp} (hs : StA I a cap ns) (hn : ns.length ≤ 1000000000) (hrg : R6.Rng ns) (hs2 : SlAt I a2 picks) (hk : Is picks) (hpl : picks.length ≤ 9223372036854775807) (hr : R21.leap ns room n j nw picks = r) :
  FnC Try.prog 13 [storeV a ns.length cap room, .int .i64 n, .int .i64 j, .int .i64 nw, .slice a2 picks.length cap2].toArray A I (LpPost r A I) := by
 subst hr
 exact ref21_leap hs hn hrg hs2 hk hpl
namespace R21
theorem run_ok {room : Int} {W : Nat} {picks : List Int} (hW : 1 ≤ W) : ∀ (f b n : Nat) (last : Int) (s : Ms), MOk room W b s → (run room W picks f n last s).2.2 = 0 → ∃ b', MOk room W b' (run room W picks f n last s).1
 | 0, b, n, last, s, h, he => absurd (show (3 : Int) = 0 from he) (by decide)
 | f + 1, b, n, last, s, h, he => by
  obtain ⟨hx0, hx1⟩ := R19.nxt_ok (picks := picks) (nw := W) (n := n) (last := last) hW
  obtain ⟨w, ew⟩ : ∃ w : Nat, R19.nxt picks W n last = (w : Int) := ⟨(R19.nxt picks W n last).toNat, by omega⟩
  rw [R21.run_succ _ _ _ _ _ _ _ ew] at he ⊢
  by_cases h0 : (step room s w).2 = 0
  ·rw [if_neg (by simpa using h0)] at he ⊢
   have hm := h.step (w := w) (by omega) h0
   split
   ·exact ⟨_, hm⟩
   ·rename_i hd
    rw [if_neg hd] at he
    exact run_ok hW f _ _ _ _ hm he
  ·rw [if_pos h0] at he
   exact absurd he h0
theorem leap_len (ns : List Node) (room n j nw : Int) (picks : List Int) : (leap ns room n j nw picks).ns.length ≤ 100000 := by
 unfold leap
 by_cases hg : good ns room n j nw
 ·rw [if_pos hg]
  dsimp only
  split
  ·exact Nat.zero_le _
  ·rename_i h0
   obtain ⟨⟨hr, hn, hl⟩, _, _, hw, _⟩ := hg
   obtain ⟨b, hm⟩ := run_ok (W := nw.toNat) (by omega) 100000 1 0 (-1) (start ns nw.toNat n j) (start_ok (by omega) hr hn (by omega)) (Decidable.not_not.1 h0)
   have := hm.right.1
   simp only
   omega
 ·rw [if_neg hg]
  exact Nat.zero_le _
end R21
set_option maxRecDepth 100000 in
theorem ref21_same {r : R21.Lp} {a b : Option Addr} {cap cap2 : Nat} (hs : SlAt I a r.ns) (ht : SlAt I b r.ns) (hn : r.ns.length ≤ 1000000000) :
  FnC Try.prog 14 [.agg [.slice a r.ns.length cap, .int .i64 r.room, .int .i64 r.node, .int .i64 r.steps, .int .i64 r.tasks].toArray, .agg [.slice b r.ns.length cap2, .int .i64 r.room, .int .i64 r.node, .int .i64 r.steps, .int .i64 r.tasks].toArray].toArray A I (fun v A' I' => v = .bool true ∧ A = A' ∧ I = I') := by
 skip
 refine fn_enter2 Try.func14 rfl Try.ntmps14 rfl fun w0 => ?_
 refine tS (tR ?_)
 refine tri_g (opg_box_agg rfl) rfl ?_
 rintro _ _ _ ⟨b2, rfl, rfl, rfl⟩
 refine tri_g (opg_box_agg rfl) rfl ?_
 rintro _ _ _ ⟨b3, rfl, rfl, rfl⟩
 refine tA rfl rfl (tN (tT (tS (tR ?_))))
 refine tri_v (opv_fieldAddr rfl rfl) rfl ?_
 refine tri_v (opv_loadA rfl rfl rfl) rfl ?_
 refine tri_v (opv_fieldAddr rfl rfl) rfl ?_
 refine tri_v (opv_loadA rfl rfl rfl) rfl ?_
 refine tri_g (opg_call (xs := [_, _]) rfl (ref06_same hs ht hn)) rfl ?_
 rintro _ _ _ ⟨rfl, rfl, rfl⟩
 refine tM rfl rfl ?_
 refine tri_true rfl rfl (⟨rfl, rfl⟩) ?_
 refine tri_guard_run rfl rfl rfl ?_
 refine tri_v (opv_fieldAddr rfl rfl) rfl ?_
 refine tri_guard_run rfl rfl rfl ?_
 refine tri_v (opv_load1 rfl rfl rfl) rfl ?_
 refine tri_guard_run rfl rfl rfl ?_
 refine tri_v (opv_fieldAddr rfl rfl) rfl ?_
 refine tri_guard_run rfl rfl rfl ?_
 refine tri_v (opv_load1 rfl rfl rfl) rfl ?_
 refine tri_guard_run rfl rfl rfl ?_
 refine tri_v (opv_eql rfl rfl) rfl ?_
 refine tri_v (opv_pick_t rfl rfl) rfl ?_
 refine tM rfl rfl ?_
 refine tri_true rfl rfl (rfl) ?_
 refine tri_guard_run rfl rfl rfl ?_
 refine tri_v (opv_fieldAddr rfl rfl) rfl ?_
 refine tri_guard_run rfl rfl rfl ?_
 refine tri_v (opv_load1 rfl rfl rfl) rfl ?_
 refine tri_guard_run rfl rfl rfl ?_
 refine tri_v (opv_fieldAddr rfl rfl) rfl ?_
 refine tri_guard_run rfl rfl rfl ?_
 refine tri_v (opv_load1 rfl rfl rfl) rfl ?_
 refine tri_guard_run rfl rfl rfl ?_
 refine tri_v (opv_eql rfl rfl) rfl ?_
 refine tri_v (opv_pick_t rfl rfl) rfl ?_
 refine tM rfl rfl ?_
 refine tri_true rfl rfl (rfl) ?_
 refine tri_guard_run rfl rfl rfl ?_
 refine tri_v (opv_fieldAddr rfl rfl) rfl ?_
 refine tri_guard_run rfl rfl rfl ?_
 refine tri_v (opv_load1 rfl rfl rfl) rfl ?_
 refine tri_guard_run rfl rfl rfl ?_
 refine tri_v (opv_fieldAddr rfl rfl) rfl ?_
 refine tri_guard_run rfl rfl rfl ?_
 refine tri_v (opv_load1 rfl rfl rfl) rfl ?_
 refine tri_guard_run rfl rfl rfl ?_
 refine tri_v (opv_eql rfl rfl) rfl ?_
 refine tri_v (opv_pick_t rfl rfl) rfl ?_
 refine tA rfl rfl (tN (tT (tri_ret ?_)))
 refine tri_end A Suf.h rfl (.cons (rv_tmp rfl) .nil) ⟨congrArg Value.bool (decide_eq_true rfl), rfl, rfl⟩
set_option maxHeartbeats 2000000 in
set_option maxRecDepth 100000 in
theorem law21_awake : FnC Try.prog 9 #[] A I (fun v A' I' => v = .bool true ∧ A = A' ∧ I ⊆ I') := by
 obtain ⟨hml, ⟨a1, a2, a3, a4, a5, a6⟩, ⟨g1, g2, g3, g4⟩, e1⟩ := RL.aw21_ok
 have eN : R6.new 90 = ([R6.n0, R6.n1], 90) := by decide
 obtain ⟨M, eM⟩ : ∃ M, RL.awM21 = M := ⟨_, rfl⟩
 obtain ⟨rA, eA⟩ : ∃ M, RL.awA21 = M := ⟨_, rfl⟩
 obtain ⟨rB, eB⟩ : ∃ M, RL.awB21 = M := ⟨_, rfl⟩
 obtain ⟨rC, eC⟩ : ∃ M, RL.awC21 = M := ⟨_, rfl⟩
 have eM' : R7.make [R6.n0, R6.n1] 90 RL.three 3 = M := eM
 have eA' : R21.leap M.1 90 M.2.1 1 1 [] = rA := by rw [← eM]; exact eA
 have eB' : R21.leap M.1 90 M.2.1 0 3 [2, 1, 0, 1, 2] = rB := by rw [← eM]; exact eB
 have eC' : R21.leap M.1 90 M.2.1 2 1 [] = rC := by rw [← eM]; exact eC
 rw [eM] at hml
 rw [eA] at a1 a2 a3 a4 a5 a6
 rw [eB] at g1 g2 g3 g4
 rw [eC] at e1
 have hml : M.1.length ≤ 1000000000 := by omega
 have i5 : Is [2, 1, 0, 1, 2] := fun i hi => by
  rcases (by have : i < 5 := hi; omega : i = 0 ∨ i = 1 ∨ i = 2 ∨ i = 3 ∨ i = 4) with rfl | rfl | rfl | rfl | rfl <;> exact ⟨by decide, by decide⟩
 have i0 : Is [] := fun i h => absurd h (Nat.not_lt_zero i)
 skip
 refine fn_enter0 Try.func9 rfl Try.ntmps9 rfl fun w0 => ?_
 refine tS (tR (tA rfl rfl (tN (tT (tS (tR ?_))))))
 refine tri_g (opg_call (xs := [_]) rfl (ref06_newS eN)) rfl ?_
 rintro _ _ I0 ⟨x0, y0, rfl, hs0, rfl, hI0⟩
 refine tri_v (opv_buildS rfl rfl) rfl ?_
 refine tri_v (opv_buildS rfl rfl) rfl ?_
 refine tri_v (opv_buildS rfl rfl) rfl ?_
 refine tri_g (opg_buildSlice rfl rfl rfl rfl) rfl ?_
 rintro _ _ _ ⟨b15, rfl, rfl, rfl⟩
 refine tri_freezeBoxS RL.three rfl fun I1 hI1 hs1 => ?_
 refine tri_g (opg_call (xs := [_, _, _]) rfl (ref07_makeS (hs0.mono hI1) (by decide) (by unfold R6.Rng; decide) hs1 (by decide) eM')) rfl ?_
 rintro _ _ I2 ⟨x2, y2, rfl, hs2, rfl, hI2⟩
 refine tM rfl rfl ?_
 refine tri_v (opv_extract rfl rfl) rfl ?_
 refine tri_v (opv_extract rfl rfl) rfl ?_
 refine tri_v (opv_extract rfl rfl) rfl ?_
 refine tri_g opg_alloc rfl ?_
 rintro _ _ _ ⟨b1, rfl, rfl, rfl⟩
 refine tri_g (opg_store rfl rfl rfl rfl rfl rfl) rfl ?_
 rintro _ _ _ ⟨rfl, rfl⟩
 refine tA rfl rfl (tA rfl rfl (tN (tT (tS (tR ?_)))))
 refine tri_v (opv_loadA rfl rfl rfl) rfl ?_
 refine tM rfl rfl ?_
 refine tri_g (opg_call (xs := [_, _, _, _, _]) rfl (shop_leapR (picks := []) hs2 hml SlAt.nil i0 eA')) rfl ?_
 rintro _ _ I3 ⟨x3, y3, rfl, hs3, rfl, hI3⟩
 have h23 := hs2.mono hI3
 refine tM rfl rfl ?_
 refine tri_v (opv_extract rfl rfl) rfl ?_
 refine tri_v (opv_extract rfl rfl) rfl ?_
 refine tri_g opg_alloc rfl ?_
 rintro _ _ _ ⟨b4, rfl, rfl, rfl⟩
 refine tri_g (opg_store rfl rfl rfl rfl rfl rfl) rfl ?_
 rintro _ _ _ ⟨rfl, rfl⟩
 refine tA rfl rfl (tN (tT (tS (tR ?_))))
 refine tri_v (opv_loadA rfl rfl rfl) rfl ?_
 refine tM rfl rfl ?_
 refine tri_g (opg_buildSlice rfl rfl rfl rfl) rfl ?_
 rintro _ _ _ ⟨b29, rfl, rfl, rfl⟩
 refine tri_freezeBoxS [(2 : Int), 1, 0, 1, 2] rfl fun I4 hI4 hs4 => ?_
 refine tri_g (opg_call (xs := [_, _, _, _, _]) rfl (shop_leapR (h23.mono hI4) hml hs4 i5 eB')) rfl ?_
 rintro _ _ I5 ⟨x5, y5, rfl, hs5, rfl, hI5⟩
 have h25 := (h23.mono hI4).mono hI5
 refine tM rfl rfl ?_
 refine tri_v (opv_extract rfl rfl) rfl ?_
 refine tri_v (opv_extract rfl rfl) rfl ?_
 refine tri_g opg_alloc rfl ?_
 rintro _ _ _ ⟨b6, rfl, rfl, rfl⟩
 refine tri_g (opg_store rfl rfl rfl rfl rfl rfl) rfl ?_
 rintro _ _ _ ⟨rfl, rfl⟩
 refine tA rfl rfl (tN (tT (tS (tR ?_))))
 refine tri_v (opv_loadA rfl rfl rfl) rfl ?_
 refine tM rfl rfl ?_
 refine tri_g (opg_call (xs := [_, _, _, _, _]) rfl (shop_leapR (picks := []) h25 hml SlAt.nil i0 eC')) rfl ?_
 rintro _ _ I6 ⟨x6, y6, rfl, hs6, rfl, hI6⟩
 have sA : SlAt I6 x3 rA.ns := (((hs3.mono hI4).mono hI5).mono hI6).sl
 refine tM rfl rfl ?_
 refine tri_v (opv_extract rfl rfl) rfl ?_
 refine tri_v (opv_extract rfl rfl) rfl ?_
 refine tri_g opg_alloc rfl ?_
 rintro _ _ _ ⟨b8, rfl, rfl, rfl⟩
 refine tri_g (opg_store rfl rfl rfl rfl rfl rfl) rfl ?_
 rintro _ _ _ ⟨rfl, rfl⟩
 refine tA rfl rfl (tN (tT (tS (tS (tR ?_)))))
 refine tri_v (opv_fieldAddr rfl rfl) rfl ?_
 refine tri_v (opv_load1 rfl rfl rfl) rfl ?_
 refine tri_v (opv_fieldAddr rfl rfl) rfl ?_
 refine tri_v (opv_fieldAddr rfl rfl) rfl ?_
 refine tri_v (opv_load1 rfl rfl rfl) rfl ?_
 refine tri_v (opv_len rfl) rfl ?_
 refine tri_v (opv_geq rfl rfl) rfl ?_
 refine tM rfl rfl ?_
 refine tri_false rfl rfl (by omega) ?_
 refine tri_guard_run rfl rfl rfl ?_
 refine tri_v (opv_fieldAddr rfl rfl) rfl ?_
 refine tri_guard_run rfl rfl rfl ?_
 refine tri_v (opv_load1 rfl rfl rfl) rfl ?_
 refine tri_guard_run rfl rfl rfl ?_
 refine tri_v (opv_fieldAddr rfl rfl) rfl ?_
 refine tri_guard_run rfl rfl rfl ?_
 refine tri_v (opv_fieldAddr rfl rfl) rfl ?_
 refine tri_guard_run rfl rfl rfl ?_
 refine tri_v (opv_load1 rfl rfl rfl) rfl ?_
 refine tri_guard_run rfl rfl rfl ?_
 refine tri_v (opv_len rfl) rfl ?_
 refine tri_guard_run rfl rfl rfl ?_
 refine tri_v (opv_geq rfl rfl) rfl ?_
 refine tri_v (opv_pick_f rfl rfl) rfl ?_
 refine tM rfl rfl ?_
 refine tri_false rfl rfl (by omega) ?_
 refine tri_guard_run rfl rfl rfl ?_
 refine tri_v (opv_fieldAddr rfl rfl) rfl ?_
 refine tri_guard_run rfl rfl rfl ?_
 refine tri_v (opv_load1 rfl rfl rfl) rfl ?_
 refine tri_guard_run rfl rfl rfl ?_
 refine tri_v (opv_lss rfl rfl) rfl ?_
 refine tri_v (opv_pick_f rfl rfl) rfl ?_
 refine tM rfl rfl ?_
 refine tri_false rfl rfl (by omega) ?_
 refine tri_guard_run rfl rfl rfl ?_
 refine tri_v (opv_fieldAddr rfl rfl) rfl ?_
 refine tri_guard_run rfl rfl rfl ?_
 refine tri_v (opv_load1 rfl rfl rfl) rfl ?_
 refine tri_guard_run rfl rfl rfl ?_
 refine tri_v (opv_lss rfl rfl) rfl ?_
 refine tri_v (opv_pick_f rfl rfl) rfl ?_
 refine tN (tT ?_)
 refine tri_cond_not rfl (by omega) ?_
 refine tri_skip (tT (tS (tR (tM rfl rfl ?_))))
 refine tri_v (opv_eql rfl rfl) rfl ?_
 refine tM rfl rfl ?_
 refine tri_true rfl rfl (a3) ?_
 refine tri_guard_run rfl rfl rfl ?_
 refine tri_v (opv_fieldAddr rfl rfl) rfl ?_
 refine tri_guard_run rfl rfl rfl ?_
 refine tri_v (opv_load1 rfl rfl rfl) rfl ?_
 refine tri_guard_run rfl rfl rfl ?_
 refine tri_v (opv_eql rfl rfl) rfl ?_
 refine tri_v (opv_pick_t rfl rfl) rfl ?_
 refine tM rfl rfl ?_
 refine tri_true rfl rfl (a4) ?_
 refine tri_guard_run rfl rfl rfl ?_
 refine tri_v (opv_fieldAddr rfl rfl) rfl ?_
 refine tri_guard_run rfl rfl rfl ?_
 refine tri_v (opv_load1 rfl rfl rfl) rfl ?_
 refine tri_guard_run rfl rfl rfl ?_
 refine tri_v (opv_eql rfl rfl) rfl ?_
 refine tri_v (opv_pick_t rfl rfl) rfl ?_
 refine tM rfl rfl ?_
 refine tri_true rfl rfl (a5) ?_
 refine tri_guard_run rfl rfl rfl (tM rfl rfl (tri_guard_run rfl rfl rfl ?_))
 refine tri_v (opv_eql rfl rfl) rfl ?_
 refine tri_v (opv_pick_t rfl rfl) rfl ?_
 refine tM rfl rfl ?_
 refine tri_true rfl rfl (g3) ?_
 refine tri_guard_run rfl rfl rfl ?_
 refine tri_v (opv_fieldAddr rfl rfl) rfl ?_
 refine tri_guard_run rfl rfl rfl ?_
 refine tri_v (opv_load1 rfl rfl rfl) rfl ?_
 refine tri_guard_run rfl rfl rfl ?_
 refine tri_v (opv_eql rfl rfl) rfl ?_
 refine tri_v (opv_pick_t rfl rfl) rfl ?_
 refine tM rfl rfl ?_
 refine tri_true rfl rfl (g4) ?_
 refine tri_guard_run rfl rfl rfl (tM rfl rfl (tri_guard_run rfl rfl rfl ?_))
 refine tri_v (opv_eql rfl rfl) rfl ?_
 refine tri_v (opv_pick_t rfl rfl) rfl ?_
 refine tM rfl rfl ?_
 refine tri_true rfl rfl (e1) ?_
 refine tri_guard_run rfl rfl rfl ?_
 refine tri_v (opv_fieldAddr rfl rfl) rfl ?_
 refine tri_guard_run rfl rfl rfl ?_
 refine tri_v (opv_fieldAddr rfl rfl) rfl ?_
 refine tri_guard_run rfl rfl rfl ?_
 refine tri_v (opv_load1 rfl rfl rfl) rfl ?_
 refine tri_guard_run rfl rfl rfl ?_
 refine tri_v (opv_fieldAddr rfl rfl) rfl ?_
 refine tri_guard_run rfl rfl rfl ?_
 refine tri_v (opv_load1 rfl rfl rfl) rfl ?_
 refine tri_guard_run rfl rfl rfl ?_
 refine tri_v (opv_indexAddrS rfl rfl (by omega) (by omega) (by assumption) rfl) rfl ?_
 refine tri_guard_run rfl rfl rfl ?_
 refine tri_v (opv_fieldAddrE rfl (by assumption) (by omega) rfl) rfl ?_
 refine tri_guard_run rfl rfl rfl ?_
 refine tri_v (opv_loadE1 rfl (by assumption) rfl (by omega) rfl rfl) rfl ?_
 refine tri_guard_run rfl rfl rfl ?_
 refine tri_v (opv_eql rfl rfl) rfl ?_
 refine tri_v (opv_pick_t rfl rfl) rfl ?_
 refine tA rfl rfl (tN (tT (tri_ret ?_)))
 refine tri_end A Suf.h rfl (.cons (rv_tmp rfl) .nil) ⟨congrArg Value.bool (decide_eq_true a6), rfl, fun _ h => hI6 (hI5 (hI4 (hI3 (hI2 (hI1 (hI0 h))))))⟩
end Go.GL


set_option linter.unusedVariables false
namespace Go.GL
open Go.Proofs
attribute [local irreducible] wpList Code.wp Exit.then Exit.inBlock Ends Tri TriH OpV OpG FnC epf wpAnyH
variable {A : List Asrt} {I : List Chunk}
/-- A store's head. -/
structure Sto21 where
 a : Option Addr
 len : Nat
 cap : Nat
 room : Int
 deriving Inhabited
instance : Enc Sto21 := ⟨fun s => [.slice s.a s.len s.cap, .int .i64 s.room], 2, fun _ => rfl, fun _ => rfl⟩
theorem R7.make_good21 {ns : List Node} {room : Int} (h : R6.Good ns room) (l : List Cell) (lv : Int) : R6.Good (R7.make ns room l lv).1 room := by
 unfold R7.make
 split
 ·split
  ·dsimp only
   split
   ·exact h
   ·exact R7.build_good room _ _ _ h
  ·exact h
 ·exact h
theorem RL.field_good21 (c : Int) (nodes : List Five) (raw : List Cell) (level : Int) : R6.Good (RL.field c nodes raw level).1 (RL.room c + 600) := by
 have hrm := RL.room_bd c
 have hg := RL.foldN_good (rm := RL.room c) (by omega) (by omega) (nodes.take 10) _ (RL.store0_good9 (by omega) (by omega))
 exact R7.make_good21 ⟨hg.mod, hg.len, by omega⟩ _ _
set_option maxHeartbeats 4000000 in
set_option maxRecDepth 100000 in
theorem law21_tells {nodes : List Five} {raw : List Cell} {os : List Node} {picks : List Int} {a a2 a3 a6 : Option Addr} {cap cap2 cap3 cap6 : Nat} {c level rm n j nw : Int} (h0 : I64 c) (hs : SlAt I a nodes) (hf : RL.Fs nodes) (hs2 : SlAt I a2 raw) (hc : RL.Cs raw) (hl : I64 level)
  (hs3 : StA I a3 cap3 os) (hr : R6.Rng os) (hni : I64 n) (hji : I64 j) (hwi : I64 nw) (hsp : SlAt I a6 picks) (hk : Is picks) (hpl : picks.length ≤ 9223372036854775807) :
  FnC Try.prog 3 [.int .i64 c, .slice a nodes.length cap, .slice a2 raw.length cap2, .int .i64 level, storeV a3 os.length cap3 rm, .int .i64 n, .int .i64 j, .int .i64 nw, .slice a6 picks.length cap6].toArray A I (fun v A' I' => v = .bool true ∧ A = A' ∧ I ⊆ I') := by
 skip
 skip
 skip
 refine fn_enter9 Try.func3 rfl Try.ntmps3 rfl fun w0 => ?_
 refine tS (tR ?_)
 refine tri_g (opg_box_agg rfl) rfl ?_
 rintro _ _ _ ⟨b13, rfl, rfl, rfl⟩
 refine tA rfl rfl (tN (tT (tS (tR ?_))))
 refine tri_g (opg_call (xs := []) rfl (law21_awake)) rfl ?_
 rintro _ _ I0 ⟨rfl, rfl, hI0⟩
 refine tA rfl rfl (tN (tT (tS (tR (tM rfl rfl (tM rfl rfl (tM rfl rfl ?_)))))))
 refine tM rfl rfl ?_
 refine tri_g (opg_call (xs := [_, _, _, _]) rfl (law09_field h0 (hs.mono hI0) hf (hs2.mono hI0) hc hl)) rfl ?_
 rintro _ _ I1 ⟨a4, cap4, rfl, hs4, rfl, hI1⟩
 have hgd : (RL.field c nodes raw level).1.length ≤ 1000000000 ∧ R6.Rng (RL.field c nodes raw level).1 := ⟨(RL.field_good21 c nodes raw level).len, (RL.field_good21 c nodes raw level).mod.rng9⟩
 generalize hsq : RL.field c nodes raw level = sq at *
 refine tM rfl rfl ?_
 refine tri_v (opv_extract rfl rfl) rfl ?_
 refine tri_v (opv_extract rfl rfl) rfl ?_
 refine tri_g opg_alloc rfl ?_
 rintro _ _ _ ⟨b20, rfl, rfl, rfl⟩
 refine tri_g (opg_store rfl rfl rfl rfl rfl rfl) rfl ?_
 rintro _ _ _ ⟨rfl, rfl⟩
 refine tA rfl rfl (tN (tT (tS (tS (tR ?_)))))
 refine tri_v (opv_loadA rfl rfl rfl) rfl ?_
 refine tri_v (opv_loadA rfl rfl rfl) rfl ?_
 refine tri_g (opg_buildSlice rfl rfl rfl rfl) rfl ?_
 rintro _ _ _ ⟨b45, rfl, rfl, rfl⟩
 refine tri_v (opv_len rfl) rfl ?_
 refine tM rfl rfl (tN (tT (tri_block ?_)))
 refine tri_freezeBoxS [(⟨a4, sq.1.length, cap4, RL.room c + 600⟩ : Sto21), ⟨a3, os.length, cap3, rm⟩] rfl fun I2 hI2 hs5 => ?_
 have hst : ∀ i, i < 2 → ∃ ns : List Node, StA I2 (([(⟨a4, sq.1.length, cap4, RL.room c + 600⟩ : Sto21), ⟨a3, os.length, cap3, rm⟩] : List Sto21).getD i default).a (([(⟨a4, sq.1.length, cap4, RL.room c + 600⟩ : Sto21), ⟨a3, os.length, cap3, rm⟩] : List Sto21).getD i default).cap ns ∧ (([(⟨a4, sq.1.length, cap4, RL.room c + 600⟩ : Sto21), ⟨a3, os.length, cap3, rm⟩] : List Sto21).getD i default).len = ns.length ∧ R6.Rng ns := by
  intro i hi
  rcases (by omega : i = 0 ∨ i = 1) with rfl | rfl
  ·exact ⟨sq.1, hs4.mono hI2, rfl, hgd.2⟩
  ·exact ⟨os, ((hs3.mono hI0).mono hI1).mono hI2, rfl, hr⟩
 generalize hls : ([(⟨a4, sq.1.length, cap4, RL.room c + 600⟩ : Sto21), ⟨a3, os.length, cap3, rm⟩] : List Sto21) = ss at *
 have hls2 : ss.length = 2 := by rw [← hls]; rfl
 have hI02 : I ⊆ I2 := fun _ h => hI2 (hI1 (hI0 h))
 have hsp2 := hsp.mono hI02
 skip
 refine tri_sub (F' := [(5, .int .i64 n), (6, .int .i64 j), (7, .int .i64 nw), (8, .slice a6 picks.length cap6), (19, .bool true), (21, .int .i64 sq.2.1), (20, pt b20 0), (45, .slice (some ⟨b45, 0, none⟩) ss.length 2), (46, .int .i64 (2 : Nat)), (47, .int .i64 (0 : Nat))]) ⟨rfl, rfl, rfl, rfl, rfl, rfl, rfl, by rw [hls2]; rfl, rfl, rfl, trivial⟩ ?_
 refine loop_ind (G := Nat × List Chunk) (fun g => 2 - g.1) (fun g => g.1 ≤ 2 ∧ I2 ⊆ g.2) (fun g => [(5, .int .i64 n), (6, .int .i64 j), (7, .int .i64 nw), (8, .slice a6 picks.length cap6), (19, .bool true), (21, .int .i64 sq.2.1), (20, pt b20 0), (45, .slice (some ⟨b45, 0, none⟩) ss.length 2), (46, .int .i64 (2 : Nat)), (47, .int .i64 (g.1 : Nat))]) (fun _ => Box b20 [.slice a4 sq.1.length cap4, .int .i64 (RL.room c + 600)] 26 :: Box b13 [.slice a3 os.length cap3, .int .i64 rm] 26 :: A) (fun g => g.2) ?_ (0, I2) ⟨by omega, fun _ h => h⟩
 rintro ⟨i, J0⟩ ⟨hi, hJ0⟩ K hK
 simp only at hi hJ0 hK ⊢
 skip
 refine tS (tR ?_)
 refine tri_v (opv_lss rfl rfl) rfl ?_
 refine tN (tT (tS ?_))
 refine tri_cond_dec rfl (fun h => ?_) (fun h => ?_)
 ·have hi2 : i < 2 := by omega
  obtain ⟨ns, hns, hlen, hrr⟩ := hst i hi2
  have hs5' := hs5.mono hJ0
  have hns' := hns.mono hJ0
  refine tri_skip (tT (tS (tri_block (tS (tR ?_)))))
  refine tri_v (opv_indexAddrSN rfl rfl (by omega) (by assumption) rfl) rfl ?_
  refine tri_v (opv_loadEA rfl (by assumption) rfl (by omega) rfl rfl) rfl ?_
  refine tri_g opg_alloc rfl ?_
  rintro _ _ _ ⟨b23, rfl, rfl, rfl⟩
  refine tri_g (opg_store rfl rfl rfl rfl rfl rfl) rfl ?_
  rintro _ _ _ ⟨rfl, rfl⟩
  refine tN (tT (tS (tS ?_)))
  rw [hlen] at *
  skip
  refine tri_cut (fun F' A' J => ∃ p : Bool, (p = false → ns.length ≤ 200) ∧ F' = [(5, .int .i64 n), (6, .int .i64 j), (7, .int .i64 nw), (8, .slice a6 picks.length cap6), (19, .bool true), (21, .int .i64 sq.2.1), (20, pt b20 0), (45, .slice (some ⟨b45, 0, none⟩) ss.length 2), (46, .int .i64 (2 : Nat)), (47, .int .i64 (i : Nat)), (23, pt b23 0), (64, .bool p)] ∧ A' = Box b23 [.slice (ss.getD i default).a ns.length (ss.getD i default).cap, .int .i64 (ss.getD i default).room] 26 :: Box b20 [.slice a4 sq.1.length cap4, .int .i64 (RL.room c + 600)] 26 :: Box b13 [.slice a3 os.length cap3, .int .i64 rm] 26 :: A ∧ J0 = J) ?_ ?_
  ·refine tR ?_
   refine tri_v (opv_fieldAddr rfl rfl) rfl ?_
   refine tri_v (opv_load1 rfl rfl rfl) rfl ?_
   refine tri_v (opv_len rfl) rfl ?_
   refine tri_v (opv_gtr rfl rfl) rfl ?_
   refine tM rfl rfl ?_
   refine tri_split rfl rfl (fun h1 => ?_) (fun h1 => ?_)
   ·refine tri_guard_skip rfl rfl rfl rfl (tri_guard_skip rfl rfl rfl rfl (tri_guard_skip rfl rfl rfl rfl (tri_guard_skip rfl rfl rfl rfl ?_)))
    refine tri_guard_skip_u rfl rfl rfl ?_
    refine tri_guard_skip_u rfl rfl rfl ?_
    refine tri_guard_skip_u rfl rfl rfl ?_
    refine tri_guard_skip rfl rfl rfl rfl ?_
    refine tri_v (opv_pick_t rfl rfl) rfl ?_
    refine tN ?_
    exact tri_cutEnd _ ⟨true, fun x => (by cases x), rfl, rfl, rfl⟩ ⟨rfl, rfl, rfl, rfl, rfl, rfl, rfl, rfl, rfl, rfl, rfl, rfl, trivial⟩
   ·refine tri_guard_run rfl rfl rfl ?_
    refine tri_v (opv_fieldAddr rfl rfl) rfl ?_
    refine tri_guard_run rfl rfl rfl ?_
    refine tri_v (opv_load1 rfl rfl rfl) rfl ?_
    refine tri_guard_run rfl rfl rfl ?_
    refine tri_v (opv_gtr rfl rfl) rfl ?_
    refine tri_guard_run rfl rfl rfl (tM rfl rfl ?_)
    refine tri_split rfl rfl (fun h2 => ?_) (fun h2 => ?_)
    ·refine tri_guard_run rfl rfl rfl ?_
     refine tri_v (opv_fieldAddr rfl rfl) rfl ?_
     refine tri_guard_run rfl rfl rfl ?_
     refine tri_v (opv_load1 rfl rfl rfl) rfl ?_
     refine tri_guard_run rfl rfl rfl ?_
     refine tri_v (opv_leq rfl rfl) rfl ?_
     refine tri_guard_run rfl rfl rfl ?_
     refine tri_v (opv_pick_t rfl rfl) rfl ?_
     refine tri_v (opv_pick_f rfl rfl) rfl ?_
     refine tN ?_
     exact tri_cutEnd _ ⟨_, fun x => (by omega), rfl, rfl, rfl⟩ ⟨rfl, rfl, rfl, rfl, rfl, rfl, rfl, rfl, rfl, rfl, rfl, rfl, trivial⟩
    ·refine tri_guard_skip rfl rfl rfl rfl (tri_guard_skip rfl rfl rfl rfl (tri_guard_skip rfl rfl rfl rfl (tri_guard_run rfl rfl rfl ?_)))
     refine tri_v (opv_pick_f rfl rfl) rfl ?_
     refine tri_v (opv_pick_f rfl rfl) rfl ?_
     refine tN ?_
     exact tri_cutEnd _ ⟨_, fun x => (by omega), rfl, rfl, rfl⟩ ⟨rfl, rfl, rfl, rfl, rfl, rfl, rfl, rfl, rfl, rfl, rfl, rfl, trivial⟩
  rintro _ _ _ ⟨p, hp200, rfl, rfl, rfl⟩
  skip
  refine tT ?_
  refine tri_cond rfl (fun hbig => ?_) (fun hbig => ?_)
  ·refine tri_exit ?_
   refine tri_then_exit ?_
   refine tri_inBlock_hit rfl ?_
   refine tT (tR ?_)
   refine tU rfl rfl (by omega) (by omega) rfl ?_
   refine tM rfl rfl (tN (tT ?_))
   refine tri_drop ?_
   refine tri_sub ?_ (hK (i + 1, J0) ⟨by simp only; omega, hJ0⟩ (by simp only; omega))
   exact ⟨rfl, rfl, rfl, rfl, rfl, rfl, rfl, rfl, rfl, rfl, trivial⟩
  ·have hle := hp200 (by simpa using hbig)
   refine tri_skip (tT (tS (tR (tM rfl rfl (tM rfl rfl ?_)))))
   refine tri_g (opg_buildSlice rfl rfl rfl rfl) rfl ?_
   rintro _ _ _ ⟨b67, rfl, rfl, rfl⟩
   refine tri_v (opv_len rfl) rfl ?_
   refine tM rfl rfl (tN (tT (tri_block ?_)))
   refine tri_freezeBoxS [n, sq.2.1] rfl fun I3 hI3 hs6 => ?_
   generalize hms : ([n, sq.2.1] : List Int) = ms at *
   have hms2 : ms.length = 2 := by rw [← hms]; rfl
   skip
   refine tri_sub (F' := [(5, .int .i64 n), (6, .int .i64 j), (7, .int .i64 nw), (8, .slice a6 picks.length cap6), (19, .bool true), (21, .int .i64 sq.2.1), (20, pt b20 0), (45, .slice (some ⟨b45, 0, none⟩) ss.length 2), (46, .int .i64 (2 : Nat)), (47, .int .i64 (i : Nat)), (23, pt b23 0), (67, .slice (some ⟨b67, 0, none⟩) ms.length 2), (68, .int .i64 (2 : Nat)), (69, .int .i64 (0 : Nat))]) ⟨rfl, rfl, rfl, rfl, rfl, rfl, rfl, rfl, rfl, rfl, rfl, by rw [hms2]; rfl, rfl, rfl, trivial⟩ ?_
   refine loop_ind (G := Nat × List Chunk) (fun g => 2 - g.1) (fun g => g.1 ≤ 2 ∧ I3 ⊆ g.2) (fun g => [(5, .int .i64 n), (6, .int .i64 j), (7, .int .i64 nw), (8, .slice a6 picks.length cap6), (19, .bool true), (21, .int .i64 sq.2.1), (20, pt b20 0), (45, .slice (some ⟨b45, 0, none⟩) ss.length 2), (46, .int .i64 (2 : Nat)), (47, .int .i64 (i : Nat)), (23, pt b23 0), (67, .slice (some ⟨b67, 0, none⟩) ms.length 2), (68, .int .i64 (2 : Nat)), (69, .int .i64 (g.1 : Nat))]) (fun _ => Box b23 [.slice (ss.getD i default).a ns.length (ss.getD i default).cap, .int .i64 (ss.getD i default).room] 26 :: Box b20 [.slice a4 sq.1.length cap4, .int .i64 (RL.room c + 600)] 26 :: Box b13 [.slice a3 os.length cap3, .int .i64 rm] 26 :: A) (fun g => g.2) ?_ (0, I3) ⟨by omega, fun _ h => h⟩
   rintro ⟨q, J1⟩ ⟨hq, hJ1⟩ K2 hK2
   simp only at hq hJ1 hK2 ⊢
   have hs6' := hs6.mono hJ1
   skip
   refine tS (tR ?_)
   refine tri_v (opv_lss rfl rfl) rfl ?_
   refine tN (tT (tS ?_))
   refine tri_cond_dec rfl (fun h3 => ?_) (fun h3 => ?_)
   ·refine tri_skip (tT (tS (tri_block (tS (tR ?_)))))
    refine tri_v (opv_indexAddrSN rfl rfl (by omega) (by assumption) rfl) rfl ?_
    refine tri_v (opv_loadE1 rfl (by assumption) rfl (by omega) rfl rfl) rfl ?_
    refine tA rfl rfl (tN (tT (tS ?_)))
    generalize hm : ms.getD q default = m at *
    refine tR (tM rfl rfl (tM rfl rfl ?_))
    refine tri_g (opg_call (xs := [_, _]) rfl (law21_pick hji (by decide))) rfl ?_
    rintro _ _ _ ⟨rfl, rfl, rfl⟩
    refine tri_g (opg_buildSlice rfl rfl rfl rfl) rfl ?_
    rintro _ _ _ ⟨b76, rfl, rfl, rfl⟩
    refine tri_v (opv_len rfl) rfl ?_
    refine tM rfl rfl (tN (tT (tri_block ?_)))
    refine tri_freezeBoxS [j, pk j 4] rfl fun I4 hI4 hs7 => ?_
    generalize hes : ([j, pk j 4] : List Int) = es at *
    have hes2 : es.length = 2 := by rw [← hes]; rfl
    skip
    refine tri_sub (F' := [(5, .int .i64 n), (6, .int .i64 j), (7, .int .i64 nw), (8, .slice a6 picks.length cap6), (19, .bool true), (21, .int .i64 sq.2.1), (20, pt b20 0), (45, .slice (some ⟨b45, 0, none⟩) ss.length 2), (46, .int .i64 (2 : Nat)), (47, .int .i64 (i : Nat)), (23, pt b23 0), (67, .slice (some ⟨b67, 0, none⟩) ms.length 2), (68, .int .i64 (2 : Nat)), (69, .int .i64 (q : Nat)), (25, .int .i64 m), (76, .slice (some ⟨b76, 0, none⟩) es.length 2), (77, .int .i64 (2 : Nat)), (78, .int .i64 (0 : Nat))]) ⟨rfl, rfl, rfl, rfl, rfl, rfl, rfl, rfl, rfl, rfl, rfl, rfl, rfl, rfl, rfl, by rw [hes2]; rfl, rfl, rfl, trivial⟩ ?_
    refine loop_ind (G := Nat × List Chunk) (fun g => 2 - g.1) (fun g => g.1 ≤ 2 ∧ I4 ⊆ g.2) (fun g => [(5, .int .i64 n), (6, .int .i64 j), (7, .int .i64 nw), (8, .slice a6 picks.length cap6), (19, .bool true), (21, .int .i64 sq.2.1), (20, pt b20 0), (45, .slice (some ⟨b45, 0, none⟩) ss.length 2), (46, .int .i64 (2 : Nat)), (47, .int .i64 (i : Nat)), (23, pt b23 0), (67, .slice (some ⟨b67, 0, none⟩) ms.length 2), (68, .int .i64 (2 : Nat)), (69, .int .i64 (q : Nat)), (25, .int .i64 m), (76, .slice (some ⟨b76, 0, none⟩) es.length 2), (77, .int .i64 (2 : Nat)), (78, .int .i64 (g.1 : Nat))]) (fun _ => Box b23 [.slice (ss.getD i default).a ns.length (ss.getD i default).cap, .int .i64 (ss.getD i default).room] 26 :: Box b20 [.slice a4 sq.1.length cap4, .int .i64 (RL.room c + 600)] 26 :: Box b13 [.slice a3 os.length cap3, .int .i64 rm] 26 :: A) (fun g => g.2) ?_ (0, I4) ⟨by omega, fun _ h => h⟩
    rintro ⟨u, J2⟩ ⟨hu, hJ2⟩ K3 hK3
    simp only at hu hJ2 hK3 ⊢
    have hs7' := hs7.mono hJ2
    skip
    refine tS (tR ?_)
    refine tri_v (opv_lss rfl rfl) rfl ?_
    refine tN (tT (tS ?_))
    refine tri_cond_dec rfl (fun h4 => ?_) (fun h4 => ?_)
    ·refine tri_skip (tT (tS (tri_block (tS (tR ?_)))))
     refine tri_v (opv_indexAddrSN rfl rfl (by omega) (by assumption) rfl) rfl ?_
     refine tri_v (opv_loadE1 rfl (by assumption) rfl (by omega) rfl rfl) rfl ?_
     refine tA rfl rfl (tN (tT (tS ?_)))
     generalize he : es.getD u default = e at *
     have hpw := pk_bd (c := nw) (n := 9) (by decide)
     refine tR (tM rfl rfl (tM rfl rfl ?_))
     refine tri_g (opg_call (xs := [_, _]) rfl (law21_pick hwi (by decide))) rfl ?_
     rintro _ _ _ ⟨rfl, rfl, rfl⟩
     refine tU rfl rfl (by omega) (by omega) rfl ?_
     refine tri_g (opg_buildSlice rfl rfl rfl rfl) rfl ?_
     rintro _ _ _ ⟨b86, rfl, rfl, rfl⟩
     refine tri_v (opv_len rfl) rfl ?_
     refine tM rfl rfl (tN (tT (tri_block ?_)))
     refine tri_freezeBoxS [nw, 1 + pk nw 9] rfl fun I5 hI5 hs8 => ?_
     generalize hws : ([nw, 1 + pk nw 9] : List Int) = ws at *
     have hws2 : ws.length = 2 := by rw [← hws]; rfl
     skip
     refine tri_sub (F' := [(5, .int .i64 n), (6, .int .i64 j), (7, .int .i64 nw), (8, .slice a6 picks.length cap6), (19, .bool true), (21, .int .i64 sq.2.1), (20, pt b20 0), (45, .slice (some ⟨b45, 0, none⟩) ss.length 2), (46, .int .i64 (2 : Nat)), (47, .int .i64 (i : Nat)), (23, pt b23 0), (67, .slice (some ⟨b67, 0, none⟩) ms.length 2), (68, .int .i64 (2 : Nat)), (69, .int .i64 (q : Nat)), (25, .int .i64 m), (76, .slice (some ⟨b76, 0, none⟩) es.length 2), (77, .int .i64 (2 : Nat)), (78, .int .i64 (u : Nat)), (27, .int .i64 e), (86, .slice (some ⟨b86, 0, none⟩) ws.length 2), (87, .int .i64 (2 : Nat)), (88, .int .i64 (0 : Nat))]) ⟨rfl, rfl, rfl, rfl, rfl, rfl, rfl, rfl, rfl, rfl, rfl, rfl, rfl, rfl, rfl, rfl, rfl, rfl, rfl, by rw [hws2]; rfl, rfl, rfl, trivial⟩ ?_
     refine loop_ind (G := Nat × List Chunk) (fun g => 2 - g.1) (fun g => g.1 ≤ 2 ∧ I5 ⊆ g.2) (fun g => [(5, .int .i64 n), (6, .int .i64 j), (7, .int .i64 nw), (8, .slice a6 picks.length cap6), (19, .bool true), (21, .int .i64 sq.2.1), (20, pt b20 0), (45, .slice (some ⟨b45, 0, none⟩) ss.length 2), (46, .int .i64 (2 : Nat)), (47, .int .i64 (i : Nat)), (23, pt b23 0), (67, .slice (some ⟨b67, 0, none⟩) ms.length 2), (68, .int .i64 (2 : Nat)), (69, .int .i64 (q : Nat)), (25, .int .i64 m), (76, .slice (some ⟨b76, 0, none⟩) es.length 2), (77, .int .i64 (2 : Nat)), (78, .int .i64 (u : Nat)), (27, .int .i64 e), (86, .slice (some ⟨b86, 0, none⟩) ws.length 2), (87, .int .i64 (2 : Nat)), (88, .int .i64 (g.1 : Nat))]) (fun _ => Box b23 [.slice (ss.getD i default).a ns.length (ss.getD i default).cap, .int .i64 (ss.getD i default).room] 26 :: Box b20 [.slice a4 sq.1.length cap4, .int .i64 (RL.room c + 600)] 26 :: Box b13 [.slice a3 os.length cap3, .int .i64 rm] 26 :: A) (fun g => g.2) ?_ (0, I5) ⟨by omega, fun _ h => h⟩
     rintro ⟨v, J3⟩ ⟨hv, hJ3⟩ K4 hK4
     simp only at hv hJ3 hK4 ⊢
     have hs8' := hs8.mono hJ3
     have hns5 := ((((hns'.mono hI3).mono hJ1).mono hI4).mono hJ2).mono hI5 |>.mono hJ3
     have hsp5 := (((((hsp2.mono hJ0).mono hI3).mono hJ1).mono hI4).mono hJ2).mono hI5 |>.mono hJ3
     skip
     refine tS (tR ?_)
     refine tri_v (opv_lss rfl rfl) rfl ?_
     refine tN (tT (tS ?_))
     refine tri_cond_dec rfl (fun h5 => ?_) (fun h5 => ?_)
     ·refine tri_skip (tT (tS (tri_block (tS (tR ?_)))))
      refine tri_v (opv_indexAddrSN rfl rfl (by omega) (by assumption) rfl) rfl ?_
      refine tri_v (opv_loadE1 rfl (by assumption) rfl (by omega) rfl rfl) rfl ?_
      refine tA rfl rfl (tN (tT (tS ?_)))
      generalize hw : ws.getD v default = w at *
      obtain ⟨r, hr9⟩ : ∃ r, R21.leap ns (ss.getD i default).room m e w picks = r := ⟨_, rfl⟩
      have hrl := R21.leap_len ns (ss.getD i default).room m e w picks
      rw [hr9] at hrl
      refine tR ?_
      refine tri_v (opv_loadA rfl rfl rfl) rfl ?_
      refine tM rfl rfl (tM rfl rfl (tM rfl rfl (tM rfl rfl ?_)))
      refine tri_g (opg_call (xs := [_, _, _, _, _]) rfl (shop_leapR hns5 (by omega) hsp5 hk hr9)) rfl ?_
      rintro _ _ J4 ⟨x0, y0, rfl, g0, rfl, hJ4⟩
      refine tM rfl rfl ?_
      refine tri_v (opv_extract rfl rfl) rfl ?_
      refine tri_v (opv_extract rfl rfl) rfl ?_
      refine tri_g opg_alloc rfl ?_
      rintro _ _ _ ⟨b30, rfl, rfl, rfl⟩
      refine tri_g (opg_store rfl rfl rfl rfl rfl rfl) rfl ?_
      rintro _ _ _ ⟨rfl, rfl⟩
      refine tA rfl rfl (tN (tT (tS (tR ?_))))
      refine tri_v (opv_loadA rfl rfl rfl) rfl ?_
      refine tM rfl rfl (tM rfl rfl (tM rfl rfl (tM rfl rfl ?_)))
      refine tri_g (opg_call (xs := [_, _, _, _, _]) rfl (ref21_leapR (hns5.mono hJ4) (by omega) hrr (hsp5.mono hJ4) hk hpl hr9)) rfl ?_
      rintro _ _ J5 ⟨x1, y1, rfl, g1, rfl, hJ5⟩
      refine tM rfl rfl ?_
      refine tri_v (opv_extract rfl rfl) rfl ?_
      refine tri_v (opv_extract rfl rfl) rfl ?_
      refine tri_g opg_alloc rfl ?_
      rintro _ _ _ ⟨b32, rfl, rfl, rfl⟩
      refine tri_g (opg_store rfl rfl rfl rfl rfl rfl) rfl ?_
      rintro _ _ _ ⟨rfl, rfl⟩
      refine tA rfl rfl (tN (tT (tS (tR ?_))))
      refine tri_v (opv_loadA rfl rfl rfl) rfl ?_
      refine tri_v (opv_loadA rfl rfl rfl) rfl ?_
      refine tri_g (opg_call (xs := [_, _]) rfl (ref21_same (r := r) (g0.mono hJ5).sl g1.sl (by omega))) rfl ?_
      rintro _ _ _ ⟨rfl, rfl, rfl⟩
      refine tri_v (opv_not rfl) rfl ?_
      refine tM rfl rfl ?_
      refine tri_bool 114 rfl (fun h => absurd h (by decide)) (fun _ => ?_)
      refine tri_guard_run rfl rfl rfl (tM rfl rfl (tri_guard_run rfl rfl rfl (tM rfl rfl (tri_guard_run rfl rfl rfl ?_))))
      refine tri_v (opv_neq rfl rfl) rfl ?_
      refine tri_v (opv_pick_f rfl rfl) rfl ?_
      refine tN (tT ?_)
      refine tri_cond_not rfl (fun h => h rfl) ?_
      refine tri_skip ?_
      refine tri_inBlock ?_
      refine tT (tR ?_)
      refine tU rfl rfl (by omega) (by omega) rfl ?_
      refine tM rfl rfl (tN (tT ?_))
      refine tri_drop (tri_drop ?_)
      refine tri_sub ?_ (hK4 (v + 1, J5) ⟨by simp only; omega, fun _ h => hJ5 (hJ4 (hJ3 h))⟩ (by simp only; omega))
      exact ⟨rfl, rfl, rfl, rfl, rfl, rfl, rfl, rfl, rfl, rfl, rfl, rfl, rfl, rfl, rfl, rfl, rfl, rfl, rfl, rfl, rfl, rfl, trivial⟩
     ·refine tri_exit ?_
      refine tri_then_exit ?_
      refine tri_then_exit ?_
      refine tri_inBlock_hit rfl ?_
      refine tri_inBlock ?_
      refine tT (tR ?_)
      refine tU rfl rfl (by omega) (by omega) rfl ?_
      refine tM rfl rfl (tN (tT ?_))
      refine tri_sub ?_ (hK3 (u + 1, J3) ⟨by simp only; omega, fun _ h => hJ3 (hI5 (hJ2 h))⟩ (by simp only; omega))
      exact ⟨rfl, rfl, rfl, rfl, rfl, rfl, rfl, rfl, rfl, rfl, rfl, rfl, rfl, rfl, rfl, rfl, rfl, rfl, trivial⟩
    ·refine tri_exit ?_
     refine tri_then_exit ?_
     refine tri_then_exit ?_
     refine tri_inBlock_hit rfl ?_
     refine tri_inBlock ?_
     refine tT (tR ?_)
     refine tU rfl rfl (by omega) (by omega) rfl ?_
     refine tM rfl rfl (tN (tT ?_))
     refine tri_sub ?_ (hK2 (q + 1, J2) ⟨by simp only; omega, fun _ h => hJ2 (hI4 (hJ1 h))⟩ (by simp only; omega))
     exact ⟨rfl, rfl, rfl, rfl, rfl, rfl, rfl, rfl, rfl, rfl, rfl, rfl, rfl, rfl, trivial⟩
   ·refine tri_exit ?_
    refine tri_then_exit ?_
    refine tri_then_exit ?_
    refine tri_inBlock_hit rfl ?_
    refine tri_inBlock ?_
    refine tT (tR ?_)
    refine tU rfl rfl (by omega) (by omega) rfl ?_
    refine tM rfl rfl (tN (tT ?_))
    refine tri_drop ?_
    refine tri_sub ?_ (hK (i + 1, J1) ⟨by simp only; omega, fun _ h => hJ1 (hI3 (hJ0 h))⟩ (by simp only; omega))
    exact ⟨rfl, rfl, rfl, rfl, rfl, rfl, rfl, rfl, rfl, rfl, trivial⟩
 ·refine tri_exit ?_
  refine tri_then_exit ?_
  refine tri_then_exit ?_
  refine tri_inBlock_hit rfl ?_
  refine tT (tS (tR (tM rfl rfl (tA rfl rfl (tN (tT (tri_ret ?_)))))))
  refine tri_end A Suf.h rfl (.cons (rv_tmp rfl) .nil) ⟨rfl, rfl, fun _ h => hJ0 (hI02 h)⟩
end Go.GL


set_option linter.unusedVariables false
namespace Go.GL
open Go.Proofs
theorem num_int : NumTy Try.prog 3 1 := NumTy.int
theorem num_2 : NumTy Try.prog 49 2 := NumTy.arr num_int (by decide)
theorem num_4 : NumTy Try.prog 41 4 := NumTy.arr num_int (by decide)
theorem num_5 : NumTy Try.prog 65 5 := NumTy.arr num_int (by decide)
theorem num_node : NumTy Try.prog 43 6 := NumTy.str (ns := [1, 4, 1]) (by exact ⟨num_int, num_4, num_int, trivial⟩) (by decide)
theorem laid : laidOutB Try.prog = true := by kernel_rfl
theorem own : ownKnob Try.prog.godebug = none := by kernel_rfl
end Go.GL


set_option linter.unusedVariables false
namespace Go.GL
open Go.Proofs
theorem is_ok {l : List Int} (h : ∀ y ∈ l, DecOk y) : Is l := fun i hi => by
 obtain ⟨zs, h1, h2, h3⟩ := h _ (R11.getD_mem hi)
 rw [h3]
 match zs, h1 with
 | [a], _ => exact h2 a (by simp)
end Go.GL

