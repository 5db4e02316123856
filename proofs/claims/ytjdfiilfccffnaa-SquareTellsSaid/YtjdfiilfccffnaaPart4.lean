/- Part 4: contracts of the functions that the law reaches: each answers as its model does. No condition beyond those that each theorem states. -/
import Derived.Test.YtjdfiilfccffnaaPart3
import Derived.Lib.Overlaps
import Derived.Laws.Externs
set_option linter.unusedVariables false
namespace Go.GL
open Go.Proofs
attribute [local irreducible] wpList Code.wp Exit.then Exit.inBlock Ends Tri TriH OpV OpG FnC epf wpAnyH
variable {A : List Asrt} {I : List Chunk}
theorem R7.corner_bd {l : List Cell} {s : Int} (hb : ∀ c ∈ l, R2.bd c) (hs : s ≤ 2199023255552) : ∀ c ∈ R7.corner s l, c.x ≤ 4398046511104 ∧ c.y ≤ 4398046511104 := by
 intro c hc
 obtain ⟨d, hd, rfl⟩ := List.mem_map.1 hc
 have := hb d hd
 unfold R2.bd at this
 simp only
 omega
theorem R7.corner_len (l : List Cell) (s : Int) : (R7.corner s l).length = l.length := by simp [R7.corner]
set_option maxHeartbeats 1000000 in
set_option maxRecDepth 100000 in
theorem ref07_make {ns : List Node} {a bb : Option Addr} {cap cap2 : Nat} {room lv : Int} {l : List Cell} (hs : StA I a cap ns) (hn : ns.length ≤ 1000000000) (hr : R6.Rng ns) (hsl : SlAt I bb l) (hnl : l.length ≤ 1000000000) :
  FnC Try.prog 15 [storeV a ns.length cap room, .slice bb l.length cap2, .int .i64 lv].toArray A I (StoreR (R7.make ns room l lv) room A I) := by
 have bad : ¬ (R6.right ns room ∧ 1 ≤ lv ∧ lv ≤ 42 ∧ R1.right l) → R7.make ns room l lv = (ns, 0, 1) := fun h => if_neg h
 skip
 refine fn_enter3 Try.func15 rfl Try.ntmps15 rfl fun w0 => ?_
 refine tS (tR ?_)
 refine tri_g (opg_box_agg rfl) rfl ?_
 rintro _ _ _ ⟨b3, rfl, rfl, rfl⟩
 refine tri_g opg_alloc rfl ?_
 rintro _ _ _ ⟨b6, rfl, rfl, rfl⟩
 refine tA rfl rfl (tA rfl rfl (tN (tT (tS (tS (tR ?_))))))
 refine tri_v (opv_loadA rfl rfl rfl) rfl ?_
 refine tri_g (opg_call (xs := [_]) rfl (ref06_right hs.sl hn hr)) rfl ?_
 rintro _ _ _ ⟨rfl, rfl, rfl⟩
 refine tri_v (opv_notD rfl) rfl ?_
 refine tM rfl rfl ?_
 refine tri_split rfl rfl (fun h1 => ?_) (fun h1 => ?_)
 ·refine tri_guard_skip rfl rfl rfl rfl (tri_guard_skip rfl rfl rfl rfl ?_)
  refine tri_v (opv_pick_t rfl rfl) rfl ?_
  refine tM rfl rfl (tri_guard_skip rfl rfl rfl rfl (tri_guard_skip rfl rfl rfl rfl ?_))
  refine tri_v (opv_pick_t rfl rfl) rfl ?_
  refine tM rfl rfl (tri_guard_skip rfl rfl rfl rfl (tri_guard_skip rfl rfl rfl rfl (tri_guard_skip rfl rfl rfl rfl ?_)))
  refine tri_v (opv_pick_t rfl rfl) rfl ?_
  refine tN (tT ?_)
  refine tri_cond_true rfl ?_
  refine tS (tR ?_)
  refine tri_v (opv_loadA rfl rfl rfl) rfl ?_
  refine tri_g (opg_store rfl rfl rfl rfl rfl rfl) rfl ?_
  rintro _ _ _ ⟨rfl, rfl⟩
  refine tA rfl rfl (tA rfl rfl (tN (tT (tri_ret (tri_then_ret ?_)))))
  refine tri_end A Suf.h rfl (.cons (rv_cellA rfl rfl rfl) (.cons (rv_tmp rfl) (.cons (rv_tmp rfl) .nil))) ?_
  rw [bad fun h => h1 h.1]
  exact ⟨a, cap, rfl, hs, rfl, fun _ h => h⟩
 refine tri_guard_run rfl rfl rfl (tM rfl rfl (tri_guard_run rfl rfl rfl ?_))
 refine tri_v (opv_lss rfl rfl) rfl ?_
 refine tri_v (opv_pick_f rfl rfl) rfl ?_
 refine tM rfl rfl ?_
 refine tri_split rfl rfl (fun h2 => ?_) (fun h2 => ?_)
 ·refine tri_guard_skip rfl rfl rfl rfl (tri_guard_skip rfl rfl rfl rfl ?_)
  refine tri_v (opv_pick_t rfl rfl) rfl ?_
  refine tM rfl rfl (tri_guard_skip rfl rfl rfl rfl (tri_guard_skip rfl rfl rfl rfl (tri_guard_skip rfl rfl rfl rfl ?_)))
  refine tri_v (opv_pick_t rfl rfl) rfl ?_
  refine tN (tT ?_)
  refine tri_cond_true rfl ?_
  refine tS (tR ?_)
  refine tri_v (opv_loadA rfl rfl rfl) rfl ?_
  refine tri_g (opg_store rfl rfl rfl rfl rfl rfl) rfl ?_
  rintro _ _ _ ⟨rfl, rfl⟩
  refine tA rfl rfl (tA rfl rfl (tN (tT (tri_ret (tri_then_ret ?_)))))
  refine tri_end A Suf.h rfl (.cons (rv_cellA rfl rfl rfl) (.cons (rv_tmp rfl) (.cons (rv_tmp rfl) .nil))) ?_
  rw [bad fun h => by omega]
  exact ⟨a, cap, rfl, hs, rfl, fun _ h => h⟩
 refine tri_guard_run rfl rfl rfl (tM rfl rfl (tri_guard_run rfl rfl rfl ?_))
 refine tri_v (opv_gtr rfl rfl) rfl ?_
 refine tri_v (opv_pick_f rfl rfl) rfl ?_
 refine tM rfl rfl ?_
 refine tri_split rfl rfl (fun h3 => ?_) (fun h3 => ?_)
 ·refine tri_guard_skip rfl rfl rfl rfl (tri_guard_skip rfl rfl rfl rfl (tri_guard_skip rfl rfl rfl rfl ?_))
  refine tri_v (opv_pick_t rfl rfl) rfl ?_
  refine tN (tT ?_)
  refine tri_cond_true rfl ?_
  refine tS (tR ?_)
  refine tri_v (opv_loadA rfl rfl rfl) rfl ?_
  refine tri_g (opg_store rfl rfl rfl rfl rfl rfl) rfl ?_
  rintro _ _ _ ⟨rfl, rfl⟩
  refine tA rfl rfl (tA rfl rfl (tN (tT (tri_ret (tri_then_ret ?_)))))
  refine tri_end A Suf.h rfl (.cons (rv_cellA rfl rfl rfl) (.cons (rv_tmp rfl) (.cons (rv_tmp rfl) .nil))) ?_
  rw [bad fun h => by omega]
  exact ⟨a, cap, rfl, hs, rfl, fun _ h => h⟩
 refine tri_guard_run rfl rfl rfl (tM rfl rfl (tri_guard_run rfl rfl rfl ?_))
 refine tri_g (opg_call (xs := [_]) rfl (ref01_right hsl hnl)) rfl ?_
 rintro _ _ _ ⟨rfl, rfl, rfl⟩
 refine tri_guard_run rfl rfl rfl ?_
 refine tri_v (opv_notD rfl) rfl ?_
 refine tri_v (opv_pick_f rfl rfl) rfl ?_
 refine tN (tT ?_)
 refine tri_cond_dec rfl (fun h4 => ?_) (fun h4 => ?_)
 ·refine tS (tR ?_)
  refine tri_v (opv_loadA rfl rfl rfl) rfl ?_
  refine tri_g (opg_store rfl rfl rfl rfl rfl rfl) rfl ?_
  rintro _ _ _ ⟨rfl, rfl⟩
  refine tA rfl rfl (tA rfl rfl (tN (tT (tri_ret (tri_then_ret ?_)))))
  refine tri_end A Suf.h rfl (.cons (rv_cellA rfl rfl rfl) (.cons (rv_tmp rfl) (.cons (rv_tmp rfl) .nil))) ?_
  rw [bad fun h => h4 h.2.2.2]
  exact ⟨a, cap, rfl, hs, rfl, fun _ h => h⟩
 refine tri_skip (tT (tS (tS (tR (tA rfl rfl (tN (tT ?_)))))))
 refine tri_block ?_
 have g1 : R6.right ns room := Decidable.not_not.1 h1
 have g4 : R1.right l := Decidable.not_not.1 h4
 have good : R7.make ns room l lv = if ∀ i, i < l.length → R7.inL lv (R1.g l i) then (if (R7.build room lv.toNat ns (R7.corner (R7.side lv) l)).2.2 ≠ 0 then (ns, 0, (R7.build room lv.toNat ns (R7.corner (R7.side lv) l)).2.2) else R7.build room lv.toNat ns (R7.corner (R7.side lv) l)) else (ns, 0, 2) :=
  if_pos ⟨g1, by omega, by omega, g4⟩
 refine tri_sub (F' := [(1, .slice bb l.length cap2), (2, .int .i64 lv), (3, pt b3 0), (6, pt b6 0), (9, .int .i64 (0 : Nat))]) ⟨rfl, rfl, rfl, rfl, rfl, trivial⟩ ?_
 refine loop_ind (G := Nat) (fun i => l.length - i) (fun i => i ≤ l.length ∧ ∀ j, j < i → R7.inL lv (R1.g l j)) (fun i => [(1, .slice bb l.length cap2), (2, .int .i64 lv), (3, pt b3 0), (6, pt b6 0), (9, .int .i64 (i : Nat))]) (fun _ => _) (fun _ => _) ?_ 0 ⟨by omega, fun j h => absurd h (by omega)⟩
 rintro i ⟨hi, hok⟩ K hK
 skip
 refine tS (tS (tR (tM rfl rfl (tM rfl rfl ?_))))
 refine tri_v (opv_len rfl) rfl ?_
 refine tri_v (opv_lss rfl rfl) rfl ?_
 refine tN (tT ?_)
 refine tri_cond_dec rfl (fun h => ?_) (fun h => ?_)
 ·refine tri_skip (tT (tS (tri_block (tS (tR (tM rfl rfl (tM rfl rfl ?_)))))))
  refine tM rfl rfl ?_
  refine tri_v (opv_indexAddrSN rfl rfl (by omega) (by assumption) rfl) rfl ?_
  refine tri_v (opv_loadEA rfl (by assumption) rfl (by omega) rfl rfl) rfl ?_
  refine tri_g (opg_call (xs := [_, _]) rfl (ref07_in (lv := lv) (c := R1.g l i) (by omega) (by omega))) rfl ?_
  rintro _ _ _ ⟨rfl, rfl, rfl⟩
  refine tri_v (opv_notD rfl) rfl ?_
  refine tN (tT ?_)
  refine tri_cond_dec rfl (fun h5 => ?_) (fun h5 => ?_)
  ·refine tS (tR ?_)
   refine tri_v (opv_loadA rfl rfl rfl) rfl ?_
   refine tri_g (opg_store rfl rfl rfl rfl rfl rfl) rfl ?_
   rintro _ _ _ ⟨rfl, rfl⟩
   refine tA rfl rfl (tA rfl rfl (tN (tT (tri_ret ?_))))
   refine tri_inBlock_ret ?_
   refine tri_then_ret (tri_then_ret ?_)
   refine tri_inBlock_ret ?_
   refine tri_then_ret ?_
   refine tri_end A Suf.h rfl (.cons (rv_cellA rfl rfl rfl) (.cons (rv_tmp rfl) (.cons (rv_tmp rfl) .nil))) ?_
   rw [good, if_neg fun h => h5 (h i (by omega))]
   exact ⟨a, cap, rfl, hs, rfl, fun _ h => h⟩
  ·refine tri_skip ?_
   refine tri_inBlock ?_
   refine tT (tR (tM rfl rfl ?_))
   refine tU rfl rfl (by omega) (by omega) rfl ?_
   refine tA rfl rfl (tN (tT ?_))
   refine tri_sub ?_ (hK (i + 1) ⟨by omega, fun j hj => ?_⟩ (by omega))
   ·exact ⟨rfl, rfl, rfl, rfl, rfl, trivial⟩
   ·by_cases e : j = i
    ·subst e; exact Decidable.not_not.1 h5
    ·exact hok j (by omega)
 ·rw [if_pos fun j hj => hok j (by omega)] at good
  have hbd : ∀ d ∈ l, R2.bd d := fun d hd => by
   have := R1.right_inB g4 d hd
   unfold R1.inB at this
   unfold R2.bd
   omega
  have hcb := R7.corner_bd (s := R7.side lv) hbd (R7.side_bd (lv := lv) (by omega)).2
  have hcl : (R7.corner (R7.side lv) l).length ≤ 1000000000 := by rw [R7.corner_len]; exact hnl
  obtain ⟨r, hbr⟩ : ∃ r, R7.build room lv.toNat ns (R7.corner (R7.side lv) l) = r := ⟨_, rfl⟩
  rw [hbr] at good
  refine tri_exit ?_
  refine tri_then_exit ?_
  refine tri_then_exit ?_
  refine tri_inBlock_hit rfl ?_
  refine tT (tS ?_)
  refine tri_cut (fun F' A' J => ∃ b10 d e, F' = [(3, pt b3 0), (6, pt b6 0), (10, pt b10 0), (11, .int .i64 r.2.1), (12, .int .i64 r.2.2)] ∧ A' = Box b10 [.slice d r.1.length e, .int .i64 room] 26 :: Box b6 [.slice none 0 0, .int .i64 0] 26 :: Box b3 [.slice a ns.length cap, .int .i64 room] 26 :: A ∧ StA J d e r.1 ∧ I ⊆ J) ?_ ?_
  ·refine tri_draw [0, 1, 2, 4, 3, 5, 6, 7, 8, 9, 10, 11, 12, 13] rfl [] rfl mixed ?_
   refine th_take rfl rfl (by kernel_rfl)  (opv_loadA rfl rfl rfl) ?_
   refine th_take rfl rfl (by kernel_rfl)  (opv_move rfl) ?_
   refine th_take rfl rfl (by kernel_rfl)  (opv_move rfl) ?_
   refine th_take rfl rfl (by kernel_rfl)  (opv_move rfl) ?_
   refine th_two (j := 10) [3, 5, 6, 7, 8, 9, 11, 12, 13] (by kernel_rfl) rfl ?_ ?_
   ·refine (step_m rfl rfl (opg_call (xs := [_, _]) rfl (ref07_corner hsl hnl (by omega) (by omega) hbd)) ?_)
    rintro _ _ J0 ⟨a0, c0, rfl, hc0, rfl, hJ0⟩
    refine ⟨Suf.h, hJ0, ?_⟩
    skip
    refine th_two (j := 10) [5, 6, 7, 8, 9, 11, 12, 13] (by kernel_rfl) rfl ?_ ?_
    ·refine (step_m rfl rfl (opg_call (xs := [_, _, _]) rfl (ref07_build lv.toNat lv _ _ _ _ _ _ _ room _ r (by omega) (by omega) (hs.mono hJ0) (g1.good (by have := g1.1.2.1; omega)) hc0 hcl hcb hbr)) ?_)
     rintro _ _ J1 ⟨d0, e0, rfl, hq0, rfl, hJ1⟩
     refine ⟨Suf.h, (fun _ h => hJ1 (hJ0 h)), ?_⟩
     have hJ2 : I ⊆ J1 := fun _ h => hJ1 (hJ0 h)
     refine th_take rfl rfl (by kernel_rfl)  (opv_move rfl) ?_
     refine th_take rfl rfl (by kernel_rfl)  (opv_extract rfl rfl) ?_
     refine th_take rfl rfl (by kernel_rfl)  (opv_extract rfl rfl) ?_
     refine th_take rfl rfl (by kernel_rfl)  (opv_extract rfl rfl) ?_
     refine th_one (by kernel_rfl) (step_m rfl rfl opg_alloc ?_)
     rintro _ _ _ ⟨b10, rfl, rfl, rfl⟩
     refine ⟨Suf.h, (by assumption), ?_⟩
     refine th_one (by kernel_rfl) (step_m rfl rfl (opg_store rfl rfl rfl rfl rfl rfl) ?_)
     rintro _ _ _ ⟨rfl, rfl⟩
     refine ⟨Suf.h, (by assumption), ?_⟩
     refine th_take rfl rfl (by kernel_rfl)  (opv_assign rfl) ?_
     refine th_take rfl rfl (by kernel_rfl)  (opv_assign rfl) ?_
     refine th_done (by kernel_rfl) ?_
     exact tri_cutEnd _ ⟨b10, d0, e0, rfl, rfl, hq0, hJ2⟩ ⟨rfl, rfl, rfl, rfl, rfl, trivial⟩
    ·refine (step_m rfl rfl opg_alloc ?_)
     rintro _ _ _ ⟨b10, rfl, rfl, rfl⟩
     refine ⟨Suf.h, (by assumption), ?_⟩
     refine th_one (by kernel_rfl) (step_m rfl rfl (opg_call (xs := [_, _, _]) rfl (ref07_build lv.toNat lv _ _ _ _ _ _ _ room _ r (by omega) (by omega) (hs.mono hJ0) (g1.good (by have := g1.1.2.1; omega)) hc0 hcl hcb hbr)) ?_)
     rintro _ _ J1 ⟨d0, e0, rfl, hq0, rfl, hJ1⟩
     refine ⟨Suf.h, (fun _ h => hJ1 (hJ0 h)), ?_⟩
     have hJ2 : I ⊆ J1 := fun _ h => hJ1 (hJ0 h)
     refine th_take rfl rfl (by kernel_rfl)  (opv_move rfl) ?_
     refine th_take rfl rfl (by kernel_rfl)  (opv_extract rfl rfl) ?_
     refine th_take rfl rfl (by kernel_rfl)  (opv_extract rfl rfl) ?_
     refine th_take rfl rfl (by kernel_rfl)  (opv_extract rfl rfl) ?_
     refine th_one (by kernel_rfl) (step_m rfl rfl (opg_store rfl rfl rfl rfl rfl rfl) ?_)
     rintro _ _ _ ⟨rfl, rfl⟩
     refine ⟨Suf.h, (by assumption), ?_⟩
     refine th_take rfl rfl (by kernel_rfl)  (opv_assign rfl) ?_
     refine th_take rfl rfl (by kernel_rfl)  (opv_assign rfl) ?_
     refine th_done (by kernel_rfl) ?_
     exact tri_cutEnd _ ⟨b10, d0, e0, rfl, rfl, hq0, hJ2⟩ ⟨rfl, rfl, rfl, rfl, rfl, trivial⟩
   ·refine (step_m rfl rfl opg_alloc ?_)
    rintro _ _ _ ⟨b10, rfl, rfl, rfl⟩
    refine ⟨Suf.h, (fun _ h => h), ?_⟩
    refine th_one (by kernel_rfl) (step_m rfl rfl (opg_call (xs := [_, _]) rfl (ref07_corner hsl hnl (by omega) (by omega) hbd)) ?_)
    rintro _ _ J0 ⟨a0, c0, rfl, hc0, rfl, hJ0⟩
    refine ⟨Suf.h, hJ0, ?_⟩
    skip
    refine th_one (by kernel_rfl) (step_m rfl rfl (opg_call (xs := [_, _, _]) rfl (ref07_build lv.toNat lv _ _ _ _ _ _ _ room _ r (by omega) (by omega) (hs.mono hJ0) (g1.good (by have := g1.1.2.1; omega)) hc0 hcl hcb hbr)) ?_)
    rintro _ _ J1 ⟨d0, e0, rfl, hq0, rfl, hJ1⟩
    refine ⟨Suf.h, (fun _ h => hJ1 (hJ0 h)), ?_⟩
    have hJ2 : I ⊆ J1 := fun _ h => hJ1 (hJ0 h)
    refine th_take rfl rfl (by kernel_rfl)  (opv_move rfl) ?_
    refine th_take rfl rfl (by kernel_rfl)  (opv_extract rfl rfl) ?_
    refine th_take rfl rfl (by kernel_rfl)  (opv_extract rfl rfl) ?_
    refine th_take rfl rfl (by kernel_rfl)  (opv_extract rfl rfl) ?_
    refine th_one (by kernel_rfl) (step_m rfl rfl (opg_store rfl rfl rfl rfl rfl rfl) ?_)
    rintro _ _ _ ⟨rfl, rfl⟩
    refine ⟨Suf.h, (by assumption), ?_⟩
    refine th_take rfl rfl (by kernel_rfl)  (opv_assign rfl) ?_
    refine th_take rfl rfl (by kernel_rfl)  (opv_assign rfl) ?_
    refine th_done (by kernel_rfl) ?_
    exact tri_cutEnd _ ⟨b10, d0, e0, rfl, rfl, hq0, hJ2⟩ ⟨rfl, rfl, rfl, rfl, rfl, trivial⟩
  rintro _ _ J ⟨b10, d, e, rfl, rfl, hq, hJ⟩
  skip
  refine tT (tS (tS (tR (tM rfl rfl ?_))))
  refine tri_v (opv_neq rfl rfl) rfl ?_
  refine tN (tT ?_)
  refine tri_cond_dec rfl (fun h6 => ?_) (fun h6 => ?_)
  ·refine tS (tR ?_)
   refine tri_v (opv_loadA rfl rfl rfl) rfl ?_
   refine tM rfl rfl ?_
   refine tri_g (opg_store rfl rfl rfl rfl rfl rfl) rfl ?_
   rintro _ _ _ ⟨rfl, rfl⟩
   refine tA rfl rfl (tA rfl rfl (tN (tT (tri_ret (tri_then_ret ?_)))))
   refine tri_end A Suf.h rfl (.cons (rv_cellA rfl rfl rfl) (.cons (rv_tmp rfl) (.cons (rv_tmp rfl) .nil))) ?_
   rw [good, if_pos h6]
   exact ⟨a, cap, rfl, hs.mono hJ, rfl, hJ⟩
  ·refine tri_skip (tT (tS (tR ?_)))
   refine tri_v (opv_loadA rfl rfl rfl) rfl ?_
   refine tM rfl rfl ?_
   refine tri_g (opg_store rfl rfl rfl rfl rfl rfl) rfl ?_
   rintro _ _ _ ⟨rfl, rfl⟩
   refine tA rfl rfl (tA rfl rfl (tN (tT (tri_ret ?_))))
   refine tri_end A Suf.h rfl (.cons (rv_cellA rfl rfl rfl) (.cons (rv_tmp rfl) (.cons (rv_tmp rfl) .nil))) ?_
   rw [good, if_neg h6]
   have h7 : r.2.2 = 0 := Decidable.not_not.1 h6
   exact ⟨d, e, by rw [h7]; rfl, hq, rfl, hJ⟩
end Go.GL


set_option linter.unusedVariables false
namespace Go.GL
open Go.Proofs
attribute [local irreducible] wpList Code.wp Exit.then Exit.inBlock Ends Tri TriH OpV OpG FnC epf wpAnyH
theorem R6.right.kidN {ns : List Node} {room : Int} (h : R6.right ns room) {n : Int} (hn : R6.inS ns n) {m : Nat} (hl : (R6.nd ns n).lv = ((m + 1 : Nat) : Int)) {q : Int} (hq : q ∈ (R6.nd ns n).kids) : R6.inS ns q ∧ q < n ∧ (R6.nd ns q).lv = m := by
 have h0 := h.1.2.2.2.2.1
 have h1 := h.1.2.2.2.2.2
 obtain ⟨hn0, hn1⟩ := hn
 have h2 : 2 ≤ n.toNat := by
  rcases Nat.lt_or_ge n.toNat 2 with h3 | h3
  ·exfalso
   rcases (by omega : n.toNat = 0 ∨ n.toNat = 1) with e | e
   ·unfold R6.nd at hl; rw [e, h0] at hl; simp [R6.n0] at hl; omega
   ·unfold R6.nd at hl; rw [e, h1] at hl; simp [R6.n1] at hl; omega
  ·exact h3
 obtain ⟨k0, k1, k2, k3, _⟩ := h.2 n.toNat (by omega) h2
 have key : R6.kidOk ns n.toNat q (R6.nd ns n).lv := by
  unfold Node.kids at hq
  simp only [List.mem_cons, List.not_mem_nil, or_false] at hq
  rcases hq with rfl | rfl | rfl | rfl
  ·exact k0
  ·exact k1
  ·exact k2
  ·exact k3
 obtain ⟨g1, g2, g3⟩ := key
 exact ⟨⟨g1, by omega⟩, by omega, by omega⟩
def FlatSpec (lv : Nat) : Prop := ∀ (A : List Asrt) (I : List Chunk) (ns : List Node) (a : Option Addr) (cap : Nat) (room n cx cy : Int) (c : Cell) (r : List Cell), cx = c.x → cy = c.y → R6.right ns room → SlAt I a ns → R6.inS ns n → (R6.nd ns n).lv = lv →
 -1152921504606846976 ≤ c.x ∧ c.x + 2 ^ lv ≤ 1152921504606846976 ∧ -1152921504606846976 ≤ c.y ∧ c.y + 2 ^ lv ≤ 1152921504606846976 → R7.flat ns lv n c = r → r.length ≤ 100000000 →
 FnC Try.prog 84 [storeV a ns.length cap room, .int .i64 n, .agg [.int .i64 cx, .int .i64 cy].toArray].toArray A I (fun v A' I' => ∃ a' cap', v = .slice a' r.length cap' ∧ SlAt I' a' r ∧ A = A' ∧ I ⊆ I')
theorem R7.flat_dead {ns : List Node} {lv : Nat} {n : Int} {c : Cell} (h : (R6.nd ns n).pop = 0) : R7.flat ns lv n c = [] := by unfold R7.flat; rw [if_pos h]
theorem R7.flat_zero {ns : List Node} {n : Int} {c : Cell} (h : ¬ (R6.nd ns n).pop = 0) : R7.flat ns 0 n c = [c] := by unfold R7.flat; rw [if_neg h]
theorem R7.flat_succ {ns : List Node} {m : Nat} {n : Int} {c : Cell} (h : ¬ (R6.nd ns n).pop = 0) : R7.flat ns (m + 1) n c = R7.flat ns m (R6.nd ns n).k0 c ++ R7.flat ns m (R6.nd ns n).k1 ⟨c.x + 2 ^ m, c.y⟩ ++ R7.flat ns m (R6.nd ns n).k2 ⟨c.x, c.y + 2 ^ m⟩ ++ R7.flat ns m (R6.nd ns n).k3 ⟨c.x + 2 ^ m, c.y + 2 ^ m⟩ := by rw [R7.flat]; rw [if_neg h]
set_option maxHeartbeats 1000000 in
set_option maxRecDepth 100000 in
theorem ref07_flat_step (lv : Nat) (ih : ∀ m, m < lv → FlatSpec m) : FlatSpec lv := by
 intro A I ns a cap room n cx cy c r hcx hcy hr hs hn hlv hc hfl hlen
 subst hcx; subst hcy
 obtain ⟨hn0, hn1⟩ := hn
 have hmod := hr.modTo.mod.nd ⟨hn0, hn1⟩
 have hmod' : 0 ≤ (ns.getD n.toNat default).lv ∧ (ns.getD n.toNat default).lv ≤ 42 := ⟨hmod.1, hmod.2.1⟩
 skip
 refine fn_enter3 Try.func84 rfl Try.ntmps84 rfl fun w0 => ?_
 refine tS (tR ?_)
 refine tri_g (opg_box_agg rfl) rfl ?_
 rintro _ _ _ ⟨b3, rfl, rfl, rfl⟩
 refine tri_g (opg_box_agg rfl) rfl ?_
 rintro _ _ _ ⟨b5, rfl, rfl, rfl⟩
 refine tA rfl rfl (tN (tT (tS (tR ?_))))
 refine tri_v (opv_fieldAddr rfl rfl) rfl ?_
 refine tri_v (opv_load1 rfl rfl rfl) rfl ?_
 refine tM rfl rfl ?_
 refine tri_v (opv_indexAddrS rfl rfl (by omega) (by omega) (by assumption) rfl) rfl ?_
 refine tri_v (opv_loadEA rfl (by assumption) rfl (by omega) rfl rfl) rfl ?_
 refine tri_g opg_alloc rfl ?_
 rintro _ _ _ ⟨b7, rfl, rfl, rfl⟩
 refine tri_g (opg_store rfl rfl rfl rfl rfl rfl) rfl ?_
 rintro _ _ _ ⟨rfl, rfl⟩
 refine tN (tT (tS (tS (tR ?_))))
 refine tri_v (opv_fieldAddr rfl rfl) rfl ?_
 refine tri_v (opv_load1 rfl rfl rfl) rfl ?_
 refine tri_v (opv_eql rfl rfl) rfl ?_
 refine tN (tT ?_)
 refine tri_cond_dec rfl (fun h0 => ?_) (fun h0 => ?_)
 ·rw [R7.flat_dead h0] at hfl
  subst hfl
  refine tS (tR (tA rfl rfl (tN (tT (tri_ret (tri_then_ret ?_))))))
  refine tri_end A Suf.h rfl (.cons (rv_tmp rfl) .nil) ⟨none, 0, rfl, SlAt.nil, rfl, fun _ h => h⟩
 refine tri_skip (tT (tS (tS (tR ?_))))
 refine tri_v (opv_fieldAddr rfl rfl) rfl ?_
 refine tri_v (opv_load1 rfl rfl rfl) rfl ?_
 refine tri_v (opv_eql rfl rfl) rfl ?_
 refine tN (tT ?_)
 refine tri_cond_dec rfl (fun h1 => ?_) (fun h1 => ?_)
 ·have hl0 : lv = 0 := by
   have h2 : (R6.nd ns n).lv = 0 := h1
   omega
  subst hl0
  rw [R7.flat_zero h0] at hfl
  subst hfl
  refine tS (tR ?_)
  refine tri_v (opv_loadA rfl rfl rfl) rfl ?_
  refine tri_g (opg_buildSlice rfl rfl rfl rfl) rfl ?_
  rintro _ _ _ ⟨b23, rfl, rfl, rfl⟩
  refine tA rfl rfl (tN (tT (tri_ret (tri_then_ret ?_))))
  refine tri_freezeBoxS [c] rfl fun I' hI hs' => ?_
  refine tri_end A Suf.h rfl (.cons (rv_tmp rfl) .nil) ⟨_, 1, rfl, hs', rfl, hI⟩
 have hl0 : ¬ (R6.nd ns n).lv = 0 := h1
 obtain ⟨m, rfl⟩ : ∃ m, lv = m + 1 := ⟨lv - 1, by omega⟩
 rw [R7.flat_succ h0] at hfl
 have kid := fun q hq => hr.kidN ⟨hn0, hn1⟩ hlv (q := q) hq
 obtain ⟨r0, hr0⟩ : ∃ r, R7.flat ns m (R6.nd ns n).k0 c = r := ⟨_, rfl⟩
 obtain ⟨r1, hr1⟩ : ∃ r, R7.flat ns m (R6.nd ns n).k1 ⟨c.x + 2 ^ m, c.y⟩ = r := ⟨_, rfl⟩
 obtain ⟨r2, hr2⟩ : ∃ r, R7.flat ns m (R6.nd ns n).k2 ⟨c.x, c.y + 2 ^ m⟩ = r := ⟨_, rfl⟩
 obtain ⟨r3, hr3⟩ : ∃ r, R7.flat ns m (R6.nd ns n).k3 ⟨c.x + 2 ^ m, c.y + 2 ^ m⟩ = r := ⟨_, rfl⟩
 rw [hr0, hr1, hr2, hr3] at hfl
 subst hfl
 simp only [List.length_append] at hlen
 have hpow : (2:Int) ^ (m + 1) = 2 ^ m * 2 := Int.pow_succ 2 m
 have hpos : (0:Int) < 2 ^ m := Int.pow_pos (by omega)
 rw [hpow] at hc
 obtain ⟨hc1, hc2, hc3, hc4⟩ := hc
 have e8 : (2:Int) ^ ((R6.nd ns n).lv - 1).toNat = 2 ^ m := by congr 1; omega
 skip
 refine tri_skip (tT (tS (tR ?_)))
 refine tri_v (opv_fieldAddr rfl rfl) rfl ?_
 refine tri_v (opv_load1 rfl rfl rfl) rfl ?_
 refine tri_v (opv_sub rfl rfl (w64 (by omega) (by omega))) rfl ?_
 refine tri_v (opv_shl1 rfl rfl (by omega) (by omega)) rfl ?_
 refine tA rfl rfl (tN (tT (tS (tR (tA rfl rfl (tN (tT ?_)))))))
 refine tS (tS (tR (tA rfl rfl (tN (tT (tri_block ?_))))))
 refine tri_sub (F' := [(3, pt b3 0), (5, pt b5 0), (7, pt b7 0), (8, .int .i64 (2 ^ m)), (9, .slice none 0 0), (10, .int .i64 (0 : Int))]) ⟨rfl, rfl, rfl, by rw [← e8]; rfl, rfl, rfl, trivial⟩ ?_
 refine tri_nilRow (E := 28) (sz := 2) ?_
 refine tri_rounds 5 ?_
 refine tri_round ?_
 refine tS (tS (tR (tM rfl rfl ?_)))
 refine tri_v (opv_lss rfl rfl) rfl ?_
 refine tN (tT ?_)
 refine tri_cond_is rfl (by decide) ?_
 skip
 refine tri_skip (tT (tS (tri_block ?_)))
 refine tri_draw [0, 1, 2, 3, 4, 5, 6, 7, 8, 9, 10, 11, 12, 13, 14, 15, 16, 17, 18, 19, 20, 21, 22, 23] rfl [_] rfl mixed ?_
 refine th_take rfl rfl (by kernel_rfl)  (opv_move rfl) ?_
 refine th_take rfl rfl (by kernel_rfl)  (opv_loadA rfl rfl rfl) ?_
 refine th_take rfl rfl (by kernel_rfl)  (opv_move rfl) ?_
 refine th_take rfl rfl (by kernel_rfl)  (opv_fieldAddr rfl rfl) ?_
 refine th_take rfl rfl (by kernel_rfl)  (opv_indexAddrA rfl rfl (by decide) (by decide)) ?_
 refine th_take rfl rfl (by kernel_rfl)  (opv_load1 rfl rfl rfl) ?_
 refine th_take rfl rfl (by kernel_rfl)  (opv_fieldAddr rfl rfl) ?_
 refine th_take rfl rfl (by kernel_rfl)  (opv_load1 rfl rfl rfl) ?_
 refine th_take rfl rfl (by kernel_rfl)  (opv_move rfl) ?_
 refine th_take rfl rfl (by kernel_rfl)  (opv_remE rfl rfl (by omega) (by omega)) ?_
 refine th_take rfl rfl (by kernel_rfl)  (opv_move rfl) ?_
 refine th_take rfl rfl (by kernel_rfl)  (opv_mul rfl rfl (w64 (by omega) (by omega))) ?_
 refine th_take rfl rfl (by kernel_rfl)  (opv_add rfl rfl (w64 (by omega) (by omega))) ?_
 refine th_take rfl rfl (by kernel_rfl)  (opv_fieldAddr rfl rfl) ?_
 refine th_take rfl rfl (by kernel_rfl)  (opv_load1 rfl rfl rfl) ?_
 refine th_take rfl rfl (by kernel_rfl)  (opv_move rfl) ?_
 refine th_take rfl rfl (by kernel_rfl)  (opv_quoE rfl rfl (by omega) (by omega) (by omega)) ?_
 refine th_take rfl rfl (by kernel_rfl)  (opv_move rfl) ?_
 refine th_take rfl rfl (by kernel_rfl)  (opv_mul rfl rfl (w64 (by omega) (by omega))) ?_
 refine th_take rfl rfl (by kernel_rfl)  (opv_add rfl rfl (w64 (by omega) (by omega))) ?_
 refine th_take rfl rfl (by kernel_rfl)  (opv_buildS rfl rfl) ?_
 refine th_one (by kernel_rfl) (step_m rfl rfl (opg_call (xs := [_, _, _]) rfl (ih m (by omega) _ _ _ _ _ room _ _ _ ⟨c.x, c.y⟩ r0 (by simp only; omega) (by simp only; omega) hr (hs) (kid _ (by simp [Node.kids, R6.nd])).1 (kid _ (by simp [Node.kids, R6.nd])).2.2 (by simp only; omega) hr0 (by omega))) ?_)
 rintro _ _ J1 ⟨a0, c0, rfl, hq0, rfl, hJ1⟩
 refine ⟨Suf.h, (by assumption), ?_⟩
 skip
 refine th_one (by kernel_rfl) (step_m rfl rfl (opg_appendS rfl rfl hq0 rfl rfl (by omega) rfl) ?_)
 rintro _ _ _ ⟨d0, e0, rfl, rfl, rfl⟩
 refine ⟨Suf.h, (by assumption), ?_⟩
 refine th_take rfl rfl (by kernel_rfl)  (opv_assign rfl) ?_
 refine th_done (by kernel_rfl) ?_
 refine tri_inBlock ?_
 refine tT (tR (tM rfl rfl ?_))
 refine tU rfl rfl (by omega) (by omega) rfl ?_
 refine tA rfl rfl (tN (tT ?_))
 refine tri_round ?_
 refine tS (tS (tR (tM rfl rfl ?_)))
 refine tri_v (opv_lss rfl rfl) rfl ?_
 refine tN (tT ?_)
 skip
 refine tri_cond_is rfl (by decide) ?_
 skip
 refine tri_skip (tT (tS (tri_block ?_)))
 refine tri_draw [0, 1, 2, 3, 4, 5, 6, 7, 8, 9, 10, 11, 12, 13, 14, 15, 16, 17, 18, 19, 20, 21, 22, 23] rfl [_] rfl mixed ?_
 refine th_take rfl rfl (by kernel_rfl)  (opv_move rfl) ?_
 refine th_take rfl rfl (by kernel_rfl)  (opv_loadA rfl rfl rfl) ?_
 refine th_take rfl rfl (by kernel_rfl)  (opv_move rfl) ?_
 refine th_take rfl rfl (by kernel_rfl)  (opv_fieldAddr rfl rfl) ?_
 refine th_take rfl rfl (by kernel_rfl)  (opv_indexAddrA rfl rfl (by decide) (by decide)) ?_
 refine th_take rfl rfl (by kernel_rfl)  (opv_load1 rfl rfl rfl) ?_
 refine th_take rfl rfl (by kernel_rfl)  (opv_fieldAddr rfl rfl) ?_
 refine th_take rfl rfl (by kernel_rfl)  (opv_load1 rfl rfl rfl) ?_
 refine th_take rfl rfl (by kernel_rfl)  (opv_move rfl) ?_
 refine th_take rfl rfl (by kernel_rfl)  (opv_remE rfl rfl (by omega) (by omega)) ?_
 refine th_take rfl rfl (by kernel_rfl)  (opv_move rfl) ?_
 refine th_take rfl rfl (by kernel_rfl)  (opv_mul rfl rfl (w64 (by omega) (by omega))) ?_
 refine th_take rfl rfl (by kernel_rfl)  (opv_add rfl rfl (w64 (by omega) (by omega))) ?_
 refine th_take rfl rfl (by kernel_rfl)  (opv_fieldAddr rfl rfl) ?_
 refine th_take rfl rfl (by kernel_rfl)  (opv_load1 rfl rfl rfl) ?_
 refine th_take rfl rfl (by kernel_rfl)  (opv_move rfl) ?_
 refine th_take rfl rfl (by kernel_rfl)  (opv_quoE rfl rfl (by omega) (by omega) (by omega)) ?_
 refine th_take rfl rfl (by kernel_rfl)  (opv_move rfl) ?_
 refine th_take rfl rfl (by kernel_rfl)  (opv_mul rfl rfl (w64 (by omega) (by omega))) ?_
 refine th_take rfl rfl (by kernel_rfl)  (opv_add rfl rfl (w64 (by omega) (by omega))) ?_
 refine th_take rfl rfl (by kernel_rfl)  (opv_buildS rfl rfl) ?_
 refine th_one (by kernel_rfl) (step_m rfl rfl (opg_call (xs := [_, _, _]) rfl (ih m (by omega) _ _ _ _ _ room _ _ _ ⟨c.x + 2 ^ m, c.y⟩ r1 (by simp only; omega) (by simp only; omega) hr (hs.mono hJ1) (kid _ (by simp [Node.kids, R6.nd])).1 (kid _ (by simp [Node.kids, R6.nd])).2.2 (by simp only; omega) hr1 (by omega))) ?_)
 rintro _ _ J2 ⟨a1, c1, rfl, hq1, rfl, hJ2⟩
 refine ⟨Suf.h, (by assumption), ?_⟩
 skip
 refine th_one (by kernel_rfl) (step_m rfl rfl (opg_appendS rfl rfl hq1 rfl rfl (by omega) rfl) ?_)
 rintro _ _ _ ⟨d1, e1, rfl, rfl, rfl⟩
 refine ⟨Suf.h, (by assumption), ?_⟩
 refine th_take rfl rfl (by kernel_rfl)  (opv_assign rfl) ?_
 refine th_done (by kernel_rfl) ?_
 refine tri_inBlock ?_
 refine tT (tR (tM rfl rfl ?_))
 refine tU rfl rfl (by omega) (by omega) rfl ?_
 refine tA rfl rfl (tN (tT ?_))
 refine tri_round ?_
 refine tS (tS (tR (tM rfl rfl ?_)))
 refine tri_v (opv_lss rfl rfl) rfl ?_
 refine tN (tT ?_)
 skip
 refine tri_cond_is rfl (by decide) ?_
 skip
 refine tri_skip (tT (tS (tri_block ?_)))
 refine tri_draw [0, 1, 2, 3, 4, 5, 6, 7, 8, 9, 10, 11, 12, 13, 14, 15, 16, 17, 18, 19, 20, 21, 22, 23] rfl [_] rfl mixed ?_
 refine th_take rfl rfl (by kernel_rfl)  (opv_move rfl) ?_
 refine th_take rfl rfl (by kernel_rfl)  (opv_loadA rfl rfl rfl) ?_
 refine th_take rfl rfl (by kernel_rfl)  (opv_move rfl) ?_
 refine th_take rfl rfl (by kernel_rfl)  (opv_fieldAddr rfl rfl) ?_
 refine th_take rfl rfl (by kernel_rfl)  (opv_indexAddrA rfl rfl (by decide) (by decide)) ?_
 refine th_take rfl rfl (by kernel_rfl)  (opv_load1 rfl rfl rfl) ?_
 refine th_take rfl rfl (by kernel_rfl)  (opv_fieldAddr rfl rfl) ?_
 refine th_take rfl rfl (by kernel_rfl)  (opv_load1 rfl rfl rfl) ?_
 refine th_take rfl rfl (by kernel_rfl)  (opv_move rfl) ?_
 refine th_take rfl rfl (by kernel_rfl)  (opv_remE rfl rfl (by omega) (by omega)) ?_
 refine th_take rfl rfl (by kernel_rfl)  (opv_move rfl) ?_
 refine th_take rfl rfl (by kernel_rfl)  (opv_mul rfl rfl (w64 (by omega) (by omega))) ?_
 refine th_take rfl rfl (by kernel_rfl)  (opv_add rfl rfl (w64 (by omega) (by omega))) ?_
 refine th_take rfl rfl (by kernel_rfl)  (opv_fieldAddr rfl rfl) ?_
 refine th_take rfl rfl (by kernel_rfl)  (opv_load1 rfl rfl rfl) ?_
 refine th_take rfl rfl (by kernel_rfl)  (opv_move rfl) ?_
 refine th_take rfl rfl (by kernel_rfl)  (opv_quoE rfl rfl (by omega) (by omega) (by omega)) ?_
 refine th_take rfl rfl (by kernel_rfl)  (opv_move rfl) ?_
 refine th_take rfl rfl (by kernel_rfl)  (opv_mul rfl rfl (w64 (by omega) (by omega))) ?_
 refine th_take rfl rfl (by kernel_rfl)  (opv_add rfl rfl (w64 (by omega) (by omega))) ?_
 refine th_take rfl rfl (by kernel_rfl)  (opv_buildS rfl rfl) ?_
 refine th_one (by kernel_rfl) (step_m rfl rfl (opg_call (xs := [_, _, _]) rfl (ih m (by omega) _ _ _ _ _ room _ _ _ ⟨c.x, c.y + 2 ^ m⟩ r2 (by simp only; omega) (by simp only; omega) hr ((hs.mono hJ1).mono hJ2) (kid _ (by simp [Node.kids, R6.nd])).1 (kid _ (by simp [Node.kids, R6.nd])).2.2 (by simp only; omega) hr2 (by omega))) ?_)
 rintro _ _ J3 ⟨a2, c2, rfl, hq2, rfl, hJ3⟩
 refine ⟨Suf.h, (by assumption), ?_⟩
 skip
 refine th_one (by kernel_rfl) (step_m rfl rfl (opg_appendS rfl rfl hq2 rfl rfl (by omega) rfl) ?_)
 rintro _ _ _ ⟨d2, e2, rfl, rfl, rfl⟩
 refine ⟨Suf.h, (by assumption), ?_⟩
 refine th_take rfl rfl (by kernel_rfl)  (opv_assign rfl) ?_
 refine th_done (by kernel_rfl) ?_
 refine tri_inBlock ?_
 refine tT (tR (tM rfl rfl ?_))
 refine tU rfl rfl (by omega) (by omega) rfl ?_
 refine tA rfl rfl (tN (tT ?_))
 refine tri_round ?_
 refine tS (tS (tR (tM rfl rfl ?_)))
 refine tri_v (opv_lss rfl rfl) rfl ?_
 refine tN (tT ?_)
 skip
 refine tri_cond_is rfl (by decide) ?_
 skip
 refine tri_skip (tT (tS (tri_block ?_)))
 refine tri_draw [0, 1, 2, 3, 4, 5, 6, 7, 8, 9, 10, 11, 12, 13, 14, 15, 16, 17, 18, 19, 20, 21, 22, 23] rfl [_] rfl mixed ?_
 refine th_take rfl rfl (by kernel_rfl)  (opv_move rfl) ?_
 refine th_take rfl rfl (by kernel_rfl)  (opv_loadA rfl rfl rfl) ?_
 refine th_take rfl rfl (by kernel_rfl)  (opv_move rfl) ?_
 refine th_take rfl rfl (by kernel_rfl)  (opv_fieldAddr rfl rfl) ?_
 refine th_take rfl rfl (by kernel_rfl)  (opv_indexAddrA rfl rfl (by decide) (by decide)) ?_
 refine th_take rfl rfl (by kernel_rfl)  (opv_load1 rfl rfl rfl) ?_
 refine th_take rfl rfl (by kernel_rfl)  (opv_fieldAddr rfl rfl) ?_
 refine th_take rfl rfl (by kernel_rfl)  (opv_load1 rfl rfl rfl) ?_
 refine th_take rfl rfl (by kernel_rfl)  (opv_move rfl) ?_
 refine th_take rfl rfl (by kernel_rfl)  (opv_remE rfl rfl (by omega) (by omega)) ?_
 refine th_take rfl rfl (by kernel_rfl)  (opv_move rfl) ?_
 refine th_take rfl rfl (by kernel_rfl)  (opv_mul rfl rfl (w64 (by omega) (by omega))) ?_
 refine th_take rfl rfl (by kernel_rfl)  (opv_add rfl rfl (w64 (by omega) (by omega))) ?_
 refine th_take rfl rfl (by kernel_rfl)  (opv_fieldAddr rfl rfl) ?_
 refine th_take rfl rfl (by kernel_rfl)  (opv_load1 rfl rfl rfl) ?_
 refine th_take rfl rfl (by kernel_rfl)  (opv_move rfl) ?_
 refine th_take rfl rfl (by kernel_rfl)  (opv_quoE rfl rfl (by omega) (by omega) (by omega)) ?_
 refine th_take rfl rfl (by kernel_rfl)  (opv_move rfl) ?_
 refine th_take rfl rfl (by kernel_rfl)  (opv_mul rfl rfl (w64 (by omega) (by omega))) ?_
 refine th_take rfl rfl (by kernel_rfl)  (opv_add rfl rfl (w64 (by omega) (by omega))) ?_
 refine th_take rfl rfl (by kernel_rfl)  (opv_buildS rfl rfl) ?_
 refine th_one (by kernel_rfl) (step_m rfl rfl (opg_call (xs := [_, _, _]) rfl (ih m (by omega) _ _ _ _ _ room _ _ _ ⟨c.x + 2 ^ m, c.y + 2 ^ m⟩ r3 (by simp only; omega) (by simp only; omega) hr (((hs.mono hJ1).mono hJ2).mono hJ3) (kid _ (by simp [Node.kids, R6.nd])).1 (kid _ (by simp [Node.kids, R6.nd])).2.2 (by simp only; omega) hr3 (by omega))) ?_)
 rintro _ _ J4 ⟨a3, c3, rfl, hq3, rfl, hJ4⟩
 refine ⟨Suf.h, (by assumption), ?_⟩
 skip
 refine th_one (by kernel_rfl) (step_m rfl rfl (opg_appendS rfl rfl hq3 rfl rfl (by omega) rfl) ?_)
 rintro _ _ _ ⟨d3, e3, rfl, rfl, rfl⟩
 refine ⟨Suf.h, (by assumption), ?_⟩
 refine th_take rfl rfl (by kernel_rfl)  (opv_assign rfl) ?_
 refine th_done (by kernel_rfl) ?_
 refine tri_inBlock ?_
 refine tT (tR (tM rfl rfl ?_))
 refine tU rfl rfl (by omega) (by omega) rfl ?_
 refine tA rfl rfl (tN (tT ?_))
 refine tri_round ?_
 refine tS (tS (tR (tM rfl rfl ?_)))
 refine tri_v (opv_lss rfl rfl) rfl ?_
 refine tN (tT ?_)
 refine tri_cond_not rfl (by decide) ?_
 refine tri_exit ?_
 refine tri_then_exit ?_
 refine tri_then_exit ?_
 refine tri_inBlock_hit rfl ?_
 refine tT (tS (tR (tM rfl rfl (tA rfl rfl (tN (tT (tri_ret ?_)))))))
 refine tri_rowEq (len' := (r0 ++ r1 ++ r2 ++ r3).length) (cells' := encs (r0 ++ r1 ++ r2 ++ r3)) (by simp only [List.length_append, Nat.zero_add]) (by rw [encs_append, encs_append, encs_append]; rfl) ?_
 refine tri_freezeRow rfl fun I' hI hs' => ?_
 refine tri_end A Suf.h rfl (.cons (rv_tmp rfl) .nil) ⟨d3, e3, ?_, hs', rfl, fun _ h => hI (hJ4 (hJ3 (hJ2 (hJ1 h))))⟩
 simp only [List.length_append, Nat.zero_add]; rfl
theorem ref07_flat (lv : Nat) : FlatSpec lv := by
 induction lv using Nat.strongRecOn with
 | ind lv ih => exact ref07_flat_step lv ih
set_option maxRecDepth 100000 in
theorem ref07_of {A : List Asrt} {I : List Chunk} {ns : List Node} {a : Option Addr} {cap : Nat} {room n : Int} (hr : R6.right ns room) (hs : SlAt I a ns) (hn : R6.inS ns n) (hl1 : 1 ≤ (R6.nd ns n).lv) (hlen : (R7.of ns n).length ≤ 100000000) :
  FnC Try.prog 51 [storeV a ns.length cap room, .int .i64 n].toArray A I (fun v A' I' => ∃ a' cap', v = .slice a' (R7.of ns n).length cap' ∧ SlAt I' a' (R7.of ns n) ∧ A = A' ∧ I ⊆ I') := by
 have hmod := hr.modTo.mod.nd hn
 have hmod' : 1 ≤ (ns.getD n.toNat default).lv ∧ (ns.getD n.toNat default).lv ≤ 42 := ⟨hl1, hmod.2.1⟩
 have hsd := R7.side_bd (lv := (ns.getD n.toNat default).lv) hmod'.2
 have hsd2 : (2:Int) ^ ((ns.getD n.toNat default).lv).toNat = 2 * R7.side (ns.getD n.toNat default).lv := by
  unfold R7.side
  obtain ⟨k, hk⟩ : ∃ k : Nat, (ns.getD n.toNat default).lv = k + 1 := ⟨((ns.getD n.toNat default).lv - 1).toNat, by omega⟩
  rw [hk]
  have e1 : ((k:Int) + 1).toNat = k + 1 := by omega
  have e2 : ((k:Int) + 1 - 1).toNat = k := by omega
  rw [e1, e2, Int.pow_succ]; omega
 have hn0 := hn.1
 have hn1 := hn.2
 have hsd' := hsd
 unfold R7.side at hsd'
 refine fn_enter2 Try.func51 rfl Try.ntmps51 rfl fun w0 => ?_
 refine tS (tR ?_)
 refine tri_g (opg_box_agg rfl) rfl ?_
 rintro _ _ _ ⟨b2, rfl, rfl, rfl⟩
 refine tA rfl rfl (tN (tT (tS (tR ?_))))
 refine tri_v (opv_fieldAddr rfl rfl) rfl ?_
 refine tri_v (opv_load1 rfl rfl rfl) rfl ?_
 refine tM rfl rfl ?_
 refine tri_v (opv_indexAddrS rfl rfl (by omega) (by omega) (by assumption) rfl) rfl ?_
 refine tri_v (opv_fieldAddrE rfl (by assumption) (by omega) rfl) rfl ?_
 refine tri_v (opv_loadE1 rfl (by assumption) rfl (by omega) rfl rfl) rfl ?_
 refine tri_v (opv_sub rfl rfl (w64 (by omega) (by omega))) rfl ?_
 refine tri_v (opv_shl1 rfl rfl (by omega) (by omega)) rfl ?_
 refine tA rfl rfl (tN (tT (tS (tR ?_))))
 refine tri_v (opv_loadA rfl rfl rfl) rfl ?_
 refine tM rfl rfl (tM rfl rfl ?_)
 refine tri_v (opv_negE rfl (by omega) (by omega)) rfl ?_
 refine tM rfl rfl ?_
 refine tri_v (opv_negE rfl (by omega) (by omega)) rfl ?_
 refine tri_v (opv_buildS rfl rfl) rfl ?_
 refine tri_g (opg_call (xs := [_, _, _]) rfl (ref07_flat (R6.nd ns n).lv.toNat _ _ _ _ _ room _ _ _ ⟨-R7.side (R6.nd ns n).lv, -R7.side (R6.nd ns n).lv⟩ (R7.of ns n) rfl rfl hr hs hn (by unfold R6.nd; omega) (by show _ ∧ -R7.side (ns.getD n.toNat default).lv + 2 ^ ((ns.getD n.toNat default).lv).toNat ≤ _ ∧ _ ∧ -R7.side (ns.getD n.toNat default).lv + 2 ^ ((ns.getD n.toNat default).lv).toNat ≤ _; rw [hsd2]; simp only [R6.nd]; omega) rfl hlen)) rfl ?_
 rintro _ _ J ⟨a1, c1, rfl, hq, rfl, hJ⟩
 refine tA rfl rfl (tN (tT (tri_ret ?_)))
 refine tri_end A Suf.h rfl (.cons (rv_tmp rfl) .nil) ⟨a1, c1, rfl, hq, rfl, hJ⟩
end Go.GL


set_option linter.unusedVariables false
namespace Go.GL
namespace R7
/-! ### What layer 7 tells of nodes -/
def may (ns : List Node) (room n : Int) : Prop := R6.right ns room ∧ 0 ≤ n ∧ n < ns.length ∧ 0 < (R6.nd ns n).lv
instance (ns : List Node) (room n : Int) : Decidable (may ns room n) := inferInstanceAs (Decidable (_ ∧ _))
def cells (ns : List Node) (room n : Int) : List Cell × Int := if may ns room n then (if 2000 < (R6.nd ns n).pop then ([], 3) else R1.of (of ns n)) else ([], 1)
def kidx (x : Node) (k : Nat) : Int := if k = 0 then x.k0 else if k = 1 then x.k1 else if k = 2 then x.k2 else x.k3
/-- Is a cell of a node's square alive? -/
def getL (ns : List Node) : Nat → Int → Cell → Bool
 | 0, n, _ => decide ((R6.nd ns n).pop = 1)
 | lv + 1, n, c => getL ns lv (kidx (R6.nd ns n) (qk c)) (qd (qh (lv + 1)) c)
def getM (ns : List Node) (room n : Int) (c : Cell) : Bool × Int := if may ns room n then (decide (inL (R6.nd ns n).lv c) && getL ns (R6.nd ns n).lv.toNat n c, 0) else (false, 1)
def put1 (ns : List Node) (room : Int) (x : Node) (k : Nat) (m : Int) : List Node × Int × Int :=
 R6.put ns room (if k = 0 then m else x.k0) (if k = 1 then m else x.k1) (if k = 2 then m else x.k2) (if k = 3 then m else x.k3)
/-- A node with a cell changed. -/
def setL (room : Int) (to : Int) : Nat → List Node → Int → Cell → List Node × Int × Int
 | 0, ns, _, _ => (ns, to, 0)
 | lv + 1, ns, n, c =>
  let r := setL room to lv ns (kidx (R6.nd ns n) (qk c)) (qd (qh (lv + 1)) c)
  if r.2.2 ≠ 0 then (ns, 0, r.2.2) else put1 r.1 room (R6.nd ns n) (qk c) r.2.1
def setM (ns : List Node) (room n : Int) (c : Cell) (alive : Bool) : List Node × Int × Int :=
 if may ns room n then
  if inL (R6.nd ns n).lv c then
   let r := setL room (if alive then 1 else 0) (R6.nd ns n).lv.toNat ns n c
   if r.2.2 ≠ 0 then (ns, 0, r.2.2) else r
  else (ns, 0, 2)
 else (ns, 0, 1)
/-- A node of one level more that stands for the same set. -/
def larger (ns : List Node) (room n : Int) : List Node × Int × Int :=
 let d := empty ns room ((R6.nd ns n).lv - 1).toNat
 if d.2.2 ≠ 0 then (ns, 0, d.2.2) else
 let r0 := R6.put d.1 room d.2.1 d.2.1 d.2.1 (R6.nd ns n).k0
 if r0.2.2 ≠ 0 then (ns, 0, r0.2.2) else
 let r1 := R6.put r0.1 room d.2.1 d.2.1 (R6.nd ns n).k1 d.2.1
 if r1.2.2 ≠ 0 then (ns, 0, r1.2.2) else
 let r2 := R6.put r1.1 room d.2.1 (R6.nd ns n).k2 d.2.1 d.2.1
 if r2.2.2 ≠ 0 then (ns, 0, r2.2.2) else
 let r3 := R6.put r2.1 room (R6.nd ns n).k3 d.2.1 d.2.1 d.2.1
 if r3.2.2 ≠ 0 then (ns, 0, r3.2.2) else
 let r4 := R6.put r3.1 room r0.2.1 r1.2.1 r2.2.1 r3.2.1
 if r4.2.2 ≠ 0 then (ns, 0, r4.2.2) else r4
theorem larger_eq {ns : List Node} {room n : Int} {d r0 r1 r2 r3 r4 : List Node × Int × Int} (hd : empty ns room ((R6.nd ns n).lv - 1).toNat = d) (h0 : R6.put d.1 room d.2.1 d.2.1 d.2.1 (R6.nd ns n).k0 = r0) (h1 : R6.put r0.1 room d.2.1 d.2.1 (R6.nd ns n).k1 d.2.1 = r1)
  (h2 : R6.put r1.1 room d.2.1 (R6.nd ns n).k2 d.2.1 d.2.1 = r2) (h3 : R6.put r2.1 room (R6.nd ns n).k3 d.2.1 d.2.1 d.2.1 = r3) (h4 : R6.put r3.1 room r0.2.1 r1.2.1 r2.2.1 r3.2.1 = r4) :
  larger ns room n = if d.2.2 ≠ 0 then (ns, 0, d.2.2) else if r0.2.2 ≠ 0 then (ns, 0, r0.2.2) else if r1.2.2 ≠ 0 then (ns, 0, r1.2.2) else if r2.2.2 ≠ 0 then (ns, 0, r2.2.2) else if r3.2.2 ≠ 0 then (ns, 0, r3.2.2) else if r4.2.2 ≠ 0 then (ns, 0, r4.2.2) else r4 := by
 subst h4; subst h3; subst h2; subst h1; subst h0; subst hd; rfl
theorem larger_err (ns : List Node) (room n : Int) : (larger ns room n).2.2 ≠ 0 → larger ns room n = (ns, 0, (larger ns room n).2.2) := by
 have h := larger_eq (ns := ns) (room := room) (n := n) rfl rfl rfl rfl rfl rfl
 generalize larger ns room n = r at *
 intro hr
 repeat' split at h
 all_goals first | (subst h; rfl) | (rename_i x; rw [← h] at x; exact absurd hr x)
def growM (ns : List Node) (room n : Int) : List Node × Int × Int := if may ns room n ∧ (R6.nd ns n).lv < 42 then larger ns room n else (ns, 0, 1)
end R7
end Go.GL


set_option linter.unusedVariables false
namespace Go.GL
open Go.Proofs
attribute [local irreducible] wpList Code.wp Exit.then Exit.inBlock Ends Tri TriH OpV OpG FnC epf wpAnyH
variable {A : List Asrt} {I : List Chunk}
set_option maxHeartbeats 1000000 in
set_option maxRecDepth 100000 in
theorem square_may {ns : List Node} {a : Option Addr} {cap : Nat} {room n : Int} (hs : StA I a cap ns) (hn : ns.length ≤ 1000000000) :
  FnC Try.prog 46 [storeV a ns.length cap room, .int .i64 n].toArray A I (fun v A' I' => v = .bool (decide (R7.may ns room n)) ∧ A = A' ∧ I = I') := by
 have hss := hs.sl
 skip
 skip
 refine fn_enter2 Try.func46 rfl Try.ntmps46 rfl fun w0 => ?_
 refine tS (tR ?_)
 refine tri_g (opg_box_agg rfl) rfl ?_
 rintro _ _ _ ⟨b2, rfl, rfl, rfl⟩
 refine tA rfl rfl (tN (tT (tS (tR ?_))))
 refine tri_v (opv_loadA rfl rfl rfl) rfl ?_
 refine tri_g (opg_call (xs := [_]) rfl (node_right hs hn)) rfl ?_
 rintro _ _ _ ⟨rfl, rfl, rfl⟩
 refine tM rfl rfl ?_
 refine tri_split rfl rfl (fun h1 => ?_) (fun h1 => ?_)
 ·refine tri_guard_run rfl rfl rfl (tM rfl rfl (tri_guard_run rfl rfl rfl ?_))
  refine tri_v (opv_geq rfl rfl) rfl ?_
  refine tri_v (opv_pick_t rfl rfl) rfl ?_
  refine tM rfl rfl ?_
  refine tri_split rfl rfl (fun h2 => ?_) (fun h2 => ?_)
  ·refine tri_guard_run rfl rfl rfl (tM rfl rfl (tri_guard_run rfl rfl rfl ?_))
   refine tri_v (opv_fieldAddr rfl rfl) rfl ?_
   refine tri_guard_run rfl rfl rfl ?_
   refine tri_v (opv_load1 rfl rfl rfl) rfl ?_
   refine tri_guard_run rfl rfl rfl ?_
   refine tri_v (opv_len rfl) rfl ?_
   refine tri_guard_run rfl rfl rfl ?_
   refine tri_v (opv_lss rfl rfl) rfl ?_
   refine tri_v (opv_pick_t rfl rfl) rfl ?_
   refine tM rfl rfl ?_
   refine tri_split rfl rfl (fun h3 => ?_) (fun h3 => ?_)
   ·refine tri_guard_run rfl rfl rfl ?_
    refine tri_v (opv_fieldAddr rfl rfl) rfl ?_
    refine tri_guard_run rfl rfl rfl ?_
    refine tri_v (opv_load1 rfl rfl rfl) rfl ?_
    refine tri_guard_run rfl rfl rfl (tM rfl rfl (tri_guard_run rfl rfl rfl ?_))
    refine tri_v (opv_indexAddrS rfl rfl (by omega) (by omega) (by assumption) rfl) rfl ?_
    refine tri_guard_run rfl rfl rfl ?_
    refine tri_v (opv_fieldAddrE rfl (by assumption) (by omega) rfl) rfl ?_
    refine tri_guard_run rfl rfl rfl ?_
    refine tri_v (opv_loadE1 rfl (by assumption) rfl (by omega) rfl rfl) rfl ?_
    refine tri_guard_run rfl rfl rfl ?_
    refine tri_v (opv_gtr rfl rfl) rfl ?_
    refine tri_v (opv_pick_t rfl rfl) rfl ?_
    refine tA rfl rfl (tN (tT (tri_ret ?_)))
    refine tri_end A Suf.h rfl (.cons (rv_tmp rfl) .nil) ⟨congrArg Value.bool (decide_eq_decide.2 ⟨fun h => ⟨h1, h2, h3, h⟩, fun h => h.2.2.2⟩), rfl, rfl⟩
   ·refine tri_guard_skip rfl rfl rfl rfl (tri_guard_skip rfl rfl rfl rfl (tri_guard_skip rfl rfl rfl rfl (tri_guard_skip rfl rfl rfl rfl (tri_guard_skip rfl rfl rfl rfl (tri_guard_skip rfl rfl rfl rfl (tri_guard_skip rfl rfl rfl rfl ?_))))))
    refine tri_v (opv_pick_f rfl rfl) rfl ?_
    refine tA rfl rfl (tN (tT (tri_ret ?_)))
    refine tri_end A Suf.h rfl (.cons (rv_tmp rfl) .nil) ⟨congrArg Value.bool (decide_eq_false fun h => h3 h.2.2.1).symm, rfl, rfl⟩
  ·refine tri_guard_skip rfl rfl rfl rfl (tri_guard_skip rfl rfl rfl rfl (tri_guard_skip rfl rfl rfl rfl (tri_guard_skip rfl rfl rfl rfl (tri_guard_skip rfl rfl rfl rfl ?_))))
   refine tri_v (opv_pick_f rfl rfl) rfl ?_
   refine tM rfl rfl (tri_guard_skip rfl rfl rfl rfl (tri_guard_skip rfl rfl rfl rfl (tri_guard_skip rfl rfl rfl rfl (tri_guard_skip rfl rfl rfl rfl (tri_guard_skip rfl rfl rfl rfl (tri_guard_skip rfl rfl rfl rfl (tri_guard_skip rfl rfl rfl rfl ?_)))))))
   refine tri_v (opv_pick_f rfl rfl) rfl ?_
   refine tA rfl rfl (tN (tT (tri_ret ?_)))
   refine tri_end A Suf.h rfl (.cons (rv_tmp rfl) .nil) ⟨congrArg Value.bool (decide_eq_false fun h => h2 h.2.1).symm, rfl, rfl⟩
 ·refine tri_guard_skip rfl rfl rfl rfl (tri_guard_skip rfl rfl rfl rfl ?_)
  refine tri_v (opv_pick_f rfl rfl) rfl ?_
  refine tM rfl rfl (tri_guard_skip rfl rfl rfl rfl (tri_guard_skip rfl rfl rfl rfl (tri_guard_skip rfl rfl rfl rfl (tri_guard_skip rfl rfl rfl rfl (tri_guard_skip rfl rfl rfl rfl ?_)))))
  refine tri_v (opv_pick_f rfl rfl) rfl ?_
  refine tM rfl rfl (tri_guard_skip rfl rfl rfl rfl (tri_guard_skip rfl rfl rfl rfl (tri_guard_skip rfl rfl rfl rfl (tri_guard_skip rfl rfl rfl rfl (tri_guard_skip rfl rfl rfl rfl (tri_guard_skip rfl rfl rfl rfl (tri_guard_skip rfl rfl rfl rfl ?_)))))))
  refine tri_v (opv_pick_f rfl rfl) rfl ?_
  refine tA rfl rfl (tN (tT (tri_ret ?_)))
  refine tri_end A Suf.h rfl (.cons (rv_tmp rfl) .nil) ⟨congrArg Value.bool (decide_eq_false fun h => h1 h.1).symm, rfl, rfl⟩
end Go.GL


set_option linter.unusedVariables false
namespace Go.GL
open Go.Proofs
attribute [local irreducible] wpList Code.wp Exit.then Exit.inBlock Ends Tri TriH OpV OpG FnC epf wpAnyH
/-- Cells in an own row. -/
abbrev rowC (b : Option Addr) (cap : Nat) (out : List Cell) : Asrt := Row b cap out.length 28 2 (encs out)
/-- The corner of a square about a place. -/
def R7.cn (lv : Nat) (c : Cell) : Cell := match lv with
 | 0 => c
 | m + 1 => ⟨c.x - 2 ^ m, c.y - 2 ^ m⟩
/-- How far the program goes from a square's middle to its quarters'. -/
def R7.hh (m : Nat) : Int := if m = 0 then 1 else R7.qh (m + 1)
theorem R7.hh_ok (m : Nat) (c : Cell) (dx dy : Int) : R7.cn m ⟨c.x - R7.hh m + dx, c.y - R7.hh m + dy⟩ = ⟨(R7.cn (m + 1) c).x + dx, (R7.cn (m + 1) c).y + dy⟩ := by
 unfold R7.hh R7.cn
 cases m with
 | zero => rfl
 | succ m =>
  simp only [Nat.succ_ne_zero, if_false, R7.p2h, Cell.mk.injEq, Nat.add_eq_zero_iff, and_false]
  have : (2:Int) ^ (m + 1) = 2 ^ m * 2 := Int.pow_succ 2 m
  rw [this]
  generalize (2:Int) ^ m = k
  omega
def EachSpec (lv : Nat) : Prop := ∀ (A : List Asrt) (I : List Chunk) (ns : List Node) (a b : Option Addr) (cap cap2 : Nat) (room n cx cy : Int) (c : Cell) (out r : List Cell), cx = c.x → cy = c.y → R6.right ns room → SlAt I a ns → R6.inS ns n → (R6.nd ns n).lv = lv →
 -1152921504606846976 ≤ c.x - 2 ^ lv ∧ c.x + 2 ^ lv ≤ 1152921504606846976 ∧ -1152921504606846976 ≤ c.y - 2 ^ lv ∧ c.y + 2 ^ lv ≤ 1152921504606846976 → R7.flat ns lv n (R7.cn lv c) = r → out.length + r.length ≤ 100000000 →
 FnC Try.prog 48 [storeV a ns.length cap room, .int .i64 n, .agg [.int .i64 cx, .int .i64 cy].toArray, .slice b out.length cap2].toArray (Row b cap2 out.length 28 2 (encs out) :: A) I (fun v A' I' => ∃ b' cap', v = .slice b' (out ++ r).length cap' ∧ A' = Row b' cap' (out ++ r).length 28 2 (encs (out ++ r)) :: A ∧ I = I')
set_option maxHeartbeats 2000000 in
set_option maxRecDepth 100000 in
theorem square_each_step (lv : Nat) (ih : ∀ m, m < lv → EachSpec m) : EachSpec lv := by
 intro A I ns a b cap cap2 room n cx cy c out r hcx hcy hr hs hn hlv hc hfl hlen
 subst hcx; subst hcy
 obtain ⟨hn0, hn1⟩ := hn
 have hmod := hr.modTo.mod.nd ⟨hn0, hn1⟩
 have hmod' : 0 ≤ (ns.getD n.toNat default).lv ∧ (ns.getD n.toNat default).lv ≤ 42 := ⟨hmod.1, hmod.2.1⟩
 have hlv' : (ns.getD n.toNat default).lv = lv := hlv
 have hp : ((2 : Int) ^ lv) / 2 ^ 2 = R7.qh lv := rfl
 obtain ⟨hq0, hq1⟩ := R7.qh_bd (lv := lv) (by omega)
 skip
 skip
 refine fn_enter4 Try.func48 rfl Try.ntmps48 rfl fun w0 => ?_
 refine tS (tR ?_)
 refine tri_g (opg_box_agg rfl) rfl ?_
 rintro _ _ _ ⟨b4, rfl, rfl, rfl⟩
 refine tri_g (opg_box_agg rfl) rfl ?_
 rintro _ _ _ ⟨b6, rfl, rfl, rfl⟩
 refine tA rfl rfl (tN (tT (tS (tR ?_))))
 refine tri_v (opv_fieldAddr rfl rfl) rfl ?_
 refine tri_v (opv_load1 rfl rfl rfl) rfl ?_
 refine tM rfl rfl ?_
 refine tri_v (opv_indexAddrS rfl rfl (by omega) (by omega) (by assumption) rfl) rfl ?_
 refine tri_v (opv_loadEA rfl (by assumption) rfl (by omega) rfl rfl) rfl ?_
 refine tri_g opg_alloc rfl ?_
 rintro _ _ _ ⟨b9, rfl, rfl, rfl⟩
 refine tri_g (opg_store rfl rfl rfl rfl rfl rfl) rfl ?_
 rintro _ _ _ ⟨rfl, rfl⟩
 refine tN (tT (tS (tri_block (tS (tR ?_)))))
 refine tri_v (opv_fieldAddr rfl rfl) rfl ?_
 refine tri_v (opv_load1 rfl rfl rfl) rfl ?_
 refine tri_v (opv_eql rfl rfl) rfl ?_
 refine tA rfl rfl (tN (tT ?_))
 refine tri_cond_dec rfl (fun h0 => ?_) (fun h0 => ?_)
 ·rw [R7.flat_dead h0] at hfl
  subst hfl
  refine tS (tR (tM rfl rfl (tA rfl rfl (tN (tT (tri_ret ?_))))))
  refine tri_inBlock_ret ?_
  refine tri_then_ret ?_
  refine tri_end (rowC b cap2 out :: A) Suf.h rfl (.cons (rv_tmp rfl) .nil) ⟨b, cap2, by rw [List.append_nil]; rfl, by rw [List.append_nil], rfl⟩
 refine tS (tR ?_)
 refine tri_v (opv_fieldAddr rfl rfl) rfl ?_
 refine tri_v (opv_load1 rfl rfl rfl) rfl ?_
 refine tri_v (opv_eql rfl rfl) rfl ?_
 refine tA rfl rfl (tN (tT ?_))
 refine tri_cond_dec rfl (fun h1 => ?_) (fun h1 => ?_)
 ·have hl0 : lv = 0 := by
   have h2 : (R6.nd ns n).lv = 0 := h1
   omega
  subst hl0
  rw [R7.flat_zero h0] at hfl
  subst hfl
  have e1 : out ++ [R7.cn 0 c] = out ++ [c] := rfl
  have e2 : encs (out ++ [c]) = encs out ++ [.int .i64 c.x, .int .i64 c.y] := by rw [encs_append]; rfl
  refine tS (tR (tM rfl rfl ?_))
  refine tri_v (opv_loadA rfl rfl rfl) rfl ?_
  refine tri_g (opg_buildSlice rfl rfl rfl rfl) rfl ?_
  rintro _ _ _ ⟨b31, rfl, rfl, rfl⟩
  refine tri_g (opg_appendB rfl rfl rfl rfl (by omega) rfl) rfl ?_
  rintro _ _ _ ⟨aa, cc, rfl, rfl, rfl⟩
  refine tA rfl rfl (tN (tT (tri_ret ?_)))
  refine tri_inBlock_ret ?_
  refine tri_then_ret ?_
  refine tri_end (Row aa cc (out.length + 1) 28 2 (encs out ++ [.int .i64 c.x, .int .i64 c.y]) :: A) ⟨[_, _, _, _], rfl⟩ rfl (.cons (rv_tmp rfl) .nil) ⟨aa, cc, by rw [e1, List.length_append]; rfl, by rw [e1, e2, List.length_append]; rfl, rfl⟩
 have hl0 : ¬ (R6.nd ns n).lv = 0 := h1
 obtain ⟨m, rfl⟩ : ∃ m, lv = m + 1 := ⟨lv - 1, by omega⟩
 have hfl := (show R7.flat ns (m + 1) n (R7.cn (m + 1) c) = R7.flat ns m (R6.nd ns n).k0 ⟨(R7.cn (m + 1) c).x + 0, (R7.cn (m + 1) c).y + 0⟩ ++ R7.flat ns m (R6.nd ns n).k1 ⟨(R7.cn (m + 1) c).x + 2 ^ m, (R7.cn (m + 1) c).y + 0⟩ ++ R7.flat ns m (R6.nd ns n).k2 ⟨(R7.cn (m + 1) c).x + 0, (R7.cn (m + 1) c).y + 2 ^ m⟩ ++ R7.flat ns m (R6.nd ns n).k3 ⟨(R7.cn (m + 1) c).x + 2 ^ m, (R7.cn (m + 1) c).y + 2 ^ m⟩ by rw [R7.flat_succ h0]; simp only [Int.add_zero]).symm.trans hfl
 have kid := fun q hq => hr.kidN ⟨hn0, hn1⟩ hlv (q := q) hq
 have hpow : (2:Int) ^ (m + 1) = 2 ^ m * 2 := Int.pow_succ 2 m
 have hpos : (0:Int) < 2 ^ m := Int.pow_pos (by omega)
 have hple : (2:Int) ^ m ≤ 2199023255552 := by
  have h3 : (2:Nat) ^ m ≤ 2 ^ 41 := Nat.pow_le_pow_right (by omega) (by omega)
  have h4 : (2:Int) ^ m = ((2 ^ m : Nat) : Int) := by simp
  rw [h4]
  generalize (2:Nat) ^ m = k at h3
  omega
 rw [hpow] at hc
 obtain ⟨hc1, hc2, hc3, hc4⟩ := hc
 obtain ⟨r0, hr0⟩ : ∃ r, R7.flat ns m (R6.nd ns n).k0 ⟨(R7.cn (m + 1) c).x + 0, (R7.cn (m + 1) c).y + 0⟩ = r := ⟨_, rfl⟩
 obtain ⟨r1, hr1⟩ : ∃ r, R7.flat ns m (R6.nd ns n).k1 ⟨(R7.cn (m + 1) c).x + 2 ^ m, (R7.cn (m + 1) c).y + 0⟩ = r := ⟨_, rfl⟩
 obtain ⟨r2, hr2⟩ : ∃ r, R7.flat ns m (R6.nd ns n).k2 ⟨(R7.cn (m + 1) c).x + 0, (R7.cn (m + 1) c).y + 2 ^ m⟩ = r := ⟨_, rfl⟩
 obtain ⟨r3, hr3⟩ : ∃ r, R7.flat ns m (R6.nd ns n).k3 ⟨(R7.cn (m + 1) c).x + 2 ^ m, (R7.cn (m + 1) c).y + 2 ^ m⟩ = r := ⟨_, rfl⟩
 rw [hr0, hr1, hr2, hr3] at hfl
 subst hfl
 simp only [List.length_append] at hlen
 have hh := R7.hh_ok m c
 skip
 refine tri_skip ?_
 refine tri_inBlock ?_
 refine tT (tS (tR ?_))
 refine tri_v (opv_fieldAddr rfl rfl) rfl ?_
 refine tri_v (opv_load1 rfl rfl rfl) rfl ?_
 refine tri_v (opv_shl1 rfl rfl (by omega) (by omega)) rfl ?_
 skip
 refine tri_v (opv_shrN (k := 2) rfl rfl (by exact Int.le_of_lt (Int.pow_pos (by decide))) rfl (by decide)) rfl ?_
 rw [show (2:Int) ^ (ns.getD n.toNat default).lv.toNat / 2 ^ 2 = R7.qh (m + 1) by rw [hlv', Int.toNat_natCast]; rfl]
 refine tA rfl rfl (tN (tT (tS (tS (tR ?_)))))
 refine tri_v (opv_fieldAddr rfl rfl) rfl ?_
 refine tri_v (opv_loadA rfl rfl rfl) rfl ?_
 refine tM rfl rfl (tN (tT (tri_block ?_)))
 refine tri_sub (F' := [(3, .slice b out.length cap2), (4, pt b4 0), (6, pt b6 0), (9, pt b9 0), (10, .int .i64 (R7.qh (m + 1))), (38, .agg [.int .i64 (ns.getD n.toNat default).k0, .int .i64 (ns.getD n.toNat default).k1, .int .i64 (ns.getD n.toNat default).k2, .int .i64 (ns.getD n.toNat default).k3].toArray), (39, .int .i64 (0 : Int))]) ⟨rfl, rfl, rfl, rfl, rfl, rfl, rfl, trivial⟩ ?_
 have hhb : 0 ≤ R7.hh m ∧ R7.hh m ≤ 2 ^ m := by
  unfold R7.hh
  split
  ·omega
  ·obtain ⟨j, rfl⟩ : ∃ j, m = j + 1 := ⟨m - 1, by omega⟩
   rw [R7.p2h]
   have e : (2:Int) ^ (j + 1) = 2 ^ j * 2 := Int.pow_succ 2 j
   have e2 : (0:Int) < 2 ^ j := Int.pow_pos (by omega)
   omega
 obtain ⟨hhb0, hhb1⟩ := hhb
 rcases Nat.eq_zero_or_pos m with e0 | e0
 ·have hq : R7.qh (m + 1) = 0 := by
   subst e0; decide
  have hst : (if (2 * 0 : Int) < 1 then 1 else 2 * 0) = (2:Int) ^ m := by
   subst e0; decide
  have hh1 : R7.hh m = 1 := if_pos e0
  rw [hq]
  refine tri_rounds 5 ?_
  refine tri_round ?_
  refine tS (tR ?_)
  refine tri_v (opv_lss rfl rfl) rfl ?_
  refine tN (tT (tS ?_))
  refine tri_cond_is rfl (by decide) ?_
  refine tri_skip (tT (tS (tri_block (tS (tR (tM rfl rfl ?_))))))
  refine tri_v (opv_index rfl rfl (by decide) (by decide) rfl rfl) rfl ?_
  refine tA rfl rfl (tA rfl rfl (tN (tT (tS (tR ?_)))))
  refine tri_v (opv_fieldAddr rfl rfl) rfl ?_
  refine tri_v (opv_load1 rfl rfl rfl) rfl ?_
  refine tM rfl rfl ?_
  refine tri_v (opv_sub rfl rfl (w64 (by omega) (by omega))) rfl ?_
  refine tri_v (opv_fieldAddr rfl rfl) rfl ?_
  refine tri_v (opv_load1 rfl rfl rfl) rfl ?_
  refine tM rfl rfl ?_
  refine tri_v (opv_sub rfl rfl (w64 (by omega) (by omega))) rfl ?_
  refine tri_v (opv_buildS rfl rfl) rfl ?_
  refine tri_g opg_alloc rfl ?_
  rintro _ _ _ ⟨b13, rfl, rfl, rfl⟩
  refine tri_g (opg_store rfl rfl rfl rfl rfl rfl) rfl ?_
  rintro _ _ _ ⟨rfl, rfl⟩
  refine tN (tT (tS (tS (tR ?_))))
  refine tri_v (opv_fieldAddr rfl rfl) rfl ?_
  refine tri_v (opv_load1 rfl rfl rfl) rfl ?_
  refine tri_v (opv_eql rfl rfl) rfl ?_
  refine tN (tT ?_)
  refine tri_cond_is rfl (by omega) ?_
  refine tR ?_
  refine tri_v (opv_fieldAddr rfl rfl) rfl ?_
  refine tri_v (opv_load1 rfl rfl rfl) rfl ?_
  refine tri_v (opv_sub rfl rfl (w64 (by omega) (by omega))) rfl ?_
  refine tri_v (opv_fieldAddr rfl rfl) rfl ?_
  refine tri_v (opv_load1 rfl rfl rfl) rfl ?_
  refine tri_v (opv_sub rfl rfl (w64 (by omega) (by omega))) rfl ?_
  refine tri_v (opv_buildS rfl rfl) rfl ?_
  refine tri_g (opg_store rfl rfl rfl rfl rfl rfl) rfl ?_
  rintro _ _ _ ⟨rfl, rfl⟩
  refine tN (tT (tS (tR (tM rfl rfl ?_))))
  refine tri_v (opv_mul rfl rfl (w64 (by omega) (by omega))) rfl ?_
  refine tri_v (opv_max2 rfl rfl) rfl ?_
  rw [hst]
  refine tA rfl rfl (tN (tT (tR ?_)))
  refine tri_v (opv_loadA rfl rfl rfl) rfl ?_
  refine tM rfl rfl ?_
  refine tri_v (opv_fieldAddr rfl rfl) rfl ?_
  refine tri_v (opv_load1 rfl rfl rfl) rfl ?_
  refine tM rfl rfl ?_
  refine tri_v (opv_remE rfl rfl (by omega) (by omega)) rfl ?_
  refine tM rfl rfl ?_
  refine tri_v (opv_mul rfl rfl (w64 (by omega) (by omega))) rfl ?_
  refine tU rfl rfl (by omega) (by omega) rfl ?_
  refine tri_v (opv_fieldAddr rfl rfl) rfl ?_
  refine tri_v (opv_load1 rfl rfl rfl) rfl ?_
  refine tM rfl rfl ?_
  refine tri_v (opv_quoE rfl rfl (by omega) (by omega) (by omega)) rfl ?_
  refine tM rfl rfl ?_
  refine tri_v (opv_mul rfl rfl (w64 (by omega) (by omega))) rfl ?_
  refine tU rfl rfl (by omega) (by omega) rfl ?_
  refine tri_v (opv_buildS rfl rfl) rfl ?_
  refine tM rfl rfl ?_
  refine tri_perm (A := ?a1_0 :: ?a1_1 :: ?a1_2 :: ?a1_3 :: ?a1_4 :: ?T1) (B := ?a1_4 :: ?a1_0 :: ?a1_1 :: ?a1_2 :: ?a1_3 :: ?T1) (by exact permL [4, 0, 1, 2, 3] [?a1_0, ?a1_1, ?a1_2, ?a1_3, ?a1_4] ?T1 (by decide) rfl) ?_
  refine tri_g (opg_call (xs := [_, _, _, _]) rfl (ih m (by omega) _ _ _ _ _ _ _ room _ _ _ ⟨c.x - R7.hh m + 0, c.y - R7.hh m + 0⟩ out r0 (by simp only; omega) (by simp only; omega) hr hs (kid _ (by simp [Node.kids, R6.nd])).1 (kid _ (by simp [Node.kids, R6.nd])).2.2 (by simp only; omega) ((congrArg (R7.flat ns m _) (R7.hh_ok m c (0) (0))).trans hr0) (by omega))) rfl ?_
  rintro _ _ _ ⟨b0', q0, rfl, rfl, rfl⟩
  refine tA rfl rfl (tN ?_)
  refine tri_inBlock ?_
  refine tT (tR ?_)
  refine tU rfl rfl (by omega) (by omega) rfl ?_
  refine tM rfl rfl (tN (tT ?_))
  refine tri_round ?_
  refine tS (tR ?_)
  refine tri_v (opv_lss rfl rfl) rfl ?_
  refine tN (tT (tS ?_))
  refine tri_perm (A := ?a2_0 :: ?a2_1 :: ?T2) (B := ?a2_1 :: ?a2_0 :: ?T2) (by exact permL [1, 0] [?a2_0, ?a2_1] ?T2 (by decide) rfl) ?_
  refine tri_drop ?_
  skip
  refine tri_cond_is rfl (by decide) ?_
  refine tri_skip (tT (tS (tri_block (tS (tR (tM rfl rfl ?_))))))
  refine tri_v (opv_index rfl rfl (by decide) (by decide) rfl rfl) rfl ?_
  refine tA rfl rfl (tA rfl rfl (tN (tT (tS (tR ?_)))))
  refine tri_v (opv_fieldAddr rfl rfl) rfl ?_
  refine tri_v (opv_load1 rfl rfl rfl) rfl ?_
  refine tM rfl rfl ?_
  refine tri_v (opv_sub rfl rfl (w64 (by omega) (by omega))) rfl ?_
  refine tri_v (opv_fieldAddr rfl rfl) rfl ?_
  refine tri_v (opv_load1 rfl rfl rfl) rfl ?_
  refine tM rfl rfl ?_
  refine tri_v (opv_sub rfl rfl (w64 (by omega) (by omega))) rfl ?_
  refine tri_v (opv_buildS rfl rfl) rfl ?_
  refine tri_g opg_alloc rfl ?_
  rintro _ _ _ ⟨b13, rfl, rfl, rfl⟩
  refine tri_g (opg_store rfl rfl rfl rfl rfl rfl) rfl ?_
  rintro _ _ _ ⟨rfl, rfl⟩
  refine tN (tT (tS (tS (tR ?_))))
  refine tri_v (opv_fieldAddr rfl rfl) rfl ?_
  refine tri_v (opv_load1 rfl rfl rfl) rfl ?_
  refine tri_v (opv_eql rfl rfl) rfl ?_
  refine tN (tT ?_)
  refine tri_cond_is rfl (by omega) ?_
  refine tR ?_
  refine tri_v (opv_fieldAddr rfl rfl) rfl ?_
  refine tri_v (opv_load1 rfl rfl rfl) rfl ?_
  refine tri_v (opv_sub rfl rfl (w64 (by omega) (by omega))) rfl ?_
  refine tri_v (opv_fieldAddr rfl rfl) rfl ?_
  refine tri_v (opv_load1 rfl rfl rfl) rfl ?_
  refine tri_v (opv_sub rfl rfl (w64 (by omega) (by omega))) rfl ?_
  refine tri_v (opv_buildS rfl rfl) rfl ?_
  refine tri_g (opg_store rfl rfl rfl rfl rfl rfl) rfl ?_
  rintro _ _ _ ⟨rfl, rfl⟩
  refine tN (tT (tS (tR (tM rfl rfl ?_))))
  refine tri_v (opv_mul rfl rfl (w64 (by omega) (by omega))) rfl ?_
  refine tri_v (opv_max2 rfl rfl) rfl ?_
  rw [hst]
  refine tA rfl rfl (tN (tT (tR ?_)))
  refine tri_v (opv_loadA rfl rfl rfl) rfl ?_
  refine tM rfl rfl ?_
  refine tri_v (opv_fieldAddr rfl rfl) rfl ?_
  refine tri_v (opv_load1 rfl rfl rfl) rfl ?_
  refine tM rfl rfl ?_
  refine tri_v (opv_remE rfl rfl (by omega) (by omega)) rfl ?_
  refine tM rfl rfl ?_
  refine tri_v (opv_mul rfl rfl (w64 (by omega) (by omega))) rfl ?_
  refine tU rfl rfl (by omega) (by omega) rfl ?_
  refine tri_v (opv_fieldAddr rfl rfl) rfl ?_
  refine tri_v (opv_load1 rfl rfl rfl) rfl ?_
  refine tM rfl rfl ?_
  refine tri_v (opv_quoE rfl rfl (by omega) (by omega) (by omega)) rfl ?_
  refine tM rfl rfl ?_
  refine tri_v (opv_mul rfl rfl (w64 (by omega) (by omega))) rfl ?_
  refine tU rfl rfl (by omega) (by omega) rfl ?_
  refine tri_v (opv_buildS rfl rfl) rfl ?_
  refine tM rfl rfl ?_
  refine tri_perm (A := ?a3_0 :: ?a3_1 :: ?T3) (B := ?a3_1 :: ?a3_0 :: ?T3) (by exact permL [1, 0] [?a3_0, ?a3_1] ?T3 (by decide) rfl) ?_
  refine tri_g (opg_call (xs := [_, _, _, _]) rfl (ih m (by omega) _ _ _ _ _ _ _ room _ _ _ ⟨c.x - R7.hh m + 2 ^ m, c.y - R7.hh m + 0⟩ (out ++ r0) r1 (by simp only; omega) (by simp only; omega) hr hs (kid _ (by simp [Node.kids, R6.nd])).1 (kid _ (by simp [Node.kids, R6.nd])).2.2 (by simp only; omega) ((congrArg (R7.flat ns m _) (R7.hh_ok m c (2 ^ m) (0))).trans hr1) (by simp only [List.length_append]; omega))) rfl ?_
  rintro _ _ _ ⟨b1', q1, rfl, rfl, rfl⟩
  refine tA rfl rfl (tN ?_)
  refine tri_inBlock ?_
  refine tT (tR ?_)
  refine tU rfl rfl (by omega) (by omega) rfl ?_
  refine tM rfl rfl (tN (tT ?_))
  refine tri_round ?_
  refine tS (tR ?_)
  refine tri_v (opv_lss rfl rfl) rfl ?_
  refine tN (tT (tS ?_))
  refine tri_perm (A := ?a4_0 :: ?a4_1 :: ?T4) (B := ?a4_1 :: ?a4_0 :: ?T4) (by exact permL [1, 0] [?a4_0, ?a4_1] ?T4 (by decide) rfl) ?_
  refine tri_drop ?_
  skip
  refine tri_cond_is rfl (by decide) ?_
  refine tri_skip (tT (tS (tri_block (tS (tR (tM rfl rfl ?_))))))
  refine tri_v (opv_index rfl rfl (by decide) (by decide) rfl rfl) rfl ?_
  refine tA rfl rfl (tA rfl rfl (tN (tT (tS (tR ?_)))))
  refine tri_v (opv_fieldAddr rfl rfl) rfl ?_
  refine tri_v (opv_load1 rfl rfl rfl) rfl ?_
  refine tM rfl rfl ?_
  refine tri_v (opv_sub rfl rfl (w64 (by omega) (by omega))) rfl ?_
  refine tri_v (opv_fieldAddr rfl rfl) rfl ?_
  refine tri_v (opv_load1 rfl rfl rfl) rfl ?_
  refine tM rfl rfl ?_
  refine tri_v (opv_sub rfl rfl (w64 (by omega) (by omega))) rfl ?_
  refine tri_v (opv_buildS rfl rfl) rfl ?_
  refine tri_g opg_alloc rfl ?_
  rintro _ _ _ ⟨b13, rfl, rfl, rfl⟩
  refine tri_g (opg_store rfl rfl rfl rfl rfl rfl) rfl ?_
  rintro _ _ _ ⟨rfl, rfl⟩
  refine tN (tT (tS (tS (tR ?_))))
  refine tri_v (opv_fieldAddr rfl rfl) rfl ?_
  refine tri_v (opv_load1 rfl rfl rfl) rfl ?_
  refine tri_v (opv_eql rfl rfl) rfl ?_
  refine tN (tT ?_)
  refine tri_cond_is rfl (by omega) ?_
  refine tR ?_
  refine tri_v (opv_fieldAddr rfl rfl) rfl ?_
  refine tri_v (opv_load1 rfl rfl rfl) rfl ?_
  refine tri_v (opv_sub rfl rfl (w64 (by omega) (by omega))) rfl ?_
  refine tri_v (opv_fieldAddr rfl rfl) rfl ?_
  refine tri_v (opv_load1 rfl rfl rfl) rfl ?_
  refine tri_v (opv_sub rfl rfl (w64 (by omega) (by omega))) rfl ?_
  refine tri_v (opv_buildS rfl rfl) rfl ?_
  refine tri_g (opg_store rfl rfl rfl rfl rfl rfl) rfl ?_
  rintro _ _ _ ⟨rfl, rfl⟩
  refine tN (tT (tS (tR (tM rfl rfl ?_))))
  refine tri_v (opv_mul rfl rfl (w64 (by omega) (by omega))) rfl ?_
  refine tri_v (opv_max2 rfl rfl) rfl ?_
  rw [hst]
  refine tA rfl rfl (tN (tT (tR ?_)))
  refine tri_v (opv_loadA rfl rfl rfl) rfl ?_
  refine tM rfl rfl ?_
  refine tri_v (opv_fieldAddr rfl rfl) rfl ?_
  refine tri_v (opv_load1 rfl rfl rfl) rfl ?_
  refine tM rfl rfl ?_
  refine tri_v (opv_remE rfl rfl (by omega) (by omega)) rfl ?_
  refine tM rfl rfl ?_
  refine tri_v (opv_mul rfl rfl (w64 (by omega) (by omega))) rfl ?_
  refine tU rfl rfl (by omega) (by omega) rfl ?_
  refine tri_v (opv_fieldAddr rfl rfl) rfl ?_
  refine tri_v (opv_load1 rfl rfl rfl) rfl ?_
  refine tM rfl rfl ?_
  refine tri_v (opv_quoE rfl rfl (by omega) (by omega) (by omega)) rfl ?_
  refine tM rfl rfl ?_
  refine tri_v (opv_mul rfl rfl (w64 (by omega) (by omega))) rfl ?_
  refine tU rfl rfl (by omega) (by omega) rfl ?_
  refine tri_v (opv_buildS rfl rfl) rfl ?_
  refine tM rfl rfl ?_
  refine tri_perm (A := ?a5_0 :: ?a5_1 :: ?T5) (B := ?a5_1 :: ?a5_0 :: ?T5) (by exact permL [1, 0] [?a5_0, ?a5_1] ?T5 (by decide) rfl) ?_
  refine tri_g (opg_call (xs := [_, _, _, _]) rfl (ih m (by omega) _ _ _ _ _ _ _ room _ _ _ ⟨c.x - R7.hh m + 0, c.y - R7.hh m + 2 ^ m⟩ (out ++ r0 ++ r1) r2 (by simp only; omega) (by simp only; omega) hr hs (kid _ (by simp [Node.kids, R6.nd])).1 (kid _ (by simp [Node.kids, R6.nd])).2.2 (by simp only; omega) ((congrArg (R7.flat ns m _) (R7.hh_ok m c (0) (2 ^ m))).trans hr2) (by simp only [List.length_append]; omega))) rfl ?_
  rintro _ _ _ ⟨b2', q2, rfl, rfl, rfl⟩
  refine tA rfl rfl (tN ?_)
  refine tri_inBlock ?_
  refine tT (tR ?_)
  refine tU rfl rfl (by omega) (by omega) rfl ?_
  refine tM rfl rfl (tN (tT ?_))
  refine tri_round ?_
  refine tS (tR ?_)
  refine tri_v (opv_lss rfl rfl) rfl ?_
  refine tN (tT (tS ?_))
  refine tri_perm (A := ?a6_0 :: ?a6_1 :: ?T6) (B := ?a6_1 :: ?a6_0 :: ?T6) (by exact permL [1, 0] [?a6_0, ?a6_1] ?T6 (by decide) rfl) ?_
  refine tri_drop ?_
  skip
  refine tri_cond_is rfl (by decide) ?_
  refine tri_skip (tT (tS (tri_block (tS (tR (tM rfl rfl ?_))))))
  refine tri_v (opv_index rfl rfl (by decide) (by decide) rfl rfl) rfl ?_
  refine tA rfl rfl (tA rfl rfl (tN (tT (tS (tR ?_)))))
  refine tri_v (opv_fieldAddr rfl rfl) rfl ?_
  refine tri_v (opv_load1 rfl rfl rfl) rfl ?_
  refine tM rfl rfl ?_
  refine tri_v (opv_sub rfl rfl (w64 (by omega) (by omega))) rfl ?_
  refine tri_v (opv_fieldAddr rfl rfl) rfl ?_
  refine tri_v (opv_load1 rfl rfl rfl) rfl ?_
  refine tM rfl rfl ?_
  refine tri_v (opv_sub rfl rfl (w64 (by omega) (by omega))) rfl ?_
  refine tri_v (opv_buildS rfl rfl) rfl ?_
  refine tri_g opg_alloc rfl ?_
  rintro _ _ _ ⟨b13, rfl, rfl, rfl⟩
  refine tri_g (opg_store rfl rfl rfl rfl rfl rfl) rfl ?_
  rintro _ _ _ ⟨rfl, rfl⟩
  refine tN (tT (tS (tS (tR ?_))))
  refine tri_v (opv_fieldAddr rfl rfl) rfl ?_
  refine tri_v (opv_load1 rfl rfl rfl) rfl ?_
  refine tri_v (opv_eql rfl rfl) rfl ?_
  refine tN (tT ?_)
  refine tri_cond_is rfl (by omega) ?_
  refine tR ?_
  refine tri_v (opv_fieldAddr rfl rfl) rfl ?_
  refine tri_v (opv_load1 rfl rfl rfl) rfl ?_
  refine tri_v (opv_sub rfl rfl (w64 (by omega) (by omega))) rfl ?_
  refine tri_v (opv_fieldAddr rfl rfl) rfl ?_
  refine tri_v (opv_load1 rfl rfl rfl) rfl ?_
  refine tri_v (opv_sub rfl rfl (w64 (by omega) (by omega))) rfl ?_
  refine tri_v (opv_buildS rfl rfl) rfl ?_
  refine tri_g (opg_store rfl rfl rfl rfl rfl rfl) rfl ?_
  rintro _ _ _ ⟨rfl, rfl⟩
  refine tN (tT (tS (tR (tM rfl rfl ?_))))
  refine tri_v (opv_mul rfl rfl (w64 (by omega) (by omega))) rfl ?_
  refine tri_v (opv_max2 rfl rfl) rfl ?_
  rw [hst]
  refine tA rfl rfl (tN (tT (tR ?_)))
  refine tri_v (opv_loadA rfl rfl rfl) rfl ?_
  refine tM rfl rfl ?_
  refine tri_v (opv_fieldAddr rfl rfl) rfl ?_
  refine tri_v (opv_load1 rfl rfl rfl) rfl ?_
  refine tM rfl rfl ?_
  refine tri_v (opv_remE rfl rfl (by omega) (by omega)) rfl ?_
  refine tM rfl rfl ?_
  refine tri_v (opv_mul rfl rfl (w64 (by omega) (by omega))) rfl ?_
  refine tU rfl rfl (by omega) (by omega) rfl ?_
  refine tri_v (opv_fieldAddr rfl rfl) rfl ?_
  refine tri_v (opv_load1 rfl rfl rfl) rfl ?_
  refine tM rfl rfl ?_
  refine tri_v (opv_quoE rfl rfl (by omega) (by omega) (by omega)) rfl ?_
  refine tM rfl rfl ?_
  refine tri_v (opv_mul rfl rfl (w64 (by omega) (by omega))) rfl ?_
  refine tU rfl rfl (by omega) (by omega) rfl ?_
  refine tri_v (opv_buildS rfl rfl) rfl ?_
  refine tM rfl rfl ?_
  refine tri_perm (A := ?a7_0 :: ?a7_1 :: ?T7) (B := ?a7_1 :: ?a7_0 :: ?T7) (by exact permL [1, 0] [?a7_0, ?a7_1] ?T7 (by decide) rfl) ?_
  refine tri_g (opg_call (xs := [_, _, _, _]) rfl (ih m (by omega) _ _ _ _ _ _ _ room _ _ _ ⟨c.x - R7.hh m + 2 ^ m, c.y - R7.hh m + 2 ^ m⟩ (out ++ r0 ++ r1 ++ r2) r3 (by simp only; omega) (by simp only; omega) hr hs (kid _ (by simp [Node.kids, R6.nd])).1 (kid _ (by simp [Node.kids, R6.nd])).2.2 (by simp only; omega) ((congrArg (R7.flat ns m _) (R7.hh_ok m c (2 ^ m) (2 ^ m))).trans hr3) (by simp only [List.length_append]; omega))) rfl ?_
  rintro _ _ _ ⟨b3', q3, rfl, rfl, rfl⟩
  refine tA rfl rfl (tN ?_)
  refine tri_inBlock ?_
  refine tT (tR ?_)
  refine tU rfl rfl (by omega) (by omega) rfl ?_
  refine tM rfl rfl (tN (tT ?_))
  refine tri_round ?_
  refine tS (tR ?_)
  refine tri_v (opv_lss rfl rfl) rfl ?_
  refine tN (tT (tS ?_))
  refine tri_perm (A := ?a8_0 :: ?a8_1 :: ?T8) (B := ?a8_1 :: ?a8_0 :: ?T8) (by exact permL [1, 0] [?a8_0, ?a8_1] ?T8 (by decide) rfl) ?_
  refine tri_drop ?_
  refine tri_cond_not rfl (by decide) ?_
  refine tri_exit ?_
  refine tri_then_exit ?_
  refine tri_then_exit ?_
  refine tri_inBlock_hit rfl ?_
  refine tT (tS (tR (tM rfl rfl (tA rfl rfl (tN (tT (tri_ret ?_)))))))
  refine tri_perm (A := ?a9_0 :: ?a9_1 :: ?a9_2 :: ?a9_3 :: ?T9) (B := ?a9_1 :: ?a9_2 :: ?a9_3 :: ?a9_0 :: ?T9) (by exact permL [1, 2, 3, 0] [?a9_0, ?a9_1, ?a9_2, ?a9_3] ?T9 (by decide) rfl) ?_
  refine tri_end (rowC b3' q3 (out ++ r0 ++ r1 ++ r2 ++ r3) :: A) ⟨[_, _, _], rfl⟩ rfl (.cons (rv_tmp rfl) .nil) ⟨b3', q3, by simp only [List.append_assoc]; rfl, by simp only [List.append_assoc], rfl⟩
 ·have hq : R7.qh (m + 1) = R7.hh m := by
   unfold R7.hh; rw [if_neg (by omega)]
  have hst : (if (2 * R7.hh m : Int) < 1 then 1 else 2 * R7.hh m) = (2:Int) ^ m := by
   obtain ⟨j, rfl⟩ : ∃ j, m = j + 1 := ⟨m - 1, by omega⟩
   have e : (2:Int) ^ (j + 1) = 2 ^ j * 2 := Int.pow_succ 2 j
   rw [← hq, R7.p2h, e, if_neg (by omega)]
   omega
  rw [hq]
  refine tri_rounds 5 ?_
  refine tri_round ?_
  refine tS (tR ?_)
  refine tri_v (opv_lss rfl rfl) rfl ?_
  refine tN (tT (tS ?_))
  refine tri_cond_is rfl (by decide) ?_
  refine tri_skip (tT (tS (tri_block (tS (tR (tM rfl rfl ?_))))))
  refine tri_v (opv_index rfl rfl (by decide) (by decide) rfl rfl) rfl ?_
  refine tA rfl rfl (tA rfl rfl (tN (tT (tS (tR ?_)))))
  refine tri_v (opv_fieldAddr rfl rfl) rfl ?_
  refine tri_v (opv_load1 rfl rfl rfl) rfl ?_
  refine tM rfl rfl ?_
  refine tri_v (opv_sub rfl rfl (w64 (by omega) (by omega))) rfl ?_
  refine tri_v (opv_fieldAddr rfl rfl) rfl ?_
  refine tri_v (opv_load1 rfl rfl rfl) rfl ?_
  refine tM rfl rfl ?_
  refine tri_v (opv_sub rfl rfl (w64 (by omega) (by omega))) rfl ?_
  refine tri_v (opv_buildS rfl rfl) rfl ?_
  refine tri_g opg_alloc rfl ?_
  rintro _ _ _ ⟨b13, rfl, rfl, rfl⟩
  refine tri_g (opg_store rfl rfl rfl rfl rfl rfl) rfl ?_
  rintro _ _ _ ⟨rfl, rfl⟩
  refine tN (tT (tS (tS (tR ?_))))
  refine tri_v (opv_fieldAddr rfl rfl) rfl ?_
  refine tri_v (opv_load1 rfl rfl rfl) rfl ?_
  refine tri_v (opv_eql rfl rfl) rfl ?_
  refine tN (tT ?_)
  refine tri_cond_not rfl (by omega) ?_
  refine tri_skip (tT (tS (tR (tM rfl rfl ?_))))
  refine tri_v (opv_mul rfl rfl (w64 (by omega) (by omega))) rfl ?_
  refine tri_v (opv_max2 rfl rfl) rfl ?_
  rw [hst]
  refine tA rfl rfl (tN (tT (tR ?_)))
  refine tri_v (opv_loadA rfl rfl rfl) rfl ?_
  refine tM rfl rfl ?_
  refine tri_v (opv_fieldAddr rfl rfl) rfl ?_
  refine tri_v (opv_load1 rfl rfl rfl) rfl ?_
  refine tM rfl rfl ?_
  refine tri_v (opv_remE rfl rfl (by omega) (by omega)) rfl ?_
  refine tM rfl rfl ?_
  refine tri_v (opv_mul rfl rfl (w64 (by omega) (by omega))) rfl ?_
  refine tU rfl rfl (by omega) (by omega) rfl ?_
  refine tri_v (opv_fieldAddr rfl rfl) rfl ?_
  refine tri_v (opv_load1 rfl rfl rfl) rfl ?_
  refine tM rfl rfl ?_
  refine tri_v (opv_quoE rfl rfl (by omega) (by omega) (by omega)) rfl ?_
  refine tM rfl rfl ?_
  refine tri_v (opv_mul rfl rfl (w64 (by omega) (by omega))) rfl ?_
  refine tU rfl rfl (by omega) (by omega) rfl ?_
  refine tri_v (opv_buildS rfl rfl) rfl ?_
  refine tM rfl rfl ?_
  refine tri_perm (A := ?a10_0 :: ?a10_1 :: ?a10_2 :: ?a10_3 :: ?a10_4 :: ?T10) (B := ?a10_4 :: ?a10_0 :: ?a10_1 :: ?a10_2 :: ?a10_3 :: ?T10) (by exact permL [4, 0, 1, 2, 3] [?a10_0, ?a10_1, ?a10_2, ?a10_3, ?a10_4] ?T10 (by decide) rfl) ?_
  refine tri_g (opg_call (xs := [_, _, _, _]) rfl (ih m (by omega) _ _ _ _ _ _ _ room _ _ _ ⟨c.x - R7.hh m + 0, c.y - R7.hh m + 0⟩ out r0 (by simp only; omega) (by simp only; omega) hr hs (kid _ (by simp [Node.kids, R6.nd])).1 (kid _ (by simp [Node.kids, R6.nd])).2.2 (by simp only; omega) ((congrArg (R7.flat ns m _) (R7.hh_ok m c (0) (0))).trans hr0) (by omega))) rfl ?_
  rintro _ _ _ ⟨b0', q0, rfl, rfl, rfl⟩
  refine tA rfl rfl (tN ?_)
  refine tri_inBlock ?_
  refine tT (tR ?_)
  refine tU rfl rfl (by omega) (by omega) rfl ?_
  refine tM rfl rfl (tN (tT ?_))
  refine tri_round ?_
  refine tS (tR ?_)
  refine tri_v (opv_lss rfl rfl) rfl ?_
  refine tN (tT (tS ?_))
  refine tri_perm (A := ?a11_0 :: ?a11_1 :: ?T11) (B := ?a11_1 :: ?a11_0 :: ?T11) (by exact permL [1, 0] [?a11_0, ?a11_1] ?T11 (by decide) rfl) ?_
  refine tri_drop ?_
  skip
  refine tri_cond_is rfl (by decide) ?_
  refine tri_skip (tT (tS (tri_block (tS (tR (tM rfl rfl ?_))))))
  refine tri_v (opv_index rfl rfl (by decide) (by decide) rfl rfl) rfl ?_
  refine tA rfl rfl (tA rfl rfl (tN (tT (tS (tR ?_)))))
  refine tri_v (opv_fieldAddr rfl rfl) rfl ?_
  refine tri_v (opv_load1 rfl rfl rfl) rfl ?_
  refine tM rfl rfl ?_
  refine tri_v (opv_sub rfl rfl (w64 (by omega) (by omega))) rfl ?_
  refine tri_v (opv_fieldAddr rfl rfl) rfl ?_
  refine tri_v (opv_load1 rfl rfl rfl) rfl ?_
  refine tM rfl rfl ?_
  refine tri_v (opv_sub rfl rfl (w64 (by omega) (by omega))) rfl ?_
  refine tri_v (opv_buildS rfl rfl) rfl ?_
  refine tri_g opg_alloc rfl ?_
  rintro _ _ _ ⟨b13, rfl, rfl, rfl⟩
  refine tri_g (opg_store rfl rfl rfl rfl rfl rfl) rfl ?_
  rintro _ _ _ ⟨rfl, rfl⟩
  refine tN (tT (tS (tS (tR ?_))))
  refine tri_v (opv_fieldAddr rfl rfl) rfl ?_
  refine tri_v (opv_load1 rfl rfl rfl) rfl ?_
  refine tri_v (opv_eql rfl rfl) rfl ?_
  refine tN (tT ?_)
  refine tri_cond_not rfl (by omega) ?_
  refine tri_skip (tT (tS (tR (tM rfl rfl ?_))))
  refine tri_v (opv_mul rfl rfl (w64 (by omega) (by omega))) rfl ?_
  refine tri_v (opv_max2 rfl rfl) rfl ?_
  rw [hst]
  refine tA rfl rfl (tN (tT (tR ?_)))
  refine tri_v (opv_loadA rfl rfl rfl) rfl ?_
  refine tM rfl rfl ?_
  refine tri_v (opv_fieldAddr rfl rfl) rfl ?_
  refine tri_v (opv_load1 rfl rfl rfl) rfl ?_
  refine tM rfl rfl ?_
  refine tri_v (opv_remE rfl rfl (by omega) (by omega)) rfl ?_
  refine tM rfl rfl ?_
  refine tri_v (opv_mul rfl rfl (w64 (by omega) (by omega))) rfl ?_
  refine tU rfl rfl (by omega) (by omega) rfl ?_
  refine tri_v (opv_fieldAddr rfl rfl) rfl ?_
  refine tri_v (opv_load1 rfl rfl rfl) rfl ?_
  refine tM rfl rfl ?_
  refine tri_v (opv_quoE rfl rfl (by omega) (by omega) (by omega)) rfl ?_
  refine tM rfl rfl ?_
  refine tri_v (opv_mul rfl rfl (w64 (by omega) (by omega))) rfl ?_
  refine tU rfl rfl (by omega) (by omega) rfl ?_
  refine tri_v (opv_buildS rfl rfl) rfl ?_
  refine tM rfl rfl ?_
  refine tri_perm (A := ?a12_0 :: ?a12_1 :: ?T12) (B := ?a12_1 :: ?a12_0 :: ?T12) (by exact permL [1, 0] [?a12_0, ?a12_1] ?T12 (by decide) rfl) ?_
  refine tri_g (opg_call (xs := [_, _, _, _]) rfl (ih m (by omega) _ _ _ _ _ _ _ room _ _ _ ⟨c.x - R7.hh m + 2 ^ m, c.y - R7.hh m + 0⟩ (out ++ r0) r1 (by simp only; omega) (by simp only; omega) hr hs (kid _ (by simp [Node.kids, R6.nd])).1 (kid _ (by simp [Node.kids, R6.nd])).2.2 (by simp only; omega) ((congrArg (R7.flat ns m _) (R7.hh_ok m c (2 ^ m) (0))).trans hr1) (by simp only [List.length_append]; omega))) rfl ?_
  rintro _ _ _ ⟨b1', q1, rfl, rfl, rfl⟩
  refine tA rfl rfl (tN ?_)
  refine tri_inBlock ?_
  refine tT (tR ?_)
  refine tU rfl rfl (by omega) (by omega) rfl ?_
  refine tM rfl rfl (tN (tT ?_))
  refine tri_round ?_
  refine tS (tR ?_)
  refine tri_v (opv_lss rfl rfl) rfl ?_
  refine tN (tT (tS ?_))
  refine tri_perm (A := ?a13_0 :: ?a13_1 :: ?T13) (B := ?a13_1 :: ?a13_0 :: ?T13) (by exact permL [1, 0] [?a13_0, ?a13_1] ?T13 (by decide) rfl) ?_
  refine tri_drop ?_
  skip
  refine tri_cond_is rfl (by decide) ?_
  refine tri_skip (tT (tS (tri_block (tS (tR (tM rfl rfl ?_))))))
  refine tri_v (opv_index rfl rfl (by decide) (by decide) rfl rfl) rfl ?_
  refine tA rfl rfl (tA rfl rfl (tN (tT (tS (tR ?_)))))
  refine tri_v (opv_fieldAddr rfl rfl) rfl ?_
  refine tri_v (opv_load1 rfl rfl rfl) rfl ?_
  refine tM rfl rfl ?_
  refine tri_v (opv_sub rfl rfl (w64 (by omega) (by omega))) rfl ?_
  refine tri_v (opv_fieldAddr rfl rfl) rfl ?_
  refine tri_v (opv_load1 rfl rfl rfl) rfl ?_
  refine tM rfl rfl ?_
  refine tri_v (opv_sub rfl rfl (w64 (by omega) (by omega))) rfl ?_
  refine tri_v (opv_buildS rfl rfl) rfl ?_
  refine tri_g opg_alloc rfl ?_
  rintro _ _ _ ⟨b13, rfl, rfl, rfl⟩
  refine tri_g (opg_store rfl rfl rfl rfl rfl rfl) rfl ?_
  rintro _ _ _ ⟨rfl, rfl⟩
  refine tN (tT (tS (tS (tR ?_))))
  refine tri_v (opv_fieldAddr rfl rfl) rfl ?_
  refine tri_v (opv_load1 rfl rfl rfl) rfl ?_
  refine tri_v (opv_eql rfl rfl) rfl ?_
  refine tN (tT ?_)
  refine tri_cond_not rfl (by omega) ?_
  refine tri_skip (tT (tS (tR (tM rfl rfl ?_))))
  refine tri_v (opv_mul rfl rfl (w64 (by omega) (by omega))) rfl ?_
  refine tri_v (opv_max2 rfl rfl) rfl ?_
  rw [hst]
  refine tA rfl rfl (tN (tT (tR ?_)))
  refine tri_v (opv_loadA rfl rfl rfl) rfl ?_
  refine tM rfl rfl ?_
  refine tri_v (opv_fieldAddr rfl rfl) rfl ?_
  refine tri_v (opv_load1 rfl rfl rfl) rfl ?_
  refine tM rfl rfl ?_
  refine tri_v (opv_remE rfl rfl (by omega) (by omega)) rfl ?_
  refine tM rfl rfl ?_
  refine tri_v (opv_mul rfl rfl (w64 (by omega) (by omega))) rfl ?_
  refine tU rfl rfl (by omega) (by omega) rfl ?_
  refine tri_v (opv_fieldAddr rfl rfl) rfl ?_
  refine tri_v (opv_load1 rfl rfl rfl) rfl ?_
  refine tM rfl rfl ?_
  refine tri_v (opv_quoE rfl rfl (by omega) (by omega) (by omega)) rfl ?_
  refine tM rfl rfl ?_
  refine tri_v (opv_mul rfl rfl (w64 (by omega) (by omega))) rfl ?_
  refine tU rfl rfl (by omega) (by omega) rfl ?_
  refine tri_v (opv_buildS rfl rfl) rfl ?_
  refine tM rfl rfl ?_
  refine tri_perm (A := ?a14_0 :: ?a14_1 :: ?T14) (B := ?a14_1 :: ?a14_0 :: ?T14) (by exact permL [1, 0] [?a14_0, ?a14_1] ?T14 (by decide) rfl) ?_
  refine tri_g (opg_call (xs := [_, _, _, _]) rfl (ih m (by omega) _ _ _ _ _ _ _ room _ _ _ ⟨c.x - R7.hh m + 0, c.y - R7.hh m + 2 ^ m⟩ (out ++ r0 ++ r1) r2 (by simp only; omega) (by simp only; omega) hr hs (kid _ (by simp [Node.kids, R6.nd])).1 (kid _ (by simp [Node.kids, R6.nd])).2.2 (by simp only; omega) ((congrArg (R7.flat ns m _) (R7.hh_ok m c (0) (2 ^ m))).trans hr2) (by simp only [List.length_append]; omega))) rfl ?_
  rintro _ _ _ ⟨b2', q2, rfl, rfl, rfl⟩
  refine tA rfl rfl (tN ?_)
  refine tri_inBlock ?_
  refine tT (tR ?_)
  refine tU rfl rfl (by omega) (by omega) rfl ?_
  refine tM rfl rfl (tN (tT ?_))
  refine tri_round ?_
  refine tS (tR ?_)
  refine tri_v (opv_lss rfl rfl) rfl ?_
  refine tN (tT (tS ?_))
  refine tri_perm (A := ?a15_0 :: ?a15_1 :: ?T15) (B := ?a15_1 :: ?a15_0 :: ?T15) (by exact permL [1, 0] [?a15_0, ?a15_1] ?T15 (by decide) rfl) ?_
  refine tri_drop ?_
  skip
  refine tri_cond_is rfl (by decide) ?_
  refine tri_skip (tT (tS (tri_block (tS (tR (tM rfl rfl ?_))))))
  refine tri_v (opv_index rfl rfl (by decide) (by decide) rfl rfl) rfl ?_
  refine tA rfl rfl (tA rfl rfl (tN (tT (tS (tR ?_)))))
  refine tri_v (opv_fieldAddr rfl rfl) rfl ?_
  refine tri_v (opv_load1 rfl rfl rfl) rfl ?_
  refine tM rfl rfl ?_
  refine tri_v (opv_sub rfl rfl (w64 (by omega) (by omega))) rfl ?_
  refine tri_v (opv_fieldAddr rfl rfl) rfl ?_
  refine tri_v (opv_load1 rfl rfl rfl) rfl ?_
  refine tM rfl rfl ?_
  refine tri_v (opv_sub rfl rfl (w64 (by omega) (by omega))) rfl ?_
  refine tri_v (opv_buildS rfl rfl) rfl ?_
  refine tri_g opg_alloc rfl ?_
  rintro _ _ _ ⟨b13, rfl, rfl, rfl⟩
  refine tri_g (opg_store rfl rfl rfl rfl rfl rfl) rfl ?_
  rintro _ _ _ ⟨rfl, rfl⟩
  refine tN (tT (tS (tS (tR ?_))))
  refine tri_v (opv_fieldAddr rfl rfl) rfl ?_
  refine tri_v (opv_load1 rfl rfl rfl) rfl ?_
  refine tri_v (opv_eql rfl rfl) rfl ?_
  refine tN (tT ?_)
  refine tri_cond_not rfl (by omega) ?_
  refine tri_skip (tT (tS (tR (tM rfl rfl ?_))))
  refine tri_v (opv_mul rfl rfl (w64 (by omega) (by omega))) rfl ?_
  refine tri_v (opv_max2 rfl rfl) rfl ?_
  rw [hst]
  refine tA rfl rfl (tN (tT (tR ?_)))
  refine tri_v (opv_loadA rfl rfl rfl) rfl ?_
  refine tM rfl rfl ?_
  refine tri_v (opv_fieldAddr rfl rfl) rfl ?_
  refine tri_v (opv_load1 rfl rfl rfl) rfl ?_
  refine tM rfl rfl ?_
  refine tri_v (opv_remE rfl rfl (by omega) (by omega)) rfl ?_
  refine tM rfl rfl ?_
  refine tri_v (opv_mul rfl rfl (w64 (by omega) (by omega))) rfl ?_
  refine tU rfl rfl (by omega) (by omega) rfl ?_
  refine tri_v (opv_fieldAddr rfl rfl) rfl ?_
  refine tri_v (opv_load1 rfl rfl rfl) rfl ?_
  refine tM rfl rfl ?_
  refine tri_v (opv_quoE rfl rfl (by omega) (by omega) (by omega)) rfl ?_
  refine tM rfl rfl ?_
  refine tri_v (opv_mul rfl rfl (w64 (by omega) (by omega))) rfl ?_
  refine tU rfl rfl (by omega) (by omega) rfl ?_
  refine tri_v (opv_buildS rfl rfl) rfl ?_
  refine tM rfl rfl ?_
  refine tri_perm (A := ?a16_0 :: ?a16_1 :: ?T16) (B := ?a16_1 :: ?a16_0 :: ?T16) (by exact permL [1, 0] [?a16_0, ?a16_1] ?T16 (by decide) rfl) ?_
  refine tri_g (opg_call (xs := [_, _, _, _]) rfl (ih m (by omega) _ _ _ _ _ _ _ room _ _ _ ⟨c.x - R7.hh m + 2 ^ m, c.y - R7.hh m + 2 ^ m⟩ (out ++ r0 ++ r1 ++ r2) r3 (by simp only; omega) (by simp only; omega) hr hs (kid _ (by simp [Node.kids, R6.nd])).1 (kid _ (by simp [Node.kids, R6.nd])).2.2 (by simp only; omega) ((congrArg (R7.flat ns m _) (R7.hh_ok m c (2 ^ m) (2 ^ m))).trans hr3) (by simp only [List.length_append]; omega))) rfl ?_
  rintro _ _ _ ⟨b3', q3, rfl, rfl, rfl⟩
  refine tA rfl rfl (tN ?_)
  refine tri_inBlock ?_
  refine tT (tR ?_)
  refine tU rfl rfl (by omega) (by omega) rfl ?_
  refine tM rfl rfl (tN (tT ?_))
  refine tri_round ?_
  refine tS (tR ?_)
  refine tri_v (opv_lss rfl rfl) rfl ?_
  refine tN (tT (tS ?_))
  refine tri_perm (A := ?a17_0 :: ?a17_1 :: ?T17) (B := ?a17_1 :: ?a17_0 :: ?T17) (by exact permL [1, 0] [?a17_0, ?a17_1] ?T17 (by decide) rfl) ?_
  refine tri_drop ?_
  refine tri_cond_not rfl (by decide) ?_
  refine tri_exit ?_
  refine tri_then_exit ?_
  refine tri_then_exit ?_
  refine tri_inBlock_hit rfl ?_
  refine tT (tS (tR (tM rfl rfl (tA rfl rfl (tN (tT (tri_ret ?_)))))))
  refine tri_perm (A := ?a18_0 :: ?a18_1 :: ?a18_2 :: ?a18_3 :: ?T18) (B := ?a18_1 :: ?a18_2 :: ?a18_3 :: ?a18_0 :: ?T18) (by exact permL [1, 2, 3, 0] [?a18_0, ?a18_1, ?a18_2, ?a18_3] ?T18 (by decide) rfl) ?_
  refine tri_end (rowC b3' q3 (out ++ r0 ++ r1 ++ r2 ++ r3) :: A) ⟨[_, _, _], rfl⟩ rfl (.cons (rv_tmp rfl) .nil) ⟨b3', q3, by simp only [List.append_assoc]; rfl, by simp only [List.append_assoc], rfl⟩
theorem square_each (lv : Nat) : EachSpec lv := by
 induction lv using Nat.strongRecOn with
 | ind lv ih => exact square_each_step lv ih
end Go.GL


set_option linter.unusedVariables false
namespace Go.GL
/-! ### Stores in which all is right -/
namespace R6
structure Wf (ns : List Node) : Prop where
 len : 2 ≤ ns.length
 z : ns.getD 0 default = n0
 o : ns.getD 1 default = n1
 ok : ∀ i, i < ns.length → 2 ≤ i → fits ns i
theorem right_iff {ns : List Node} {room : Int} : right ns room ↔ (2 ≤ room ∧ room ≤ 100000 ∧ (ns.length : Int) ≤ room) ∧ Wf ns :=
 ⟨fun h => ⟨⟨h.1.1, h.1.2.1, h.1.2.2.2.1⟩, ⟨by have := h.1.2.2.1; omega, h.1.2.2.2.2.1, h.1.2.2.2.2.2, h.2⟩⟩,
  fun ⟨⟨a, b, c⟩, h⟩ => ⟨⟨a, b, by have := h.len; omega, c, h.z, h.o⟩, h.ok⟩⟩
theorem Wf.modTo {ns : List Node} (h : Wf ns) : ModTo ns ns.length := by
 have key : ∀ n, n ≤ ns.length → ModTo ns n := by
  intro n
  induction n with
  | zero => intro _ j hj; omega
  | succ n ih =>
   intro hn
   have hm := ih (by omega)
   by_cases h2 : 2 ≤ n
   ·exact hm.step (h.ok n (by omega) h2)
   ·intro j hj
    rcases (by omega : j = 0 ∨ j = 1) with rfl | rfl
    ·rw [h.z]; decide
    ·rw [h.o]; decide
 exact key _ (Nat.le_refl _)
theorem Wf.mod {ns : List Node} (h : Wf ns) : Mod ns := h.modTo.mod
theorem Wf.lvb {ns : List Node} (h : Wf ns) {n : Int} (hn : inS ns n) : 0 ≤ (nd ns n).lv ∧ (nd ns n).lv ≤ 42 := ⟨(h.mod.nd hn).1, (h.mod.nd hn).2.1⟩
theorem Wf.nd0 {ns : List Node} (h : Wf ns) : nd ns 0 = n0 := h.z
theorem Wf.nd1 {ns : List Node} (h : Wf ns) : nd ns 1 = n1 := h.o
theorem Wf.in0 {ns : List Node} (h : Wf ns) : inS ns 0 := ⟨by omega, by have := h.len; omega⟩
theorem Wf.in1 {ns : List Node} (h : Wf ns) : inS ns 1 := ⟨by omega, by have := h.len; omega⟩
theorem Wf.two {ns : List Node} (h : Wf ns) {n : Int} (hn : inS ns n) (hl : (nd ns n).lv ≠ 0) : 2 ≤ n := by
 rcases Int.lt_or_le n 2 with h2 | h2
 ·exfalso
  have hn0 := hn.1
  rcases (by omega : n = 0 ∨ n = 1) with rfl | rfl
  ·exact hl (by rw [h.nd0]; rfl)
  ·exact hl (by rw [h.nd1]; rfl)
 ·exact h2
theorem Wf.fits {ns : List Node} (h : Wf ns) {n : Int} (hn : inS ns n) (h2 : 2 ≤ n) : fitsX ns n.toNat (nd ns n) := h.ok n.toNat (by have := hn.2; omega) (by omega)
theorem Wf.lv0 {ns : List Node} (h : Wf ns) {n : Int} (hn : inS ns n) (hl : (nd ns n).lv = 0) : n = 0 ∨ n = 1 := by
 rcases Int.lt_or_le n 2 with h2 | h2
 ·have := hn.1; omega
 ·have := (h.fits hn h2).2.2.2.2.1
  omega
theorem Wf.kid {ns : List Node} (h : Wf ns) {n : Int} (hn : inS ns n) (hl : (nd ns n).lv ≠ 0) {q : Int} (hq : q ∈ (nd ns n).kids) : inS ns q ∧ q < n ∧ (nd ns q).lv = (nd ns n).lv - 1 := by
 have h2 := h.two hn hl
 have hn1 := hn.2
 obtain ⟨k0, k1, k2, k3, _⟩ := h.fits hn h2
 have key : kidOk ns n.toNat q (nd ns n).lv := by
  unfold Node.kids at hq
  simp only [List.mem_cons, List.not_mem_nil, or_false] at hq
  rcases hq with rfl | rfl | rfl | rfl
  ·exact k0
  ·exact k1
  ·exact k2
  ·exact k3
 obtain ⟨g1, g2, g3⟩ := key
 exact ⟨⟨g1, by omega⟩, by omega, by omega⟩
theorem Wf.pop {ns : List Node} (h : Wf ns) {n : Int} (hn : inS ns n) (hl : (nd ns n).lv ≠ 0) : (nd ns n).pop = pop4 ns (nd ns n).k0 (nd ns n).k1 (nd ns n).k2 (nd ns n).k3 := (h.fits hn (h.two hn hl)).2.2.2.2.2.2.1
theorem Wf.at_ {ns : List Node} (h : Wf ns) {n : Int} (hn : inS ns n) (hl : (nd ns n).lv ≠ 0) : at_ ns (nd ns n).kids = n := by
 have := (h.fits hn (h.two hn hl)).2.2.2.2.2.2.2
 have := hn.1
 omega
theorem Wf.uniq {ns : List Node} (h : Wf ns) {n m : Int} (hn : inS ns n) (hm : inS ns m) (hl : (nd ns n).lv ≠ 0) (hl2 : (nd ns m).lv ≠ 0) (e : (nd ns n).kids = (nd ns m).kids) : n = m := by
 rw [← h.at_ hn hl, e, h.at_ hm hl2]
/-! #### what is put -/
theorem inS_pre {ns ms : List Node} (h : ns <+: ms) {n : Int} (hn : inS ns n) : inS ms n := ⟨hn.1, by have := h.length_le; have := hn.2; omega⟩
theorem nd_pre {ns ms : List Node} (h : ns <+: ms) {n : Int} (hn : inS ns n) : nd ms n = nd ns n := by
 obtain ⟨t, rfl⟩ := h
 unfold nd
 have : n.toNat < ns.length := by have := hn.1; have := hn.2; omega
 rw [List.getD_eq_getElem?_getD, List.getD_eq_getElem?_getD, List.getElem?_append_left this]
theorem atFrom_found (k : List Int) : ∀ (ns : List Node) (i : Nat), 0 ≤ atFrom k i ns → ∃ j, j < ns.length ∧ atFrom k i ns = ((i + j : Nat) : Int) ∧ (ns.getD j default).kids = k
 | [], i, h => by simp only [atFrom] at h; omega
 | x :: ns, i, h => by
  simp only [atFrom] at h ⊢
  split at h
  ·rename_i hx
   rw [if_pos hx]
   exact ⟨0, by simp, by simp, by simpa using hx⟩
  ·rename_i hx
   rw [if_neg hx]
   obtain ⟨j, h1, h2, h3⟩ := atFrom_found k ns (i + 1) h
   exact ⟨j + 1, by simp only [List.length_cons]; omega, by rw [h2]; omega, by simpa using h3⟩
theorem at_found {ns : List Node} {k : List Int} (h : 0 ≤ R6.at_ ns k) : 2 ≤ R6.at_ ns k ∧ inS ns (R6.at_ ns k) ∧ (nd ns (R6.at_ ns k)).kids = k := by
 unfold R6.at_ at h ⊢
 obtain ⟨j, h1, h2, h3⟩ := atFrom_found k _ 2 h
 rw [List.length_drop] at h1
 rw [h2]
 refine ⟨by omega, ⟨by omega, by omega⟩, ?_⟩
 unfold nd
 have : ((2 + j : Nat) : Int).toNat = 2 + j := by omega
 rw [this]
 simpa [List.getD_eq_getElem?_getD] using h3
theorem at_pre {ns ms : List Node} (h2 : 2 ≤ ns.length) (h : ns <+: ms) {k : List Int} (hk : 0 ≤ R6.at_ ns k) : R6.at_ ms k = R6.at_ ns k := by
 obtain ⟨t, rfl⟩ := h
 unfold R6.at_ at hk ⊢
 rw [List.drop_append_of_le_length h2, atFrom_append, if_pos hk]
theorem pop4_pre {ns ms : List Node} (h : ns <+: ms) {q0 q1 q2 q3 : Int} (h0 : inS ns q0) (h1 : inS ns q1) (h2 : inS ns q2) (h3 : inS ns q3) : pop4 ms q0 q1 q2 q3 = pop4 ns q0 q1 q2 q3 := by
 unfold pop4; rw [nd_pre h h0, nd_pre h h1, nd_pre h h2, nd_pre h h3]
theorem Wf.snoc {ns : List Node} (h : Wf ns) {q0 q1 q2 q3 : Int} (hf : fit4 ns q0 q1 q2 q3) (hat : ¬ 0 ≤ R6.at_ ns [q0, q1, q2, q3]) : Wf (ns ++ [mk4 ns q0 q1 q2 q3]) := by
 have hpre : ns <+: ns ++ [mk4 ns q0 q1 q2 q3] := List.prefix_append _ _
 have hl := h.len
 refine ⟨by simp; omega, ?_, ?_, fun i hi hi2 => ?_⟩
 ·have := nd_pre hpre h.in0; exact this.trans h.z
 ·have := nd_pre hpre h.in1; exact this.trans h.o
 ·simp only [List.length_append, List.length_singleton] at hi
  unfold R6.fits fitsX kidOk
  by_cases e : i < ns.length
  ·have hin : inS ns (i : Int) := ⟨by omega, by omega⟩
   have e1 : (ns ++ [mk4 ns q0 q1 q2 q3]).getD i default = ns.getD i default := nd_pre hpre hin
   rw [e1]
   obtain ⟨⟨a0, a1, a2⟩, ⟨b0, b1, b2⟩, ⟨c0, c1, c2⟩, ⟨d0, d1, d2⟩, f1, f2, f3, f4⟩ := h.ok i e hi2
   have i0 : inS ns (ns.getD i default).k0 := ⟨a0, by omega⟩
   have i1 : inS ns (ns.getD i default).k1 := ⟨b0, by omega⟩
   have i2 : inS ns (ns.getD i default).k2 := ⟨c0, by omega⟩
   have i3 : inS ns (ns.getD i default).k3 := ⟨d0, by omega⟩
   rw [nd_pre hpre i0, nd_pre hpre i1, nd_pre hpre i2, nd_pre hpre i3, pop4_pre hpre i0 i1 i2 i3, at_pre hl hpre (by rw [f4]; omega)]
   exact ⟨⟨a0, a1, a2⟩, ⟨b0, b1, b2⟩, ⟨c0, c1, c2⟩, ⟨d0, d1, d2⟩, f1, f2, f3, f4⟩
  ·have ei : i = ns.length := by omega
   subst ei
   have e1 : (ns ++ [mk4 ns q0 q1 q2 q3]).getD ns.length default = mk4 ns q0 q1 q2 q3 := by simp
   rw [e1]
   obtain ⟨a, ⟨b, b'⟩, ⟨c, c'⟩, ⟨d, d'⟩, f⟩ := hf
   have hlv := h.lvb a
   have x0 : (mk4 ns q0 q1 q2 q3).k0 = q0 := rfl
   have x1 : (mk4 ns q0 q1 q2 q3).k1 = q1 := rfl
   have x2 : (mk4 ns q0 q1 q2 q3).k2 = q2 := rfl
   have x3 : (mk4 ns q0 q1 q2 q3).k3 = q3 := rfl
   have x4 : (mk4 ns q0 q1 q2 q3).lv = (nd ns q0).lv + 1 := rfl
   have x5 : (mk4 ns q0 q1 q2 q3).pop = pop4 ns q0 q1 q2 q3 := rfl
   rw [x0, x1, x2, x3, x4, x5, nd_pre hpre a, nd_pre hpre b, nd_pre hpre c, nd_pre hpre d, pop4_pre hpre a b c d]
   refine ⟨⟨a.1, a.2, by omega⟩, ⟨b.1, b.2, by omega⟩, ⟨c.1, c.2, by omega⟩, ⟨d.1, d.2, by omega⟩, by omega, f, rfl, ?_⟩
   have := at_snoc hl [q0, q1, q2, q3] (mk4 ns q0 q1 q2 q3)
   rw [if_neg hat, if_pos (by rfl)] at this
   exact this
/-- What a put comes to, if it has room. -/
structure PutOk (ns : List Node) (q0 q1 q2 q3 : Int) (ms : List Node) (m : Int) : Prop where
 wf : Wf ms
 pre : ns <+: ms
 mem : inS ms m
 nd : nd ms m = mk4 ns q0 q1 q2 q3
 len : ms.length ≤ ns.length + 1
theorem nd_of_found {ns : List Node} (h : Wf ns) {q0 q1 q2 q3 : Int} (hf : fit4 ns q0 q1 q2 q3) {m : Int} (hm : inS ns m) (hl : (R6.nd ns m).lv ≠ 0) (hk : (R6.nd ns m).kids = [q0, q1, q2, q3]) : R6.nd ns m = mk4 ns q0 q1 q2 q3 := by
 have h2 := h.two hm hl
 obtain ⟨⟨_, _, k⟩, _, _, _, f1, f2, f3, f4⟩ := h.fits hm h2
 unfold Node.kids at hk
 simp only [List.cons.injEq, and_true] at hk
 obtain ⟨e0, e1, e2, e3⟩ := hk
 unfold mk4
 rw [e0, e1, e2, e3] at f3
 rw [e0] at k
 generalize R6.nd ns m = x at *
 cases x
 simp_all
theorem put_ok {ns : List Node} (h : Wf ns) {room : Int} {q0 q1 q2 q3 : Int} (hf : fit4 ns q0 q1 q2 q3) (hr : 0 ≤ R6.at_ ns [q0, q1, q2, q3] ∨ (ns.length : Int) < room) : ∃ ms m, put ns room q0 q1 q2 q3 = (ms, m, 0) ∧ PutOk ns q0 q1 q2 q3 ms m := by
 unfold put
 rw [if_pos hf]
 by_cases hat : 0 ≤ R6.at_ ns [q0, q1, q2, q3]
 ·rw [if_pos hat]
  obtain ⟨h2, h3, h4⟩ := at_found hat
  have hl : (R6.nd ns (R6.at_ ns [q0, q1, q2, q3])).lv ≠ 0 := by have := (h.fits h3 h2).2.2.2.2.1; omega
  exact ⟨_, _, rfl, h, List.prefix_refl _, h3, nd_of_found h hf h3 hl h4, by omega⟩
 ·rw [if_neg hat, if_neg (by have := hr.resolve_left hat; omega)]
  refine ⟨_, _, rfl, h.snoc hf hat, List.prefix_append _ _, ⟨by omega, by simp; omega⟩, ?_, by simp⟩
  unfold R6.nd
  simp
/-- What is there already is found. -/
theorem put_again {ns : List Node} (h : Wf ns) {room : Int} {q0 q1 q2 q3 : Int} (hf : fit4 ns q0 q1 q2 q3) {m : Int} (hm : inS ns m) (hl : (R6.nd ns m).lv ≠ 0) (hk : (R6.nd ns m).kids = [q0, q1, q2, q3]) : put ns room q0 q1 q2 q3 = (ns, m, 0) := by
 have := h.at_ hm hl
 rw [hk] at this
 unfold put
 rw [if_pos hf, if_pos (by rw [this]; exact hm.1), this]
theorem PutOk.kids {ns ms : List Node} {q0 q1 q2 q3 m : Int} (h : PutOk ns q0 q1 q2 q3 ms m) : (R6.nd ms m).kids = [q0, q1, q2, q3] := by rw [h.nd]; rfl
theorem PutOk.lv {ns ms : List Node} {q0 q1 q2 q3 m : Int} (h : PutOk ns q0 q1 q2 q3 ms m) : (R6.nd ms m).lv = (R6.nd ns q0).lv + 1 := by rw [h.nd]; rfl
theorem put_wf {ns : List Node} (h : Wf ns) (room q0 q1 q2 q3 : Int) : Wf (put ns room q0 q1 q2 q3).1 ∧ ns <+: (put ns room q0 q1 q2 q3).1 := by
 unfold put
 split
 ·rename_i hf
  split
  ·exact ⟨h, List.prefix_refl _⟩
  ·rename_i hat
   split
   ·exact ⟨h, List.prefix_refl _⟩
   ·exact ⟨h.snoc hf hat, List.prefix_append _ _⟩
 ·exact ⟨h, List.prefix_refl _⟩
theorem put_room {ns : List Node} {room : Int} (hl : (ns.length : Int) ≤ room) (q0 q1 q2 q3 : Int) : ((put ns room q0 q1 q2 q3).1.length : Int) ≤ room := by
 unfold put
 split
 ·split
  ·exact hl
  ·split
   ·exact hl
   ·simp only [List.length_append, List.length_singleton]; omega
 ·exact hl
end R6
end Go.GL


set_option linter.unusedVariables false
namespace Go.GL
/-! ### What a node stands for -/
namespace R7
open R6
theorem p2s (m : Nat) : (2:Int) ^ (m + 1) = 2 ^ m * 2 := Int.pow_succ 2 m
theorem p2pos (m : Nat) : (0:Int) < 2 ^ m := Int.pow_pos (by omega)
def al (ns : List Node) : Nat → Int → Int → Int → Bool
 | 0, n, _, _ => decide (n = 1)
 | lv + 1, n, x, y =>
  if y < 2 ^ lv then (if x < 2 ^ lv then al ns lv (nd ns n).k0 x y else al ns lv (nd ns n).k1 (x - 2 ^ lv) y)
  else (if x < 2 ^ lv then al ns lv (nd ns n).k2 x (y - 2 ^ lv) else al ns lv (nd ns n).k3 (x - 2 ^ lv) (y - 2 ^ lv))
def inQ (lv : Nat) (x y : Int) : Prop := 0 ≤ x ∧ x < 2 ^ lv ∧ 0 ≤ y ∧ y < 2 ^ lv
/-- A node of a level. -/
def IsN (ns : List Node) (lv : Nat) (n : Int) : Prop := inS ns n ∧ (nd ns n).lv = lv
theorem kids4 {ns : List Node} (h : Wf ns) {lv : Nat} {n : Int} (hn : IsN ns (lv + 1) n) : IsN ns lv (nd ns n).k0 ∧ IsN ns lv (nd ns n).k1 ∧ IsN ns lv (nd ns n).k2 ∧ IsN ns lv (nd ns n).k3 := by
 have hl : (nd ns n).lv ≠ 0 := by rw [hn.2]; omega
 have key : ∀ q, q ∈ (nd ns n).kids → IsN ns lv q := fun q hq => by
  obtain ⟨a, _, b⟩ := h.kid hn.1 hl hq
  refine ⟨a, ?_⟩
  rw [b, hn.2]; omega
 exact ⟨key _ (by simp [Node.kids]), key _ (by simp [Node.kids]), key _ (by simp [Node.kids]), key _ (by simp [Node.kids])⟩
theorem IsN.pre {ns ms : List Node} (hp : ns <+: ms) {lv : Nat} {n : Int} (h : IsN ns lv n) : IsN ms lv n := ⟨inS_pre hp h.1, by rw [nd_pre hp h.1]; exact h.2⟩
theorem al_pre {ns ms : List Node} (h : Wf ns) (hp : ns <+: ms) : ∀ (lv : Nat) (n x y : Int), IsN ns lv n → al ms lv n x y = al ns lv n x y
 | 0, n, x, y, _ => rfl
 | lv + 1, n, x, y, hn => by
  obtain ⟨a, b, c, d⟩ := kids4 h hn
  simp only [al]
  rw [nd_pre hp hn.1, al_pre h hp lv _ _ _ a, al_pre h hp lv _ _ _ b, al_pre h hp lv _ _ _ c, al_pre h hp lv _ _ _ d]
theorem isN0 {ns : List Node} (h : Wf ns) {n : Int} (hn : IsN ns 0 n) : n = 0 ∨ n = 1 := h.lv0 hn.1 hn.2
theorem pop4_zero {ns : List Node} {q0 q1 q2 q3 : Int} (h0 : 0 ≤ (nd ns q0).pop) (h1 : 0 ≤ (nd ns q1).pop) (h2 : 0 ≤ (nd ns q2).pop) (h3 : 0 ≤ (nd ns q3).pop) : pop4 ns q0 q1 q2 q3 = 0 ↔ (nd ns q0).pop = 0 ∧ (nd ns q1).pop = 0 ∧ (nd ns q2).pop = 0 ∧ (nd ns q3).pop = 0 := by
 unfold pop4 mn cap62
 generalize (nd ns q0).pop = a at *
 generalize (nd ns q1).pop = b at *
 generalize (nd ns q2).pop = c at *
 generalize (nd ns q3).pop = d at *
 constructor
 ·intro h
  repeat' split at h
  all_goals omega
 ·rintro ⟨rfl, rfl, rfl, rfl⟩; rfl
theorem dead_kids {ns : List Node} (h : Wf ns) {lv : Nat} {n : Int} (hn : IsN ns (lv + 1) n) : (nd ns n).pop = 0 ↔ (nd ns (nd ns n).k0).pop = 0 ∧ (nd ns (nd ns n).k1).pop = 0 ∧ (nd ns (nd ns n).k2).pop = 0 ∧ (nd ns (nd ns n).k3).pop = 0 := by
 obtain ⟨a, b, c, d⟩ := kids4 h hn
 rw [h.pop hn.1 (by rw [hn.2]; omega)]
 exact pop4_zero (h.mod.nd a.1).2.2.1 (h.mod.nd b.1).2.2.1 (h.mod.nd c.1).2.2.1 (h.mod.nd d.1).2.2.1
theorem al_dead {ns : List Node} (h : Wf ns) : ∀ (lv : Nat) (n x y : Int), IsN ns lv n → (nd ns n).pop = 0 → al ns lv n x y = false
 | 0, n, x, y, hn, hp => by
  rcases isN0 h hn with rfl | rfl
  ·rfl
  ·rw [h.nd1] at hp; cases hp
 | lv + 1, n, x, y, hn, hp => by
  obtain ⟨a, b, c, d⟩ := kids4 h hn
  obtain ⟨a', b', c', d'⟩ := (dead_kids h hn).1 hp
  simp only [al]
  rw [al_dead h lv _ _ _ a a', al_dead h lv _ _ _ b b', al_dead h lv _ _ _ c c', al_dead h lv _ _ _ d d']
  simp
theorem inQ_succ {lv : Nat} {x y : Int} (h : inQ (lv + 1) x y) : (y < 2 ^ lv → x < 2 ^ lv → inQ lv x y) ∧ (y < 2 ^ lv → ¬ x < 2 ^ lv → inQ lv (x - 2 ^ lv) y) ∧ (¬ y < 2 ^ lv → x < 2 ^ lv → inQ lv x (y - 2 ^ lv)) ∧ (¬ y < 2 ^ lv → ¬ x < 2 ^ lv → inQ lv (x - 2 ^ lv) (y - 2 ^ lv)) := by
 unfold inQ at *
 rw [p2s] at h
 have := p2pos lv
 omega
/-- Two nodes of a level that stand for the same are one. -/
theorem al_inj {ns : List Node} (h : Wf ns) : ∀ (lv : Nat) (n m : Int), IsN ns lv n → IsN ns lv m → (∀ x y, inQ lv x y → al ns lv n x y = al ns lv m x y) → n = m
 | 0, n, m, hn, hm, he => by
  have := he 0 0 ⟨by omega, by decide, by omega, by decide⟩
  simp only [al] at this
  rcases isN0 h hn with rfl | rfl <;> rcases isN0 h hm with rfl | rfl <;> simp_all
 | lv + 1, n, m, hn, hm, he => by
  obtain ⟨a, b, c, d⟩ := kids4 h hn
  obtain ⟨a', b', c', d'⟩ := kids4 h hm
  have hp := p2pos lv
  have key : ∀ x y, inQ (lv + 1) x y → _ := he
  simp only [al] at key
  have e0 : (nd ns n).k0 = (nd ns m).k0 := al_inj h lv _ _ a a' fun x y hq => by
   unfold inQ at hq
   have := key x y (by unfold inQ; rw [p2s]; omega)
   rwa [if_pos hq.2.2.2, if_pos hq.2.1, if_pos hq.2.2.2, if_pos hq.2.1] at this
  have e1 : (nd ns n).k1 = (nd ns m).k1 := al_inj h lv _ _ b b' fun x y hq => by
   unfold inQ at hq
   have := key (x + 2 ^ lv) y (by unfold inQ; rw [p2s]; omega)
   rwa [if_pos hq.2.2.2, if_neg (by omega), if_pos hq.2.2.2, if_neg (by omega), show x + 2 ^ lv - 2 ^ lv = x by omega] at this
  have e2 : (nd ns n).k2 = (nd ns m).k2 := al_inj h lv _ _ c c' fun x y hq => by
   unfold inQ at hq
   have := key x (y + 2 ^ lv) (by unfold inQ; rw [p2s]; omega)
   rwa [if_neg (by omega), if_pos hq.2.1, if_neg (by omega), if_pos hq.2.1, show y + 2 ^ lv - 2 ^ lv = y by omega] at this
  have e3 : (nd ns n).k3 = (nd ns m).k3 := al_inj h lv _ _ d d' fun x y hq => by
   unfold inQ at hq
   have := key (x + 2 ^ lv) (y + 2 ^ lv) (by unfold inQ; rw [p2s]; omega)
   rwa [if_neg (by omega), if_neg (by omega), if_neg (by omega), if_neg (by omega), show x + 2 ^ lv - 2 ^ lv = x by omega, show y + 2 ^ lv - 2 ^ lv = y by omega] at this
  refine h.uniq hn.1 hm.1 (by rw [hn.2]; omega) (by rw [hm.2]; omega) ?_
  unfold Node.kids
  rw [e0, e1, e2, e3]
theorem dead_uniq {ns : List Node} (h : Wf ns) {lv : Nat} {n m : Int} (hn : IsN ns lv n) (hm : IsN ns lv m) (dn : (nd ns n).pop = 0) (dm : (nd ns m).pop = 0) : n = m :=
 al_inj h lv n m hn hm fun x y _ => by rw [al_dead h lv n x y hn dn, al_dead h lv m x y hm dm]
/-! #### what is flat -/
theorem mem_flat {ns : List Node} (h : Wf ns) : ∀ (lv : Nat) (n : Int) (o c : Cell), IsN ns lv n → (c ∈ flat ns lv n o ↔ inQ lv (c.x - o.x) (c.y - o.y) ∧ al ns lv n (c.x - o.x) (c.y - o.y) = true)
 | lv, n, o, c, hn => by
  by_cases hp : (nd ns n).pop = 0
  ·have e : flat ns lv n o = [] := by unfold flat; rw [if_pos hp]
   rw [e, al_dead h lv n _ _ hn hp]
   simp
  ·match lv, hn with
   | 0, hn =>
    have e : flat ns 0 n o = [o] := by unfold flat; rw [if_neg hp]
    rw [e, List.mem_singleton]
    have n1 : n = 1 := by
     rcases isN0 h hn with rfl | rfl
     ·exact absurd (by rw [h.nd0]; rfl) hp
     ·rfl
    subst n1
    simp only [al, inQ, Int.pow_zero, decide_true, and_true]
    constructor
    ·rintro rfl; omega
    ·intro hq
     cases c; cases o
     simp only [Cell.mk.injEq] at hq ⊢
     omega
   | lv + 1, hn =>
    obtain ⟨a, b, cc, d⟩ := kids4 h hn
    have e : flat ns (lv + 1) n o = flat ns lv (nd ns n).k0 o ++ flat ns lv (nd ns n).k1 ⟨o.x + 2 ^ lv, o.y⟩ ++ flat ns lv (nd ns n).k2 ⟨o.x, o.y + 2 ^ lv⟩ ++ flat ns lv (nd ns n).k3 ⟨o.x + 2 ^ lv, o.y + 2 ^ lv⟩ := by rw [flat]; rw [if_neg hp]
    rw [e, List.mem_append, List.mem_append, List.mem_append, mem_flat h lv _ _ _ a, mem_flat h lv _ _ _ b, mem_flat h lv _ _ _ cc, mem_flat h lv _ _ _ d]
    simp only [al]
    have hpos := p2pos lv
    rw [show c.x - (o.x + 2 ^ lv) = c.x - o.x - 2 ^ lv by omega, show c.y - (o.y + 2 ^ lv) = c.y - o.y - 2 ^ lv by omega]
    generalize c.x - o.x = x
    generalize c.y - o.y = y
    unfold inQ
    rw [p2s]
    have fw : ∀ {p q r s v : Prop}, (p → v) → (q → v) → (r → v) → (s → v) → ((p ∨ q) ∨ r) ∨ s → v := fun h1 h2 h3 h4 h => h.elim (fun h => h.elim (fun h => h.elim h1 h2) h3) h4
    by_cases hy : y < 2 ^ lv
    ·rw [if_pos hy]
     by_cases hx : x < 2 ^ lv
     ·rw [if_pos hx]
      exact ⟨fw (fun ⟨q, k⟩ => ⟨by omega, k⟩) (fun ⟨q, k⟩ => by exfalso; omega) (fun ⟨q, k⟩ => by exfalso; omega) (fun ⟨q, k⟩ => by exfalso; omega), fun ⟨q, k⟩ => .inl (.inl (.inl ⟨by omega, k⟩))⟩
     ·rw [if_neg hx]
      exact ⟨fw (fun ⟨q, k⟩ => by exfalso; omega) (fun ⟨q, k⟩ => ⟨by omega, k⟩) (fun ⟨q, k⟩ => by exfalso; omega) (fun ⟨q, k⟩ => by exfalso; omega), fun ⟨q, k⟩ => .inl (.inl (.inr ⟨by omega, k⟩))⟩
    ·rw [if_neg hy]
     by_cases hx : x < 2 ^ lv
     ·rw [if_pos hx]
      exact ⟨fw (fun ⟨q, k⟩ => by exfalso; omega) (fun ⟨q, k⟩ => by exfalso; omega) (fun ⟨q, k⟩ => ⟨by omega, k⟩) (fun ⟨q, k⟩ => by exfalso; omega), fun ⟨q, k⟩ => .inl (.inr ⟨by omega, k⟩)⟩
     ·rw [if_neg hx]
      exact ⟨fw (fun ⟨q, k⟩ => by exfalso; omega) (fun ⟨q, k⟩ => by exfalso; omega) (fun ⟨q, k⟩ => by exfalso; omega) (fun ⟨q, k⟩ => ⟨by omega, k⟩), fun ⟨q, k⟩ => .inr ⟨by omega, k⟩⟩
end R7
end Go.GL


set_option linter.unusedVariables false
namespace Go.GL
namespace R7
open R6
theorem pop4_eq {ns : List Node} {q0 q1 q2 q3 : Int} (h0 : 0 ≤ (nd ns q0).pop) (h1 : 0 ≤ (nd ns q1).pop) (h2 : 0 ≤ (nd ns q2).pop) (h3 : 0 ≤ (nd ns q3).pop) (h : pop4 ns q0 q1 q2 q3 < cap62) :
  pop4 ns q0 q1 q2 q3 = (nd ns q0).pop + (nd ns q1).pop + (nd ns q2).pop + (nd ns q3).pop := by
 unfold pop4 mn cap62 at *
 generalize (nd ns q0).pop = a at *
 generalize (nd ns q1).pop = b at *
 generalize (nd ns q2).pop = c at *
 generalize (nd ns q3).pop = d at *
 repeat' split at h
 all_goals (repeat' split)
 all_goals omega
theorem flat_eq {ns : List Node} {m : Nat} {n : Int} {c : Cell} (h : ¬ (nd ns n).pop = 0) : flat ns (m + 1) n c = flat ns m (nd ns n).k0 c ++ flat ns m (nd ns n).k1 ⟨c.x + 2 ^ m, c.y⟩ ++ flat ns m (nd ns n).k2 ⟨c.x, c.y + 2 ^ m⟩ ++ flat ns m (nd ns n).k3 ⟨c.x + 2 ^ m, c.y + 2 ^ m⟩ := by rw [flat]; rw [if_neg h]
/-- A node has as many cells as its Pop tells, below the greatest Pop. -/
theorem flat_pop {ns : List Node} (h : Wf ns) : ∀ (lv : Nat) (n : Int) (c : Cell), IsN ns lv n → (nd ns n).pop < cap62 → ((flat ns lv n c).length : Int) = (nd ns n).pop
 | 0, n, c, hn, hp => by
  rcases isN0 h hn with rfl | rfl
  ·rw [flat]; rw [if_pos (by rw [h.nd0]; rfl), h.nd0]; rfl
  ·rw [flat]; rw [if_neg (by rw [h.nd1]; decide), h.nd1]; rfl
 | lv + 1, n, c, hn, hp => by
  by_cases h0 : (nd ns n).pop = 0
  ·rw [flat]; rw [if_pos h0, h0]; rfl
  ·obtain ⟨a, b, d, e⟩ := kids4 h hn
   have e1 := h.pop hn.1 (by rw [hn.2]; omega)
   have a0 := (h.mod.nd a.1).2.2.1
   have b0 := (h.mod.nd b.1).2.2.1
   have d0 := (h.mod.nd d.1).2.2.1
   have e0 := (h.mod.nd e.1).2.2.1
   have e2 := pop4_eq a0 b0 d0 e0 (by rw [← e1]; exact hp)
   rw [flat_eq h0]
   have f1 := flat_pop h lv _ c a (by omega)
   have f2 := flat_pop h lv _ ⟨c.x + 2 ^ lv, c.y⟩ b (by omega)
   have f3 := flat_pop h lv _ ⟨c.x, c.y + 2 ^ lv⟩ d (by omega)
   have f4 := flat_pop h lv _ ⟨c.x + 2 ^ lv, c.y + 2 ^ lv⟩ e (by omega)
   simp only [List.length_append]
   omega
end R7
end Go.GL


set_option linter.unusedVariables false
namespace Go.GL
open Go.Proofs
attribute [local irreducible] wpList Code.wp Exit.then Exit.inBlock Ends Tri TriH OpV OpG FnC epf wpAnyH
variable {A : List Asrt} {I : List Chunk}
set_option maxHeartbeats 1000000 in
set_option maxRecDepth 100000 in
theorem ref07_mayX {ns : List Node} {a : Option Addr} {cap : Nat} {room n : Int} (hs : StA I a cap ns) (hn : ns.length ≤ 1000000000) (hrg : R6.Rng ns) :
  FnC Try.prog 49 [storeV a ns.length cap room, .int .i64 n].toArray A I (fun v A' I' => v = .bool (decide (R7.may ns room n)) ∧ A = A' ∧ I = I') := by
 have hss := hs.sl
 skip
 skip
 refine fn_enter2 Try.func49 rfl Try.ntmps49 rfl fun w0 => ?_
 refine tS (tR ?_)
 refine tri_g (opg_box_agg rfl) rfl ?_
 rintro _ _ _ ⟨b2, rfl, rfl, rfl⟩
 refine tA rfl rfl (tN (tT (tS (tR ?_))))
 refine tri_v (opv_loadA rfl rfl rfl) rfl ?_
 refine tri_g (opg_call (xs := [_]) rfl (ref06_right hs.sl hn hrg)) rfl ?_
 rintro _ _ _ ⟨rfl, rfl, rfl⟩
 refine tM rfl rfl ?_
 refine tri_split rfl rfl (fun h1 => ?_) (fun h1 => ?_)
 ·refine tri_guard_run rfl rfl rfl (tM rfl rfl (tri_guard_run rfl rfl rfl ?_))
  refine tri_v (opv_geq rfl rfl) rfl ?_
  refine tri_v (opv_pick_t rfl rfl) rfl ?_
  refine tM rfl rfl ?_
  refine tri_split rfl rfl (fun h2 => ?_) (fun h2 => ?_)
  ·refine tri_guard_run rfl rfl rfl (tM rfl rfl (tri_guard_run rfl rfl rfl ?_))
   refine tri_v (opv_fieldAddr rfl rfl) rfl ?_
   refine tri_guard_run rfl rfl rfl ?_
   refine tri_v (opv_load1 rfl rfl rfl) rfl ?_
   refine tri_guard_run rfl rfl rfl ?_
   refine tri_v (opv_len rfl) rfl ?_
   refine tri_guard_run rfl rfl rfl ?_
   refine tri_v (opv_lss rfl rfl) rfl ?_
   refine tri_v (opv_pick_t rfl rfl) rfl ?_
   refine tM rfl rfl ?_
   refine tri_split rfl rfl (fun h3 => ?_) (fun h3 => ?_)
   ·refine tri_guard_run rfl rfl rfl ?_
    refine tri_v (opv_fieldAddr rfl rfl) rfl ?_
    refine tri_guard_run rfl rfl rfl ?_
    refine tri_v (opv_load1 rfl rfl rfl) rfl ?_
    refine tri_guard_run rfl rfl rfl (tM rfl rfl (tri_guard_run rfl rfl rfl ?_))
    refine tri_v (opv_indexAddrS rfl rfl (by omega) (by omega) (by assumption) rfl) rfl ?_
    refine tri_guard_run rfl rfl rfl ?_
    refine tri_v (opv_fieldAddrE rfl (by assumption) (by omega) rfl) rfl ?_
    refine tri_guard_run rfl rfl rfl ?_
    refine tri_v (opv_loadE1 rfl (by assumption) rfl (by omega) rfl rfl) rfl ?_
    refine tri_guard_run rfl rfl rfl ?_
    refine tri_v (opv_geq rfl rfl) rfl ?_
    refine tri_v (opv_pick_t rfl rfl) rfl ?_
    refine tA rfl rfl (tN (tT (tri_ret ?_)))
    refine tri_end A Suf.h rfl (.cons (rv_tmp rfl) .nil) ⟨congrArg Value.bool (decide_eq_decide.2 ⟨fun h => ⟨h1, h2, h3, h⟩, fun h => h.2.2.2⟩), rfl, rfl⟩
   ·refine tri_guard_skip rfl rfl rfl rfl (tri_guard_skip rfl rfl rfl rfl (tri_guard_skip rfl rfl rfl rfl (tri_guard_skip rfl rfl rfl rfl (tri_guard_skip rfl rfl rfl rfl (tri_guard_skip rfl rfl rfl rfl (tri_guard_skip rfl rfl rfl rfl ?_))))))
    refine tri_v (opv_pick_f rfl rfl) rfl ?_
    refine tA rfl rfl (tN (tT (tri_ret ?_)))
    refine tri_end A Suf.h rfl (.cons (rv_tmp rfl) .nil) ⟨congrArg Value.bool (decide_eq_false fun h => h3 h.2.2.1).symm, rfl, rfl⟩
  ·refine tri_guard_skip rfl rfl rfl rfl (tri_guard_skip rfl rfl rfl rfl (tri_guard_skip rfl rfl rfl rfl (tri_guard_skip rfl rfl rfl rfl (tri_guard_skip rfl rfl rfl rfl ?_))))
   refine tri_v (opv_pick_f rfl rfl) rfl ?_
   refine tM rfl rfl (tri_guard_skip rfl rfl rfl rfl (tri_guard_skip rfl rfl rfl rfl (tri_guard_skip rfl rfl rfl rfl (tri_guard_skip rfl rfl rfl rfl (tri_guard_skip rfl rfl rfl rfl (tri_guard_skip rfl rfl rfl rfl (tri_guard_skip rfl rfl rfl rfl ?_)))))))
   refine tri_v (opv_pick_f rfl rfl) rfl ?_
   refine tA rfl rfl (tN (tT (tri_ret ?_)))
   refine tri_end A Suf.h rfl (.cons (rv_tmp rfl) .nil) ⟨congrArg Value.bool (decide_eq_false fun h => h2 h.2.1).symm, rfl, rfl⟩
 ·refine tri_guard_skip rfl rfl rfl rfl (tri_guard_skip rfl rfl rfl rfl ?_)
  refine tri_v (opv_pick_f rfl rfl) rfl ?_
  refine tM rfl rfl (tri_guard_skip rfl rfl rfl rfl (tri_guard_skip rfl rfl rfl rfl (tri_guard_skip rfl rfl rfl rfl (tri_guard_skip rfl rfl rfl rfl (tri_guard_skip rfl rfl rfl rfl ?_)))))
  refine tri_v (opv_pick_f rfl rfl) rfl ?_
  refine tM rfl rfl (tri_guard_skip rfl rfl rfl rfl (tri_guard_skip rfl rfl rfl rfl (tri_guard_skip rfl rfl rfl rfl (tri_guard_skip rfl rfl rfl rfl (tri_guard_skip rfl rfl rfl rfl (tri_guard_skip rfl rfl rfl rfl (tri_guard_skip rfl rfl rfl rfl ?_)))))))
  refine tri_v (opv_pick_f rfl rfl) rfl ?_
  refine tA rfl rfl (tN (tT (tri_ret ?_)))
  refine tri_end A Suf.h rfl (.cons (rv_tmp rfl) .nil) ⟨congrArg Value.bool (decide_eq_false fun h => h1 h.1).symm, rfl, rfl⟩
theorem R7.side_p2 {lv : Nat} (h : 1 ≤ lv) : (2:Int) ^ lv = 2 * R7.side lv := by
 obtain ⟨m, rfl⟩ : ∃ m, lv = m + 1 := ⟨lv - 1, by omega⟩
 rw [R7.side_nat rfl, Int.pow_succ]; omega
theorem R7.may.is {ns : List Node} {room n : Int} (h : R7.may ns room n) : R6.inS ns n ∧ ∃ lv : Nat, 1 ≤ lv ∧ lv ≤ 42 ∧ (R6.nd ns n).lv = lv := by
 obtain ⟨hr, h0, h1, hl⟩ := h
 have hm := hr.modTo.mod.nd ⟨h0, h1⟩
 exact ⟨⟨h0, h1⟩, (R6.nd ns n).lv.toNat, by omega, by omega, by omega⟩
set_option maxHeartbeats 1000000 in
set_option maxRecDepth 100000 in
theorem ref07_cells {ns : List Node} {a : Option Addr} {cap : Nat} {room n : Int} (hs : StA I a cap ns) (hn : ns.length ≤ 1000000000) (hrg : R6.Rng ns) :
  FnC Try.prog 18 [storeV a ns.length cap room, .int .i64 n].toArray A I (fun v A' I' => ∃ a' cap', v = .tuple [.slice a' (R7.cells ns room n).1.length cap', .int .i64 (R7.cells ns room n).2].toArray ∧ SlAt I' a' (R7.cells ns room n).1 ∧ A = A' ∧ I ⊆ I') := by
 have hss := hs.sl
 skip
 skip
 refine fn_enter2 Try.func18 rfl Try.ntmps18 rfl fun w0 => ?_
 refine tS (tR ?_)
 refine tri_g (opg_box_agg rfl) rfl ?_
 rintro _ _ _ ⟨b2, rfl, rfl, rfl⟩
 refine tA rfl rfl (tA rfl rfl (tN (tT (tS (tS (tR ?_))))))
 refine tri_v (opv_loadA rfl rfl rfl) rfl ?_
 refine tM rfl rfl ?_
 refine tri_g (opg_call (xs := [_, _]) rfl (ref07_mayX hs hn hrg)) rfl ?_
 rintro _ _ _ ⟨rfl, rfl, rfl⟩
 refine tri_v (opv_notD rfl) rfl ?_
 refine tN (tT ?_)
 refine tri_cond_dec rfl (fun h1 => ?_) (fun h1 => ?_)
 ·have e : R7.cells ns room n = ([], 1) := if_neg h1
  refine tS (tR (tA rfl rfl (tA rfl rfl (tN (tT (tri_ret (tri_then_ret ?_)))))))
  refine tri_end A Suf.h rfl (.cons (rv_tmp rfl) (.cons (rv_tmp rfl) .nil)) ⟨none, 0, by rw [e]; rfl, by rw [e]; exact SlAt.nil, rfl, fun _ h => h⟩
 have h1 : R7.may ns room n := Decidable.not_not.1 h1
 obtain ⟨⟨hn0, hn1⟩, lv, hlv1, hlv2, hlv⟩ := h1.is
 have hcs : R7.cells ns room n = if 2000 < (R6.nd ns n).pop then ([], 3) else R1.of (R7.of ns n) := if_pos h1
 refine tri_skip (tT (tS (tS (tR ?_))))
 refine tri_v (opv_fieldAddr rfl rfl) rfl ?_
 refine tri_v (opv_load1 rfl rfl rfl) rfl ?_
 refine tM rfl rfl ?_
 refine tri_v (opv_indexAddrS rfl rfl (by omega) (by omega) (by assumption) rfl) rfl ?_
 refine tri_v (opv_fieldAddrE rfl (by assumption) (by omega) rfl) rfl ?_
 refine tri_v (opv_loadE1 rfl (by assumption) rfl (by omega) rfl rfl) rfl ?_
 refine tri_v (opv_gtr rfl rfl) rfl ?_
 refine tN (tT ?_)
 refine tri_cond_dec rfl (fun h2 => ?_) (fun h2 => ?_)
 ·have e : R7.cells ns room n = ([], 3) := hcs.trans (if_pos h2)
  refine tS (tR (tA rfl rfl (tA rfl rfl (tN (tT (tri_ret (tri_then_ret ?_)))))))
  refine tri_end A Suf.h rfl (.cons (rv_tmp rfl) (.cons (rv_tmp rfl) .nil)) ⟨none, 0, by rw [e]; rfl, by rw [e]; exact SlAt.nil, rfl, fun _ h => h⟩
 have h2 : ¬ 2000 < (R6.nd ns n).pop := h2
 have hcs := hcs.trans (if_neg h2)
 have hw := (R6.right_iff.1 h1.1).2
 have hlen : (R7.of ns n).length ≤ 100000000 := by
  have := R7.flat_pop hw (R6.nd ns n).lv.toNat n ⟨-R7.side (R6.nd ns n).lv, -R7.side (R6.nd ns n).lv⟩ ⟨⟨hn0, hn1⟩, by omega⟩ (by unfold R6.cap62; omega)
  unfold R7.of
  omega
 skip
 refine tri_skip (tT (tS (tR ?_)))
 refine tri_v (opv_loadA rfl rfl rfl) rfl ?_
 refine tM rfl rfl ?_
 refine tri_g (opg_call (xs := [_, _]) rfl (ref07_of h1.1 hss ⟨hn0, hn1⟩ (by omega) hlen)) rfl ?_
 rintro _ _ J ⟨a1, c1, rfl, hq, rfl, hJ⟩
 skip
 refine tri_g (opg_call (xs := [_]) rfl (ref01_of hq (by omega))) rfl ?_
 rintro _ _ J2 ⟨a2, c2, rfl, hq2, rfl, hJ2⟩
 refine tri_v (opv_extract rfl rfl) rfl ?_
 refine tri_v (opv_extract rfl rfl) rfl ?_
 refine tA rfl rfl (tA rfl rfl (tN (tT (tri_ret ?_))))
 refine tri_end A Suf.h rfl (.cons (rv_tmp rfl) (.cons (rv_tmp rfl) .nil)) ⟨a2, c2, by rw [hcs]; rfl, by rw [hcs]; exact hq2, rfl, fun _ h => hJ2 (hJ h)⟩
theorem R7.qd_is {h : Int} {c : Cell} {x y : Int} (hx : (if 0 ≤ c.x then c.x - 2 * h else c.x) + h = x) (hy : (if 0 ≤ c.y then c.y - 2 * h else c.y) + h = y) : R7.qd h c = ⟨x, y⟩ := by subst hx; subst hy; rfl
set_option maxHeartbeats 2000000 in
set_option maxRecDepth 100000 in
theorem ref07_quarter {lv : Nat} {c : Cell} (h1 : 1 ≤ lv) (h2 : lv ≤ 42) (hc : R2.bd c) : FnC Try.prog 86 [.int .i64 (lv : Nat), cellV c].toArray A I (fun v A' I' => v = .tuple [.int .i64 (R7.qk c : Nat), cellV (R7.qd (R7.qh lv) c)].toArray ∧ A = A' ∧ I = I') := by
 obtain ⟨hq0, hq1⟩ := R7.qh_bd h2
 have c1 := hc.1
 have c2 := hc.2.1
 have c3 := hc.2.2.1
 have c4 := hc.2.2.2
 skip
 skip
 refine fn_enter2 Try.func86 rfl Try.ntmps86 rfl fun w0 => ?_
 refine tS (tR ?_)
 refine tri_g (opg_box_agg rfl) rfl ?_
 rintro _ _ _ ⟨b3, rfl, rfl, rfl⟩
 refine tA rfl rfl ?_
 refine tri_g opg_alloc rfl ?_
 rintro _ _ _ ⟨b5, rfl, rfl, rfl⟩
 refine tN (tT (tS (tR (tA rfl rfl (tN (tT (tS ?_)))))))
 refine tR (tA rfl rfl (tN (tT (tS (tS (tR (tM rfl rfl ?_)))))))
 refine tri_v (opv_gtr rfl rfl) rfl ?_
 refine tN (tT ?_)
 refine tri_cond_dec rfl (fun g0 => ?_) (fun g0 => ?_)
 ·have hp : (2 : Int) ^ ((lv : Int) - 2).toNat = R7.qh lv := by
   obtain ⟨m, rfl⟩ : ∃ m, lv = m + 2 := ⟨lv - 2, by omega⟩
   rw [R7.p2h]
   congr 1
   omega
  skip
  refine tR (tM rfl rfl ?_)
  refine tri_v (opv_sub rfl rfl (w64 (by omega) (by omega))) rfl ?_
  refine tri_v (opv_shl1 rfl rfl (by omega) (by omega)) rfl ?_
  refine tA rfl rfl (tN (tT (tS ?_)))
  rw [hp]
  generalize R7.qh lv = h at *
  refine tR ?_
  refine tri_v (opv_fieldAddr rfl rfl) rfl ?_
  refine tri_v (opv_load1 rfl rfl rfl) rfl ?_
  refine tM rfl rfl ?_
  refine tU rfl rfl (by omega) (by omega) rfl ?_
  refine tri_v (opv_fieldAddr rfl rfl) rfl ?_
  refine tri_v (opv_load1 rfl rfl rfl) rfl ?_
  refine tM rfl rfl ?_
  refine tU rfl rfl (by omega) (by omega) rfl ?_
  refine tri_v (opv_buildS rfl rfl) rfl ?_
  refine tri_g opg_alloc rfl ?_
  rintro _ _ _ ⟨b8, rfl, rfl, rfl⟩
  refine tri_g (opg_store rfl rfl rfl rfl rfl rfl) rfl ?_
  rintro _ _ _ ⟨rfl, rfl⟩
  refine tN (tT (tS (tS (tR ?_))))
  refine tri_v (opv_fieldAddr rfl rfl) rfl ?_
  refine tri_v (opv_load1 rfl rfl rfl) rfl ?_
  refine tri_v (opv_geq rfl rfl) rfl ?_
  refine tN (tT ?_)
  refine tri_cond_dec rfl (fun g1 => ?_) (fun g1 => ?_)
  ·refine tS (tR (tA rfl rfl (tN (tT (tR ?_)))))
   refine tri_v (opv_fieldAddr rfl rfl) rfl ?_
   refine tri_v (opv_load1 rfl rfl rfl) rfl ?_
   refine tM rfl rfl ?_
   refine tri_v (opv_sub rfl rfl (w64 (by omega) (by omega))) rfl ?_
   refine tri_v (opv_fieldAddr rfl rfl) rfl ?_
   refine tri_g (opg_store rfl rfl rfl rfl rfl rfl) rfl ?_
   rintro _ _ _ ⟨rfl, rfl⟩
   refine tN (tT (tS (tS (tR ?_))))
   refine tri_v (opv_fieldAddr rfl rfl) rfl ?_
   refine tri_v (opv_load1 rfl rfl rfl) rfl ?_
   refine tri_v (opv_geq rfl rfl) rfl ?_
   refine tN (tT ?_)
   refine tri_cond_dec rfl (fun g2 => ?_) (fun g2 => ?_)
   ·refine tS (tR (tM rfl rfl ?_))
    refine tU rfl rfl (by omega) (by omega) rfl ?_
    refine tA rfl rfl (tN (tT ?_))
    skip
    refine tR ?_
    refine tri_v (opv_fieldAddr rfl rfl) rfl ?_
    refine tri_v (opv_load1 rfl rfl rfl) rfl ?_
    refine tM rfl rfl ?_
    refine tri_v (opv_sub rfl rfl (w64 (by omega) (by omega))) rfl ?_
    refine tri_v (opv_fieldAddr rfl rfl) rfl ?_
    refine tri_g (opg_store rfl rfl rfl rfl rfl rfl) rfl ?_
    rintro _ _ _ ⟨rfl, rfl⟩
    refine tN (tT (tS ?_))
    skip
    refine tri_perm (A := ?a1_0 :: ?a1_1 :: ?T1) (B := ?a1_1 :: ?a1_0 :: ?T1) (by exact permL [1, 0] [?a1_0, ?a1_1] ?T1 (by decide) rfl) ?_
    skip
    refine tri_draw [0, 1, 2, 3] rfl [_] rfl mixed ?_
    refine th_take rfl rfl (by kernel_rfl)  (opv_move rfl) ?_
    refine th_take rfl rfl (by kernel_rfl)  (opv_loadA rfl rfl rfl) ?_
    refine th_take rfl rfl (by kernel_rfl)  (opv_assign rfl) ?_
    refine th_one (by kernel_rfl) (step_m rfl rfl (opg_store rfl rfl rfl rfl rfl rfl) ?_)
    rintro _ _ _ ⟨rfl, rfl⟩
    refine ⟨Suf.h, (fun _ h => h), ?_⟩
    refine th_done (by kernel_rfl) ?_
    refine tT (tri_ret ?_)
    refine tri_end A Suf.h rfl (.cons (rv_tmp rfl) (.cons (rv_cellA rfl rfl rfl) .nil)) ⟨?_, rfl, rfl⟩
    rw [show R7.qk c = 3 by unfold R7.qk; rw [if_pos (by omega), if_pos (by omega)], show R7.qd h c = ⟨c.x - h, c.y - h⟩ from R7.qd_is (by split <;> omega) (by split <;> omega)]
    rfl
   ·refine tri_skip (tT (tS ?_))
    refine tri_perm (A := ?a2_0 :: ?a2_1 :: ?T2) (B := ?a2_1 :: ?a2_0 :: ?T2) (by exact permL [1, 0] [?a2_0, ?a2_1] ?T2 (by decide) rfl) ?_
    skip
    refine tri_draw [0, 1, 2, 3] rfl [_] rfl mixed ?_
    refine th_take rfl rfl (by kernel_rfl)  (opv_move rfl) ?_
    refine th_take rfl rfl (by kernel_rfl)  (opv_loadA rfl rfl rfl) ?_
    refine th_take rfl rfl (by kernel_rfl)  (opv_assign rfl) ?_
    refine th_one (by kernel_rfl) (step_m rfl rfl (opg_store rfl rfl rfl rfl rfl rfl) ?_)
    rintro _ _ _ ⟨rfl, rfl⟩
    refine ⟨Suf.h, (fun _ h => h), ?_⟩
    refine th_done (by kernel_rfl) ?_
    refine tT (tri_ret ?_)
    refine tri_end A Suf.h rfl (.cons (rv_tmp rfl) (.cons (rv_cellA rfl rfl rfl) .nil)) ⟨?_, rfl, rfl⟩
    rw [show R7.qk c = 1 by unfold R7.qk; rw [if_pos (by omega), if_neg (by omega)], show R7.qd h c = ⟨c.x - h, c.y + h⟩ from R7.qd_is (by split <;> omega) (by split <;> omega)]
    rfl
  ·refine tri_skip (tT (tS (tS (tR ?_))))
   refine tri_v (opv_fieldAddr rfl rfl) rfl ?_
   refine tri_v (opv_load1 rfl rfl rfl) rfl ?_
   refine tri_v (opv_geq rfl rfl) rfl ?_
   refine tN (tT ?_)
   refine tri_cond_dec rfl (fun g2 => ?_) (fun g2 => ?_)
   ·refine tS (tR (tM rfl rfl ?_))
    refine tU rfl rfl (by omega) (by omega) rfl ?_
    refine tA rfl rfl (tN (tT ?_))
    skip
    refine tR ?_
    refine tri_v (opv_fieldAddr rfl rfl) rfl ?_
    refine tri_v (opv_load1 rfl rfl rfl) rfl ?_
    refine tM rfl rfl ?_
    refine tri_v (opv_sub rfl rfl (w64 (by omega) (by omega))) rfl ?_
    refine tri_v (opv_fieldAddr rfl rfl) rfl ?_
    refine tri_g (opg_store rfl rfl rfl rfl rfl rfl) rfl ?_
    rintro _ _ _ ⟨rfl, rfl⟩
    refine tN (tT (tS ?_))
    skip
    refine tri_perm (A := ?a3_0 :: ?a3_1 :: ?T3) (B := ?a3_1 :: ?a3_0 :: ?T3) (by exact permL [1, 0] [?a3_0, ?a3_1] ?T3 (by decide) rfl) ?_
    skip
    refine tri_draw [0, 1, 2, 3] rfl [_] rfl mixed ?_
    refine th_take rfl rfl (by kernel_rfl)  (opv_move rfl) ?_
    refine th_take rfl rfl (by kernel_rfl)  (opv_loadA rfl rfl rfl) ?_
    refine th_take rfl rfl (by kernel_rfl)  (opv_assign rfl) ?_
    refine th_one (by kernel_rfl) (step_m rfl rfl (opg_store rfl rfl rfl rfl rfl rfl) ?_)
    rintro _ _ _ ⟨rfl, rfl⟩
    refine ⟨Suf.h, (fun _ h => h), ?_⟩
    refine th_done (by kernel_rfl) ?_
    refine tT (tri_ret ?_)
    refine tri_end A Suf.h rfl (.cons (rv_tmp rfl) (.cons (rv_cellA rfl rfl rfl) .nil)) ⟨?_, rfl, rfl⟩
    rw [show R7.qk c = 2 by unfold R7.qk; rw [if_neg (by omega), if_pos (by omega)], show R7.qd h c = ⟨c.x + h, c.y - h⟩ from R7.qd_is (by split <;> omega) (by split <;> omega)]
    rfl
   ·refine tri_skip (tT (tS ?_))
    refine tri_perm (A := ?a4_0 :: ?a4_1 :: ?T4) (B := ?a4_1 :: ?a4_0 :: ?T4) (by exact permL [1, 0] [?a4_0, ?a4_1] ?T4 (by decide) rfl) ?_
    skip
    refine tri_draw [0, 1, 2, 3] rfl [_] rfl mixed ?_
    refine th_take rfl rfl (by kernel_rfl)  (opv_move rfl) ?_
    refine th_take rfl rfl (by kernel_rfl)  (opv_loadA rfl rfl rfl) ?_
    refine th_take rfl rfl (by kernel_rfl)  (opv_assign rfl) ?_
    refine th_one (by kernel_rfl) (step_m rfl rfl (opg_store rfl rfl rfl rfl rfl rfl) ?_)
    rintro _ _ _ ⟨rfl, rfl⟩
    refine ⟨Suf.h, (fun _ h => h), ?_⟩
    refine th_done (by kernel_rfl) ?_
    refine tT (tri_ret ?_)
    refine tri_end A Suf.h rfl (.cons (rv_tmp rfl) (.cons (rv_cellA rfl rfl rfl) .nil)) ⟨?_, rfl, rfl⟩
    rw [show R7.qk c = 0 by unfold R7.qk; rw [if_neg (by omega), if_neg (by omega)], show R7.qd h c = ⟨c.x + h, c.y + h⟩ from R7.qd_is (by split <;> omega) (by split <;> omega)]
    rfl
 ·have hp : R7.qh lv = 0 := by
   obtain rfl : lv = 1 := by omega
   decide
  rw [hp] at hq0 hq1 ⊢
  show Tri _ _ _ _ _ _
  refine tri_skip (tT (tS (tR ?_)))
  refine tri_v (opv_fieldAddr rfl rfl) rfl ?_
  refine tri_v (opv_load1 rfl rfl rfl) rfl ?_
  refine tM rfl rfl ?_
  refine tU rfl rfl (by omega) (by omega) rfl ?_
  refine tri_v (opv_fieldAddr rfl rfl) rfl ?_
  refine tri_v (opv_load1 rfl rfl rfl) rfl ?_
  refine tM rfl rfl ?_
  refine tU rfl rfl (by omega) (by omega) rfl ?_
  refine tri_v (opv_buildS rfl rfl) rfl ?_
  refine tri_g opg_alloc rfl ?_
  rintro _ _ _ ⟨b8, rfl, rfl, rfl⟩
  refine tri_g (opg_store rfl rfl rfl rfl rfl rfl) rfl ?_
  rintro _ _ _ ⟨rfl, rfl⟩
  refine tN (tT (tS (tS (tR ?_))))
  refine tri_v (opv_fieldAddr rfl rfl) rfl ?_
  refine tri_v (opv_load1 rfl rfl rfl) rfl ?_
  refine tri_v (opv_geq rfl rfl) rfl ?_
  refine tN (tT ?_)
  refine tri_cond_dec rfl (fun g1 => ?_) (fun g1 => ?_)
  ·refine tS (tR (tA rfl rfl (tN (tT (tR ?_)))))
   refine tri_v (opv_fieldAddr rfl rfl) rfl ?_
   refine tri_v (opv_load1 rfl rfl rfl) rfl ?_
   refine tM rfl rfl ?_
   refine tri_v (opv_sub rfl rfl (w64 (by omega) (by omega))) rfl ?_
   refine tri_v (opv_fieldAddr rfl rfl) rfl ?_
   refine tri_g (opg_store rfl rfl rfl rfl rfl rfl) rfl ?_
   rintro _ _ _ ⟨rfl, rfl⟩
   refine tN (tT (tS (tS (tR ?_))))
   refine tri_v (opv_fieldAddr rfl rfl) rfl ?_
   refine tri_v (opv_load1 rfl rfl rfl) rfl ?_
   refine tri_v (opv_geq rfl rfl) rfl ?_
   refine tN (tT ?_)
   refine tri_cond_dec rfl (fun g2 => ?_) (fun g2 => ?_)
   ·refine tS (tR (tM rfl rfl ?_))
    refine tU rfl rfl (by omega) (by omega) rfl ?_
    refine tA rfl rfl (tN (tT ?_))
    skip
    refine tR ?_
    refine tri_v (opv_fieldAddr rfl rfl) rfl ?_
    refine tri_v (opv_load1 rfl rfl rfl) rfl ?_
    refine tM rfl rfl ?_
    refine tri_v (opv_sub rfl rfl (w64 (by omega) (by omega))) rfl ?_
    refine tri_v (opv_fieldAddr rfl rfl) rfl ?_
    refine tri_g (opg_store rfl rfl rfl rfl rfl rfl) rfl ?_
    rintro _ _ _ ⟨rfl, rfl⟩
    refine tN (tT (tS ?_))
    skip
    refine tri_perm (A := ?a5_0 :: ?a5_1 :: ?T5) (B := ?a5_1 :: ?a5_0 :: ?T5) (by exact permL [1, 0] [?a5_0, ?a5_1] ?T5 (by decide) rfl) ?_
    skip
    refine tri_draw [0, 1, 2, 3] rfl [_] rfl mixed ?_
    refine th_take rfl rfl (by kernel_rfl)  (opv_move rfl) ?_
    refine th_take rfl rfl (by kernel_rfl)  (opv_loadA rfl rfl rfl) ?_
    refine th_take rfl rfl (by kernel_rfl)  (opv_assign rfl) ?_
    refine th_one (by kernel_rfl) (step_m rfl rfl (opg_store rfl rfl rfl rfl rfl rfl) ?_)
    rintro _ _ _ ⟨rfl, rfl⟩
    refine ⟨Suf.h, (fun _ h => h), ?_⟩
    refine th_done (by kernel_rfl) ?_
    refine tT (tri_ret ?_)
    refine tri_end A Suf.h rfl (.cons (rv_tmp rfl) (.cons (rv_cellA rfl rfl rfl) .nil)) ⟨?_, rfl, rfl⟩
    rw [show R7.qk c = 3 by unfold R7.qk; rw [if_pos (by omega), if_pos (by omega)], show R7.qd 0 c = ⟨c.x - 0, c.y - 0⟩ from R7.qd_is (by split <;> omega) (by split <;> omega)]
    rfl
   ·refine tri_skip (tT (tS ?_))
    refine tri_perm (A := ?a6_0 :: ?a6_1 :: ?T6) (B := ?a6_1 :: ?a6_0 :: ?T6) (by exact permL [1, 0] [?a6_0, ?a6_1] ?T6 (by decide) rfl) ?_
    skip
    refine tri_draw [0, 1, 2, 3] rfl [_] rfl mixed ?_
    refine th_take rfl rfl (by kernel_rfl)  (opv_move rfl) ?_
    refine th_take rfl rfl (by kernel_rfl)  (opv_loadA rfl rfl rfl) ?_
    refine th_take rfl rfl (by kernel_rfl)  (opv_assign rfl) ?_
    refine th_one (by kernel_rfl) (step_m rfl rfl (opg_store rfl rfl rfl rfl rfl rfl) ?_)
    rintro _ _ _ ⟨rfl, rfl⟩
    refine ⟨Suf.h, (fun _ h => h), ?_⟩
    refine th_done (by kernel_rfl) ?_
    refine tT (tri_ret ?_)
    refine tri_end A Suf.h rfl (.cons (rv_tmp rfl) (.cons (rv_cellA rfl rfl rfl) .nil)) ⟨?_, rfl, rfl⟩
    rw [show R7.qk c = 1 by unfold R7.qk; rw [if_pos (by omega), if_neg (by omega)], show R7.qd 0 c = ⟨c.x - 0, c.y + 0⟩ from R7.qd_is (by split <;> omega) (by split <;> omega)]
    rfl
  ·refine tri_skip (tT (tS (tS (tR ?_))))
   refine tri_v (opv_fieldAddr rfl rfl) rfl ?_
   refine tri_v (opv_load1 rfl rfl rfl) rfl ?_
   refine tri_v (opv_geq rfl rfl) rfl ?_
   refine tN (tT ?_)
   refine tri_cond_dec rfl (fun g2 => ?_) (fun g2 => ?_)
   ·refine tS (tR (tM rfl rfl ?_))
    refine tU rfl rfl (by omega) (by omega) rfl ?_
    refine tA rfl rfl (tN (tT ?_))
    skip
    refine tR ?_
    refine tri_v (opv_fieldAddr rfl rfl) rfl ?_
    refine tri_v (opv_load1 rfl rfl rfl) rfl ?_
    refine tM rfl rfl ?_
    refine tri_v (opv_sub rfl rfl (w64 (by omega) (by omega))) rfl ?_
    refine tri_v (opv_fieldAddr rfl rfl) rfl ?_
    refine tri_g (opg_store rfl rfl rfl rfl rfl rfl) rfl ?_
    rintro _ _ _ ⟨rfl, rfl⟩
    refine tN (tT (tS ?_))
    skip
    refine tri_perm (A := ?a7_0 :: ?a7_1 :: ?T7) (B := ?a7_1 :: ?a7_0 :: ?T7) (by exact permL [1, 0] [?a7_0, ?a7_1] ?T7 (by decide) rfl) ?_
    skip
    refine tri_draw [0, 1, 2, 3] rfl [_] rfl mixed ?_
    refine th_take rfl rfl (by kernel_rfl)  (opv_move rfl) ?_
    refine th_take rfl rfl (by kernel_rfl)  (opv_loadA rfl rfl rfl) ?_
    refine th_take rfl rfl (by kernel_rfl)  (opv_assign rfl) ?_
    refine th_one (by kernel_rfl) (step_m rfl rfl (opg_store rfl rfl rfl rfl rfl rfl) ?_)
    rintro _ _ _ ⟨rfl, rfl⟩
    refine ⟨Suf.h, (fun _ h => h), ?_⟩
    refine th_done (by kernel_rfl) ?_
    refine tT (tri_ret ?_)
    refine tri_end A Suf.h rfl (.cons (rv_tmp rfl) (.cons (rv_cellA rfl rfl rfl) .nil)) ⟨?_, rfl, rfl⟩
    rw [show R7.qk c = 2 by unfold R7.qk; rw [if_neg (by omega), if_pos (by omega)], show R7.qd 0 c = ⟨c.x + 0, c.y - 0⟩ from R7.qd_is (by split <;> omega) (by split <;> omega)]
    rfl
   ·refine tri_skip (tT (tS ?_))
    refine tri_perm (A := ?a8_0 :: ?a8_1 :: ?T8) (B := ?a8_1 :: ?a8_0 :: ?T8) (by exact permL [1, 0] [?a8_0, ?a8_1] ?T8 (by decide) rfl) ?_
    skip
    refine tri_draw [0, 1, 2, 3] rfl [_] rfl mixed ?_
    refine th_take rfl rfl (by kernel_rfl)  (opv_move rfl) ?_
    refine th_take rfl rfl (by kernel_rfl)  (opv_loadA rfl rfl rfl) ?_
    refine th_take rfl rfl (by kernel_rfl)  (opv_assign rfl) ?_
    refine th_one (by kernel_rfl) (step_m rfl rfl (opg_store rfl rfl rfl rfl rfl rfl) ?_)
    rintro _ _ _ ⟨rfl, rfl⟩
    refine ⟨Suf.h, (fun _ h => h), ?_⟩
    refine th_done (by kernel_rfl) ?_
    refine tT (tri_ret ?_)
    refine tri_end A Suf.h rfl (.cons (rv_tmp rfl) (.cons (rv_cellA rfl rfl rfl) .nil)) ⟨?_, rfl, rfl⟩
    rw [show R7.qk c = 0 by unfold R7.qk; rw [if_neg (by omega), if_neg (by omega)], show R7.qd 0 c = ⟨c.x + 0, c.y + 0⟩ from R7.qd_is (by split <;> omega) (by split <;> omega)]
    rfl
end Go.GL


set_option linter.unusedVariables false
namespace Go.GL
open Go.Proofs
attribute [local irreducible] wpList Code.wp Exit.then Exit.inBlock Ends Tri TriH OpV OpG FnC epf wpAnyH
variable {A : List Asrt} {I : List Chunk}
set_option maxHeartbeats 1000000 in
set_option maxRecDepth 100000 in
theorem square_cells {ns : List Node} {a : Option Addr} {cap : Nat} {room n : Int} (hs : StA I a cap ns) (hn : ns.length ≤ 1000000000) :
  FnC Try.prog 17 [storeV a ns.length cap room, .int .i64 n].toArray A I (fun v A' I' => ∃ a' cap', v = .tuple [.slice a' (R7.cells ns room n).1.length cap', .int .i64 (R7.cells ns room n).2].toArray ∧ SlAt I' a' (R7.cells ns room n).1 ∧ A = A' ∧ I ⊆ I') := by
 have hss := hs.sl
 skip
 skip
 refine fn_enter2 Try.func17 rfl Try.ntmps17 rfl fun w0 => ?_
 refine tS (tR ?_)
 refine tri_g (opg_box_agg rfl) rfl ?_
 rintro _ _ _ ⟨b2, rfl, rfl, rfl⟩
 refine tA rfl rfl (tA rfl rfl (tN (tT (tS (tri_block (tS (tR ?_)))))))
 refine tri_v (opv_loadA rfl rfl rfl) rfl ?_
 refine tM rfl rfl ?_
 refine tri_g (opg_call (xs := [_, _]) rfl (square_may hs hn)) rfl ?_
 rintro _ _ _ ⟨rfl, rfl, rfl⟩
 refine tri_v (opv_notD rfl) rfl ?_
 refine tA rfl rfl (tN (tT ?_))
 refine tri_cond_dec rfl (fun h1 => ?_) (fun h1 => ?_)
 ·have e : R7.cells ns room n = ([], 1) := if_neg h1
  refine tS (tR (tA rfl rfl (tA rfl rfl (tN (tT (tri_ret ?_))))))
  refine tri_inBlock_ret ?_
  refine tri_then_ret ?_
  refine tri_end A Suf.h rfl (.cons (rv_tmp rfl) (.cons (rv_tmp rfl) .nil)) ⟨none, 0, by rw [e]; rfl, by rw [e]; exact SlAt.nil, rfl, fun _ h => h⟩
 have h1 : R7.may ns room n := Decidable.not_not.1 h1
 obtain ⟨⟨hn0, hn1⟩, lv, hlv1, hlv2, hlv⟩ := h1.is
 have hcs : R7.cells ns room n = if 2000 < (R6.nd ns n).pop then ([], 3) else R1.of (R7.of ns n) := if_pos h1
 refine tS (tR ?_)
 refine tri_v (opv_fieldAddr rfl rfl) rfl ?_
 refine tri_v (opv_load1 rfl rfl rfl) rfl ?_
 refine tM rfl rfl ?_
 refine tri_v (opv_indexAddrS rfl rfl (by omega) (by omega) (by assumption) rfl) rfl ?_
 refine tri_v (opv_fieldAddrE rfl (by assumption) (by omega) rfl) rfl ?_
 refine tri_v (opv_loadE1 rfl (by assumption) rfl (by omega) rfl rfl) rfl ?_
 refine tri_v (opv_gtr rfl rfl) rfl ?_
 refine tA rfl rfl (tN (tT ?_))
 refine tri_cond_dec rfl (fun h2 => ?_) (fun h2 => ?_)
 ·have e : R7.cells ns room n = ([], 3) := hcs.trans (if_pos h2)
  refine tS (tR (tA rfl rfl (tA rfl rfl (tN (tT (tri_ret ?_))))))
  refine tri_inBlock_ret ?_
  refine tri_then_ret ?_
  refine tri_end A Suf.h rfl (.cons (rv_tmp rfl) (.cons (rv_tmp rfl) .nil)) ⟨none, 0, by rw [e]; rfl, by rw [e]; exact SlAt.nil, rfl, fun _ h => h⟩
 have h2 : ¬ 2000 < (R6.nd ns n).pop := h2
 have hcs := hcs.trans (if_neg h2)
 have hw := (R6.right_iff.1 h1.1).2
 have hlen := R7.flat_pop hw lv n (R7.cn lv ⟨0, 0⟩) ⟨⟨hn0, hn1⟩, hlv⟩ (by unfold R6.cap62; omega)
 have hof : R7.flat ns lv n (R7.cn lv ⟨0, 0⟩) = R7.of ns n := by
  unfold R7.of
  rw [hlv, Int.toNat_natCast]
  congr 1
  obtain ⟨m, rfl⟩ : ∃ m, lv = m + 1 := ⟨lv - 1, by omega⟩
  rw [R7.side_nat rfl]
  simp [R7.cn]
 have hsd := R7.side_bd (lv := lv) (by omega)
 have hp2 := R7.side_p2 hlv1
 rw [hof] at hlen
 skip
 refine tri_skip ?_
 refine tri_inBlock ?_
 refine tT (tS (tR ?_))
 refine tri_v (opv_loadA rfl rfl rfl) rfl ?_
 refine tM rfl rfl ?_
 refine tri_v (opv_buildS rfl rfl) rfl ?_
 refine tri_nilRow (E := 28) (sz := 2) ?_
 refine tri_g (opg_call (xs := [_, _, _, _]) rfl (square_each lv _ _ _ _ _ _ _ room _ _ _ ⟨0, 0⟩ [] (R7.of ns n) rfl rfl h1.1 hss ⟨hn0, hn1⟩ hlv (by simp only; omega) hof (by simp only [List.length_nil]; omega))) rfl ?_
 rintro _ _ _ ⟨b1, q1, rfl, rfl, rfl⟩
 skip
 refine tri_freezeRow rfl fun J hJ hq => ?_
 skip
 refine tri_g (opg_call (xs := [_]) rfl (cells_of hq (by rw [List.nil_append]; omega))) rfl ?_
 rintro _ _ J2 ⟨a2, c2, rfl, hq2, rfl, hJ2⟩
 refine tri_v (opv_extract rfl rfl) rfl ?_
 refine tri_v (opv_extract rfl rfl) rfl ?_
 refine tA rfl rfl (tA rfl rfl (tN (tT (tri_ret ?_))))
 refine tri_end A Suf.h rfl (.cons (rv_tmp rfl) (.cons (rv_tmp rfl) .nil)) ⟨a2, c2, by rw [hcs]; rfl, by rw [hcs]; exact hq2, rfl, fun _ h => hJ2 (hJ h)⟩
end Go.GL


set_option linter.unusedVariables false
namespace Go.GL
open Go.Proofs
attribute [local irreducible] wpList Code.wp Exit.then Exit.inBlock Ends Tri TriH OpV OpG FnC epf wpAnyH
theorem R7.inL_bd {lv : Nat} (h : lv ≤ 42) {c : Cell} (hc : R7.inL lv c) : R2.bd c := by
 have h1 := R7.side_bd (lv := lv) (by omega)
 unfold R7.inL at hc
 unfold R2.bd
 omega
theorem R7.kid_ok {ns : List Node} {room : Int} (hr : R6.right ns room) {n : Int} (hn : R6.inS ns n) {m : Nat} (hl : (R6.nd ns n).lv = ((m + 1 : Nat) : Int)) (k : Nat) : R6.inS ns (R7.kidx (R6.nd ns n) k) ∧ (R6.nd ns (R7.kidx (R6.nd ns n) k)).lv = m := by
 have key := fun q hq => hr.kidN hn hl (q := q) hq
 have hm : R7.kidx (R6.nd ns n) k ∈ (R6.nd ns n).kids := by
  unfold R7.kidx Node.kids
  split
  ·simp
  ·split
   ·simp
   ·split <;> simp
 exact ⟨(key _ hm).1, (key _ hm).2.2⟩
def GetQ (lv : Nat) : Prop := ∀ (A : List Asrt) (I : List Chunk) (ns : List Node) (a : Option Addr) (cap : Nat) (room n cx cy : Int) (c : Cell), cx = c.x → cy = c.y → lv ≤ 42 → R6.right ns room → SlAt I a ns → R6.inS ns n → (R6.nd ns n).lv = lv → R2.bd c →
 FnC Try.prog 60 [storeV a ns.length cap room, .int .i64 n, .agg [.int .i64 cx, .int .i64 cy].toArray].toArray A I (fun v A' I' => v = .bool (R7.getL ns lv n c) ∧ A = A' ∧ I = I')
set_option maxHeartbeats 2000000 in
set_option maxRecDepth 100000 in
theorem ref07_get_step (lv : Nat) (ih : ∀ m, m < lv → GetQ m) : GetQ lv := by
 intro A I ns a cap room n cx cy c hcx hcy hlv42 hr hs hn hlv hbd
 subst hcx; subst hcy
 obtain ⟨hn0, hn1⟩ := hn
 have hlv' : (ns.getD n.toNat default).lv = lv := hlv
 skip
 skip
 refine fn_enter3 Try.func60 rfl Try.ntmps60 rfl fun w0 => ?_
 refine tS (tR ?_)
 refine tri_g (opg_box_agg rfl) rfl ?_
 rintro _ _ _ ⟨b3, rfl, rfl, rfl⟩
 refine tri_g (opg_box_agg rfl) rfl ?_
 rintro _ _ _ ⟨b5, rfl, rfl, rfl⟩
 refine tA rfl rfl (tN (tT (tS (tR ?_))))
 refine tri_v (opv_fieldAddr rfl rfl) rfl ?_
 refine tri_v (opv_load1 rfl rfl rfl) rfl ?_
 refine tM rfl rfl ?_
 refine tri_v (opv_indexAddrS rfl rfl (by omega) (by omega) (by assumption) rfl) rfl ?_
 refine tri_v (opv_loadEA rfl (by assumption) rfl (by omega) rfl rfl) rfl ?_
 refine tri_g opg_alloc rfl ?_
 rintro _ _ _ ⟨b7, rfl, rfl, rfl⟩
 refine tri_g (opg_store rfl rfl rfl rfl rfl rfl) rfl ?_
 rintro _ _ _ ⟨rfl, rfl⟩
 refine tN (tT (tS (tS (tR ?_))))
 refine tri_v (opv_fieldAddr rfl rfl) rfl ?_
 refine tri_v (opv_load1 rfl rfl rfl) rfl ?_
 refine tri_v (opv_eql rfl rfl) rfl ?_
 refine tN (tT ?_)
 refine tri_cond_dec rfl (fun h0 => ?_) (fun h0 => ?_)
 ·have e0 : lv = 0 := by omega
  subst e0
  refine tS (tR ?_)
  refine tri_v (opv_fieldAddr rfl rfl) rfl ?_
  refine tri_v (opv_load1 rfl rfl rfl) rfl ?_
  refine tri_v (opv_eql rfl rfl) rfl ?_
  refine tA rfl rfl (tN (tT (tri_ret (tri_then_ret ?_))))
  refine tri_end A Suf.h rfl (.cons (rv_tmp rfl) .nil) ⟨rfl, rfl, rfl⟩
 ·obtain ⟨m, rfl⟩ : ∃ m, lv = m + 1 := ⟨lv - 1, by omega⟩
  obtain ⟨hk1, hk2⟩ := R7.kid_ok hr ⟨hn0, hn1⟩ hlv (R7.qk c)
  have hk4 := R7.qk_4 c
  have hqd := R7.qd_bd hlv42 hbd
  have hg : R7.getL ns (m + 1) n c = R7.getL ns m (R7.kidx (R6.nd ns n) (R7.qk c)) (R7.qd (R7.qh (m + 1)) c) := rfl
  rw [hg]
  refine tri_skip (tT (tS (tR ?_)))
  refine tri_v (opv_fieldAddr rfl rfl) rfl ?_
  refine tri_v (opv_load1 rfl rfl rfl) rfl ?_
  refine tri_v (opv_loadA rfl rfl rfl) rfl ?_
  rw [hlv']
  refine tri_g (opg_call (xs := [_, _]) rfl (ref07_quarter (lv := m + 1) (c := c) (by omega) hlv42 hbd)) rfl ?_
  rintro _ _ _ ⟨rfl, rfl, rfl⟩
  rw [← hlv']
  rcases hk4 with hk | hk | hk | hk
  ·rw [hk] at hk1 hk2 ⊢
   refine tM rfl rfl ?_
   refine tri_v (opv_extract rfl rfl) rfl ?_
   refine tri_v (opv_extract rfl rfl) rfl ?_
   refine tri_g opg_alloc rfl ?_
   rintro _ _ _ ⟨b9, rfl, rfl, rfl⟩
   refine tA rfl rfl ?_
   refine tri_g (opg_store rfl rfl rfl rfl rfl rfl) rfl ?_
   rintro _ _ _ ⟨rfl, rfl⟩
   refine tN (tT (tS ?_))
   refine tri_draw [0, 1, 2, 3, 4, 5, 6, 7] rfl [] rfl mixed ?_
   refine th_take rfl rfl (by kernel_rfl)  (opv_loadA rfl rfl rfl) ?_
   refine th_take rfl rfl (by kernel_rfl)  (opv_move rfl) ?_
   refine th_take rfl rfl (by kernel_rfl)  (opv_fieldAddr rfl rfl) ?_
   refine th_take rfl rfl (by kernel_rfl)  (opv_indexAddrA rfl rfl (by decide) (by decide)) ?_
   refine th_take rfl rfl (by kernel_rfl)  (opv_load1 rfl rfl rfl) ?_
   refine th_take rfl rfl (by kernel_rfl)  (opv_loadA rfl rfl rfl) ?_
   refine th_one (by kernel_rfl) (step_m rfl rfl (opg_call (xs := [_, _, _]) rfl (ih m (by omega) _ _ _ _ _ room _ _ _ (R7.qd (R7.qh (m + 1)) c) rfl rfl (by omega) hr hs hk1 hk2 hqd)) ?_)
   rintro _ _ _ ⟨rfl, rfl, rfl⟩
   refine ⟨Suf.h, (fun _ h => h), ?_⟩
   refine th_take rfl rfl (by kernel_rfl)  (opv_assign rfl) ?_
   refine th_done (by kernel_rfl) ?_
   refine tT (tri_ret ?_)
   refine tri_end A Suf.h rfl (.cons (rv_tmp rfl) .nil) ⟨rfl, rfl, rfl⟩
  ·rw [hk] at hk1 hk2 ⊢
   refine tM rfl rfl ?_
   refine tri_v (opv_extract rfl rfl) rfl ?_
   refine tri_v (opv_extract rfl rfl) rfl ?_
   refine tri_g opg_alloc rfl ?_
   rintro _ _ _ ⟨b9, rfl, rfl, rfl⟩
   refine tA rfl rfl ?_
   refine tri_g (opg_store rfl rfl rfl rfl rfl rfl) rfl ?_
   rintro _ _ _ ⟨rfl, rfl⟩
   refine tN (tT (tS ?_))
   refine tri_draw [0, 1, 2, 3, 4, 5, 6, 7] rfl [] rfl mixed ?_
   refine th_take rfl rfl (by kernel_rfl)  (opv_loadA rfl rfl rfl) ?_
   refine th_take rfl rfl (by kernel_rfl)  (opv_move rfl) ?_
   refine th_take rfl rfl (by kernel_rfl)  (opv_fieldAddr rfl rfl) ?_
   refine th_take rfl rfl (by kernel_rfl)  (opv_indexAddrA rfl rfl (by decide) (by decide)) ?_
   refine th_take rfl rfl (by kernel_rfl)  (opv_load1 rfl rfl rfl) ?_
   refine th_take rfl rfl (by kernel_rfl)  (opv_loadA rfl rfl rfl) ?_
   refine th_one (by kernel_rfl) (step_m rfl rfl (opg_call (xs := [_, _, _]) rfl (ih m (by omega) _ _ _ _ _ room _ _ _ (R7.qd (R7.qh (m + 1)) c) rfl rfl (by omega) hr hs hk1 hk2 hqd)) ?_)
   rintro _ _ _ ⟨rfl, rfl, rfl⟩
   refine ⟨Suf.h, (fun _ h => h), ?_⟩
   refine th_take rfl rfl (by kernel_rfl)  (opv_assign rfl) ?_
   refine th_done (by kernel_rfl) ?_
   refine tT (tri_ret ?_)
   refine tri_end A Suf.h rfl (.cons (rv_tmp rfl) .nil) ⟨rfl, rfl, rfl⟩
  ·rw [hk] at hk1 hk2 ⊢
   refine tM rfl rfl ?_
   refine tri_v (opv_extract rfl rfl) rfl ?_
   refine tri_v (opv_extract rfl rfl) rfl ?_
   refine tri_g opg_alloc rfl ?_
   rintro _ _ _ ⟨b9, rfl, rfl, rfl⟩
   refine tA rfl rfl ?_
   refine tri_g (opg_store rfl rfl rfl rfl rfl rfl) rfl ?_
   rintro _ _ _ ⟨rfl, rfl⟩
   refine tN (tT (tS ?_))
   refine tri_draw [0, 1, 2, 3, 4, 5, 6, 7] rfl [] rfl mixed ?_
   refine th_take rfl rfl (by kernel_rfl)  (opv_loadA rfl rfl rfl) ?_
   refine th_take rfl rfl (by kernel_rfl)  (opv_move rfl) ?_
   refine th_take rfl rfl (by kernel_rfl)  (opv_fieldAddr rfl rfl) ?_
   refine th_take rfl rfl (by kernel_rfl)  (opv_indexAddrA rfl rfl (by decide) (by decide)) ?_
   refine th_take rfl rfl (by kernel_rfl)  (opv_load1 rfl rfl rfl) ?_
   refine th_take rfl rfl (by kernel_rfl)  (opv_loadA rfl rfl rfl) ?_
   refine th_one (by kernel_rfl) (step_m rfl rfl (opg_call (xs := [_, _, _]) rfl (ih m (by omega) _ _ _ _ _ room _ _ _ (R7.qd (R7.qh (m + 1)) c) rfl rfl (by omega) hr hs hk1 hk2 hqd)) ?_)
   rintro _ _ _ ⟨rfl, rfl, rfl⟩
   refine ⟨Suf.h, (fun _ h => h), ?_⟩
   refine th_take rfl rfl (by kernel_rfl)  (opv_assign rfl) ?_
   refine th_done (by kernel_rfl) ?_
   refine tT (tri_ret ?_)
   refine tri_end A Suf.h rfl (.cons (rv_tmp rfl) .nil) ⟨rfl, rfl, rfl⟩
  ·rw [hk] at hk1 hk2 ⊢
   refine tM rfl rfl ?_
   refine tri_v (opv_extract rfl rfl) rfl ?_
   refine tri_v (opv_extract rfl rfl) rfl ?_
   refine tri_g opg_alloc rfl ?_
   rintro _ _ _ ⟨b9, rfl, rfl, rfl⟩
   refine tA rfl rfl ?_
   refine tri_g (opg_store rfl rfl rfl rfl rfl rfl) rfl ?_
   rintro _ _ _ ⟨rfl, rfl⟩
   refine tN (tT (tS ?_))
   refine tri_draw [0, 1, 2, 3, 4, 5, 6, 7] rfl [] rfl mixed ?_
   refine th_take rfl rfl (by kernel_rfl)  (opv_loadA rfl rfl rfl) ?_
   refine th_take rfl rfl (by kernel_rfl)  (opv_move rfl) ?_
   refine th_take rfl rfl (by kernel_rfl)  (opv_fieldAddr rfl rfl) ?_
   refine th_take rfl rfl (by kernel_rfl)  (opv_indexAddrA rfl rfl (by decide) (by decide)) ?_
   refine th_take rfl rfl (by kernel_rfl)  (opv_load1 rfl rfl rfl) ?_
   refine th_take rfl rfl (by kernel_rfl)  (opv_loadA rfl rfl rfl) ?_
   refine th_one (by kernel_rfl) (step_m rfl rfl (opg_call (xs := [_, _, _]) rfl (ih m (by omega) _ _ _ _ _ room _ _ _ (R7.qd (R7.qh (m + 1)) c) rfl rfl (by omega) hr hs hk1 hk2 hqd)) ?_)
   rintro _ _ _ ⟨rfl, rfl, rfl⟩
   refine ⟨Suf.h, (fun _ h => h), ?_⟩
   refine th_take rfl rfl (by kernel_rfl)  (opv_assign rfl) ?_
   refine th_done (by kernel_rfl) ?_
   refine tT (tri_ret ?_)
   refine tri_end A Suf.h rfl (.cons (rv_tmp rfl) .nil) ⟨rfl, rfl, rfl⟩
theorem ref07_get (lv : Nat) : GetQ lv := by
 induction lv using Nat.strongRecOn with
 | ind lv ih => exact ref07_get_step lv ih
variable {A : List Asrt} {I : List Chunk}
set_option maxHeartbeats 1000000 in
set_option maxRecDepth 100000 in
theorem ref07_getM {ns : List Node} {a : Option Addr} {cap : Nat} {room n : Int} {c : Cell} (hs : StA I a cap ns) (hn : ns.length ≤ 1000000000) (hrg : R6.Rng ns) :
  FnC Try.prog 25 [storeV a ns.length cap room, .int .i64 n, cellV c].toArray A I (fun v A' I' => v = .tuple [.bool (R7.getM ns room n c).1, .int .i64 (R7.getM ns room n c).2].toArray ∧ A = A' ∧ I = I') := by
 have hss := hs.sl
 skip
 skip
 refine fn_enter3 Try.func25 rfl Try.ntmps25 rfl fun w0 => ?_
 refine tS (tR ?_)
 refine tri_g (opg_box_agg rfl) rfl ?_
 rintro _ _ _ ⟨b3, rfl, rfl, rfl⟩
 refine tri_g (opg_box_agg rfl) rfl ?_
 rintro _ _ _ ⟨b5, rfl, rfl, rfl⟩
 refine tA rfl rfl (tA rfl rfl (tN (tT (tS (tS (tR ?_))))))
 refine tri_v (opv_loadA rfl rfl rfl) rfl ?_
 refine tM rfl rfl ?_
 refine tri_g (opg_call (xs := [_, _]) rfl (ref07_mayX hs hn hrg)) rfl ?_
 rintro _ _ _ ⟨rfl, rfl, rfl⟩
 refine tri_v (opv_notD rfl) rfl ?_
 refine tN (tT ?_)
 refine tri_cond_dec rfl (fun h1 => ?_) (fun h1 => ?_)
 ·have e : R7.getM ns room n c = (false, 1) := if_neg h1
  refine tS (tR (tA rfl rfl (tA rfl rfl (tN (tT (tri_ret (tri_then_ret ?_)))))))
  refine tri_end A Suf.h rfl (.cons (rv_tmp rfl) (.cons (rv_tmp rfl) .nil)) ⟨by rw [e]; rfl, rfl, rfl⟩
 have h1 : R7.may ns room n := Decidable.not_not.1 h1
 obtain ⟨⟨hn0, hn1⟩, lv, hlv1, hlv2, hlv⟩ := h1.is
 have hr := h1.1
 have hlv' : (ns.getD n.toNat default).lv = lv := hlv
 have hg : R7.getM ns room n c = (decide (R7.inL (R6.nd ns n).lv c) && R7.getL ns (R6.nd ns n).lv.toNat n c, 0) := if_pos h1
 rw [hlv, Int.toNat_natCast] at hg
 skip
 refine tri_skip (tT (tS ?_))
 refine tri_draw [0, 1, 2, 3, 4, 5, 6, 7, 8, 9, 10, 11, 12, 13, 14, 15] rfl [] rfl mixed ?_
 refine th_take rfl rfl (by kernel_rfl)  (opv_fieldAddr rfl rfl) ?_
 refine th_take rfl rfl (by kernel_rfl)  (opv_load1 rfl rfl rfl) ?_
 refine th_take rfl rfl (by kernel_rfl)  (opv_move rfl) ?_
 refine th_take rfl rfl (by kernel_rfl)  (opv_indexAddrS rfl rfl (by omega) (by omega) (by assumption) rfl) ?_
 refine th_take rfl rfl (by kernel_rfl)  (opv_fieldAddrE rfl (by assumption) (by omega) rfl) ?_
 refine th_take rfl rfl (by kernel_rfl)  (opv_loadE1 rfl (by assumption) rfl (by omega) rfl rfl) ?_
 refine th_take rfl rfl (by kernel_rfl)  (opv_loadA rfl rfl rfl) ?_
 rw [hlv']
 refine th_one (by kernel_rfl) (step_m rfl rfl (opg_call (xs := [_, _]) rfl (ref07_in (lv := lv) (c := c) (by omega) (by omega))) ?_)
 rintro _ _ _ ⟨rfl, rfl, rfl⟩
 refine ⟨Suf.h, (fun _ h => h), ?_⟩
 rw [← hlv']
 refine th_take rfl rfl (by kernel_rfl)  (opv_move rfl) ?_
 refine th_split rfl rfl rfl (fun h2 => ?_) (fun h2 => ?_)
 ·have h2 : R7.inL lv c := by rw [← hlv']; exact h2
  rw [decide_eq_true h2, Bool.true_and] at hg
  have hbd := R7.inL_bd hlv2 h2
  rw [hg]
  refine th_take_g rfl rfl rfl rfl rfl (by kernel_rfl)  (opv_loadA rfl rfl rfl) ?_
  refine th_take_g rfl rfl rfl rfl rfl (by kernel_rfl)  (opv_move rfl) ?_
  refine th_take_g rfl rfl rfl rfl rfl (by kernel_rfl)  (opv_loadA rfl rfl rfl) ?_
  refine th_one (by kernel_rfl) (step_mg rfl rfl rfl rfl rfl (opg_call (xs := [_, _, _]) rfl (ref07_get lv _ _ _ _ _ room _ _ _ c rfl rfl hlv2 hr hss ⟨hn0, hn1⟩ hlv hbd)) ?_)
  rintro _ _ _ ⟨rfl, rfl, rfl⟩
  refine ⟨Suf.h, (fun _ h => h), ?_⟩
  refine th_take rfl rfl (by kernel_rfl)  (opv_pick_t rfl rfl) ?_
  refine th_take rfl rfl (by kernel_rfl)  (opv_assign rfl) ?_
  refine th_take rfl rfl (by kernel_rfl)  (opv_assign rfl) ?_
  refine th_done (by kernel_rfl) ?_
  refine tT (tri_ret ?_)
  refine tri_end A Suf.h rfl (.cons (rv_tmp rfl) (.cons (rv_tmp rfl) .nil)) ⟨rfl, rfl, rfl⟩
 ·have h2 : ¬ R7.inL lv c := by rw [← hlv']; exact h2
  rw [decide_eq_false h2, Bool.false_and] at hg
  rw [hg]
  refine th_skip rfl rfl rfl rfl rfl (by kernel_rfl)  ?_
  refine th_skip rfl rfl rfl rfl rfl (by kernel_rfl)  ?_
  refine th_skip rfl rfl rfl rfl rfl (by kernel_rfl)  ?_
  refine th_one (by kernel_rfl) (step_skip rfl rfl rfl rfl rfl ?_)
  refine th_take rfl rfl (by kernel_rfl)  (opv_pick_f rfl rfl) ?_
  refine th_take rfl rfl (by kernel_rfl)  (opv_assign rfl) ?_
  refine th_take rfl rfl (by kernel_rfl)  (opv_assign rfl) ?_
  refine th_done (by kernel_rfl) ?_
  refine tT (tri_ret ?_)
  refine tri_end A Suf.h rfl (.cons (rv_tmp rfl) (.cons (rv_tmp rfl) .nil)) ⟨rfl, rfl, rfl⟩
end Go.GL


set_option linter.unusedVariables false
namespace Go.GL
open Go.Proofs
attribute [local irreducible] wpList Code.wp Exit.then Exit.inBlock Ends Tri TriH OpV OpG FnC epf wpAnyH
variable {A : List Asrt} {I : List Chunk}
set_option maxHeartbeats 1000000 in
set_option maxRecDepth 100000 in
theorem square_get {ns : List Node} {a : Option Addr} {cap : Nat} {room n : Int} {c : Cell} (hs : StA I a cap ns) (hn : ns.length ≤ 1000000000) :
  FnC Try.prog 24 [storeV a ns.length cap room, .int .i64 n, cellV c].toArray A I (fun v A' I' => v = .tuple [.bool (R7.getM ns room n c).1, .int .i64 (R7.getM ns room n c).2].toArray ∧ A = A' ∧ I = I') := by
 have hss := hs.sl
 skip
 skip
 refine fn_enter3 Try.func24 rfl Try.ntmps24 rfl fun w0 => ?_
 refine tS (tR ?_)
 refine tri_g (opg_box_agg rfl) rfl ?_
 rintro _ _ _ ⟨b3, rfl, rfl, rfl⟩
 refine tri_g (opg_box_agg rfl) rfl ?_
 rintro _ _ _ ⟨b5, rfl, rfl, rfl⟩
 refine tA rfl rfl (tA rfl rfl (tN (tT (tS (tS (tR ?_))))))
 refine tri_v (opv_loadA rfl rfl rfl) rfl ?_
 refine tM rfl rfl ?_
 refine tri_g (opg_call (xs := [_, _]) rfl (square_may hs hn)) rfl ?_
 rintro _ _ _ ⟨rfl, rfl, rfl⟩
 refine tri_v (opv_notD rfl) rfl ?_
 refine tN (tT ?_)
 refine tri_cond_dec rfl (fun h1 => ?_) (fun h1 => ?_)
 ·have e : R7.getM ns room n c = (false, 1) := if_neg h1
  refine tS (tR (tA rfl rfl (tA rfl rfl (tN (tT (tri_ret (tri_then_ret ?_)))))))
  refine tri_end A Suf.h rfl (.cons (rv_tmp rfl) (.cons (rv_tmp rfl) .nil)) ⟨by rw [e]; rfl, rfl, rfl⟩
 have h1 : R7.may ns room n := Decidable.not_not.1 h1
 obtain ⟨⟨hn0, hn1⟩, lv, hlv1, hlv2, hlv⟩ := h1.is
 have hr := h1.1
 have hlv' : (ns.getD n.toNat default).lv = lv := hlv
 have hg : R7.getM ns room n c = (decide (R7.inL (R6.nd ns n).lv c) && R7.getL ns (R6.nd ns n).lv.toNat n c, 0) := if_pos h1
 rw [hlv, Int.toNat_natCast] at hg
 skip
 refine tri_skip (tT (tS (tS ?_)))
 refine tri_draw [0, 1, 2, 3, 4, 5, 6, 7, 8] rfl [] rfl mixed ?_
 refine th_take rfl rfl (by kernel_rfl)  (opv_fieldAddr rfl rfl) ?_
 refine th_take rfl rfl (by kernel_rfl)  (opv_load1 rfl rfl rfl) ?_
 refine th_take rfl rfl (by kernel_rfl)  (opv_move rfl) ?_
 refine th_take rfl rfl (by kernel_rfl)  (opv_indexAddrS rfl rfl (by omega) (by omega) (by assumption) rfl) ?_
 refine th_take rfl rfl (by kernel_rfl)  (opv_fieldAddrE rfl (by assumption) (by omega) rfl) ?_
 refine th_take rfl rfl (by kernel_rfl)  (opv_loadE1 rfl (by assumption) rfl (by omega) rfl rfl) ?_
 refine th_take rfl rfl (by kernel_rfl)  (opv_loadA rfl rfl rfl) ?_
 rw [hlv']
 refine th_one (by kernel_rfl) (step_m rfl rfl (opg_call (xs := [_, _]) rfl (square_in (lv := lv) (c := c) hlv1 hlv2)) ?_)
 rintro _ _ _ ⟨rfl, rfl, rfl⟩
 refine ⟨Suf.h, (fun _ h => h), ?_⟩
 refine th_take rfl rfl (by kernel_rfl)  (opv_notD rfl) ?_
 refine th_done (by kernel_rfl) ?_
 refine tT ?_
 refine tri_cond_dec rfl (fun h2 => ?_) (fun h2 => ?_)
 ·have e : R7.getM ns room n c = (false, 0) := by rw [hg, decide_eq_false h2]; rfl
  refine tS (tR (tA rfl rfl (tA rfl rfl (tN (tT (tri_ret (tri_then_ret ?_)))))))
  refine tri_end A Suf.h rfl (.cons (rv_tmp rfl) (.cons (rv_tmp rfl) .nil)) ⟨by rw [e]; rfl, rfl, rfl⟩
 have h2 : R7.inL lv c := Decidable.not_not.1 h2
 rw [decide_eq_true h2, Bool.true_and] at hg
 have hbd := R7.inL_bd hlv2 h2
 obtain ⟨res, hres⟩ : ∃ res, R7.getL ns lv n c = res := ⟨_, rfl⟩
 rw [hres] at hg
 rw [hg]
 clear hg h2 hlv'
 skip
 refine tri_skip (tT (tS (tri_block ?_)))
 refine tri_sub (F' := [(1, .int .i64 n), (3, pt b3 0), (5, pt b5 0)]) ⟨rfl, rfl, rfl, trivial⟩ ?_
 refine loop_ind (G := Nat × Int × Cell) (fun g => g.1) (fun g => g.1 ≤ 42 ∧ R6.inS ns g.2.1 ∧ (R6.nd ns g.2.1).lv = g.1 ∧ R2.bd g.2.2 ∧ R7.getL ns g.1 g.2.1 g.2.2 = res) (fun g => [(1, .int .i64 g.2.1), (3, pt b3 0), (5, pt b5 0)]) (fun g => Box b5 [.int .i64 g.2.2.x, .int .i64 g.2.2.y] 28 :: Box b3 [.slice a ns.length cap, .int .i64 room] 26 :: A) (fun _ => I) ?_ (lv, n, c) ⟨hlv2, ⟨hn0, hn1⟩, hlv, hbd, hres⟩
 clear hres hbd hlv hlv1 hlv2 hn0 hn1 h1
 rintro ⟨lv, n, c⟩ ⟨hlv2, ⟨hn0, hn1⟩, hlv, hbd, hres⟩ K hK
 simp only at hlv2 hn0 hn1 hlv hbd hres hK ⊢
 have hlv' : (ns.getD n.toNat default).lv = lv := hlv
 skip
 refine tS (tS (tR ?_))
 refine tri_v (opv_fieldAddr rfl rfl) rfl ?_
 refine tri_v (opv_load1 rfl rfl rfl) rfl ?_
 refine tM rfl rfl ?_
 refine tri_v (opv_indexAddrS rfl rfl (by omega) (by omega) (by assumption) rfl) rfl ?_
 refine tri_v (opv_fieldAddrE rfl (by assumption) (by omega) rfl) rfl ?_
 refine tri_v (opv_loadE1 rfl (by assumption) rfl (by omega) rfl rfl) rfl ?_
 refine tri_v (opv_gtr rfl rfl) rfl ?_
 refine tN (tT ?_)
 refine tri_cond_dec rfl (fun h3 => ?_) (fun h3 => ?_)
 ·obtain ⟨m, rfl⟩ : ∃ m, lv = m + 1 := ⟨lv - 1, by omega⟩
  obtain ⟨hk1, hk2⟩ := R7.kid_ok hr ⟨hn0, hn1⟩ hlv (R7.qk c)
  have hk4 := R7.qk_4 c
  skip
  refine tri_skip (tT (tri_block (tS (tR (tA rfl rfl (tN (tT ?_)))))))
  refine tS ?_
  refine tri_draw [0, 1, 2, 3, 4, 5, 6, 7, 8, 9, 10, 11, 12] rfl [_] rfl mixed ?_
  refine th_take rfl rfl (by kernel_rfl)  (opv_fieldAddr rfl rfl) ?_
  refine th_take rfl rfl (by kernel_rfl)  (opv_load1 rfl rfl rfl) ?_
  refine th_take rfl rfl (by kernel_rfl)  (opv_move rfl) ?_
  refine th_take rfl rfl (by kernel_rfl)  (opv_indexAddrS rfl rfl (by omega) (by omega) (by assumption) rfl) ?_
  refine th_take rfl rfl (by kernel_rfl)  (opv_fieldAddrE rfl (by assumption) (by omega) rfl) ?_
  refine th_take rfl rfl (by kernel_rfl)  (opv_loadE1 rfl (by assumption) rfl (by omega) rfl rfl) ?_
  refine th_one (by kernel_rfl) (step_m rfl rfl (OpV.toG (opv_loadA rfl rfl rfl)) ?_)
  rintro _ _ _ ⟨rfl, rfl, rfl⟩
  refine ⟨Suf.h, (fun _ h => h), ?_⟩
  rw [hlv']
  refine th_one (by kernel_rfl) (step_m rfl rfl (opg_call (xs := [_, _]) rfl (square_quarter (lv := m + 1) (c := c) hlv2 hbd)) ?_)
  rintro _ _ _ ⟨rfl, rfl, rfl⟩
  refine ⟨Suf.h, (fun _ h => h), ?_⟩
  rcases hk4 with hk | hk | hk | hk
  ·rw [hk] at hk1 hk2 ⊢
   refine th_take rfl rfl (by kernel_rfl)  (opv_move rfl) ?_
   refine th_take rfl rfl (by kernel_rfl)  (opv_extract rfl rfl) ?_
   refine th_take rfl rfl (by kernel_rfl)  (opv_extract rfl rfl) ?_
   refine th_take rfl rfl (by kernel_rfl)  (opv_assign rfl) ?_
   refine th_one (by kernel_rfl) (step_m rfl rfl (opg_store rfl rfl rfl rfl rfl rfl) ?_)
   rintro _ _ _ ⟨rfl, rfl⟩
   refine ⟨Suf.h, (fun _ h => h), ?_⟩
   refine th_done (by kernel_rfl) ?_
   refine tT (tR ?_)
   refine tri_v (opv_fieldAddr rfl rfl) rfl ?_
   refine tri_v (opv_load1 rfl rfl rfl) rfl ?_
   refine tM rfl rfl (tM rfl rfl ?_)
   refine tri_v (opv_indexAddrS rfl rfl (by omega) (by omega) (by assumption) rfl) rfl ?_
   refine tri_v (opv_fieldAddrE rfl (by assumption) (by omega) rfl) rfl ?_
   refine tri_v (opv_indexAddrE rfl (by assumption) (by omega) rfl (by decide) (by decide)) rfl ?_
   refine tri_v (opv_loadE1 rfl (by assumption) rfl (by omega) rfl rfl) rfl ?_
   refine tA rfl rfl (tN ?_)
   refine tri_inBlock ?_
   refine tT ?_
   refine tri_sub ?_ (hK ⟨m, R7.kidx (R6.nd ns n) 0, R7.qd (R7.qh (m + 1)) c⟩ ⟨by simp only; omega, hk1, hk2, R7.qd_bd hlv2 hbd, ?_⟩ (by simp only; omega))
   ·exact ⟨rfl, rfl, rfl, trivial⟩
   ·rw [← hres]
    show R7.getL ns m (R7.kidx (R6.nd ns n) 0) (R7.qd (R7.qh (m + 1)) c) = R7.getL ns m (R7.kidx (R6.nd ns n) (R7.qk c)) (R7.qd (R7.qh (m + 1)) c)
    rw [hk]
  ·rw [hk] at hk1 hk2 ⊢
   refine th_take rfl rfl (by kernel_rfl)  (opv_move rfl) ?_
   refine th_take rfl rfl (by kernel_rfl)  (opv_extract rfl rfl) ?_
   refine th_take rfl rfl (by kernel_rfl)  (opv_extract rfl rfl) ?_
   refine th_take rfl rfl (by kernel_rfl)  (opv_assign rfl) ?_
   refine th_one (by kernel_rfl) (step_m rfl rfl (opg_store rfl rfl rfl rfl rfl rfl) ?_)
   rintro _ _ _ ⟨rfl, rfl⟩
   refine ⟨Suf.h, (fun _ h => h), ?_⟩
   refine th_done (by kernel_rfl) ?_
   refine tT (tR ?_)
   refine tri_v (opv_fieldAddr rfl rfl) rfl ?_
   refine tri_v (opv_load1 rfl rfl rfl) rfl ?_
   refine tM rfl rfl (tM rfl rfl ?_)
   refine tri_v (opv_indexAddrS rfl rfl (by omega) (by omega) (by assumption) rfl) rfl ?_
   refine tri_v (opv_fieldAddrE rfl (by assumption) (by omega) rfl) rfl ?_
   refine tri_v (opv_indexAddrE rfl (by assumption) (by omega) rfl (by decide) (by decide)) rfl ?_
   refine tri_v (opv_loadE1 rfl (by assumption) rfl (by omega) rfl rfl) rfl ?_
   refine tA rfl rfl (tN ?_)
   refine tri_inBlock ?_
   refine tT ?_
   refine tri_sub ?_ (hK ⟨m, R7.kidx (R6.nd ns n) 1, R7.qd (R7.qh (m + 1)) c⟩ ⟨by simp only; omega, hk1, hk2, R7.qd_bd hlv2 hbd, ?_⟩ (by simp only; omega))
   ·exact ⟨rfl, rfl, rfl, trivial⟩
   ·rw [← hres]
    show R7.getL ns m (R7.kidx (R6.nd ns n) 1) (R7.qd (R7.qh (m + 1)) c) = R7.getL ns m (R7.kidx (R6.nd ns n) (R7.qk c)) (R7.qd (R7.qh (m + 1)) c)
    rw [hk]
  ·rw [hk] at hk1 hk2 ⊢
   refine th_take rfl rfl (by kernel_rfl)  (opv_move rfl) ?_
   refine th_take rfl rfl (by kernel_rfl)  (opv_extract rfl rfl) ?_
   refine th_take rfl rfl (by kernel_rfl)  (opv_extract rfl rfl) ?_
   refine th_take rfl rfl (by kernel_rfl)  (opv_assign rfl) ?_
   refine th_one (by kernel_rfl) (step_m rfl rfl (opg_store rfl rfl rfl rfl rfl rfl) ?_)
   rintro _ _ _ ⟨rfl, rfl⟩
   refine ⟨Suf.h, (fun _ h => h), ?_⟩
   refine th_done (by kernel_rfl) ?_
   refine tT (tR ?_)
   refine tri_v (opv_fieldAddr rfl rfl) rfl ?_
   refine tri_v (opv_load1 rfl rfl rfl) rfl ?_
   refine tM rfl rfl (tM rfl rfl ?_)
   refine tri_v (opv_indexAddrS rfl rfl (by omega) (by omega) (by assumption) rfl) rfl ?_
   refine tri_v (opv_fieldAddrE rfl (by assumption) (by omega) rfl) rfl ?_
   refine tri_v (opv_indexAddrE rfl (by assumption) (by omega) rfl (by decide) (by decide)) rfl ?_
   refine tri_v (opv_loadE1 rfl (by assumption) rfl (by omega) rfl rfl) rfl ?_
   refine tA rfl rfl (tN ?_)
   refine tri_inBlock ?_
   refine tT ?_
   refine tri_sub ?_ (hK ⟨m, R7.kidx (R6.nd ns n) 2, R7.qd (R7.qh (m + 1)) c⟩ ⟨by simp only; omega, hk1, hk2, R7.qd_bd hlv2 hbd, ?_⟩ (by simp only; omega))
   ·exact ⟨rfl, rfl, rfl, trivial⟩
   ·rw [← hres]
    show R7.getL ns m (R7.kidx (R6.nd ns n) 2) (R7.qd (R7.qh (m + 1)) c) = R7.getL ns m (R7.kidx (R6.nd ns n) (R7.qk c)) (R7.qd (R7.qh (m + 1)) c)
    rw [hk]
  ·rw [hk] at hk1 hk2 ⊢
   refine th_take rfl rfl (by kernel_rfl)  (opv_move rfl) ?_
   refine th_take rfl rfl (by kernel_rfl)  (opv_extract rfl rfl) ?_
   refine th_take rfl rfl (by kernel_rfl)  (opv_extract rfl rfl) ?_
   refine th_take rfl rfl (by kernel_rfl)  (opv_assign rfl) ?_
   refine th_one (by kernel_rfl) (step_m rfl rfl (opg_store rfl rfl rfl rfl rfl rfl) ?_)
   rintro _ _ _ ⟨rfl, rfl⟩
   refine ⟨Suf.h, (fun _ h => h), ?_⟩
   refine th_done (by kernel_rfl) ?_
   refine tT (tR ?_)
   refine tri_v (opv_fieldAddr rfl rfl) rfl ?_
   refine tri_v (opv_load1 rfl rfl rfl) rfl ?_
   refine tM rfl rfl (tM rfl rfl ?_)
   refine tri_v (opv_indexAddrS rfl rfl (by omega) (by omega) (by assumption) rfl) rfl ?_
   refine tri_v (opv_fieldAddrE rfl (by assumption) (by omega) rfl) rfl ?_
   refine tri_v (opv_indexAddrE rfl (by assumption) (by omega) rfl (by decide) (by decide)) rfl ?_
   refine tri_v (opv_loadE1 rfl (by assumption) rfl (by omega) rfl rfl) rfl ?_
   refine tA rfl rfl (tN ?_)
   refine tri_inBlock ?_
   refine tT ?_
   refine tri_sub ?_ (hK ⟨m, R7.kidx (R6.nd ns n) 3, R7.qd (R7.qh (m + 1)) c⟩ ⟨by simp only; omega, hk1, hk2, R7.qd_bd hlv2 hbd, ?_⟩ (by simp only; omega))
   ·exact ⟨rfl, rfl, rfl, trivial⟩
   ·rw [← hres]
    show R7.getL ns m (R7.kidx (R6.nd ns n) 3) (R7.qd (R7.qh (m + 1)) c) = R7.getL ns m (R7.kidx (R6.nd ns n) (R7.qk c)) (R7.qd (R7.qh (m + 1)) c)
    rw [hk]
 ·have h0 : lv = 0 := by omega
  subst h0
  clear hK
  refine tri_exit ?_
  refine tri_then_exit ?_
  refine tri_then_exit ?_
  refine tri_inBlock_hit rfl ?_
  refine tT (tS (tR ?_))
  refine tri_v (opv_fieldAddr rfl rfl) rfl ?_
  refine tri_v (opv_load1 rfl rfl rfl) rfl ?_
  refine tM rfl rfl ?_
  refine tri_v (opv_indexAddrS rfl rfl (by omega) (by omega) (by assumption) rfl) rfl ?_
  refine tri_v (opv_fieldAddrE rfl (by assumption) (by omega) rfl) rfl ?_
  refine tri_v (opv_loadE1 rfl (by assumption) rfl (by omega) rfl rfl) rfl ?_
  refine tri_v (opv_eql rfl rfl) rfl ?_
  refine tA rfl rfl (tA rfl rfl (tN (tT (tri_ret ?_))))
  refine tri_end A Suf.h rfl (.cons (rv_tmp rfl) (.cons (rv_tmp rfl) .nil)) ⟨?_, rfl, rfl⟩
  rw [← hres]
  rfl
end Go.GL


set_option linter.unusedVariables false
namespace Go.GL
open Go.Proofs
attribute [local irreducible] wpList Code.wp Exit.then Exit.inBlock Ends Tri TriH OpV OpG FnC epf wpAnyH
theorem R7.setL_good (room to : Int) : ∀ (lv : Nat) (ns : List Node) (n : Int) (c : Cell), R6.Good ns room → R6.Good (R7.setL room to lv ns n c).1 room
 | 0, ns, n, c, h => h
 | m + 1, ns, n, c, h => by
  have h1 := R7.setL_good room to m ns (R7.kidx (R6.nd ns n) (R7.qk c)) (R7.qd (R7.qh (m + 1)) c) h
  unfold R7.setL
  simp only
  split
  ·exact h
  ·exact h1.put _ _ _ _
theorem R7.setL_succ (room to : Int) (m : Nat) (ns : List Node) (n : Int) (c : Cell) {q : List Node × Int × Int} (h : R7.setL room to m ns (R7.kidx (R6.nd ns n) (R7.qk c)) (R7.qd (R7.qh (m + 1)) c) = q) : R7.setL room to (m + 1) ns n c = if q.2.2 ≠ 0 then (ns, 0, q.2.2) else R7.put1 q.1 room (R6.nd ns n) (R7.qk c) q.2.1 := by
 subst h; rfl
def SetS (alive : Bool) (lv : Nat) : Prop := ∀ (A : List Asrt) (I : List Chunk) (ns : List Node) (a : Option Addr) (cap : Nat) (room n cx cy : Int) (c : Cell) (r : List Node × Int × Int), cx = c.x → cy = c.y → lv ≤ 42 → R6.right ns room → StA I a cap ns → R6.inS ns n → (R6.nd ns n).lv = lv → R2.bd c → R7.setL room (if alive then 1 else 0) lv ns n c = r →
 FnC Try.prog 63 [storeV a ns.length cap room, .int .i64 n, .agg [.int .i64 cx, .int .i64 cy].toArray, .bool alive].toArray A I (StoreR r room A I)
set_option maxHeartbeats 4000000 in
set_option maxRecDepth 100000 in
theorem ref07_set_step (alive : Bool) (lv : Nat) (ih : ∀ m, m < lv → SetS alive m) : SetS alive lv := by
 intro A I ns a cap room n cx cy c r hcx hcy hlv42 hr hst hn hlv hbd hset
 subst hcx; subst hcy
 obtain ⟨hn0, hn1⟩ := hn
 have hs := hst.sl
 have hgn : R6.Good ns room := hr.good (by have := hr.1.2.1; omega)
 have hlv' : (ns.getD n.toNat default).lv = lv := hlv
 skip
 skip
 refine fn_enter4 Try.func63 rfl Try.ntmps63 rfl fun w0 => ?_
 refine tS (tR ?_)
 refine tri_g (opg_box_agg rfl) rfl ?_
 rintro _ _ _ ⟨b4, rfl, rfl, rfl⟩
 refine tri_g (opg_box_agg rfl) rfl ?_
 rintro _ _ _ ⟨b6, rfl, rfl, rfl⟩
 refine tri_g opg_alloc rfl ?_
 rintro _ _ _ ⟨b8, rfl, rfl, rfl⟩
 refine tA rfl rfl (tA rfl rfl (tN (tT (tS (tR ?_)))))
 refine tri_v (opv_fieldAddr rfl rfl) rfl ?_
 refine tri_v (opv_load1 rfl rfl rfl) rfl ?_
 refine tM rfl rfl ?_
 refine tri_v (opv_indexAddrS rfl rfl (by omega) (by omega) (by assumption) rfl) rfl ?_
 refine tri_v (opv_loadEA rfl (by assumption) rfl (by omega) rfl rfl) rfl ?_
 refine tri_g opg_alloc rfl ?_
 rintro _ _ _ ⟨b11, rfl, rfl, rfl⟩
 refine tri_g (opg_store rfl rfl rfl rfl rfl rfl) rfl ?_
 rintro _ _ _ ⟨rfl, rfl⟩
 refine tN (tT (tS (tS (tR ?_))))
 refine tri_v (opv_fieldAddr rfl rfl) rfl ?_
 refine tri_v (opv_load1 rfl rfl rfl) rfl ?_
 refine tri_v (opv_eql rfl rfl) rfl ?_
 refine tM rfl rfl ?_
 refine tri_split rfl rfl (fun h0 => ?_) (fun h0 => ?_)
 ·have e0 : lv = 0 := by omega
  subst e0
  refine tri_guard_run rfl rfl rfl (tM rfl rfl ?_)
  refine tri_v (opv_pick_t rfl rfl) rfl ?_
  refine tN (tT ?_)
  refine tri_cond rfl (fun ha => ?_) (fun ha => ?_)
  ·subst ha
   subst hset
   refine tS (tR ?_)
   refine tri_v (opv_loadA rfl rfl rfl) rfl ?_
   refine tri_g (opg_store rfl rfl rfl rfl rfl rfl) rfl ?_
   rintro _ _ _ ⟨rfl, rfl⟩
   refine tA rfl rfl (tA rfl rfl (tN (tT (tri_ret (tri_then_ret ?_)))))
   refine tri_end A Suf.h rfl (.cons (rv_cellA rfl rfl rfl) (.cons (rv_tmp rfl) (.cons (rv_tmp rfl) .nil))) ⟨a, cap, rfl, hst, rfl, fun _ h => h⟩
  ·subst ha
   subst hset
   refine tri_skip (tT (tS (tS (tR ?_))))
   refine tri_v (opv_fieldAddr rfl rfl) rfl ?_
   refine tri_v (opv_load1 rfl rfl rfl) rfl ?_
   refine tri_v (opv_eql rfl rfl) rfl ?_
   refine tN (tT ?_)
   refine tri_cond_is rfl (h0) ?_
   refine tS (tR ?_)
   refine tri_v (opv_loadA rfl rfl rfl) rfl ?_
   refine tri_g (opg_store rfl rfl rfl rfl rfl rfl) rfl ?_
   rintro _ _ _ ⟨rfl, rfl⟩
   refine tA rfl rfl (tA rfl rfl (tN (tT (tri_ret (tri_then_ret ?_)))))
   refine tri_end A Suf.h rfl (.cons (rv_cellA rfl rfl rfl) (.cons (rv_tmp rfl) (.cons (rv_tmp rfl) .nil))) ⟨a, cap, rfl, hst, rfl, fun _ h => h⟩
 ·obtain ⟨m, rfl⟩ : ∃ m, lv = m + 1 := ⟨lv - 1, by omega⟩
  obtain ⟨hk1, hk2⟩ := R7.kid_ok hr ⟨hn0, hn1⟩ hlv (R7.qk c)
  have hk4 := R7.qk_4 c
  obtain ⟨q, hq⟩ : ∃ q, R7.setL room (if alive then 1 else 0) m ns (R7.kidx (R6.nd ns n) (R7.qk c)) (R7.qd (R7.qh (m + 1)) c) = q := ⟨_, rfl⟩
  have hse := R7.setL_succ room (if alive then 1 else 0) m ns n c hq
  rw [hset] at hse
  have hgq : R6.Good q.1 room := by rw [← hq]; exact R7.setL_good room _ m ns _ _ hgn
  have hqd := R7.qd_bd hlv42 hbd
  refine tri_guard_skip rfl rfl rfl rfl ?_
  refine tri_v (opv_pick_f rfl rfl) rfl ?_
  refine tN (tT ?_)
  refine tri_cond_false rfl ?_
  refine tri_skip (tT (tS (tS (tR ?_))))
  refine tri_v (opv_fieldAddr rfl rfl) rfl ?_
  refine tri_v (opv_load1 rfl rfl rfl) rfl ?_
  refine tri_v (opv_eql rfl rfl) rfl ?_
  refine tN (tT ?_)
  refine tri_cond_not rfl (h0) ?_
  refine tri_skip (tT (tS (tR ?_)))
  refine tri_v (opv_fieldAddr rfl rfl) rfl ?_
  refine tri_v (opv_load1 rfl rfl rfl) rfl ?_
  refine tri_v (opv_loadA rfl rfl rfl) rfl ?_
  rw [hlv']
  refine tri_g (opg_call (xs := [_, _]) rfl (ref07_quarter (lv := m + 1) (c := c) (by omega) hlv42 hbd)) rfl ?_
  rintro _ _ _ ⟨rfl, rfl, rfl⟩
  rw [← hlv']
  rcases hk4 with hk | hk | hk | hk
  ·rw [hk] at hk1 hk2 hq hse ⊢
   refine tM rfl rfl ?_
   refine tri_v (opv_extract rfl rfl) rfl ?_
   refine tri_v (opv_extract rfl rfl) rfl ?_
   refine tri_g opg_alloc rfl ?_
   rintro _ _ _ ⟨b13, rfl, rfl, rfl⟩
   refine tA rfl rfl ?_
   refine tri_g (opg_store rfl rfl rfl rfl rfl rfl) rfl ?_
   rintro _ _ _ ⟨rfl, rfl⟩
   refine tN (tT (tS ?_))
   skip
   refine tri_cut (fun F' A' J => ∃ b14 d0 f0, F' = [(3, .bool alive), (4, pt b4 0), (8, pt b8 0), (11, pt b11 0), (12, .int .i64 (0 : Nat)), (14, pt b14 0), (15, .int .i64 q.2.1), (16, .int .i64 q.2.2)] ∧ A' = Box b14 [.slice d0 q.1.length f0, .int .i64 room] 26 :: Box b13 [.int .i64 (R7.qd (R7.qh (m + 1)) c).x, .int .i64 (R7.qd (R7.qh (m + 1)) c).y] 28 :: Box b11 [.int .i64 (ns.getD n.toNat default).lv, .int .i64 (ns.getD n.toNat default).k0, .int .i64 (ns.getD n.toNat default).k1, .int .i64 (ns.getD n.toNat default).k2, .int .i64 (ns.getD n.toNat default).k3, .int .i64 (ns.getD n.toNat default).pop] 63 :: Box b8 [.slice none 0 0, .int .i64 0] 26 :: Box b6 [.int .i64 c.x, .int .i64 c.y] 28 :: Box b4 [.slice a ns.length cap, .int .i64 room] 26 :: A ∧ StA J d0 f0 q.1 ∧ I ⊆ J) ?_ ?_
   ·refine tri_draw [0, 1, 2, 3, 4, 5, 6, 7, 8, 9, 10, 11, 12, 13, 14, 15] rfl [] rfl mixed ?_
    refine th_take rfl rfl (by kernel_rfl)  (opv_loadA rfl rfl rfl) ?_
    refine th_take rfl rfl (by kernel_rfl)  (opv_move rfl) ?_
    refine th_take rfl rfl (by kernel_rfl)  (opv_fieldAddr rfl rfl) ?_
    refine th_take rfl rfl (by kernel_rfl)  (opv_indexAddrA rfl rfl (by decide) (by decide)) ?_
    refine th_take rfl rfl (by kernel_rfl)  (opv_load1 rfl rfl rfl) ?_
    refine th_take rfl rfl (by kernel_rfl)  (opv_loadA rfl rfl rfl) ?_
    refine th_take rfl rfl (by kernel_rfl)  (opv_move rfl) ?_
    refine th_two (j := 12) [7, 8, 9, 10, 11, 13, 14, 15] (by kernel_rfl) rfl ?_ ?_
    ·refine (step_m rfl rfl (opg_call (xs := [_, _, _, _]) rfl (ih m (by omega) _ _ _ _ _ room _ _ _ (R7.qd (R7.qh (m + 1)) c) q rfl rfl (by omega) hr hst hk1 hk2 hqd hq)) ?_)
     rintro _ _ J1 ⟨d0, f0, rfl, hq0, rfl, hJ1⟩
     refine ⟨Suf.h, (by assumption), ?_⟩
     refine th_take rfl rfl (by kernel_rfl)  (opv_move rfl) ?_
     refine th_take rfl rfl (by kernel_rfl)  (opv_extract rfl rfl) ?_
     refine th_take rfl rfl (by kernel_rfl)  (opv_extract rfl rfl) ?_
     refine th_take rfl rfl (by kernel_rfl)  (opv_extract rfl rfl) ?_
     refine th_one (by kernel_rfl) (step_m rfl rfl opg_alloc ?_)
     rintro _ _ _ ⟨b14, rfl, rfl, rfl⟩
     refine ⟨Suf.h, (by assumption), ?_⟩
     refine th_one (by kernel_rfl) (step_m rfl rfl (opg_store rfl rfl rfl rfl rfl rfl) ?_)
     rintro _ _ _ ⟨rfl, rfl⟩
     refine ⟨Suf.h, (by assumption), ?_⟩
     refine th_take rfl rfl (by kernel_rfl)  (opv_assign rfl) ?_
     refine th_take rfl rfl (by kernel_rfl)  (opv_assign rfl) ?_
     refine th_done (by kernel_rfl) ?_
     exact tri_cutEnd _ ⟨b14, d0, f0, rfl, rfl, hq0, hJ1⟩ ⟨rfl, rfl, rfl, rfl, rfl, rfl, rfl, rfl, trivial⟩
    ·refine (step_m rfl rfl opg_alloc ?_)
     rintro _ _ _ ⟨b14, rfl, rfl, rfl⟩
     refine ⟨Suf.h, (fun _ h => h), ?_⟩
     refine th_one (by kernel_rfl) (step_m rfl rfl (opg_call (xs := [_, _, _, _]) rfl (ih m (by omega) _ _ _ _ _ room _ _ _ (R7.qd (R7.qh (m + 1)) c) q rfl rfl (by omega) hr hst hk1 hk2 hqd hq)) ?_)
     rintro _ _ J1 ⟨d0, f0, rfl, hq0, rfl, hJ1⟩
     refine ⟨Suf.h, (by assumption), ?_⟩
     refine th_take rfl rfl (by kernel_rfl)  (opv_move rfl) ?_
     refine th_take rfl rfl (by kernel_rfl)  (opv_extract rfl rfl) ?_
     refine th_take rfl rfl (by kernel_rfl)  (opv_extract rfl rfl) ?_
     refine th_take rfl rfl (by kernel_rfl)  (opv_extract rfl rfl) ?_
     refine th_one (by kernel_rfl) (step_m rfl rfl (opg_store rfl rfl rfl rfl rfl rfl) ?_)
     rintro _ _ _ ⟨rfl, rfl⟩
     refine ⟨Suf.h, (by assumption), ?_⟩
     refine th_take rfl rfl (by kernel_rfl)  (opv_assign rfl) ?_
     refine th_take rfl rfl (by kernel_rfl)  (opv_assign rfl) ?_
     refine th_done (by kernel_rfl) ?_
     exact tri_cutEnd _ ⟨b14, d0, f0, rfl, rfl, hq0, hJ1⟩ ⟨rfl, rfl, rfl, rfl, rfl, rfl, rfl, rfl, trivial⟩
   rintro _ _ J1 ⟨b14, d0, f0, rfl, rfl, hq0, hJ1⟩
   refine tT (tS (tS (tR (tM rfl rfl ?_))))
   refine tri_v (opv_neq rfl rfl) rfl ?_
   refine tN (tT ?_)
   skip
   refine tri_cond_dec rfl (fun x0 => ?_) (fun x0 => ?_)
   ·rw [if_pos x0] at hse
    subst hse
    refine tS (tR ?_)
    refine tri_v (opv_loadA rfl rfl rfl) rfl ?_
    refine tM rfl rfl ?_
    refine tri_g (opg_store rfl rfl rfl rfl rfl rfl) rfl ?_
    rintro _ _ _ ⟨rfl, rfl⟩
    refine tA rfl rfl (tA rfl rfl (tN (tT (tri_ret (tri_then_ret ?_)))))
    refine tri_end A Suf.h rfl (.cons (rv_cellA rfl rfl rfl) (.cons (rv_tmp rfl) (.cons (rv_tmp rfl) .nil))) ⟨a, cap, rfl, hst.mono hJ1, rfl, hJ1⟩
   ·rw [if_neg x0] at hse
    subst hse
    refine tri_skip (tT (tS (tR (tM rfl rfl (tM rfl rfl ?_)))))
    refine tri_v (opv_fieldAddr rfl rfl) rfl ?_
    refine tri_v (opv_indexAddrA rfl rfl (by decide) (by decide)) rfl ?_
    refine tri_g (opg_store rfl rfl rfl rfl rfl rfl) rfl ?_
    rintro _ _ _ ⟨rfl, rfl⟩
    refine tN (tT (tS (tR ?_)))
    refine tri_v (opv_loadA rfl rfl rfl) rfl ?_
    refine tri_v (opv_fieldAddr rfl rfl) rfl ?_
    refine tri_v (opv_loadA rfl rfl rfl) rfl ?_
    refine tri_g (opg_call (xs := [_, _]) rfl (ref06_put hq0 hgq.len hgq.mod)) rfl ?_
    rintro _ _ J2 ⟨d1, f1, rfl, hq1, rfl, hJ2⟩
    refine tri_v (opv_extract rfl rfl) rfl ?_
    refine tri_v (opv_extract rfl rfl) rfl ?_
    refine tri_v (opv_extract rfl rfl) rfl ?_
    refine tri_g (opg_store rfl rfl rfl rfl rfl rfl) rfl ?_
    rintro _ _ _ ⟨rfl, rfl⟩
    refine tA rfl rfl (tA rfl rfl (tN (tT (tri_ret ?_))))
    refine tri_end A Suf.h rfl (.cons (rv_cellA rfl rfl rfl) (.cons (rv_tmp rfl) (.cons (rv_tmp rfl) .nil))) ⟨d1, f1, rfl, hq1, rfl, fun _ h => hJ2 (hJ1 h)⟩
  ·rw [hk] at hk1 hk2 hq hse ⊢
   refine tM rfl rfl ?_
   refine tri_v (opv_extract rfl rfl) rfl ?_
   refine tri_v (opv_extract rfl rfl) rfl ?_
   refine tri_g opg_alloc rfl ?_
   rintro _ _ _ ⟨b13, rfl, rfl, rfl⟩
   refine tA rfl rfl ?_
   refine tri_g (opg_store rfl rfl rfl rfl rfl rfl) rfl ?_
   rintro _ _ _ ⟨rfl, rfl⟩
   refine tN (tT (tS ?_))
   skip
   refine tri_cut (fun F' A' J => ∃ b14 d0 f0, F' = [(3, .bool alive), (4, pt b4 0), (8, pt b8 0), (11, pt b11 0), (12, .int .i64 (1 : Nat)), (14, pt b14 0), (15, .int .i64 q.2.1), (16, .int .i64 q.2.2)] ∧ A' = Box b14 [.slice d0 q.1.length f0, .int .i64 room] 26 :: Box b13 [.int .i64 (R7.qd (R7.qh (m + 1)) c).x, .int .i64 (R7.qd (R7.qh (m + 1)) c).y] 28 :: Box b11 [.int .i64 (ns.getD n.toNat default).lv, .int .i64 (ns.getD n.toNat default).k0, .int .i64 (ns.getD n.toNat default).k1, .int .i64 (ns.getD n.toNat default).k2, .int .i64 (ns.getD n.toNat default).k3, .int .i64 (ns.getD n.toNat default).pop] 63 :: Box b8 [.slice none 0 0, .int .i64 0] 26 :: Box b6 [.int .i64 c.x, .int .i64 c.y] 28 :: Box b4 [.slice a ns.length cap, .int .i64 room] 26 :: A ∧ StA J d0 f0 q.1 ∧ I ⊆ J) ?_ ?_
   ·refine tri_draw [0, 1, 2, 3, 4, 5, 6, 7, 8, 9, 10, 11, 12, 13, 14, 15] rfl [] rfl mixed ?_
    refine th_take rfl rfl (by kernel_rfl)  (opv_loadA rfl rfl rfl) ?_
    refine th_take rfl rfl (by kernel_rfl)  (opv_move rfl) ?_
    refine th_take rfl rfl (by kernel_rfl)  (opv_fieldAddr rfl rfl) ?_
    refine th_take rfl rfl (by kernel_rfl)  (opv_indexAddrA rfl rfl (by decide) (by decide)) ?_
    refine th_take rfl rfl (by kernel_rfl)  (opv_load1 rfl rfl rfl) ?_
    refine th_take rfl rfl (by kernel_rfl)  (opv_loadA rfl rfl rfl) ?_
    refine th_take rfl rfl (by kernel_rfl)  (opv_move rfl) ?_
    refine th_two (j := 12) [7, 8, 9, 10, 11, 13, 14, 15] (by kernel_rfl) rfl ?_ ?_
    ·refine (step_m rfl rfl (opg_call (xs := [_, _, _, _]) rfl (ih m (by omega) _ _ _ _ _ room _ _ _ (R7.qd (R7.qh (m + 1)) c) q rfl rfl (by omega) hr hst hk1 hk2 hqd hq)) ?_)
     rintro _ _ J1 ⟨d0, f0, rfl, hq0, rfl, hJ1⟩
     refine ⟨Suf.h, (by assumption), ?_⟩
     refine th_take rfl rfl (by kernel_rfl)  (opv_move rfl) ?_
     refine th_take rfl rfl (by kernel_rfl)  (opv_extract rfl rfl) ?_
     refine th_take rfl rfl (by kernel_rfl)  (opv_extract rfl rfl) ?_
     refine th_take rfl rfl (by kernel_rfl)  (opv_extract rfl rfl) ?_
     refine th_one (by kernel_rfl) (step_m rfl rfl opg_alloc ?_)
     rintro _ _ _ ⟨b14, rfl, rfl, rfl⟩
     refine ⟨Suf.h, (by assumption), ?_⟩
     refine th_one (by kernel_rfl) (step_m rfl rfl (opg_store rfl rfl rfl rfl rfl rfl) ?_)
     rintro _ _ _ ⟨rfl, rfl⟩
     refine ⟨Suf.h, (by assumption), ?_⟩
     refine th_take rfl rfl (by kernel_rfl)  (opv_assign rfl) ?_
     refine th_take rfl rfl (by kernel_rfl)  (opv_assign rfl) ?_
     refine th_done (by kernel_rfl) ?_
     exact tri_cutEnd _ ⟨b14, d0, f0, rfl, rfl, hq0, hJ1⟩ ⟨rfl, rfl, rfl, rfl, rfl, rfl, rfl, rfl, trivial⟩
    ·refine (step_m rfl rfl opg_alloc ?_)
     rintro _ _ _ ⟨b14, rfl, rfl, rfl⟩
     refine ⟨Suf.h, (fun _ h => h), ?_⟩
     refine th_one (by kernel_rfl) (step_m rfl rfl (opg_call (xs := [_, _, _, _]) rfl (ih m (by omega) _ _ _ _ _ room _ _ _ (R7.qd (R7.qh (m + 1)) c) q rfl rfl (by omega) hr hst hk1 hk2 hqd hq)) ?_)
     rintro _ _ J1 ⟨d0, f0, rfl, hq0, rfl, hJ1⟩
     refine ⟨Suf.h, (by assumption), ?_⟩
     refine th_take rfl rfl (by kernel_rfl)  (opv_move rfl) ?_
     refine th_take rfl rfl (by kernel_rfl)  (opv_extract rfl rfl) ?_
     refine th_take rfl rfl (by kernel_rfl)  (opv_extract rfl rfl) ?_
     refine th_take rfl rfl (by kernel_rfl)  (opv_extract rfl rfl) ?_
     refine th_one (by kernel_rfl) (step_m rfl rfl (opg_store rfl rfl rfl rfl rfl rfl) ?_)
     rintro _ _ _ ⟨rfl, rfl⟩
     refine ⟨Suf.h, (by assumption), ?_⟩
     refine th_take rfl rfl (by kernel_rfl)  (opv_assign rfl) ?_
     refine th_take rfl rfl (by kernel_rfl)  (opv_assign rfl) ?_
     refine th_done (by kernel_rfl) ?_
     exact tri_cutEnd _ ⟨b14, d0, f0, rfl, rfl, hq0, hJ1⟩ ⟨rfl, rfl, rfl, rfl, rfl, rfl, rfl, rfl, trivial⟩
   rintro _ _ J1 ⟨b14, d0, f0, rfl, rfl, hq0, hJ1⟩
   refine tT (tS (tS (tR (tM rfl rfl ?_))))
   refine tri_v (opv_neq rfl rfl) rfl ?_
   refine tN (tT ?_)
   skip
   refine tri_cond_dec rfl (fun x0 => ?_) (fun x0 => ?_)
   ·rw [if_pos x0] at hse
    subst hse
    refine tS (tR ?_)
    refine tri_v (opv_loadA rfl rfl rfl) rfl ?_
    refine tM rfl rfl ?_
    refine tri_g (opg_store rfl rfl rfl rfl rfl rfl) rfl ?_
    rintro _ _ _ ⟨rfl, rfl⟩
    refine tA rfl rfl (tA rfl rfl (tN (tT (tri_ret (tri_then_ret ?_)))))
    refine tri_end A Suf.h rfl (.cons (rv_cellA rfl rfl rfl) (.cons (rv_tmp rfl) (.cons (rv_tmp rfl) .nil))) ⟨a, cap, rfl, hst.mono hJ1, rfl, hJ1⟩
   ·rw [if_neg x0] at hse
    subst hse
    refine tri_skip (tT (tS (tR (tM rfl rfl (tM rfl rfl ?_)))))
    refine tri_v (opv_fieldAddr rfl rfl) rfl ?_
    refine tri_v (opv_indexAddrA rfl rfl (by decide) (by decide)) rfl ?_
    refine tri_g (opg_store rfl rfl rfl rfl rfl rfl) rfl ?_
    rintro _ _ _ ⟨rfl, rfl⟩
    refine tN (tT (tS (tR ?_)))
    refine tri_v (opv_loadA rfl rfl rfl) rfl ?_
    refine tri_v (opv_fieldAddr rfl rfl) rfl ?_
    refine tri_v (opv_loadA rfl rfl rfl) rfl ?_
    refine tri_g (opg_call (xs := [_, _]) rfl (ref06_put hq0 hgq.len hgq.mod)) rfl ?_
    rintro _ _ J2 ⟨d1, f1, rfl, hq1, rfl, hJ2⟩
    refine tri_v (opv_extract rfl rfl) rfl ?_
    refine tri_v (opv_extract rfl rfl) rfl ?_
    refine tri_v (opv_extract rfl rfl) rfl ?_
    refine tri_g (opg_store rfl rfl rfl rfl rfl rfl) rfl ?_
    rintro _ _ _ ⟨rfl, rfl⟩
    refine tA rfl rfl (tA rfl rfl (tN (tT (tri_ret ?_))))
    refine tri_end A Suf.h rfl (.cons (rv_cellA rfl rfl rfl) (.cons (rv_tmp rfl) (.cons (rv_tmp rfl) .nil))) ⟨d1, f1, rfl, hq1, rfl, fun _ h => hJ2 (hJ1 h)⟩
  ·rw [hk] at hk1 hk2 hq hse ⊢
   refine tM rfl rfl ?_
   refine tri_v (opv_extract rfl rfl) rfl ?_
   refine tri_v (opv_extract rfl rfl) rfl ?_
   refine tri_g opg_alloc rfl ?_
   rintro _ _ _ ⟨b13, rfl, rfl, rfl⟩
   refine tA rfl rfl ?_
   refine tri_g (opg_store rfl rfl rfl rfl rfl rfl) rfl ?_
   rintro _ _ _ ⟨rfl, rfl⟩
   refine tN (tT (tS ?_))
   skip
   refine tri_cut (fun F' A' J => ∃ b14 d0 f0, F' = [(3, .bool alive), (4, pt b4 0), (8, pt b8 0), (11, pt b11 0), (12, .int .i64 (2 : Nat)), (14, pt b14 0), (15, .int .i64 q.2.1), (16, .int .i64 q.2.2)] ∧ A' = Box b14 [.slice d0 q.1.length f0, .int .i64 room] 26 :: Box b13 [.int .i64 (R7.qd (R7.qh (m + 1)) c).x, .int .i64 (R7.qd (R7.qh (m + 1)) c).y] 28 :: Box b11 [.int .i64 (ns.getD n.toNat default).lv, .int .i64 (ns.getD n.toNat default).k0, .int .i64 (ns.getD n.toNat default).k1, .int .i64 (ns.getD n.toNat default).k2, .int .i64 (ns.getD n.toNat default).k3, .int .i64 (ns.getD n.toNat default).pop] 63 :: Box b8 [.slice none 0 0, .int .i64 0] 26 :: Box b6 [.int .i64 c.x, .int .i64 c.y] 28 :: Box b4 [.slice a ns.length cap, .int .i64 room] 26 :: A ∧ StA J d0 f0 q.1 ∧ I ⊆ J) ?_ ?_
   ·refine tri_draw [0, 1, 2, 3, 4, 5, 6, 7, 8, 9, 10, 11, 12, 13, 14, 15] rfl [] rfl mixed ?_
    refine th_take rfl rfl (by kernel_rfl)  (opv_loadA rfl rfl rfl) ?_
    refine th_take rfl rfl (by kernel_rfl)  (opv_move rfl) ?_
    refine th_take rfl rfl (by kernel_rfl)  (opv_fieldAddr rfl rfl) ?_
    refine th_take rfl rfl (by kernel_rfl)  (opv_indexAddrA rfl rfl (by decide) (by decide)) ?_
    refine th_take rfl rfl (by kernel_rfl)  (opv_load1 rfl rfl rfl) ?_
    refine th_take rfl rfl (by kernel_rfl)  (opv_loadA rfl rfl rfl) ?_
    refine th_take rfl rfl (by kernel_rfl)  (opv_move rfl) ?_
    refine th_two (j := 12) [7, 8, 9, 10, 11, 13, 14, 15] (by kernel_rfl) rfl ?_ ?_
    ·refine (step_m rfl rfl (opg_call (xs := [_, _, _, _]) rfl (ih m (by omega) _ _ _ _ _ room _ _ _ (R7.qd (R7.qh (m + 1)) c) q rfl rfl (by omega) hr hst hk1 hk2 hqd hq)) ?_)
     rintro _ _ J1 ⟨d0, f0, rfl, hq0, rfl, hJ1⟩
     refine ⟨Suf.h, (by assumption), ?_⟩
     refine th_take rfl rfl (by kernel_rfl)  (opv_move rfl) ?_
     refine th_take rfl rfl (by kernel_rfl)  (opv_extract rfl rfl) ?_
     refine th_take rfl rfl (by kernel_rfl)  (opv_extract rfl rfl) ?_
     refine th_take rfl rfl (by kernel_rfl)  (opv_extract rfl rfl) ?_
     refine th_one (by kernel_rfl) (step_m rfl rfl opg_alloc ?_)
     rintro _ _ _ ⟨b14, rfl, rfl, rfl⟩
     refine ⟨Suf.h, (by assumption), ?_⟩
     refine th_one (by kernel_rfl) (step_m rfl rfl (opg_store rfl rfl rfl rfl rfl rfl) ?_)
     rintro _ _ _ ⟨rfl, rfl⟩
     refine ⟨Suf.h, (by assumption), ?_⟩
     refine th_take rfl rfl (by kernel_rfl)  (opv_assign rfl) ?_
     refine th_take rfl rfl (by kernel_rfl)  (opv_assign rfl) ?_
     refine th_done (by kernel_rfl) ?_
     exact tri_cutEnd _ ⟨b14, d0, f0, rfl, rfl, hq0, hJ1⟩ ⟨rfl, rfl, rfl, rfl, rfl, rfl, rfl, rfl, trivial⟩
    ·refine (step_m rfl rfl opg_alloc ?_)
     rintro _ _ _ ⟨b14, rfl, rfl, rfl⟩
     refine ⟨Suf.h, (fun _ h => h), ?_⟩
     refine th_one (by kernel_rfl) (step_m rfl rfl (opg_call (xs := [_, _, _, _]) rfl (ih m (by omega) _ _ _ _ _ room _ _ _ (R7.qd (R7.qh (m + 1)) c) q rfl rfl (by omega) hr hst hk1 hk2 hqd hq)) ?_)
     rintro _ _ J1 ⟨d0, f0, rfl, hq0, rfl, hJ1⟩
     refine ⟨Suf.h, (by assumption), ?_⟩
     refine th_take rfl rfl (by kernel_rfl)  (opv_move rfl) ?_
     refine th_take rfl rfl (by kernel_rfl)  (opv_extract rfl rfl) ?_
     refine th_take rfl rfl (by kernel_rfl)  (opv_extract rfl rfl) ?_
     refine th_take rfl rfl (by kernel_rfl)  (opv_extract rfl rfl) ?_
     refine th_one (by kernel_rfl) (step_m rfl rfl (opg_store rfl rfl rfl rfl rfl rfl) ?_)
     rintro _ _ _ ⟨rfl, rfl⟩
     refine ⟨Suf.h, (by assumption), ?_⟩
     refine th_take rfl rfl (by kernel_rfl)  (opv_assign rfl) ?_
     refine th_take rfl rfl (by kernel_rfl)  (opv_assign rfl) ?_
     refine th_done (by kernel_rfl) ?_
     exact tri_cutEnd _ ⟨b14, d0, f0, rfl, rfl, hq0, hJ1⟩ ⟨rfl, rfl, rfl, rfl, rfl, rfl, rfl, rfl, trivial⟩
   rintro _ _ J1 ⟨b14, d0, f0, rfl, rfl, hq0, hJ1⟩
   refine tT (tS (tS (tR (tM rfl rfl ?_))))
   refine tri_v (opv_neq rfl rfl) rfl ?_
   refine tN (tT ?_)
   skip
   refine tri_cond_dec rfl (fun x0 => ?_) (fun x0 => ?_)
   ·rw [if_pos x0] at hse
    subst hse
    refine tS (tR ?_)
    refine tri_v (opv_loadA rfl rfl rfl) rfl ?_
    refine tM rfl rfl ?_
    refine tri_g (opg_store rfl rfl rfl rfl rfl rfl) rfl ?_
    rintro _ _ _ ⟨rfl, rfl⟩
    refine tA rfl rfl (tA rfl rfl (tN (tT (tri_ret (tri_then_ret ?_)))))
    refine tri_end A Suf.h rfl (.cons (rv_cellA rfl rfl rfl) (.cons (rv_tmp rfl) (.cons (rv_tmp rfl) .nil))) ⟨a, cap, rfl, hst.mono hJ1, rfl, hJ1⟩
   ·rw [if_neg x0] at hse
    subst hse
    refine tri_skip (tT (tS (tR (tM rfl rfl (tM rfl rfl ?_)))))
    refine tri_v (opv_fieldAddr rfl rfl) rfl ?_
    refine tri_v (opv_indexAddrA rfl rfl (by decide) (by decide)) rfl ?_
    refine tri_g (opg_store rfl rfl rfl rfl rfl rfl) rfl ?_
    rintro _ _ _ ⟨rfl, rfl⟩
    refine tN (tT (tS (tR ?_)))
    refine tri_v (opv_loadA rfl rfl rfl) rfl ?_
    refine tri_v (opv_fieldAddr rfl rfl) rfl ?_
    refine tri_v (opv_loadA rfl rfl rfl) rfl ?_
    refine tri_g (opg_call (xs := [_, _]) rfl (ref06_put hq0 hgq.len hgq.mod)) rfl ?_
    rintro _ _ J2 ⟨d1, f1, rfl, hq1, rfl, hJ2⟩
    refine tri_v (opv_extract rfl rfl) rfl ?_
    refine tri_v (opv_extract rfl rfl) rfl ?_
    refine tri_v (opv_extract rfl rfl) rfl ?_
    refine tri_g (opg_store rfl rfl rfl rfl rfl rfl) rfl ?_
    rintro _ _ _ ⟨rfl, rfl⟩
    refine tA rfl rfl (tA rfl rfl (tN (tT (tri_ret ?_))))
    refine tri_end A Suf.h rfl (.cons (rv_cellA rfl rfl rfl) (.cons (rv_tmp rfl) (.cons (rv_tmp rfl) .nil))) ⟨d1, f1, rfl, hq1, rfl, fun _ h => hJ2 (hJ1 h)⟩
  ·rw [hk] at hk1 hk2 hq hse ⊢
   refine tM rfl rfl ?_
   refine tri_v (opv_extract rfl rfl) rfl ?_
   refine tri_v (opv_extract rfl rfl) rfl ?_
   refine tri_g opg_alloc rfl ?_
   rintro _ _ _ ⟨b13, rfl, rfl, rfl⟩
   refine tA rfl rfl ?_
   refine tri_g (opg_store rfl rfl rfl rfl rfl rfl) rfl ?_
   rintro _ _ _ ⟨rfl, rfl⟩
   refine tN (tT (tS ?_))
   skip
   refine tri_cut (fun F' A' J => ∃ b14 d0 f0, F' = [(3, .bool alive), (4, pt b4 0), (8, pt b8 0), (11, pt b11 0), (12, .int .i64 (3 : Nat)), (14, pt b14 0), (15, .int .i64 q.2.1), (16, .int .i64 q.2.2)] ∧ A' = Box b14 [.slice d0 q.1.length f0, .int .i64 room] 26 :: Box b13 [.int .i64 (R7.qd (R7.qh (m + 1)) c).x, .int .i64 (R7.qd (R7.qh (m + 1)) c).y] 28 :: Box b11 [.int .i64 (ns.getD n.toNat default).lv, .int .i64 (ns.getD n.toNat default).k0, .int .i64 (ns.getD n.toNat default).k1, .int .i64 (ns.getD n.toNat default).k2, .int .i64 (ns.getD n.toNat default).k3, .int .i64 (ns.getD n.toNat default).pop] 63 :: Box b8 [.slice none 0 0, .int .i64 0] 26 :: Box b6 [.int .i64 c.x, .int .i64 c.y] 28 :: Box b4 [.slice a ns.length cap, .int .i64 room] 26 :: A ∧ StA J d0 f0 q.1 ∧ I ⊆ J) ?_ ?_
   ·refine tri_draw [0, 1, 2, 3, 4, 5, 6, 7, 8, 9, 10, 11, 12, 13, 14, 15] rfl [] rfl mixed ?_
    refine th_take rfl rfl (by kernel_rfl)  (opv_loadA rfl rfl rfl) ?_
    refine th_take rfl rfl (by kernel_rfl)  (opv_move rfl) ?_
    refine th_take rfl rfl (by kernel_rfl)  (opv_fieldAddr rfl rfl) ?_
    refine th_take rfl rfl (by kernel_rfl)  (opv_indexAddrA rfl rfl (by decide) (by decide)) ?_
    refine th_take rfl rfl (by kernel_rfl)  (opv_load1 rfl rfl rfl) ?_
    refine th_take rfl rfl (by kernel_rfl)  (opv_loadA rfl rfl rfl) ?_
    refine th_take rfl rfl (by kernel_rfl)  (opv_move rfl) ?_
    refine th_two (j := 12) [7, 8, 9, 10, 11, 13, 14, 15] (by kernel_rfl) rfl ?_ ?_
    ·refine (step_m rfl rfl (opg_call (xs := [_, _, _, _]) rfl (ih m (by omega) _ _ _ _ _ room _ _ _ (R7.qd (R7.qh (m + 1)) c) q rfl rfl (by omega) hr hst hk1 hk2 hqd hq)) ?_)
     rintro _ _ J1 ⟨d0, f0, rfl, hq0, rfl, hJ1⟩
     refine ⟨Suf.h, (by assumption), ?_⟩
     refine th_take rfl rfl (by kernel_rfl)  (opv_move rfl) ?_
     refine th_take rfl rfl (by kernel_rfl)  (opv_extract rfl rfl) ?_
     refine th_take rfl rfl (by kernel_rfl)  (opv_extract rfl rfl) ?_
     refine th_take rfl rfl (by kernel_rfl)  (opv_extract rfl rfl) ?_
     refine th_one (by kernel_rfl) (step_m rfl rfl opg_alloc ?_)
     rintro _ _ _ ⟨b14, rfl, rfl, rfl⟩
     refine ⟨Suf.h, (by assumption), ?_⟩
     refine th_one (by kernel_rfl) (step_m rfl rfl (opg_store rfl rfl rfl rfl rfl rfl) ?_)
     rintro _ _ _ ⟨rfl, rfl⟩
     refine ⟨Suf.h, (by assumption), ?_⟩
     refine th_take rfl rfl (by kernel_rfl)  (opv_assign rfl) ?_
     refine th_take rfl rfl (by kernel_rfl)  (opv_assign rfl) ?_
     refine th_done (by kernel_rfl) ?_
     exact tri_cutEnd _ ⟨b14, d0, f0, rfl, rfl, hq0, hJ1⟩ ⟨rfl, rfl, rfl, rfl, rfl, rfl, rfl, rfl, trivial⟩
    ·refine (step_m rfl rfl opg_alloc ?_)
     rintro _ _ _ ⟨b14, rfl, rfl, rfl⟩
     refine ⟨Suf.h, (fun _ h => h), ?_⟩
     refine th_one (by kernel_rfl) (step_m rfl rfl (opg_call (xs := [_, _, _, _]) rfl (ih m (by omega) _ _ _ _ _ room _ _ _ (R7.qd (R7.qh (m + 1)) c) q rfl rfl (by omega) hr hst hk1 hk2 hqd hq)) ?_)
     rintro _ _ J1 ⟨d0, f0, rfl, hq0, rfl, hJ1⟩
     refine ⟨Suf.h, (by assumption), ?_⟩
     refine th_take rfl rfl (by kernel_rfl)  (opv_move rfl) ?_
     refine th_take rfl rfl (by kernel_rfl)  (opv_extract rfl rfl) ?_
     refine th_take rfl rfl (by kernel_rfl)  (opv_extract rfl rfl) ?_
     refine th_take rfl rfl (by kernel_rfl)  (opv_extract rfl rfl) ?_
     refine th_one (by kernel_rfl) (step_m rfl rfl (opg_store rfl rfl rfl rfl rfl rfl) ?_)
     rintro _ _ _ ⟨rfl, rfl⟩
     refine ⟨Suf.h, (by assumption), ?_⟩
     refine th_take rfl rfl (by kernel_rfl)  (opv_assign rfl) ?_
     refine th_take rfl rfl (by kernel_rfl)  (opv_assign rfl) ?_
     refine th_done (by kernel_rfl) ?_
     exact tri_cutEnd _ ⟨b14, d0, f0, rfl, rfl, hq0, hJ1⟩ ⟨rfl, rfl, rfl, rfl, rfl, rfl, rfl, rfl, trivial⟩
   rintro _ _ J1 ⟨b14, d0, f0, rfl, rfl, hq0, hJ1⟩
   refine tT (tS (tS (tR (tM rfl rfl ?_))))
   refine tri_v (opv_neq rfl rfl) rfl ?_
   refine tN (tT ?_)
   skip
   refine tri_cond_dec rfl (fun x0 => ?_) (fun x0 => ?_)
   ·rw [if_pos x0] at hse
    subst hse
    refine tS (tR ?_)
    refine tri_v (opv_loadA rfl rfl rfl) rfl ?_
    refine tM rfl rfl ?_
    refine tri_g (opg_store rfl rfl rfl rfl rfl rfl) rfl ?_
    rintro _ _ _ ⟨rfl, rfl⟩
    refine tA rfl rfl (tA rfl rfl (tN (tT (tri_ret (tri_then_ret ?_)))))
    refine tri_end A Suf.h rfl (.cons (rv_cellA rfl rfl rfl) (.cons (rv_tmp rfl) (.cons (rv_tmp rfl) .nil))) ⟨a, cap, rfl, hst.mono hJ1, rfl, hJ1⟩
   ·rw [if_neg x0] at hse
    subst hse
    refine tri_skip (tT (tS (tR (tM rfl rfl (tM rfl rfl ?_)))))
    refine tri_v (opv_fieldAddr rfl rfl) rfl ?_
    refine tri_v (opv_indexAddrA rfl rfl (by decide) (by decide)) rfl ?_
    refine tri_g (opg_store rfl rfl rfl rfl rfl rfl) rfl ?_
    rintro _ _ _ ⟨rfl, rfl⟩
    refine tN (tT (tS (tR ?_)))
    refine tri_v (opv_loadA rfl rfl rfl) rfl ?_
    refine tri_v (opv_fieldAddr rfl rfl) rfl ?_
    refine tri_v (opv_loadA rfl rfl rfl) rfl ?_
    refine tri_g (opg_call (xs := [_, _]) rfl (ref06_put hq0 hgq.len hgq.mod)) rfl ?_
    rintro _ _ J2 ⟨d1, f1, rfl, hq1, rfl, hJ2⟩
    refine tri_v (opv_extract rfl rfl) rfl ?_
    refine tri_v (opv_extract rfl rfl) rfl ?_
    refine tri_v (opv_extract rfl rfl) rfl ?_
    refine tri_g (opg_store rfl rfl rfl rfl rfl rfl) rfl ?_
    rintro _ _ _ ⟨rfl, rfl⟩
    refine tA rfl rfl (tA rfl rfl (tN (tT (tri_ret ?_))))
    refine tri_end A Suf.h rfl (.cons (rv_cellA rfl rfl rfl) (.cons (rv_tmp rfl) (.cons (rv_tmp rfl) .nil))) ⟨d1, f1, rfl, hq1, rfl, fun _ h => hJ2 (hJ1 h)⟩
theorem ref07_set (alive : Bool) (lv : Nat) : SetS alive lv := by
 induction lv using Nat.strongRecOn with
 | ind lv ih => exact ref07_set_step alive lv ih
variable {A : List Asrt} {I : List Chunk}
set_option maxHeartbeats 1000000 in
set_option maxRecDepth 100000 in
theorem ref07_setM {ns : List Node} {a : Option Addr} {cap : Nat} {room n : Int} {c : Cell} {alive : Bool} (hs : StA I a cap ns) (hn : ns.length ≤ 1000000000) (hrg : R6.Rng ns) :
  FnC Try.prog 27 [storeV a ns.length cap room, .int .i64 n, cellV c, .bool alive].toArray A I (StoreR (R7.setM ns room n c alive) room A I) := by
 have hss := hs.sl
 skip
 skip
 refine fn_enter4 Try.func27 rfl Try.ntmps27 rfl fun w0 => ?_
 refine tS (tR ?_)
 refine tri_g (opg_box_agg rfl) rfl ?_
 rintro _ _ _ ⟨b4, rfl, rfl, rfl⟩
 refine tri_g (opg_box_agg rfl) rfl ?_
 rintro _ _ _ ⟨b6, rfl, rfl, rfl⟩
 refine tri_g opg_alloc rfl ?_
 rintro _ _ _ ⟨b8, rfl, rfl, rfl⟩
 refine tA rfl rfl (tA rfl rfl (tN (tT (tS (tS (tR ?_))))))
 refine tri_v (opv_loadA rfl rfl rfl) rfl ?_
 refine tM rfl rfl ?_
 refine tri_g (opg_call (xs := [_, _]) rfl (ref07_mayX hs hn hrg)) rfl ?_
 rintro _ _ _ ⟨rfl, rfl, rfl⟩
 refine tri_v (opv_notD rfl) rfl ?_
 refine tN (tT ?_)
 refine tri_cond_dec rfl (fun h1 => ?_) (fun h1 => ?_)
 ·have e : R7.setM ns room n c alive = (ns, 0, 1) := if_neg h1
  rw [e]
  refine tS (tR ?_)
  refine tri_v (opv_loadA rfl rfl rfl) rfl ?_
  refine tri_g (opg_store rfl rfl rfl rfl rfl rfl) rfl ?_
  rintro _ _ _ ⟨rfl, rfl⟩
  refine tA rfl rfl (tA rfl rfl (tN (tT (tri_ret (tri_then_ret ?_)))))
  refine tri_end A Suf.h rfl (.cons (rv_cellA rfl rfl rfl) (.cons (rv_tmp rfl) (.cons (rv_tmp rfl) .nil))) ⟨a, cap, rfl, hs, rfl, fun _ h => h⟩
 have h1 : R7.may ns room n := Decidable.not_not.1 h1
 obtain ⟨⟨hn0, hn1⟩, lv, hlv1, hlv2, hlv⟩ := h1.is
 have hr := h1.1
 have hlv' : (ns.getD n.toNat default).lv = lv := hlv
 obtain ⟨q, hq⟩ : ∃ q, R7.setL room (if alive then 1 else 0) lv ns n c = q := ⟨_, rfl⟩
 have hg : R7.setM ns room n c alive = if R7.inL lv c then (if q.2.2 ≠ 0 then (ns, 0, q.2.2) else q) else (ns, 0, 2) := by
  rw [show R7.setM ns room n c alive = _ from if_pos h1, hlv, Int.toNat_natCast, hq]
 skip
 refine tri_skip (tT (tS (tS ?_)))
 refine tri_draw [0, 1, 2, 3, 4, 5, 6, 7, 8] rfl [] rfl mixed ?_
 refine th_take rfl rfl (by kernel_rfl)  (opv_fieldAddr rfl rfl) ?_
 refine th_take rfl rfl (by kernel_rfl)  (opv_load1 rfl rfl rfl) ?_
 refine th_take rfl rfl (by kernel_rfl)  (opv_move rfl) ?_
 refine th_take rfl rfl (by kernel_rfl)  (opv_indexAddrS rfl rfl (by omega) (by omega) (by assumption) rfl) ?_
 refine th_take rfl rfl (by kernel_rfl)  (opv_fieldAddrE rfl (by assumption) (by omega) rfl) ?_
 refine th_take rfl rfl (by kernel_rfl)  (opv_loadE1 rfl (by assumption) rfl (by omega) rfl rfl) ?_
 refine th_take rfl rfl (by kernel_rfl)  (opv_loadA rfl rfl rfl) ?_
 rw [hlv']
 refine th_one (by kernel_rfl) (step_m rfl rfl (opg_call (xs := [_, _]) rfl (ref07_in (lv := lv) (c := c) (by omega) (by omega))) ?_)
 rintro _ _ _ ⟨rfl, rfl, rfl⟩
 refine ⟨Suf.h, (fun _ h => h), ?_⟩
 rw [← hlv']
 refine th_take rfl rfl (by kernel_rfl)  (opv_notD rfl) ?_
 refine th_done (by kernel_rfl) ?_
 refine tT ?_
 refine tri_cond_dec rfl (fun h2 => ?_) (fun h2 => ?_)
 ·have h2 : ¬ R7.inL lv c := by rw [← hlv']; exact h2
  rw [if_neg h2] at hg
  rw [hg]
  refine tS (tR ?_)
  refine tri_v (opv_loadA rfl rfl rfl) rfl ?_
  refine tri_g (opg_store rfl rfl rfl rfl rfl rfl) rfl ?_
  rintro _ _ _ ⟨rfl, rfl⟩
  refine tA rfl rfl (tA rfl rfl (tN (tT (tri_ret (tri_then_ret ?_)))))
  refine tri_end A Suf.h rfl (.cons (rv_cellA rfl rfl rfl) (.cons (rv_tmp rfl) (.cons (rv_tmp rfl) .nil))) ⟨a, cap, rfl, hs, rfl, fun _ h => h⟩
 ·have h2 : R7.inL lv c := by rw [← hlv']; exact Decidable.not_not.1 h2
  rw [if_pos h2] at hg
  have hbd := R7.inL_bd hlv2 h2
  rw [hg]
  refine tri_skip (tT (tS (tR ?_)))
  refine tri_v (opv_loadA rfl rfl rfl) rfl ?_
  refine tM rfl rfl ?_
  refine tri_v (opv_loadA rfl rfl rfl) rfl ?_
  refine tM rfl rfl ?_
  refine tri_g (opg_call (xs := [_, _, _, _]) rfl (ref07_set alive lv _ _ _ _ _ room _ _ _ c q rfl rfl hlv2 hr hs ⟨hn0, hn1⟩ hlv hbd hq)) rfl ?_
  rintro _ _ J1 ⟨d0, f0, rfl, hq0, rfl, hJ1⟩
  refine tM rfl rfl ?_
  refine tri_v (opv_extract rfl rfl) rfl ?_
  refine tri_v (opv_extract rfl rfl) rfl ?_
  refine tri_v (opv_extract rfl rfl) rfl ?_
  refine tri_g opg_alloc rfl ?_
  rintro _ _ _ ⟨b11, rfl, rfl, rfl⟩
  refine tri_g (opg_store rfl rfl rfl rfl rfl rfl) rfl ?_
  rintro _ _ _ ⟨rfl, rfl⟩
  refine tA rfl rfl (tA rfl rfl (tN (tT (tS (tS (tR (tM rfl rfl ?_)))))))
  refine tri_v (opv_neq rfl rfl) rfl ?_
  refine tN (tT ?_)
  refine tri_cond_dec rfl (fun x0 => ?_) (fun x0 => ?_)
  ·rw [if_pos x0]
   refine tS (tR ?_)
   refine tri_v (opv_loadA rfl rfl rfl) rfl ?_
   refine tM rfl rfl ?_
   refine tri_g (opg_store rfl rfl rfl rfl rfl rfl) rfl ?_
   rintro _ _ _ ⟨rfl, rfl⟩
   refine tA rfl rfl (tA rfl rfl (tN (tT (tri_ret (tri_then_ret ?_)))))
   refine tri_end A Suf.h rfl (.cons (rv_cellA rfl rfl rfl) (.cons (rv_tmp rfl) (.cons (rv_tmp rfl) .nil))) ⟨a, cap, rfl, hs.mono hJ1, rfl, hJ1⟩
  ·rw [if_neg x0]
   have x0 : q.2.2 = 0 := Decidable.not_not.1 x0
   refine tri_skip (tT (tS (tR ?_)))
   refine tri_v (opv_loadA rfl rfl rfl) rfl ?_
   refine tM rfl rfl ?_
   refine tri_g (opg_store rfl rfl rfl rfl rfl rfl) rfl ?_
   rintro _ _ _ ⟨rfl, rfl⟩
   refine tA rfl rfl (tA rfl rfl (tN (tT (tri_ret ?_))))
   refine tri_end A Suf.h rfl (.cons (rv_cellA rfl rfl rfl) (.cons (rv_tmp rfl) (.cons (rv_tmp rfl) .nil))) ⟨d0, f0, by rw [x0]; rfl, hq0, rfl, hJ1⟩
end Go.GL


set_option linter.unusedVariables false
namespace Go.GL
open Go.Proofs
attribute [local irreducible] wpList Code.wp Exit.then Exit.inBlock Ends Tri TriH OpV OpG FnC epf wpAnyH
def SetQ (lv : Nat) : Prop := ∀ (A : List Asrt) (I : List Chunk) (ns : List Node) (a : Option Addr) (cap bx mb : Nat) (es : KVs) (room n cx cy to : Int) (c : Cell) (r : List Node × Int × Int), cx = c.x → cy = c.y → lv ≤ 42 → R6.right ns room → Idx ns es → R6.inS ns n → (R6.nd ns n).lv = lv → R2.bd c → R7.setL room to lv ns n c = r →
 FnC Try.prog 62 [mkV bx, .int .i64 n, .agg [.int .i64 cx, .int .i64 cy].toArray, .int .i64 to].toArray (IxA bx mb a cap ns room es A) I (IxQ bx mb r room A I)
set_option maxHeartbeats 4000000 in
set_option maxRecDepth 100000 in
theorem square_set_step (lv : Nat) (ih : ∀ m, m < lv → SetQ m) : SetQ lv := by
 intro A I ns a cap bx mb es room n cx cy to c r hcx hcy hlv42 hr hix hn hlv hbd hset
 subst hcx; subst hcy
 obtain ⟨hn0, hn1⟩ := hn
 obtain ⟨hg, h2n⟩ := right_good7 hr
 have hlv' : (ns.getD n.toNat default).lv = lv := hlv
 skip
 skip
 refine fn_enter4 Try.func62 rfl Try.ntmps62 rfl fun w0 => ?_
 refine tS (tR ?_)
 refine tri_g (opg_box_agg rfl) rfl ?_
 rintro _ _ _ ⟨b4, rfl, rfl, rfl⟩
 refine tri_g (opg_box_agg rfl) rfl ?_
 rintro _ _ _ ⟨b6, rfl, rfl, rfl⟩
 refine tA rfl rfl (tA rfl rfl (tN (tT (tS (tR ?_)))))
 refine tri_v (opv_fieldAddr rfl rfl) rfl ?_
 refine tri_v (opv_load1 rfl rfl rfl) rfl ?_
 refine tri_v (opv_nilCheck rfl) rfl ?_
 refine tri_v (opv_fieldAddr rfl rfl) rfl ?_
 refine tri_v (opv_fieldAddr rfl rfl) rfl ?_
 refine tri_v (opv_load1 rfl rfl rfl) rfl ?_
 refine tM rfl rfl ?_
 refine tri_v (opv_indexAddrR rfl rfl (by omega) (by omega)) rfl ?_
 refine tri_v (opv_loadRXA rfl rfl (by omega) rfl rfl rfl) rfl ?_
 refine tri_g opg_alloc rfl ?_
 rintro _ _ _ ⟨b10, rfl, rfl, rfl⟩
 refine tri_g (opg_store rfl rfl rfl rfl rfl rfl) rfl ?_
 rintro _ _ _ ⟨rfl, rfl⟩
 refine tN (tT (tS (tS (tR ?_))))
 refine tri_v (opv_fieldAddr rfl rfl) rfl ?_
 refine tri_v (opv_load1 rfl rfl rfl) rfl ?_
 refine tri_v (opv_eql rfl rfl) rfl ?_
 refine tN (tT ?_)
 refine tri_cond_dec rfl (fun h0 => ?_) (fun h0 => ?_)
 ·have e0 : lv = 0 := by omega
  subst e0
  subst hset
  refine tS (tR (tM rfl rfl (tA rfl rfl (tA rfl rfl (tN (tT (tri_ret ?_)))))))
  refine tri_then_ret ?_
  refine tri_end _ (⟨[_, _, _], rfl⟩) rfl (.cons (rv_tmp rfl) (.cons (rv_tmp rfl) .nil)) ⟨a, cap, es, ns, rfl, rfl, hix, hg, h2n, fun _ => rfl, rfl⟩
 ·obtain ⟨m, rfl⟩ : ∃ m, lv = m + 1 := ⟨lv - 1, by omega⟩
  obtain ⟨hk1, hk2⟩ := R7.kid_ok hr ⟨hn0, hn1⟩ hlv (R7.qk c)
  have hk4 := R7.qk_4 c
  obtain ⟨q, hq⟩ : ∃ q, R7.setL room to m ns (R7.kidx (R6.nd ns n) (R7.qk c)) (R7.qd (R7.qh (m + 1)) c) = q := ⟨_, rfl⟩
  have hs := R7.setL_succ room to m ns n c hq
  rw [hset] at hs
  have hqd := R7.qd_bd hlv42 hbd
  refine tri_skip (tT (tS (tR ?_)))
  refine tri_v (opv_fieldAddr rfl rfl) rfl ?_
  refine tri_v (opv_load1 rfl rfl rfl) rfl ?_
  refine tri_v (opv_loadA rfl rfl rfl) rfl ?_
  rw [hlv']
  refine tri_g (opg_call (xs := [_, _]) rfl (square_quarter (lv := m + 1) (c := c) hlv42 hbd)) rfl ?_
  rintro _ _ _ ⟨rfl, rfl, rfl⟩
  rw [← hlv']
  rcases hk4 with hk | hk | hk | hk
  ·rw [hk] at hk1 hk2 hq hs ⊢
   refine tM rfl rfl ?_
   refine tri_v (opv_extract rfl rfl) rfl ?_
   refine tri_v (opv_extract rfl rfl) rfl ?_
   refine tri_g opg_alloc rfl ?_
   rintro _ _ _ ⟨b12, rfl, rfl, rfl⟩
   refine tA rfl rfl ?_
   refine tri_g (opg_store rfl rfl rfl rfl rfl rfl) rfl ?_
   rintro _ _ _ ⟨rfl, rfl⟩
   refine tN (tT (tS ?_))
   refine tri_perm (A := ?a1_0 :: ?a1_1 :: ?a1_2 :: ?a1_3 :: ?a1_4 :: ?a1_5 :: ?a1_6 :: ?T1) (B := ?a1_4 :: ?a1_5 :: ?a1_6 :: ?a1_0 :: ?a1_1 :: ?a1_2 :: ?a1_3 :: ?T1) (by exact permL [4, 5, 6, 0, 1, 2, 3] [?a1_0, ?a1_1, ?a1_2, ?a1_3, ?a1_4, ?a1_5, ?a1_6] ?T1 (by decide) rfl) ?_
   skip
   refine tri_draw [0, 1, 2, 3, 4, 5, 6, 7, 8, 9, 10, 11, 12] rfl [_, _, _] rfl mixed ?_
   refine th_take rfl rfl (by kernel_rfl)  (opv_loadA rfl rfl rfl) ?_
   refine th_take rfl rfl (by kernel_rfl)  (opv_move rfl) ?_
   refine th_take rfl rfl (by kernel_rfl)  (opv_fieldAddr rfl rfl) ?_
   refine th_take rfl rfl (by kernel_rfl)  (opv_indexAddrA rfl rfl (by decide) (by decide)) ?_
   refine th_take rfl rfl (by kernel_rfl)  (opv_load1 rfl rfl rfl) ?_
   refine th_take rfl rfl (by kernel_rfl)  (opv_loadA rfl rfl rfl) ?_
   refine th_take rfl rfl (by kernel_rfl)  (opv_move rfl) ?_
   refine th_one (by kernel_rfl) (step_m rfl rfl (opg_call (xs := [_, _, _, _]) rfl (ih m (by omega) _ _ _ _ _ _ _ _ _ _ _ _ _ _ q rfl rfl (by omega) hr hix hk1 hk2 hqd hq)) ?_)
   rintro _ _ _ ⟨d0, f0, es0, ms0, rfl, rfl, hx0, hg0, hl0, hm0, rfl⟩
   refine ⟨Suf.h, (fun _ h => h), ?_⟩
   refine th_take rfl rfl (by kernel_rfl)  (opv_move rfl) ?_
   refine th_take rfl rfl (by kernel_rfl)  (opv_extract rfl rfl) ?_
   refine th_take rfl rfl (by kernel_rfl)  (opv_extract rfl rfl) ?_
   refine th_take rfl rfl (by kernel_rfl)  (opv_assign rfl) ?_
   refine th_take rfl rfl (by kernel_rfl)  (opv_assign rfl) ?_
   refine th_done (by kernel_rfl) ?_
   refine tT (tS (tS (tR (tM rfl rfl ?_))))
   refine tri_v (opv_neq rfl rfl) rfl ?_
   refine tN (tT ?_)
   refine tri_cond_dec rfl (fun x0 => ?_) (fun x0 => ?_)
   ·rw [if_pos x0] at hs
    subst hs
    refine tS (tR (tM rfl rfl (tA rfl rfl (tA rfl rfl (tN (tT (tri_ret ?_)))))))
    refine tri_then_ret ?_
    refine tri_perm (A := ?a2_0 :: ?a2_1 :: ?a2_2 :: ?a2_3 :: ?a2_4 :: ?a2_5 :: ?a2_6 :: ?T2) (B := ?a2_3 :: ?a2_4 :: ?a2_5 :: ?a2_6 :: ?a2_0 :: ?a2_1 :: ?a2_2 :: ?T2) (by exact permL [3, 4, 5, 6, 0, 1, 2] [?a2_0, ?a2_1, ?a2_2, ?a2_3, ?a2_4, ?a2_5, ?a2_6] ?T2 (by decide) rfl) ?_
    refine tri_end _ (⟨[_, _, _, _], rfl⟩) rfl (.cons (rv_tmp rfl) (.cons (rv_tmp rfl) .nil)) ⟨d0, f0, es0, ms0, rfl, rfl, hx0, hg0, hl0, fun h => absurd h x0, rfl⟩
   ·rw [if_neg x0] at hs
    have hm0 := hm0 (Decidable.not_not.1 x0)
    subst hm0
    refine tri_skip (tT (tS (tR (tM rfl rfl (tM rfl rfl ?_)))))
    refine tri_v (opv_fieldAddr rfl rfl) rfl ?_
    refine tri_v (opv_indexAddrA rfl rfl (by decide) (by decide)) rfl ?_
    refine tri_g (opg_store rfl rfl rfl rfl rfl rfl) rfl ?_
    rintro _ _ _ ⟨rfl, rfl⟩
    refine tN (tT (tS (tR ?_)))
    refine tri_v (opv_fieldAddr rfl rfl) rfl ?_
    refine tri_v (opv_load1 rfl rfl rfl) rfl ?_
    refine tri_v (opv_fieldAddr rfl rfl) rfl ?_
    refine tri_v (opv_loadA rfl rfl rfl) rfl ?_
    refine tri_g (opg_call (xs := [_, _]) rfl (node_putR hg0 hl0 hx0 rfl)) rfl ?_
    rintro _ _ _ ⟨d4, f4, es4, rfl, rfl, hx4, rfl⟩
    refine tri_v (opv_extract rfl rfl) rfl ?_
    refine tri_v (opv_extract rfl rfl) rfl ?_
    refine tA rfl rfl (tA rfl rfl (tN (tT (tri_ret ?_))))
    refine tri_perm (A := ?a3_0 :: ?a3_1 :: ?a3_2 :: ?a3_3 :: ?a3_4 :: ?a3_5 :: ?a3_6 :: ?T3) (B := ?a3_3 :: ?a3_4 :: ?a3_5 :: ?a3_6 :: ?a3_0 :: ?a3_1 :: ?a3_2 :: ?T3) (by exact permL [3, 4, 5, 6, 0, 1, 2] [?a3_0, ?a3_1, ?a3_2, ?a3_3, ?a3_4, ?a3_5, ?a3_6] ?T3 (by decide) rfl) ?_
    refine tri_end _ (⟨[_, _, _, _], rfl⟩) rfl (.cons (rv_tmp rfl) (.cons (rv_tmp rfl) .nil)) ⟨d4, f4, es4, _, by rw [hs]; rfl, rfl, hx4, hg0.put _ _ _ _, R6.put_len hl0, fun _ => by rw [hs]; rfl, rfl⟩
  ·rw [hk] at hk1 hk2 hq hs ⊢
   refine tM rfl rfl ?_
   refine tri_v (opv_extract rfl rfl) rfl ?_
   refine tri_v (opv_extract rfl rfl) rfl ?_
   refine tri_g opg_alloc rfl ?_
   rintro _ _ _ ⟨b12, rfl, rfl, rfl⟩
   refine tA rfl rfl ?_
   refine tri_g (opg_store rfl rfl rfl rfl rfl rfl) rfl ?_
   rintro _ _ _ ⟨rfl, rfl⟩
   refine tN (tT (tS ?_))
   refine tri_perm (A := ?a4_0 :: ?a4_1 :: ?a4_2 :: ?a4_3 :: ?a4_4 :: ?a4_5 :: ?a4_6 :: ?T4) (B := ?a4_4 :: ?a4_5 :: ?a4_6 :: ?a4_0 :: ?a4_1 :: ?a4_2 :: ?a4_3 :: ?T4) (by exact permL [4, 5, 6, 0, 1, 2, 3] [?a4_0, ?a4_1, ?a4_2, ?a4_3, ?a4_4, ?a4_5, ?a4_6] ?T4 (by decide) rfl) ?_
   skip
   refine tri_draw [0, 1, 2, 3, 4, 5, 6, 7, 8, 9, 10, 11, 12] rfl [_, _, _] rfl mixed ?_
   refine th_take rfl rfl (by kernel_rfl)  (opv_loadA rfl rfl rfl) ?_
   refine th_take rfl rfl (by kernel_rfl)  (opv_move rfl) ?_
   refine th_take rfl rfl (by kernel_rfl)  (opv_fieldAddr rfl rfl) ?_
   refine th_take rfl rfl (by kernel_rfl)  (opv_indexAddrA rfl rfl (by decide) (by decide)) ?_
   refine th_take rfl rfl (by kernel_rfl)  (opv_load1 rfl rfl rfl) ?_
   refine th_take rfl rfl (by kernel_rfl)  (opv_loadA rfl rfl rfl) ?_
   refine th_take rfl rfl (by kernel_rfl)  (opv_move rfl) ?_
   refine th_one (by kernel_rfl) (step_m rfl rfl (opg_call (xs := [_, _, _, _]) rfl (ih m (by omega) _ _ _ _ _ _ _ _ _ _ _ _ _ _ q rfl rfl (by omega) hr hix hk1 hk2 hqd hq)) ?_)
   rintro _ _ _ ⟨d0, f0, es0, ms0, rfl, rfl, hx0, hg0, hl0, hm0, rfl⟩
   refine ⟨Suf.h, (fun _ h => h), ?_⟩
   refine th_take rfl rfl (by kernel_rfl)  (opv_move rfl) ?_
   refine th_take rfl rfl (by kernel_rfl)  (opv_extract rfl rfl) ?_
   refine th_take rfl rfl (by kernel_rfl)  (opv_extract rfl rfl) ?_
   refine th_take rfl rfl (by kernel_rfl)  (opv_assign rfl) ?_
   refine th_take rfl rfl (by kernel_rfl)  (opv_assign rfl) ?_
   refine th_done (by kernel_rfl) ?_
   refine tT (tS (tS (tR (tM rfl rfl ?_))))
   refine tri_v (opv_neq rfl rfl) rfl ?_
   refine tN (tT ?_)
   refine tri_cond_dec rfl (fun x0 => ?_) (fun x0 => ?_)
   ·rw [if_pos x0] at hs
    subst hs
    refine tS (tR (tM rfl rfl (tA rfl rfl (tA rfl rfl (tN (tT (tri_ret ?_)))))))
    refine tri_then_ret ?_
    refine tri_perm (A := ?a5_0 :: ?a5_1 :: ?a5_2 :: ?a5_3 :: ?a5_4 :: ?a5_5 :: ?a5_6 :: ?T5) (B := ?a5_3 :: ?a5_4 :: ?a5_5 :: ?a5_6 :: ?a5_0 :: ?a5_1 :: ?a5_2 :: ?T5) (by exact permL [3, 4, 5, 6, 0, 1, 2] [?a5_0, ?a5_1, ?a5_2, ?a5_3, ?a5_4, ?a5_5, ?a5_6] ?T5 (by decide) rfl) ?_
    refine tri_end _ (⟨[_, _, _, _], rfl⟩) rfl (.cons (rv_tmp rfl) (.cons (rv_tmp rfl) .nil)) ⟨d0, f0, es0, ms0, rfl, rfl, hx0, hg0, hl0, fun h => absurd h x0, rfl⟩
   ·rw [if_neg x0] at hs
    have hm0 := hm0 (Decidable.not_not.1 x0)
    subst hm0
    refine tri_skip (tT (tS (tR (tM rfl rfl (tM rfl rfl ?_)))))
    refine tri_v (opv_fieldAddr rfl rfl) rfl ?_
    refine tri_v (opv_indexAddrA rfl rfl (by decide) (by decide)) rfl ?_
    refine tri_g (opg_store rfl rfl rfl rfl rfl rfl) rfl ?_
    rintro _ _ _ ⟨rfl, rfl⟩
    refine tN (tT (tS (tR ?_)))
    refine tri_v (opv_fieldAddr rfl rfl) rfl ?_
    refine tri_v (opv_load1 rfl rfl rfl) rfl ?_
    refine tri_v (opv_fieldAddr rfl rfl) rfl ?_
    refine tri_v (opv_loadA rfl rfl rfl) rfl ?_
    refine tri_g (opg_call (xs := [_, _]) rfl (node_putR hg0 hl0 hx0 rfl)) rfl ?_
    rintro _ _ _ ⟨d4, f4, es4, rfl, rfl, hx4, rfl⟩
    refine tri_v (opv_extract rfl rfl) rfl ?_
    refine tri_v (opv_extract rfl rfl) rfl ?_
    refine tA rfl rfl (tA rfl rfl (tN (tT (tri_ret ?_))))
    refine tri_perm (A := ?a6_0 :: ?a6_1 :: ?a6_2 :: ?a6_3 :: ?a6_4 :: ?a6_5 :: ?a6_6 :: ?T6) (B := ?a6_3 :: ?a6_4 :: ?a6_5 :: ?a6_6 :: ?a6_0 :: ?a6_1 :: ?a6_2 :: ?T6) (by exact permL [3, 4, 5, 6, 0, 1, 2] [?a6_0, ?a6_1, ?a6_2, ?a6_3, ?a6_4, ?a6_5, ?a6_6] ?T6 (by decide) rfl) ?_
    refine tri_end _ (⟨[_, _, _, _], rfl⟩) rfl (.cons (rv_tmp rfl) (.cons (rv_tmp rfl) .nil)) ⟨d4, f4, es4, _, by rw [hs]; rfl, rfl, hx4, hg0.put _ _ _ _, R6.put_len hl0, fun _ => by rw [hs]; rfl, rfl⟩
  ·rw [hk] at hk1 hk2 hq hs ⊢
   refine tM rfl rfl ?_
   refine tri_v (opv_extract rfl rfl) rfl ?_
   refine tri_v (opv_extract rfl rfl) rfl ?_
   refine tri_g opg_alloc rfl ?_
   rintro _ _ _ ⟨b12, rfl, rfl, rfl⟩
   refine tA rfl rfl ?_
   refine tri_g (opg_store rfl rfl rfl rfl rfl rfl) rfl ?_
   rintro _ _ _ ⟨rfl, rfl⟩
   refine tN (tT (tS ?_))
   refine tri_perm (A := ?a7_0 :: ?a7_1 :: ?a7_2 :: ?a7_3 :: ?a7_4 :: ?a7_5 :: ?a7_6 :: ?T7) (B := ?a7_4 :: ?a7_5 :: ?a7_6 :: ?a7_0 :: ?a7_1 :: ?a7_2 :: ?a7_3 :: ?T7) (by exact permL [4, 5, 6, 0, 1, 2, 3] [?a7_0, ?a7_1, ?a7_2, ?a7_3, ?a7_4, ?a7_5, ?a7_6] ?T7 (by decide) rfl) ?_
   skip
   refine tri_draw [0, 1, 2, 3, 4, 5, 6, 7, 8, 9, 10, 11, 12] rfl [_, _, _] rfl mixed ?_
   refine th_take rfl rfl (by kernel_rfl)  (opv_loadA rfl rfl rfl) ?_
   refine th_take rfl rfl (by kernel_rfl)  (opv_move rfl) ?_
   refine th_take rfl rfl (by kernel_rfl)  (opv_fieldAddr rfl rfl) ?_
   refine th_take rfl rfl (by kernel_rfl)  (opv_indexAddrA rfl rfl (by decide) (by decide)) ?_
   refine th_take rfl rfl (by kernel_rfl)  (opv_load1 rfl rfl rfl) ?_
   refine th_take rfl rfl (by kernel_rfl)  (opv_loadA rfl rfl rfl) ?_
   refine th_take rfl rfl (by kernel_rfl)  (opv_move rfl) ?_
   refine th_one (by kernel_rfl) (step_m rfl rfl (opg_call (xs := [_, _, _, _]) rfl (ih m (by omega) _ _ _ _ _ _ _ _ _ _ _ _ _ _ q rfl rfl (by omega) hr hix hk1 hk2 hqd hq)) ?_)
   rintro _ _ _ ⟨d0, f0, es0, ms0, rfl, rfl, hx0, hg0, hl0, hm0, rfl⟩
   refine ⟨Suf.h, (fun _ h => h), ?_⟩
   refine th_take rfl rfl (by kernel_rfl)  (opv_move rfl) ?_
   refine th_take rfl rfl (by kernel_rfl)  (opv_extract rfl rfl) ?_
   refine th_take rfl rfl (by kernel_rfl)  (opv_extract rfl rfl) ?_
   refine th_take rfl rfl (by kernel_rfl)  (opv_assign rfl) ?_
   refine th_take rfl rfl (by kernel_rfl)  (opv_assign rfl) ?_
   refine th_done (by kernel_rfl) ?_
   refine tT (tS (tS (tR (tM rfl rfl ?_))))
   refine tri_v (opv_neq rfl rfl) rfl ?_
   refine tN (tT ?_)
   refine tri_cond_dec rfl (fun x0 => ?_) (fun x0 => ?_)
   ·rw [if_pos x0] at hs
    subst hs
    refine tS (tR (tM rfl rfl (tA rfl rfl (tA rfl rfl (tN (tT (tri_ret ?_)))))))
    refine tri_then_ret ?_
    refine tri_perm (A := ?a8_0 :: ?a8_1 :: ?a8_2 :: ?a8_3 :: ?a8_4 :: ?a8_5 :: ?a8_6 :: ?T8) (B := ?a8_3 :: ?a8_4 :: ?a8_5 :: ?a8_6 :: ?a8_0 :: ?a8_1 :: ?a8_2 :: ?T8) (by exact permL [3, 4, 5, 6, 0, 1, 2] [?a8_0, ?a8_1, ?a8_2, ?a8_3, ?a8_4, ?a8_5, ?a8_6] ?T8 (by decide) rfl) ?_
    refine tri_end _ (⟨[_, _, _, _], rfl⟩) rfl (.cons (rv_tmp rfl) (.cons (rv_tmp rfl) .nil)) ⟨d0, f0, es0, ms0, rfl, rfl, hx0, hg0, hl0, fun h => absurd h x0, rfl⟩
   ·rw [if_neg x0] at hs
    have hm0 := hm0 (Decidable.not_not.1 x0)
    subst hm0
    refine tri_skip (tT (tS (tR (tM rfl rfl (tM rfl rfl ?_)))))
    refine tri_v (opv_fieldAddr rfl rfl) rfl ?_
    refine tri_v (opv_indexAddrA rfl rfl (by decide) (by decide)) rfl ?_
    refine tri_g (opg_store rfl rfl rfl rfl rfl rfl) rfl ?_
    rintro _ _ _ ⟨rfl, rfl⟩
    refine tN (tT (tS (tR ?_)))
    refine tri_v (opv_fieldAddr rfl rfl) rfl ?_
    refine tri_v (opv_load1 rfl rfl rfl) rfl ?_
    refine tri_v (opv_fieldAddr rfl rfl) rfl ?_
    refine tri_v (opv_loadA rfl rfl rfl) rfl ?_
    refine tri_g (opg_call (xs := [_, _]) rfl (node_putR hg0 hl0 hx0 rfl)) rfl ?_
    rintro _ _ _ ⟨d4, f4, es4, rfl, rfl, hx4, rfl⟩
    refine tri_v (opv_extract rfl rfl) rfl ?_
    refine tri_v (opv_extract rfl rfl) rfl ?_
    refine tA rfl rfl (tA rfl rfl (tN (tT (tri_ret ?_))))
    refine tri_perm (A := ?a9_0 :: ?a9_1 :: ?a9_2 :: ?a9_3 :: ?a9_4 :: ?a9_5 :: ?a9_6 :: ?T9) (B := ?a9_3 :: ?a9_4 :: ?a9_5 :: ?a9_6 :: ?a9_0 :: ?a9_1 :: ?a9_2 :: ?T9) (by exact permL [3, 4, 5, 6, 0, 1, 2] [?a9_0, ?a9_1, ?a9_2, ?a9_3, ?a9_4, ?a9_5, ?a9_6] ?T9 (by decide) rfl) ?_
    refine tri_end _ (⟨[_, _, _, _], rfl⟩) rfl (.cons (rv_tmp rfl) (.cons (rv_tmp rfl) .nil)) ⟨d4, f4, es4, _, by rw [hs]; rfl, rfl, hx4, hg0.put _ _ _ _, R6.put_len hl0, fun _ => by rw [hs]; rfl, rfl⟩
  ·rw [hk] at hk1 hk2 hq hs ⊢
   refine tM rfl rfl ?_
   refine tri_v (opv_extract rfl rfl) rfl ?_
   refine tri_v (opv_extract rfl rfl) rfl ?_
   refine tri_g opg_alloc rfl ?_
   rintro _ _ _ ⟨b12, rfl, rfl, rfl⟩
   refine tA rfl rfl ?_
   refine tri_g (opg_store rfl rfl rfl rfl rfl rfl) rfl ?_
   rintro _ _ _ ⟨rfl, rfl⟩
   refine tN (tT (tS ?_))
   refine tri_perm (A := ?a10_0 :: ?a10_1 :: ?a10_2 :: ?a10_3 :: ?a10_4 :: ?a10_5 :: ?a10_6 :: ?T10) (B := ?a10_4 :: ?a10_5 :: ?a10_6 :: ?a10_0 :: ?a10_1 :: ?a10_2 :: ?a10_3 :: ?T10) (by exact permL [4, 5, 6, 0, 1, 2, 3] [?a10_0, ?a10_1, ?a10_2, ?a10_3, ?a10_4, ?a10_5, ?a10_6] ?T10 (by decide) rfl) ?_
   skip
   refine tri_draw [0, 1, 2, 3, 4, 5, 6, 7, 8, 9, 10, 11, 12] rfl [_, _, _] rfl mixed ?_
   refine th_take rfl rfl (by kernel_rfl)  (opv_loadA rfl rfl rfl) ?_
   refine th_take rfl rfl (by kernel_rfl)  (opv_move rfl) ?_
   refine th_take rfl rfl (by kernel_rfl)  (opv_fieldAddr rfl rfl) ?_
   refine th_take rfl rfl (by kernel_rfl)  (opv_indexAddrA rfl rfl (by decide) (by decide)) ?_
   refine th_take rfl rfl (by kernel_rfl)  (opv_load1 rfl rfl rfl) ?_
   refine th_take rfl rfl (by kernel_rfl)  (opv_loadA rfl rfl rfl) ?_
   refine th_take rfl rfl (by kernel_rfl)  (opv_move rfl) ?_
   refine th_one (by kernel_rfl) (step_m rfl rfl (opg_call (xs := [_, _, _, _]) rfl (ih m (by omega) _ _ _ _ _ _ _ _ _ _ _ _ _ _ q rfl rfl (by omega) hr hix hk1 hk2 hqd hq)) ?_)
   rintro _ _ _ ⟨d0, f0, es0, ms0, rfl, rfl, hx0, hg0, hl0, hm0, rfl⟩
   refine ⟨Suf.h, (fun _ h => h), ?_⟩
   refine th_take rfl rfl (by kernel_rfl)  (opv_move rfl) ?_
   refine th_take rfl rfl (by kernel_rfl)  (opv_extract rfl rfl) ?_
   refine th_take rfl rfl (by kernel_rfl)  (opv_extract rfl rfl) ?_
   refine th_take rfl rfl (by kernel_rfl)  (opv_assign rfl) ?_
   refine th_take rfl rfl (by kernel_rfl)  (opv_assign rfl) ?_
   refine th_done (by kernel_rfl) ?_
   refine tT (tS (tS (tR (tM rfl rfl ?_))))
   refine tri_v (opv_neq rfl rfl) rfl ?_
   refine tN (tT ?_)
   refine tri_cond_dec rfl (fun x0 => ?_) (fun x0 => ?_)
   ·rw [if_pos x0] at hs
    subst hs
    refine tS (tR (tM rfl rfl (tA rfl rfl (tA rfl rfl (tN (tT (tri_ret ?_)))))))
    refine tri_then_ret ?_
    refine tri_perm (A := ?a11_0 :: ?a11_1 :: ?a11_2 :: ?a11_3 :: ?a11_4 :: ?a11_5 :: ?a11_6 :: ?T11) (B := ?a11_3 :: ?a11_4 :: ?a11_5 :: ?a11_6 :: ?a11_0 :: ?a11_1 :: ?a11_2 :: ?T11) (by exact permL [3, 4, 5, 6, 0, 1, 2] [?a11_0, ?a11_1, ?a11_2, ?a11_3, ?a11_4, ?a11_5, ?a11_6] ?T11 (by decide) rfl) ?_
    refine tri_end _ (⟨[_, _, _, _], rfl⟩) rfl (.cons (rv_tmp rfl) (.cons (rv_tmp rfl) .nil)) ⟨d0, f0, es0, ms0, rfl, rfl, hx0, hg0, hl0, fun h => absurd h x0, rfl⟩
   ·rw [if_neg x0] at hs
    have hm0 := hm0 (Decidable.not_not.1 x0)
    subst hm0
    refine tri_skip (tT (tS (tR (tM rfl rfl (tM rfl rfl ?_)))))
    refine tri_v (opv_fieldAddr rfl rfl) rfl ?_
    refine tri_v (opv_indexAddrA rfl rfl (by decide) (by decide)) rfl ?_
    refine tri_g (opg_store rfl rfl rfl rfl rfl rfl) rfl ?_
    rintro _ _ _ ⟨rfl, rfl⟩
    refine tN (tT (tS (tR ?_)))
    refine tri_v (opv_fieldAddr rfl rfl) rfl ?_
    refine tri_v (opv_load1 rfl rfl rfl) rfl ?_
    refine tri_v (opv_fieldAddr rfl rfl) rfl ?_
    refine tri_v (opv_loadA rfl rfl rfl) rfl ?_
    refine tri_g (opg_call (xs := [_, _]) rfl (node_putR hg0 hl0 hx0 rfl)) rfl ?_
    rintro _ _ _ ⟨d4, f4, es4, rfl, rfl, hx4, rfl⟩
    refine tri_v (opv_extract rfl rfl) rfl ?_
    refine tri_v (opv_extract rfl rfl) rfl ?_
    refine tA rfl rfl (tA rfl rfl (tN (tT (tri_ret ?_))))
    refine tri_perm (A := ?a12_0 :: ?a12_1 :: ?a12_2 :: ?a12_3 :: ?a12_4 :: ?a12_5 :: ?a12_6 :: ?T12) (B := ?a12_3 :: ?a12_4 :: ?a12_5 :: ?a12_6 :: ?a12_0 :: ?a12_1 :: ?a12_2 :: ?T12) (by exact permL [3, 4, 5, 6, 0, 1, 2] [?a12_0, ?a12_1, ?a12_2, ?a12_3, ?a12_4, ?a12_5, ?a12_6] ?T12 (by decide) rfl) ?_
    refine tri_end _ (⟨[_, _, _, _], rfl⟩) rfl (.cons (rv_tmp rfl) (.cons (rv_tmp rfl) .nil)) ⟨d4, f4, es4, _, by rw [hs]; rfl, rfl, hx4, hg0.put _ _ _ _, R6.put_len hl0, fun _ => by rw [hs]; rfl, rfl⟩
theorem square_set (lv : Nat) : SetQ lv := by
 induction lv using Nat.strongRecOn with
 | ind lv ih => exact square_set_step lv ih
end Go.GL


set_option linter.unusedVariables false
namespace Go.GL
open Go.Proofs
attribute [local irreducible] wpList Code.wp Exit.then Exit.inBlock Ends Tri TriH OpV OpG FnC epf wpAnyH
variable {A : List Asrt} {I : List Chunk}
namespace R7
def sq1 (ns : List Node) (room n : Int) (r : List Node × Int × Int) : List Node × Int × Int := if may ns room n then R6.told ns room r else (ns, 0, 1)
def set1 (ns : List Node) (room n : Int) (c : Cell) (to : Int) : List Node × Int × Int := if inL (R6.nd ns n).lv c then setL room to (R6.nd ns n).lv.toNat ns n c else (ns, 0, 2)
theorem sq1_set (ns : List Node) (room n : Int) (c : Cell) (alive : Bool) : sq1 ns room n (set1 ns room n c (if alive then 1 else 0)) = setM ns room n c alive := by
 unfold sq1 setM
 by_cases h : may ns room n
 ·rw [if_pos h, if_pos h]
  have e : ∀ r, R6.told ns room r = if r.2.2 ≠ 0 then (ns, 0, r.2.2) else r := fun r => if_pos h.1
  rw [e]
  unfold set1
  by_cases hi : inL (R6.nd ns n).lv c
  ·rw [if_pos hi, if_pos hi]
  ·rw [if_neg hi, if_neg hi]; rfl
 ·rw [if_neg h, if_neg h]
end R7
set_option maxHeartbeats 1000000 in
set_option maxRecDepth 100000 in
theorem square_square {ns : List Node} {a : Option Addr} {cap f1 : Nat} {room n : Int} {ca1 : List Value} {r : List Node × Int × Int} [FnI Try.prog f1] (hs : StA I a cap ns) (hn : ns.length ≤ 1000000000)
  (hc1 : R7.may ns room n → ∀ bx mb a cap es (X Y Z W : Asrt), Idx ns es → FnC Try.prog f1 ([] ++ [mkV bx] ++ ca1).toArray (IxA bx mb a cap ns room es (X :: Y :: Z :: W :: A)) I (IxM bx mb r room (X :: Y :: Z :: W :: A) I)) :
  FnC Try.prog 54 [storeV a ns.length cap room, .int .i64 n, .func (.func f1) [].toArray ca1.toArray].toArray A I (StoreR (R7.sq1 ns room n r) room A I) := by
 skip
 skip
 refine fn_enter3 Try.func54 rfl Try.ntmps54 rfl fun w0 => ?_
 refine tS (tR ?_)
 refine tri_g (opg_box_agg rfl) rfl ?_
 rintro _ _ _ ⟨b3, rfl, rfl, rfl⟩
 refine tri_g opg_alloc rfl ?_
 rintro _ _ _ ⟨b6, rfl, rfl, rfl⟩
 refine tA rfl rfl (tA rfl rfl (tN (tT (tS (tS (tR ?_))))))
 refine tri_v (opv_loadA rfl rfl rfl) rfl ?_
 refine tM rfl rfl ?_
 refine tri_g (opg_call (xs := [_, _]) rfl (square_may hs hn)) rfl ?_
 rintro _ _ _ ⟨rfl, rfl, rfl⟩
 refine tri_v (opv_notD rfl) rfl ?_
 refine tN (tT ?_)
 refine tri_cond_dec rfl (fun h1 => ?_) (fun h1 => ?_)
 ·have e : R7.sq1 ns room n r = (ns, 0, 1) := if_neg h1
  refine tS (tR ?_)
  refine tri_v (opv_loadA rfl rfl rfl) rfl ?_
  refine tri_g (opg_store rfl rfl rfl rfl rfl rfl) rfl ?_
  rintro _ _ _ ⟨rfl, rfl⟩
  refine tA rfl rfl (tA rfl rfl (tN (tT (tri_ret (tri_then_ret ?_)))))
  refine tri_end A Suf.h rfl (.cons (rv_cellA rfl rfl rfl) (.cons (rv_tmp rfl) (.cons (rv_tmp rfl) .nil))) ?_
  rw [e]
  exact ⟨a, cap, rfl, hs, rfl, fun _ h => h⟩
 ·have h1 : R7.may ns room n := Decidable.not_not.1 h1
  have e : R7.sq1 ns room n r = R6.told ns room r := if_pos h1
  rw [e]
  refine tri_skip (tT (tS (tR ?_)))
  refine tri_v (opv_loadA rfl rfl rfl) rfl ?_
  refine tM rfl rfl ?_
  refine tri_g (opg_call (xs := [_, _]) rfl (square_told (r := r) (ca1 := ca1) hs hn (fun hr bx mb a cap es X Y hi => hc1 h1 bx mb a cap es X Y _ _ hi))) rfl ?_
  rintro _ _ I1 ⟨a1, c1, rfl, hs1, rfl, hI1⟩
  refine tri_v (opv_extract rfl rfl) rfl ?_
  refine tri_v (opv_extract rfl rfl) rfl ?_
  refine tri_v (opv_extract rfl rfl) rfl ?_
  refine tri_g (opg_store rfl rfl rfl rfl rfl rfl) rfl ?_
  rintro _ _ _ ⟨rfl, rfl⟩
  refine tA rfl rfl (tA rfl rfl (tN (tT (tri_ret ?_))))
  refine tri_end A Suf.h rfl (.cons (rv_cellA rfl rfl rfl) (.cons (rv_tmp rfl) (.cons (rv_tmp rfl) .nil))) ⟨a1, c1, rfl, hs1, rfl, hI1⟩
set_option maxHeartbeats 2000000 in
set_option maxRecDepth 100000 in
theorem square_set1 {ns : List Node} {a : Option Addr} {cap bx mb b5 b6 b7 : Nat} {room n : Int} {c : Cell} {alive : Bool} {es : KVs} {T1 T2 T3 : TypeId} {X Y Z W V : Asrt} (hm : R7.may ns room n) (hix : Idx ns es) :
  FnC Try.prog 61 ([] ++ [mkV bx] ++ [pt b7 0, pt b5 0, pt b6 0]).toArray (IxA bx mb a cap ns room es (X :: Y :: Z :: W :: V :: Box b7 [.bool alive] T1 :: Box b6 [.int .i64 c.x, .int .i64 c.y] T2 :: Box b5 [.int .i64 n] T3 :: A)) I (IxM bx mb (R7.set1 ns room n c (if alive then 1 else 0)) room (X :: Y :: Z :: W :: V :: Box b7 [.bool alive] T1 :: Box b6 [.int .i64 c.x, .int .i64 c.y] T2 :: Box b5 [.int .i64 n] T3 :: A) I) := by
 show FnC Try.prog _ [mkV bx, pt b7 0, pt b5 0, pt b6 0].toArray _ _ _
 obtain ⟨⟨hn0, hn1⟩, lv, hlv1, hlv2, hlv⟩ := hm.is
 have hr := hm.1
 obtain ⟨hg, h2n⟩ := right_good7 hr
 have hlv' : (ns.getD n.toNat default).lv = lv := hlv
 have hbad : ¬ R7.inL lv c → ∀ to, R7.set1 ns room n c to = (ns, 0, 2) := fun h to => if_neg (by rw [hlv]; exact h)
 have hok : R7.inL lv c → ∀ to, R7.set1 ns room n c to = R7.setL room to lv ns n c := fun h to => (if_pos (by rw [hlv]; exact h)).trans (by rw [hlv, Int.toNat_natCast])
 skip
 skip
 refine fn_enter4 Try.func61 rfl Try.ntmps61 rfl fun w0 => ?_
 refine tS (tR ?_)
 refine tri_g (opg_box_agg rfl) rfl ?_
 rintro _ _ _ ⟨b4, rfl, rfl, rfl⟩
 refine tA rfl rfl (tA rfl rfl (tN (tT (tS (tR (tA rfl rfl (tN ?_)))))))
 refine tT (tS (tS (tR ?_)))
 refine tri_v (opv_load1 rfl rfl rfl) rfl ?_
 refine tN (tT ?_)
 refine tri_cond rfl (fun ha => ?_) (fun ha => ?_)
 ·subst ha
  show Tri _ _ _ _ _ _
  refine tR (tA rfl rfl (tN (tT (tS (tS ?_)))))
  refine tri_draw [0, 1, 2, 3, 4, 5, 6, 7, 8, 9, 10, 11, 12] rfl [] rfl mixed ?_
  refine th_take rfl rfl (by kernel_rfl)  (opv_fieldAddr rfl rfl) ?_
  refine th_take rfl rfl (by kernel_rfl)  (opv_load1 rfl rfl rfl) ?_
  refine th_take rfl rfl (by kernel_rfl)  (opv_nilCheck rfl) ?_
  refine th_take rfl rfl (by kernel_rfl)  (opv_fieldAddr rfl rfl) ?_
  refine th_take rfl rfl (by kernel_rfl)  (opv_fieldAddr rfl rfl) ?_
  refine th_take rfl rfl (by kernel_rfl)  (opv_load1 rfl rfl rfl) ?_
  refine th_take rfl rfl (by kernel_rfl)  (opv_load1 rfl rfl rfl) ?_
  refine th_take rfl rfl (by kernel_rfl)  (opv_indexAddrR rfl rfl (by omega) (by omega)) ?_
  refine th_take rfl rfl (by kernel_rfl)  (opv_fieldAddrR rfl (by omega) rfl) ?_
  refine th_take rfl rfl (by kernel_rfl)  (opv_loadRX1 rfl rfl (by omega) rfl rfl) ?_
  refine th_take rfl rfl (by kernel_rfl)  (opv_loadA rfl rfl rfl) ?_
  rw [hlv']
  refine th_one (by kernel_rfl) (step_m rfl rfl (opg_call (xs := [_, _]) rfl (square_in (lv := lv) (c := c) hlv1 hlv2)) ?_)
  rintro _ _ _ ⟨rfl, rfl, rfl⟩
  refine ⟨Suf.h, (fun _ h => h), ?_⟩
  rw [← hlv']
  refine th_take rfl rfl (by kernel_rfl)  (opv_notD rfl) ?_
  refine th_done (by kernel_rfl) ?_
  refine tT ?_
  refine tri_cond_dec rfl (fun h2 => ?_) (fun h2 => ?_)
  ·have e := hbad (by rw [← hlv']; exact h2) (if true then 1 else 0)
   rw [e]
   refine tS (tR (tA rfl rfl (tA rfl rfl (tN (tT (tri_ret (tri_then_ret ?_)))))))
   refine tri_end _ (⟨[_], rfl⟩) rfl (.cons (rv_tmp rfl) (.cons (rv_tmp rfl) .nil)) ⟨I, ⟨a, cap, es, ns, rfl, rfl, hix, hg, h2n, fun _ => rfl, rfl⟩, fun _ h => h⟩
  ·have h2 : R7.inL lv c := by rw [← hlv']; exact Decidable.not_not.1 h2
   have e := hok h2 (if true then 1 else 0)
   have hbd := R7.inL_bd hlv2 h2
   refine tri_skip (tT (tS (tR ?_)))
   refine tri_v (opv_loadA rfl rfl rfl) rfl ?_
   refine tri_v (opv_load1 rfl rfl rfl) rfl ?_
   refine tri_v (opv_loadA rfl rfl rfl) rfl ?_
   refine tM rfl rfl ?_
   refine tri_perm (A := ?a1_0 :: ?a1_1 :: ?a1_2 :: ?a1_3 :: ?T1) (B := ?a1_1 :: ?a1_2 :: ?a1_3 :: ?a1_0 :: ?T1) (by exact permL [1, 2, 3, 0] [?a1_0, ?a1_1, ?a1_2, ?a1_3] ?T1 (by decide) rfl) ?_
   refine tri_g (opg_call (xs := [_, _, _, _]) rfl (square_set lv _ _ _ _ _ _ _ _ _ _ _ _ _ c _ rfl rfl hlv2 hr hix ⟨hn0, hn1⟩ hlv hbd e.symm)) rfl ?_
   rintro _ _ _ ⟨d0, f0, es0, ms0, rfl, rfl, hx0, hg0, hl0, hm0, rfl⟩
   refine tri_v (opv_extract rfl rfl) rfl ?_
   refine tri_v (opv_extract rfl rfl) rfl ?_
   refine tA rfl rfl (tA rfl rfl (tN (tT (tri_ret ?_))))
   refine tri_perm (A := ?a2_0 :: ?a2_1 :: ?a2_2 :: ?a2_3 :: ?T2) (B := ?a2_3 :: ?a2_0 :: ?a2_1 :: ?a2_2 :: ?T2) (by exact permL [3, 0, 1, 2] [?a2_0, ?a2_1, ?a2_2, ?a2_3] ?T2 (by decide) rfl) ?_
   refine tri_end _ (⟨[_], rfl⟩) rfl (.cons (rv_tmp rfl) (.cons (rv_tmp rfl) .nil)) ⟨I, ⟨d0, f0, es0, ms0, rfl, rfl, hx0, hg0, hl0, hm0, rfl⟩, fun _ h => h⟩
 ·subst ha
  refine tri_skip (tT (tS (tS ?_)))
  refine tri_draw [0, 1, 2, 3, 4, 5, 6, 7, 8, 9, 10, 11, 12] rfl [] rfl mixed ?_
  refine th_take rfl rfl (by kernel_rfl)  (opv_fieldAddr rfl rfl) ?_
  refine th_take rfl rfl (by kernel_rfl)  (opv_load1 rfl rfl rfl) ?_
  refine th_take rfl rfl (by kernel_rfl)  (opv_nilCheck rfl) ?_
  refine th_take rfl rfl (by kernel_rfl)  (opv_fieldAddr rfl rfl) ?_
  refine th_take rfl rfl (by kernel_rfl)  (opv_fieldAddr rfl rfl) ?_
  refine th_take rfl rfl (by kernel_rfl)  (opv_load1 rfl rfl rfl) ?_
  refine th_take rfl rfl (by kernel_rfl)  (opv_load1 rfl rfl rfl) ?_
  refine th_take rfl rfl (by kernel_rfl)  (opv_indexAddrR rfl rfl (by omega) (by omega)) ?_
  refine th_take rfl rfl (by kernel_rfl)  (opv_fieldAddrR rfl (by omega) rfl) ?_
  refine th_take rfl rfl (by kernel_rfl)  (opv_loadRX1 rfl rfl (by omega) rfl rfl) ?_
  refine th_take rfl rfl (by kernel_rfl)  (opv_loadA rfl rfl rfl) ?_
  rw [hlv']
  refine th_one (by kernel_rfl) (step_m rfl rfl (opg_call (xs := [_, _]) rfl (square_in (lv := lv) (c := c) hlv1 hlv2)) ?_)
  rintro _ _ _ ⟨rfl, rfl, rfl⟩
  refine ⟨Suf.h, (fun _ h => h), ?_⟩
  rw [← hlv']
  refine th_take rfl rfl (by kernel_rfl)  (opv_notD rfl) ?_
  refine th_done (by kernel_rfl) ?_
  refine tT ?_
  refine tri_cond_dec rfl (fun h2 => ?_) (fun h2 => ?_)
  ·have e := hbad (by rw [← hlv']; exact h2) (if false then 1 else 0)
   rw [e]
   refine tS (tR (tA rfl rfl (tA rfl rfl (tN (tT (tri_ret (tri_then_ret ?_)))))))
   refine tri_end _ (⟨[_], rfl⟩) rfl (.cons (rv_tmp rfl) (.cons (rv_tmp rfl) .nil)) ⟨I, ⟨a, cap, es, ns, rfl, rfl, hix, hg, h2n, fun _ => rfl, rfl⟩, fun _ h => h⟩
  ·have h2 : R7.inL lv c := by rw [← hlv']; exact Decidable.not_not.1 h2
   have e := hok h2 (if false then 1 else 0)
   have hbd := R7.inL_bd hlv2 h2
   refine tri_skip (tT (tS (tR ?_)))
   refine tri_v (opv_loadA rfl rfl rfl) rfl ?_
   refine tri_v (opv_load1 rfl rfl rfl) rfl ?_
   refine tri_v (opv_loadA rfl rfl rfl) rfl ?_
   refine tM rfl rfl ?_
   refine tri_perm (A := ?a3_0 :: ?a3_1 :: ?a3_2 :: ?a3_3 :: ?T3) (B := ?a3_1 :: ?a3_2 :: ?a3_3 :: ?a3_0 :: ?T3) (by exact permL [1, 2, 3, 0] [?a3_0, ?a3_1, ?a3_2, ?a3_3] ?T3 (by decide) rfl) ?_
   refine tri_g (opg_call (xs := [_, _, _, _]) rfl (square_set lv _ _ _ _ _ _ _ _ _ _ _ _ _ c _ rfl rfl hlv2 hr hix ⟨hn0, hn1⟩ hlv hbd e.symm)) rfl ?_
   rintro _ _ _ ⟨d0, f0, es0, ms0, rfl, rfl, hx0, hg0, hl0, hm0, rfl⟩
   refine tri_v (opv_extract rfl rfl) rfl ?_
   refine tri_v (opv_extract rfl rfl) rfl ?_
   refine tA rfl rfl (tA rfl rfl (tN (tT (tri_ret ?_))))
   refine tri_perm (A := ?a4_0 :: ?a4_1 :: ?a4_2 :: ?a4_3 :: ?T4) (B := ?a4_3 :: ?a4_0 :: ?a4_1 :: ?a4_2 :: ?T4) (by exact permL [3, 0, 1, 2] [?a4_0, ?a4_1, ?a4_2, ?a4_3] ?T4 (by decide) rfl) ?_
   refine tri_end _ (⟨[_], rfl⟩) rfl (.cons (rv_tmp rfl) (.cons (rv_tmp rfl) .nil)) ⟨I, ⟨d0, f0, es0, ms0, rfl, rfl, hx0, hg0, hl0, hm0, rfl⟩, fun _ h => h⟩
set_option maxHeartbeats 1000000 in
set_option maxRecDepth 100000 in
theorem square_setT {ns : List Node} {a : Option Addr} {cap : Nat} {room n : Int} {c : Cell} {alive : Bool} (hs : StA I a cap ns) (hn : ns.length ≤ 1000000000) :
  FnC Try.prog 26 [storeV a ns.length cap room, .int .i64 n, cellV c, .bool alive].toArray A I (StoreR (R7.setM ns room n c alive) room A I) := by
 rw [← R7.sq1_set]
 skip
 skip
 refine fn_enter4 Try.func26 rfl Try.ntmps26 rfl fun w0 => ?_
 refine tS (tR ?_)
 refine tri_g (opg_box_agg rfl) rfl ?_
 rintro _ _ _ ⟨b4, rfl, rfl, rfl⟩
 refine tri_g (opg_box1 rfl rfl) rfl ?_
 rintro _ _ _ ⟨b5, rfl, rfl, rfl⟩
 refine tri_g (opg_box_agg rfl) rfl ?_
 rintro _ _ _ ⟨b6, rfl, rfl, rfl⟩
 refine tri_g (opg_box1 rfl rfl) rfl ?_
 rintro _ _ _ ⟨b7, rfl, rfl, rfl⟩
 refine tri_g opg_alloc rfl ?_
 rintro _ _ _ ⟨b8, rfl, rfl, rfl⟩
 refine tA rfl rfl (tA rfl rfl (tN (tT (tS (tR ?_)))))
 refine tri_v (opv_loadA rfl rfl rfl) rfl ?_
 refine tri_v (opv_load1 rfl rfl rfl) rfl ?_
 refine tri_v (opv_makeFunc (fs := []) (cs := [_, _, _]) (vf := []) (vc := [_, _, _]) rfl rfl) rfl ?_
 refine tri_g (opg_call (xs := [_, _, _]) rfl (square_square (r := R7.set1 ns room n c (if alive then 1 else 0)) (ca1 := [pt b7 0, pt b5 0, pt b6 0]) hs hn (fun hm bx mb a cap es X Y Z W hi => square_set1 hm hi))) rfl ?_
 rintro _ _ I1 ⟨a1, c1, rfl, hs1, rfl, hI1⟩
 refine tri_v (opv_extract rfl rfl) rfl ?_
 refine tri_v (opv_extract rfl rfl) rfl ?_
 refine tri_v (opv_extract rfl rfl) rfl ?_
 refine tri_g (opg_store rfl rfl rfl rfl rfl rfl) rfl ?_
 rintro _ _ _ ⟨rfl, rfl⟩
 refine tA rfl rfl (tA rfl rfl (tN (tT (tri_ret ?_))))
 refine tri_end A Suf.h rfl (.cons (rv_cellA rfl rfl rfl) (.cons (rv_tmp rfl) (.cons (rv_tmp rfl) .nil))) ⟨a1, c1, rfl, hs1, rfl, hI1⟩
end Go.GL


set_option linter.unusedVariables false
namespace Go.GL
open Go.Proofs
attribute [local irreducible] wpList Code.wp Exit.then Exit.inBlock Ends Tri TriH OpV OpG FnC epf wpAnyH
variable {A : List Asrt} {I : List Chunk}
namespace R7
def grow1 (ns : List Node) (room n : Int) : List Node × Int × Int := if (R6.nd ns n).lv = 42 then (ns, 0, 1) else larger ns room n
theorem sq1_grow (ns : List Node) (room n : Int) : sq1 ns room n (grow1 ns room n) = growM ns room n := by
 by_cases h : may ns room n
 ·obtain ⟨_, lv, h1, h2, h3⟩ := h.is
  have e0 : ∀ r, sq1 ns room n r = R6.told ns room r := fun r => if_pos h
  have e : ∀ r, R6.told ns room r = if r.2.2 ≠ 0 then (ns, 0, r.2.2) else r := fun r => if_pos h.1
  rw [e0, e]
  by_cases hi : (R6.nd ns n).lv = 42
  ·have e1 : grow1 ns room n = (ns, 0, 1) := if_pos hi
   have e2 : growM ns room n = (ns, 0, 1) := if_neg (fun k => by omega)
   rw [e1, e2]; rfl
  ·have e1 : grow1 ns room n = larger ns room n := if_neg hi
   have e2 : growM ns room n = larger ns room n := if_pos ⟨h, by omega⟩
   rw [e1, e2]
   by_cases k : (larger ns room n).2.2 ≠ 0
   ·rw [if_pos k]; exact (larger_err ns room n k).symm
   ·rw [if_neg k]
 ·have e1 : sq1 ns room n (grow1 ns room n) = (ns, 0, 1) := if_neg h
  have e2 : growM ns room n = (ns, 0, 1) := if_neg (fun k => h k.1)
  rw [e1, e2]
end R7
set_option maxHeartbeats 4000000 in
set_option maxRecDepth 100000 in
theorem square_grow1 {ns : List Node} {a : Option Addr} {cap bx mb b3 : Nat} {room n : Int} {es : KVs} {T : TypeId} {X Y Z W V : Asrt} (hm : R7.may ns room n) (hix : Idx ns es) :
  FnC Try.prog 55 ([] ++ [mkV bx] ++ [pt b3 0]).toArray (IxA bx mb a cap ns room es (X :: Y :: Z :: W :: V :: Box b3 [.int .i64 n] T :: A)) I (IxM bx mb (R7.grow1 ns room n) room (X :: Y :: Z :: W :: V :: Box b3 [.int .i64 n] T :: A) I) := by
 show FnC Try.prog _ [mkV bx, pt b3 0].toArray _ _ _
 obtain ⟨⟨hn0, hn1⟩, lv, hlv1, hlv2, hlv⟩ := hm.is
 have hr := hm.1
 obtain ⟨hg, h2n⟩ := right_good7 hr
 have hlv' : (ns.getD n.toNat default).lv = lv := hlv
 obtain ⟨m, rfl⟩ : ∃ m, lv = m + 1 := ⟨lv - 1, by omega⟩
 obtain ⟨d, hd⟩ : ∃ r, R7.empty ns room m = r := ⟨_, rfl⟩
 obtain ⟨r0, hr0⟩ : ∃ r, R6.put d.1 room d.2.1 d.2.1 d.2.1 (R6.nd ns n).k0 = r := ⟨_, rfl⟩
 obtain ⟨r1, hr1⟩ : ∃ r, R6.put r0.1 room d.2.1 d.2.1 (R6.nd ns n).k1 d.2.1 = r := ⟨_, rfl⟩
 obtain ⟨r2, hr2⟩ : ∃ r, R6.put r1.1 room d.2.1 (R6.nd ns n).k2 d.2.1 d.2.1 = r := ⟨_, rfl⟩
 obtain ⟨r3, hr3⟩ : ∃ r, R6.put r2.1 room (R6.nd ns n).k3 d.2.1 d.2.1 d.2.1 = r := ⟨_, rfl⟩
 obtain ⟨r4, hr4⟩ : ∃ r, R6.put r3.1 room r0.2.1 r1.2.1 r2.2.1 r3.2.1 = r := ⟨_, rfl⟩
 have hL := R7.larger_eq (by rw [hlv, show (((m + 1 : Nat) : Int) - 1).toNat = m by omega]; exact hd) hr0 hr1 hr2 hr3 hr4
 have hgd : R6.Good d.1 room := by rw [← hd]; exact R7.emptyF_good room m ns 0 hg
 have h2d : 2 ≤ d.1.length := by rw [← hd]; exact R7.emptyF_len2 room m 0 h2n
 have hgood : ∀ {ms : List Node} {q : List Node × Int × Int} {q0 q1 q2 q3 : Int}, R6.Good ms room → 2 ≤ ms.length → R6.put ms room q0 q1 q2 q3 = q → R6.Good q.1 room ∧ 2 ≤ q.1.length := fun h1 h2 e => by rw [← e]; exact ⟨h1.put _ _ _ _, R6.put_len h2⟩
 obtain ⟨hg0, h20⟩ := hgood hgd h2d hr0
 obtain ⟨hg1, h21⟩ := hgood hg0 h20 hr1
 obtain ⟨hg2, h22⟩ := hgood hg1 h21 hr2
 obtain ⟨hg3, h23⟩ := hgood hg2 h22 hr3
 obtain ⟨hg4, h24⟩ := hgood hg3 h23 hr4
 skip
 skip
 refine fn_enter2 Try.func55 rfl Try.ntmps55 rfl fun w0 => ?_
 refine tS (tR ?_)
 refine tri_g (opg_box_agg rfl) rfl ?_
 rintro _ _ _ ⟨b2, rfl, rfl, rfl⟩
 refine tA rfl rfl (tA rfl rfl (tN (tT (tS ?_))))
 refine tri_draw [0, 1, 2, 3, 4, 5, 6, 7, 8, 9, 10] rfl [] rfl mixed ?_
 refine th_take rfl rfl (by kernel_rfl)  (opv_fieldAddr rfl rfl) ?_
 refine th_take rfl rfl (by kernel_rfl)  (opv_load1 rfl rfl rfl) ?_
 refine th_take rfl rfl (by kernel_rfl)  (opv_nilCheck rfl) ?_
 refine th_take rfl rfl (by kernel_rfl)  (opv_fieldAddr rfl rfl) ?_
 refine th_take rfl rfl (by kernel_rfl)  (opv_fieldAddr rfl rfl) ?_
 refine th_take rfl rfl (by kernel_rfl)  (opv_load1 rfl rfl rfl) ?_
 refine th_take rfl rfl (by kernel_rfl)  (opv_load1 rfl rfl rfl) ?_
 refine th_take rfl rfl (by kernel_rfl)  (opv_indexAddrR rfl rfl (by omega) (by omega)) ?_
 refine th_take rfl rfl (by kernel_rfl)  (opv_loadRXA rfl rfl (by omega) rfl rfl rfl) ?_
 refine th_one (by kernel_rfl) (step_m rfl rfl opg_alloc ?_)
 rintro _ _ _ ⟨b5, rfl, rfl, rfl⟩
 refine ⟨Suf.h, (fun _ h => h), ?_⟩
 refine th_one (by kernel_rfl) (step_m rfl rfl (opg_store rfl rfl rfl rfl rfl rfl) ?_)
 rintro _ _ _ ⟨rfl, rfl⟩
 refine ⟨Suf.h, (fun _ h => h), ?_⟩
 refine th_done (by kernel_rfl) ?_
 refine tT (tS (tS (tR ?_)))
 refine tri_v (opv_fieldAddr rfl rfl) rfl ?_
 refine tri_v (opv_load1 rfl rfl rfl) rfl ?_
 refine tri_v (opv_eql rfl rfl) rfl ?_
 refine tN (tT ?_)
 refine tri_cond_dec rfl (fun h0 => ?_) (fun h0 => ?_)
 ·have e : R7.grow1 ns room n = (ns, 0, 1) := if_pos h0
  rw [e]
  refine tS (tR (tA rfl rfl (tA rfl rfl (tN (tT (tri_ret (tri_then_ret ?_)))))))
  refine tri_end _ (⟨[_, _], rfl⟩) rfl (.cons (rv_tmp rfl) (.cons (rv_tmp rfl) .nil)) ⟨I, ⟨a, cap, es, ns, rfl, rfl, hix, hg, h2n, fun _ => rfl, rfl⟩, fun _ h => h⟩
 ·have e : R7.grow1 ns room n = R7.larger ns room n := if_neg h0
  rw [e]
  generalize R7.larger ns room n = res at hL ⊢
  refine tri_skip (tT (tS (tR ?_)))
  refine tri_v (opv_fieldAddr rfl rfl) rfl ?_
  refine tri_v (opv_load1 rfl rfl rfl) rfl ?_
  refine tri_v (opv_fieldAddr rfl rfl) rfl ?_
  refine tri_v (opv_load1 rfl rfl rfl) rfl ?_
  refine tri_v (opv_sub rfl rfl (w64 (by omega) (by omega))) rfl ?_
  rw [show (ns.getD n.toNat default).lv - 1 = (m : Int) by omega]
  refine tri_perm (A := ?a1_0 :: ?a1_1 :: ?a1_2 :: ?a1_3 :: ?a1_4 :: ?T1) (B := ?a1_2 :: ?a1_3 :: ?a1_4 :: ?a1_0 :: ?a1_1 :: ?T1) (by exact permL [2, 3, 4, 0, 1] [?a1_0, ?a1_1, ?a1_2, ?a1_3, ?a1_4] ?T1 (by decide) rfl) ?_
  refine tri_g (opg_call (xs := [_, _]) rfl (index_empty (lv := m) (by omega) hg h2n hix)) rfl ?_
  rintro _ _ _ ⟨d0, f0, es0, rfl, rfl, hx0, rfl⟩
  rw [hd] at hx0 ⊢
  refine tM rfl rfl ?_
  refine tri_v (opv_extract rfl rfl) rfl ?_
  refine tri_v (opv_extract rfl rfl) rfl ?_
  refine tA rfl rfl (tA rfl rfl (tN (tT (tS (tS (tR (tM rfl rfl ?_)))))))
  refine tri_v (opv_neq rfl rfl) rfl ?_
  refine tN (tT ?_)
  refine tri_cond_dec rfl (fun h1 => ?_) (fun h1 => ?_)
  ·rw [if_pos h1] at hL
   subst hL
   refine tS (tR (tM rfl rfl (tA rfl rfl (tA rfl rfl (tN (tT (tri_ret ?_)))))))
   refine tri_then_ret ?_
   refine tri_perm (A := ?a2_0 :: ?a2_1 :: ?a2_2 :: ?a2_3 :: ?a2_4 :: ?T2) (B := ?a2_3 :: ?a2_4 :: ?a2_0 :: ?a2_1 :: ?a2_2 :: ?T2) (by exact permL [3, 4, 0, 1, 2] [?a2_0, ?a2_1, ?a2_2, ?a2_3, ?a2_4] ?T2 (by decide) rfl) ?_
   refine tri_end _ (⟨[_, _], rfl⟩) rfl (.cons (rv_tmp rfl) (.cons (rv_tmp rfl) .nil)) ⟨I, ⟨d0, f0, es0, _, rfl, rfl, hx0, hgd, h2d, fun h => absurd h h1, rfl⟩, fun _ h => h⟩
  ·rw [if_neg h1] at hL
   refine tri_skip (tT (tS (tR ?_)))
   refine tri_g opg_alloc rfl ?_
   rintro _ _ _ ⟨b8, rfl, rfl, rfl⟩
   refine tN (tT (tS (tS (tR ?_))))
   refine tri_v (opv_fieldAddr rfl rfl) rfl ?_
   refine tri_v (opv_loadA rfl rfl rfl) rfl ?_
   refine tM rfl rfl (tN (tT (tri_block ?_)))
   refine tri_rounds 5 ?_
   refine tri_round ?_
   refine tS (tR ?_)
   refine tri_v (opv_lss rfl rfl) rfl ?_
   refine tN (tT (tS ?_))
   refine tri_cond_is rfl (by decide) ?_
   refine tri_skip (tT (tS (tri_block (tS (tR (tM rfl rfl ?_))))))
   refine tri_v (opv_index rfl rfl (by decide) (by decide) rfl rfl) rfl ?_
   refine tA rfl rfl (tA rfl rfl (tN (tT (tS (tR (tM rfl rfl (tM rfl rfl ?_)))))))
   refine tM rfl rfl (tM rfl rfl ?_)
   refine tri_v (opv_buildA rfl rfl) rfl ?_
   refine tri_g opg_alloc rfl ?_
   rintro _ _ _ ⟨b11, rfl, rfl, rfl⟩
   refine tri_g (opg_store rfl rfl rfl rfl rfl rfl) rfl ?_
   rintro _ _ _ ⟨rfl, rfl⟩
   refine tN (tT (tS (tR (tM rfl rfl ?_))))
   refine tri_v (opv_sub rfl rfl (w64 (by omega) (by omega))) rfl ?_
   refine tM rfl rfl ?_
   refine tri_v (opv_indexAddrA rfl rfl (by decide) (by decide)) rfl ?_
   refine tri_g (opg_store rfl rfl rfl rfl rfl rfl) rfl ?_
   rintro _ _ _ ⟨rfl, rfl⟩
   refine tN (tT (tS (tR (tM rfl rfl ?_))))
   refine tri_v (opv_fieldAddr rfl rfl) rfl ?_
   refine tri_v (opv_load1 rfl rfl rfl) rfl ?_
   refine tri_v (opv_loadA rfl rfl rfl) rfl ?_
   refine tri_perm (A := ?a3_0 :: ?a3_1 :: ?a3_2 :: ?a3_3 :: ?a3_4 :: ?T3) (B := ?a3_2 :: ?a3_3 :: ?a3_4 :: ?a3_0 :: ?a3_1 :: ?T3) (by exact permL [2, 3, 4, 0, 1] [?a3_0, ?a3_1, ?a3_2, ?a3_3, ?a3_4] ?T3 (by decide) rfl) ?_
   refine tri_g (opg_call (xs := [_, _]) rfl (node_putR hgd h2d hx0 hr0)) rfl ?_
   rintro _ _ _ ⟨d1, f1, es1, rfl, rfl, hx1, rfl⟩
   refine tM rfl rfl ?_
   refine tri_v (opv_extract rfl rfl) rfl ?_
   refine tri_v (opv_extract rfl rfl) rfl ?_
   refine tri_v (opv_indexAddrA rfl rfl (by decide) (by decide)) rfl ?_
   refine tri_g (opg_store rfl rfl rfl rfl rfl rfl) rfl ?_
   rintro _ _ _ ⟨rfl, rfl⟩
   refine tA rfl rfl (tN (tT (tS (tR (tM rfl rfl ?_)))))
   refine tri_v (opv_neq rfl rfl) rfl ?_
   refine tN (tT ?_)
   refine tri_cond_dec rfl (fun y0 => ?_) (fun y0 => ?_)
   ·rw [if_pos y0] at hL
    subst hL
    refine tS (tR (tM rfl rfl (tA rfl rfl (tA rfl rfl (tN (tT (tri_ret ?_)))))))
    refine tri_inBlock_ret ?_
    refine tri_then_ret (tri_then_ret ?_)
    refine tri_inBlock_ret ?_
    refine tri_then_ret ?_
    refine tri_perm (A := ?a4_0 :: ?a4_1 :: ?a4_2 :: ?a4_3 :: ?a4_4 :: ?a4_5 :: ?a4_6 :: ?T4) (B := ?a4_3 :: ?a4_4 :: ?a4_5 :: ?a4_6 :: ?a4_0 :: ?a4_1 :: ?a4_2 :: ?T4) (by exact permL [3, 4, 5, 6, 0, 1, 2] [?a4_0, ?a4_1, ?a4_2, ?a4_3, ?a4_4, ?a4_5, ?a4_6] ?T4 (by decide) rfl) ?_
    refine tri_end _ (⟨[_, _, _, _], rfl⟩) rfl (.cons (rv_tmp rfl) (.cons (rv_tmp rfl) .nil)) ⟨I, ⟨d1, f1, es1, _, rfl, rfl, hx1, hg0, h20, fun h => absurd h y0, rfl⟩, fun _ h => h⟩
   rw [if_neg y0] at hL
   skip
   refine tri_skip ?_
   refine tri_inBlock ?_
   refine tT (tR ?_)
   refine tU rfl rfl (by omega) (by omega) rfl ?_
   refine tM rfl rfl (tN (tT ?_))
   refine tri_round ?_
   refine tS (tR ?_)
   refine tri_v (opv_lss rfl rfl) rfl ?_
   refine tN (tT (tS ?_))
   refine tri_perm (A := ?a5_0 :: ?a5_1 :: ?a5_2 :: ?a5_3 :: ?T5) (B := ?a5_3 :: ?a5_0 :: ?a5_1 :: ?a5_2 :: ?T5) (by exact permL [3, 0, 1, 2] [?a5_0, ?a5_1, ?a5_2, ?a5_3] ?T5 (by decide) rfl) ?_
   refine tri_drop ?_
   skip
   refine tri_cond_is rfl (by decide) ?_
   refine tri_skip (tT (tS (tri_block (tS (tR (tM rfl rfl ?_))))))
   refine tri_v (opv_index rfl rfl (by decide) (by decide) rfl rfl) rfl ?_
   refine tA rfl rfl (tA rfl rfl (tN (tT (tS (tR (tM rfl rfl (tM rfl rfl ?_)))))))
   refine tM rfl rfl (tM rfl rfl ?_)
   refine tri_v (opv_buildA rfl rfl) rfl ?_
   refine tri_g opg_alloc rfl ?_
   rintro _ _ _ ⟨b11, rfl, rfl, rfl⟩
   refine tri_g (opg_store rfl rfl rfl rfl rfl rfl) rfl ?_
   rintro _ _ _ ⟨rfl, rfl⟩
   refine tN (tT (tS (tR (tM rfl rfl ?_))))
   refine tri_v (opv_sub rfl rfl (w64 (by omega) (by omega))) rfl ?_
   refine tM rfl rfl ?_
   refine tri_v (opv_indexAddrA rfl rfl (by decide) (by decide)) rfl ?_
   refine tri_g (opg_store rfl rfl rfl rfl rfl rfl) rfl ?_
   rintro _ _ _ ⟨rfl, rfl⟩
   refine tN (tT (tS (tR (tM rfl rfl ?_))))
   refine tri_v (opv_fieldAddr rfl rfl) rfl ?_
   refine tri_v (opv_load1 rfl rfl rfl) rfl ?_
   refine tri_v (opv_loadA rfl rfl rfl) rfl ?_
   refine tri_perm (A := ?a6_0 :: ?a6_1 :: ?a6_2 :: ?a6_3 :: ?T6) (B := ?a6_1 :: ?a6_2 :: ?a6_3 :: ?a6_0 :: ?T6) (by exact permL [1, 2, 3, 0] [?a6_0, ?a6_1, ?a6_2, ?a6_3] ?T6 (by decide) rfl) ?_
   refine tri_g (opg_call (xs := [_, _]) rfl (node_putR hg0 h20 hx1 hr1)) rfl ?_
   rintro _ _ _ ⟨d2, f2, es2, rfl, rfl, hx2, rfl⟩
   refine tM rfl rfl ?_
   refine tri_v (opv_extract rfl rfl) rfl ?_
   refine tri_v (opv_extract rfl rfl) rfl ?_
   refine tri_v (opv_indexAddrA rfl rfl (by decide) (by decide)) rfl ?_
   refine tri_g (opg_store rfl rfl rfl rfl rfl rfl) rfl ?_
   rintro _ _ _ ⟨rfl, rfl⟩
   refine tA rfl rfl (tN (tT (tS (tR (tM rfl rfl ?_)))))
   refine tri_v (opv_neq rfl rfl) rfl ?_
   refine tN (tT ?_)
   refine tri_cond_dec rfl (fun y1 => ?_) (fun y1 => ?_)
   ·rw [if_pos y1] at hL
    subst hL
    refine tS (tR (tM rfl rfl (tA rfl rfl (tA rfl rfl (tN (tT (tri_ret ?_)))))))
    refine tri_inBlock_ret ?_
    refine tri_then_ret (tri_then_ret ?_)
    refine tri_inBlock_ret ?_
    refine tri_then_ret ?_
    refine tri_perm (A := ?a7_0 :: ?a7_1 :: ?a7_2 :: ?a7_3 :: ?a7_4 :: ?a7_5 :: ?a7_6 :: ?T7) (B := ?a7_3 :: ?a7_4 :: ?a7_5 :: ?a7_6 :: ?a7_0 :: ?a7_1 :: ?a7_2 :: ?T7) (by exact permL [3, 4, 5, 6, 0, 1, 2] [?a7_0, ?a7_1, ?a7_2, ?a7_3, ?a7_4, ?a7_5, ?a7_6] ?T7 (by decide) rfl) ?_
    refine tri_end _ (⟨[_, _, _, _], rfl⟩) rfl (.cons (rv_tmp rfl) (.cons (rv_tmp rfl) .nil)) ⟨I, ⟨d2, f2, es2, _, rfl, rfl, hx2, hg1, h21, fun h => absurd h y1, rfl⟩, fun _ h => h⟩
   rw [if_neg y1] at hL
   skip
   refine tri_skip ?_
   refine tri_inBlock ?_
   refine tT (tR ?_)
   refine tU rfl rfl (by omega) (by omega) rfl ?_
   refine tM rfl rfl (tN (tT ?_))
   refine tri_round ?_
   refine tS (tR ?_)
   refine tri_v (opv_lss rfl rfl) rfl ?_
   refine tN (tT (tS ?_))
   refine tri_perm (A := ?a8_0 :: ?a8_1 :: ?a8_2 :: ?a8_3 :: ?T8) (B := ?a8_3 :: ?a8_0 :: ?a8_1 :: ?a8_2 :: ?T8) (by exact permL [3, 0, 1, 2] [?a8_0, ?a8_1, ?a8_2, ?a8_3] ?T8 (by decide) rfl) ?_
   refine tri_drop ?_
   skip
   refine tri_cond_is rfl (by decide) ?_
   refine tri_skip (tT (tS (tri_block (tS (tR (tM rfl rfl ?_))))))
   refine tri_v (opv_index rfl rfl (by decide) (by decide) rfl rfl) rfl ?_
   refine tA rfl rfl (tA rfl rfl (tN (tT (tS (tR (tM rfl rfl (tM rfl rfl ?_)))))))
   refine tM rfl rfl (tM rfl rfl ?_)
   refine tri_v (opv_buildA rfl rfl) rfl ?_
   refine tri_g opg_alloc rfl ?_
   rintro _ _ _ ⟨b11, rfl, rfl, rfl⟩
   refine tri_g (opg_store rfl rfl rfl rfl rfl rfl) rfl ?_
   rintro _ _ _ ⟨rfl, rfl⟩
   refine tN (tT (tS (tR (tM rfl rfl ?_))))
   refine tri_v (opv_sub rfl rfl (w64 (by omega) (by omega))) rfl ?_
   refine tM rfl rfl ?_
   refine tri_v (opv_indexAddrA rfl rfl (by decide) (by decide)) rfl ?_
   refine tri_g (opg_store rfl rfl rfl rfl rfl rfl) rfl ?_
   rintro _ _ _ ⟨rfl, rfl⟩
   refine tN (tT (tS (tR (tM rfl rfl ?_))))
   refine tri_v (opv_fieldAddr rfl rfl) rfl ?_
   refine tri_v (opv_load1 rfl rfl rfl) rfl ?_
   refine tri_v (opv_loadA rfl rfl rfl) rfl ?_
   refine tri_perm (A := ?a9_0 :: ?a9_1 :: ?a9_2 :: ?a9_3 :: ?T9) (B := ?a9_1 :: ?a9_2 :: ?a9_3 :: ?a9_0 :: ?T9) (by exact permL [1, 2, 3, 0] [?a9_0, ?a9_1, ?a9_2, ?a9_3] ?T9 (by decide) rfl) ?_
   refine tri_g (opg_call (xs := [_, _]) rfl (node_putR hg1 h21 hx2 hr2)) rfl ?_
   rintro _ _ _ ⟨d3, f3, es3, rfl, rfl, hx3, rfl⟩
   refine tM rfl rfl ?_
   refine tri_v (opv_extract rfl rfl) rfl ?_
   refine tri_v (opv_extract rfl rfl) rfl ?_
   refine tri_v (opv_indexAddrA rfl rfl (by decide) (by decide)) rfl ?_
   refine tri_g (opg_store rfl rfl rfl rfl rfl rfl) rfl ?_
   rintro _ _ _ ⟨rfl, rfl⟩
   refine tA rfl rfl (tN (tT (tS (tR (tM rfl rfl ?_)))))
   refine tri_v (opv_neq rfl rfl) rfl ?_
   refine tN (tT ?_)
   refine tri_cond_dec rfl (fun y2 => ?_) (fun y2 => ?_)
   ·rw [if_pos y2] at hL
    subst hL
    refine tS (tR (tM rfl rfl (tA rfl rfl (tA rfl rfl (tN (tT (tri_ret ?_)))))))
    refine tri_inBlock_ret ?_
    refine tri_then_ret (tri_then_ret ?_)
    refine tri_inBlock_ret ?_
    refine tri_then_ret ?_
    refine tri_perm (A := ?a10_0 :: ?a10_1 :: ?a10_2 :: ?a10_3 :: ?a10_4 :: ?a10_5 :: ?a10_6 :: ?T10) (B := ?a10_3 :: ?a10_4 :: ?a10_5 :: ?a10_6 :: ?a10_0 :: ?a10_1 :: ?a10_2 :: ?T10) (by exact permL [3, 4, 5, 6, 0, 1, 2] [?a10_0, ?a10_1, ?a10_2, ?a10_3, ?a10_4, ?a10_5, ?a10_6] ?T10 (by decide) rfl) ?_
    refine tri_end _ (⟨[_, _, _, _], rfl⟩) rfl (.cons (rv_tmp rfl) (.cons (rv_tmp rfl) .nil)) ⟨I, ⟨d3, f3, es3, _, rfl, rfl, hx3, hg2, h22, fun h => absurd h y2, rfl⟩, fun _ h => h⟩
   rw [if_neg y2] at hL
   skip
   refine tri_skip ?_
   refine tri_inBlock ?_
   refine tT (tR ?_)
   refine tU rfl rfl (by omega) (by omega) rfl ?_
   refine tM rfl rfl (tN (tT ?_))
   refine tri_round ?_
   refine tS (tR ?_)
   refine tri_v (opv_lss rfl rfl) rfl ?_
   refine tN (tT (tS ?_))
   refine tri_perm (A := ?a11_0 :: ?a11_1 :: ?a11_2 :: ?a11_3 :: ?T11) (B := ?a11_3 :: ?a11_0 :: ?a11_1 :: ?a11_2 :: ?T11) (by exact permL [3, 0, 1, 2] [?a11_0, ?a11_1, ?a11_2, ?a11_3] ?T11 (by decide) rfl) ?_
   refine tri_drop ?_
   skip
   refine tri_cond_is rfl (by decide) ?_
   refine tri_skip (tT (tS (tri_block (tS (tR (tM rfl rfl ?_))))))
   refine tri_v (opv_index rfl rfl (by decide) (by decide) rfl rfl) rfl ?_
   refine tA rfl rfl (tA rfl rfl (tN (tT (tS (tR (tM rfl rfl (tM rfl rfl ?_)))))))
   refine tM rfl rfl (tM rfl rfl ?_)
   refine tri_v (opv_buildA rfl rfl) rfl ?_
   refine tri_g opg_alloc rfl ?_
   rintro _ _ _ ⟨b11, rfl, rfl, rfl⟩
   refine tri_g (opg_store rfl rfl rfl rfl rfl rfl) rfl ?_
   rintro _ _ _ ⟨rfl, rfl⟩
   refine tN (tT (tS (tR (tM rfl rfl ?_))))
   refine tri_v (opv_sub rfl rfl (w64 (by omega) (by omega))) rfl ?_
   refine tM rfl rfl ?_
   refine tri_v (opv_indexAddrA rfl rfl (by decide) (by decide)) rfl ?_
   refine tri_g (opg_store rfl rfl rfl rfl rfl rfl) rfl ?_
   rintro _ _ _ ⟨rfl, rfl⟩
   refine tN (tT (tS (tR (tM rfl rfl ?_))))
   refine tri_v (opv_fieldAddr rfl rfl) rfl ?_
   refine tri_v (opv_load1 rfl rfl rfl) rfl ?_
   refine tri_v (opv_loadA rfl rfl rfl) rfl ?_
   refine tri_perm (A := ?a12_0 :: ?a12_1 :: ?a12_2 :: ?a12_3 :: ?T12) (B := ?a12_1 :: ?a12_2 :: ?a12_3 :: ?a12_0 :: ?T12) (by exact permL [1, 2, 3, 0] [?a12_0, ?a12_1, ?a12_2, ?a12_3] ?T12 (by decide) rfl) ?_
   refine tri_g (opg_call (xs := [_, _]) rfl (node_putR hg2 h22 hx3 hr3)) rfl ?_
   rintro _ _ _ ⟨d4, f4, es4, rfl, rfl, hx4, rfl⟩
   refine tM rfl rfl ?_
   refine tri_v (opv_extract rfl rfl) rfl ?_
   refine tri_v (opv_extract rfl rfl) rfl ?_
   refine tri_v (opv_indexAddrA rfl rfl (by decide) (by decide)) rfl ?_
   refine tri_g (opg_store rfl rfl rfl rfl rfl rfl) rfl ?_
   rintro _ _ _ ⟨rfl, rfl⟩
   refine tA rfl rfl (tN (tT (tS (tR (tM rfl rfl ?_)))))
   refine tri_v (opv_neq rfl rfl) rfl ?_
   refine tN (tT ?_)
   refine tri_cond_dec rfl (fun y3 => ?_) (fun y3 => ?_)
   ·rw [if_pos y3] at hL
    subst hL
    refine tS (tR (tM rfl rfl (tA rfl rfl (tA rfl rfl (tN (tT (tri_ret ?_)))))))
    refine tri_inBlock_ret ?_
    refine tri_then_ret (tri_then_ret ?_)
    refine tri_inBlock_ret ?_
    refine tri_then_ret ?_
    refine tri_perm (A := ?a13_0 :: ?a13_1 :: ?a13_2 :: ?a13_3 :: ?a13_4 :: ?a13_5 :: ?a13_6 :: ?T13) (B := ?a13_3 :: ?a13_4 :: ?a13_5 :: ?a13_6 :: ?a13_0 :: ?a13_1 :: ?a13_2 :: ?T13) (by exact permL [3, 4, 5, 6, 0, 1, 2] [?a13_0, ?a13_1, ?a13_2, ?a13_3, ?a13_4, ?a13_5, ?a13_6] ?T13 (by decide) rfl) ?_
    refine tri_end _ (⟨[_, _, _, _], rfl⟩) rfl (.cons (rv_tmp rfl) (.cons (rv_tmp rfl) .nil)) ⟨I, ⟨d4, f4, es4, _, rfl, rfl, hx4, hg3, h23, fun h => absurd h y3, rfl⟩, fun _ h => h⟩
   rw [if_neg y3] at hL
   skip
   refine tri_skip ?_
   refine tri_inBlock ?_
   refine tT (tR ?_)
   refine tU rfl rfl (by omega) (by omega) rfl ?_
   refine tM rfl rfl (tN (tT ?_))
   refine tri_round ?_
   refine tS (tR ?_)
   refine tri_v (opv_lss rfl rfl) rfl ?_
   refine tN (tT (tS ?_))
   refine tri_perm (A := ?a14_0 :: ?a14_1 :: ?a14_2 :: ?a14_3 :: ?T14) (B := ?a14_3 :: ?a14_0 :: ?a14_1 :: ?a14_2 :: ?T14) (by exact permL [3, 0, 1, 2] [?a14_0, ?a14_1, ?a14_2, ?a14_3] ?T14 (by decide) rfl) ?_
   refine tri_drop ?_
   refine tri_cond_not rfl (by decide) ?_
   refine tri_exit ?_
   refine tri_then_exit ?_
   refine tri_then_exit ?_
   refine tri_inBlock_hit rfl ?_
   refine tT (tS (tR ?_))
   refine tri_v (opv_fieldAddr rfl rfl) rfl ?_
   refine tri_v (opv_load1 rfl rfl rfl) rfl ?_
   refine tri_v (opv_loadA rfl rfl rfl) rfl ?_
   refine tri_g (opg_call (xs := [_, _]) rfl (node_putR hg3 h23 hx4 hr4)) rfl ?_
   rintro _ _ _ ⟨d5, f5, es5, rfl, rfl, hx5, rfl⟩
   refine tri_v (opv_extract rfl rfl) rfl ?_
   refine tri_v (opv_extract rfl rfl) rfl ?_
   refine tA rfl rfl (tA rfl rfl (tN (tT (tri_ret ?_))))
   refine tri_perm (A := ?a15_0 :: ?a15_1 :: ?a15_2 :: ?a15_3 :: ?a15_4 :: ?a15_5 :: ?T15) (B := ?a15_3 :: ?a15_4 :: ?a15_5 :: ?a15_0 :: ?a15_1 :: ?a15_2 :: ?T15) (by exact permL [3, 4, 5, 0, 1, 2] [?a15_0, ?a15_1, ?a15_2, ?a15_3, ?a15_4, ?a15_5] ?T15 (by decide) rfl) ?_
   have hv : res.2.1 = r4.2.1 ∧ res.2.2 = r4.2.2 ∧ (res.2.2 = 0 → r4.1 = res.1) := by
    by_cases h : r4.2.2 = 0
    ·rw [if_neg (fun k => k h)] at hL
     rw [hL]; exact ⟨rfl, rfl, fun _ => rfl⟩
    ·rw [if_pos h] at hL
     rw [hL]; exact ⟨(by rw [← hr4]; exact (congrArg (·.2.1) (R6.put_err (by rw [hr4]; exact h))).symm), rfl, fun k => absurd k h⟩
   obtain ⟨hv1, hv2, hv3⟩ := hv
   refine tri_end _ (⟨[_, _, _], rfl⟩) rfl (.cons (rv_tmp rfl) (.cons (rv_tmp rfl) .nil)) ⟨I, ⟨d5, f5, es5, _, by rw [hv1, hv2]; rfl, rfl, hx5, hg4, h24, hv3, rfl⟩, fun _ h => h⟩
set_option maxHeartbeats 1000000 in
set_option maxRecDepth 100000 in
theorem square_grow {ns : List Node} {a : Option Addr} {cap : Nat} {room n : Int} (hs : StA I a cap ns) (hn : ns.length ≤ 1000000000) :
  FnC Try.prog 21 [storeV a ns.length cap room, .int .i64 n].toArray A I (StoreR (R7.growM ns room n) room A I) := by
 rw [← R7.sq1_grow]
 skip
 skip
 refine fn_enter2 Try.func21 rfl Try.ntmps21 rfl fun w0 => ?_
 refine tS (tR ?_)
 refine tri_g (opg_box_agg rfl) rfl ?_
 rintro _ _ _ ⟨b2, rfl, rfl, rfl⟩
 refine tri_g (opg_box1 rfl rfl) rfl ?_
 rintro _ _ _ ⟨b3, rfl, rfl, rfl⟩
 refine tri_g opg_alloc rfl ?_
 rintro _ _ _ ⟨b4, rfl, rfl, rfl⟩
 refine tA rfl rfl (tA rfl rfl (tN (tT (tS (tR ?_)))))
 refine tri_v (opv_loadA rfl rfl rfl) rfl ?_
 refine tri_v (opv_load1 rfl rfl rfl) rfl ?_
 refine tri_v (opv_makeFunc (fs := []) (cs := [_]) (vf := []) (vc := [_]) rfl rfl) rfl ?_
 refine tri_g (opg_call (xs := [_, _, _]) rfl (square_square (r := R7.grow1 ns room n) (ca1 := [pt b3 0]) hs hn (fun hm bx mb a cap es X Y Z W hi => square_grow1 hm hi))) rfl ?_
 rintro _ _ I1 ⟨a1, c1, rfl, hs1, rfl, hI1⟩
 refine tri_v (opv_extract rfl rfl) rfl ?_
 refine tri_v (opv_extract rfl rfl) rfl ?_
 refine tri_v (opv_extract rfl rfl) rfl ?_
 refine tri_g (opg_store rfl rfl rfl rfl rfl rfl) rfl ?_
 rintro _ _ _ ⟨rfl, rfl⟩
 refine tA rfl rfl (tA rfl rfl (tN (tT (tri_ret ?_))))
 refine tri_end A Suf.h rfl (.cons (rv_cellA rfl rfl rfl) (.cons (rv_tmp rfl) (.cons (rv_tmp rfl) .nil))) ⟨a1, c1, rfl, hs1, rfl, hI1⟩
end Go.GL


set_option linter.unusedVariables false
namespace Go.GL
/-! ### Shift and Box, as the document has them -/
namespace R1
def mv (dx dy : Int) (c : Cell) : Cell := ⟨c.x + dx, c.y + dy⟩
def shift (l : List Cell) (dx dy : Int) : List Cell × Int :=
 if right l then (if ∀ i, i < l.length → inB (mv dx dy (g l i)) then (l.map (mv dx dy), 0) else ([], 2)) else ([], 1)
def mnC (a b : Cell) : Cell := ⟨if b.x < a.x then b.x else a.x, if b.y < a.y then b.y else a.y⟩
def mxC (a b : Cell) : Cell := ⟨if a.x < b.x then b.x else a.x, if a.y < b.y then b.y else a.y⟩
def lo (l : List Cell) (c : Cell) : Cell := l.foldl mnC c
def hi (l : List Cell) (c : Cell) : Cell := l.foldl mxC c
structure Rect where
 x : Int
 y : Int
 w : Int
 h : Int
 deriving DecidableEq, Inhabited
def box (l : List Cell) : Rect × Bool :=
 if l.length = 0 ∨ ¬ right l then (⟨0, 0, 0, 0⟩, false)
 else (⟨(lo l (g l 0)).x, (lo l (g l 0)).y, (hi l (g l 0)).x - (lo l (g l 0)).x + 1, (hi l (g l 0)).y - (lo l (g l 0)).y + 1⟩, true)
/-- Where the least and greatest are. -/
def bdC (c : Cell) : Prop := -1099511627776 ≤ c.x ∧ c.x ≤ 1099511627776 ∧ -1099511627776 ≤ c.y ∧ c.y ≤ 1099511627776
theorem lo_le {l : List Cell} {c : Cell} : ((lo l c).x ≤ c.x ∧ (lo l c).y ≤ c.y) ∧ ∀ d ∈ l, (lo l c).x ≤ d.x ∧ (lo l c).y ≤ d.y := by
 unfold lo
 induction l generalizing c with
 | nil => exact ⟨by simp, by simp⟩
 | cons a l ih =>
  have h := ih (c := mnC c a)
  simp only [List.foldl_cons]
  have e : (mnC c a).x ≤ c.x ∧ (mnC c a).y ≤ c.y ∧ (mnC c a).x ≤ a.x ∧ (mnC c a).y ≤ a.y := by
   unfold mnC
   simp only
   split <;> split <;> omega
  refine ⟨by omega, fun d hd => ?_⟩
  rcases List.mem_cons.1 hd with rfl | hd
  ·omega
  ·exact h.2 d hd
theorem hi_ge {l : List Cell} {c : Cell} : (c.x ≤ (hi l c).x ∧ c.y ≤ (hi l c).y) ∧ ∀ d ∈ l, d.x ≤ (hi l c).x ∧ d.y ≤ (hi l c).y := by
 unfold hi
 induction l generalizing c with
 | nil => exact ⟨by simp, by simp⟩
 | cons a l ih =>
  have h := ih (c := mxC c a)
  simp only [List.foldl_cons]
  have e : c.x ≤ (mxC c a).x ∧ c.y ≤ (mxC c a).y ∧ a.x ≤ (mxC c a).x ∧ a.y ≤ (mxC c a).y := by
   unfold mxC
   simp only
   split <;> split <;> omega
  refine ⟨by omega, fun d hd => ?_⟩
  rcases List.mem_cons.1 hd with rfl | hd
  ·omega
  ·exact h.2 d hd
theorem lo_at {l : List Cell} {c : Cell} : ((lo l c).x = c.x ∨ ∃ d ∈ l, (lo l c).x = d.x) ∧ ((lo l c).y = c.y ∨ ∃ d ∈ l, (lo l c).y = d.y) := by
 unfold lo
 induction l generalizing c with
 | nil => exact ⟨.inl rfl, .inl rfl⟩
 | cons a l ih =>
  obtain ⟨h1, h2⟩ := ih (c := mnC c a)
  simp only [List.foldl_cons]
  have e1 : (mnC c a).x = c.x ∨ (mnC c a).x = a.x := by unfold mnC; simp only; split <;> simp
  have e2 : (mnC c a).y = c.y ∨ (mnC c a).y = a.y := by unfold mnC; simp only; split <;> simp
  constructor
  ·rcases h1 with h1 | ⟨d, hd, h1⟩
   ·rcases e1 with e1 | e1
    ·exact .inl (h1.trans e1)
    ·exact .inr ⟨a, List.mem_cons_self, h1.trans e1⟩
   ·exact .inr ⟨d, List.mem_cons_of_mem _ hd, h1⟩
  ·rcases h2 with h1 | ⟨d, hd, h1⟩
   ·rcases e2 with e1 | e1
    ·exact .inl (h1.trans e1)
    ·exact .inr ⟨a, List.mem_cons_self, h1.trans e1⟩
   ·exact .inr ⟨d, List.mem_cons_of_mem _ hd, h1⟩
theorem hi_at {l : List Cell} {c : Cell} : ((hi l c).x = c.x ∨ ∃ d ∈ l, (hi l c).x = d.x) ∧ ((hi l c).y = c.y ∨ ∃ d ∈ l, (hi l c).y = d.y) := by
 unfold hi
 induction l generalizing c with
 | nil => exact ⟨.inl rfl, .inl rfl⟩
 | cons a l ih =>
  obtain ⟨h1, h2⟩ := ih (c := mxC c a)
  simp only [List.foldl_cons]
  have e1 : (mxC c a).x = c.x ∨ (mxC c a).x = a.x := by unfold mxC; simp only; split <;> simp
  have e2 : (mxC c a).y = c.y ∨ (mxC c a).y = a.y := by unfold mxC; simp only; split <;> simp
  constructor
  ·rcases h1 with h1 | ⟨d, hd, h1⟩
   ·rcases e1 with e1 | e1
    ·exact .inl (h1.trans e1)
    ·exact .inr ⟨a, List.mem_cons_self, h1.trans e1⟩
   ·exact .inr ⟨d, List.mem_cons_of_mem _ hd, h1⟩
  ·rcases h2 with h1 | ⟨d, hd, h1⟩
   ·rcases e2 with e1 | e1
    ·exact .inl (h1.trans e1)
    ·exact .inr ⟨a, List.mem_cons_self, h1.trans e1⟩
   ·exact .inr ⟨d, List.mem_cons_of_mem _ hd, h1⟩
end R1
end Go.GL


set_option linter.unusedVariables false
namespace Go.GL
namespace R7
open R6
/-! ### The least box about what a node stands for -/
/-- Two edges (from, to) together, the second one so much further on. -/
def jn (a b : Cell) (d : Int) : Cell :=
 if b.x = b.y then a else if a.x = a.y then ⟨b.x + d, b.y + d⟩ else ⟨if b.x + d < a.x then b.x + d else a.x, if a.y < b.y + d then b.y + d else a.y⟩
def ex (ns : List Node) (ax : Bool) : Nat → Int → Cell
 | 0, n => ⟨0, (nd ns n).pop⟩
 | m + 1, n => jn (jn (jn (jn ⟨0, 0⟩ (ex ns ax m (nd ns n).k0) 0) (ex ns ax m (nd ns n).k1) (if ax then 2 ^ m else 0)) (ex ns ax m (nd ns n).k2) (if ax then 0 else 2 ^ m)) (ex ns ax m (nd ns n).k3) (2 ^ m)
def boxM (ns : List Node) (room n : Int) : R1.Rect × Bool :=
 if may ns room n ∧ (nd ns n).pop ≠ 0 then
  (⟨(ex ns true (nd ns n).lv.toNat n).x - side (nd ns n).lv, (ex ns false (nd ns n).lv.toNat n).x - side (nd ns n).lv, (ex ns true (nd ns n).lv.toNat n).y - (ex ns true (nd ns n).lv.toNat n).x, (ex ns false (nd ns n).lv.toNat n).y - (ex ns false (nd ns n).lv.toNat n).x⟩, true)
 else (⟨0, 0, 0, 0⟩, false)
/-- What an edge within a width keeps to. -/
def Eg (w : Int) (e : Cell) : Prop := (0 ≤ e.x ∧ e.x < e.y ∧ e.y ≤ w) ∨ (e.x = 0 ∧ e.y = 0)
theorem Eg.jn {w v d : Int} {a b : Cell} (ha : Eg w a) (hb : Eg v b) (hd : 0 ≤ d) (h : v + d ≤ w) : Eg w (jn a b d) ∧ ((jn a b d).x = (jn a b d).y ↔ a.x = a.y ∧ b.x = b.y) := by
 unfold Eg R7.jn at *
 split
 ·exact ⟨ha, by omega⟩
 ·split
  ·simp only; omega
  ·simp only
   split <;> split <;> omega
theorem Eg.mono {w v : Int} {a : Cell} (ha : Eg w a) (h : w ≤ v) : Eg v a := by unfold Eg at *; omega
theorem ex_ok {ns : List Node} (h : Wf ns) (ax : Bool) : ∀ (lv : Nat) (n : Int), IsN ns lv n → Eg (2 ^ lv) (ex ns ax lv n) ∧ ((ex ns ax lv n).x = (ex ns ax lv n).y ↔ (nd ns n).pop = 0)
 | 0, n, hn => by
  rcases isN0 h hn with rfl | rfl
  ·unfold ex; rw [h.nd0]; exact ⟨.inr ⟨rfl, rfl⟩, ⟨fun _ => rfl, fun _ => rfl⟩⟩
  ·unfold ex; rw [h.nd1]; exact ⟨.inl ⟨by decide, by decide, by decide⟩, ⟨fun k => absurd k (by decide), fun k => absurd k (by decide)⟩⟩
 | m + 1, n, hn => by
  obtain ⟨a, b, c, d⟩ := kids4 h hn
  have hp := p2pos m
  obtain ⟨a1, a2⟩ := ex_ok h ax m _ a
  obtain ⟨b1, b2⟩ := ex_ok h ax m _ b
  obtain ⟨c1, c2⟩ := ex_ok h ax m _ c
  obtain ⟨d1, d2⟩ := ex_ok h ax m _ d
  have hdd := dead_kids h hn
  unfold ex
  rw [p2s]
  generalize ex ns ax m (nd ns n).k0 = e0 at *
  generalize ex ns ax m (nd ns n).k1 = e1 at *
  generalize ex ns ax m (nd ns n).k2 = e2 at *
  generalize ex ns ax m (nd ns n).k3 = e3 at *
  generalize (2:Int) ^ m = w at *
  have z : Eg (w * 2) ⟨0, 0⟩ := .inr ⟨rfl, rfl⟩
  obtain ⟨s0, t0⟩ := z.jn (d := 0) a1 (by omega) (by omega)
  obtain ⟨s1, t1⟩ := s0.jn (d := if ax then w else 0) b1 (by split <;> omega) (by split <;> omega)
  obtain ⟨s2, t2⟩ := s1.jn (d := if ax then 0 else w) c1 (by split <;> omega) (by split <;> omega)
  obtain ⟨s3, t3⟩ := s2.jn (d := w) d1 (by omega) (by omega)
  refine ⟨s3, ?_⟩
  rw [t3, t2, t1, t0, hdd, a2, b2, c2, d2]
  simp only [true_and]
  constructor
  ·rintro ⟨⟨⟨k0, k1⟩, k2⟩, k3⟩; exact ⟨k0, k1, k2, k3⟩
  ·rintro ⟨k0, k1, k2, k3⟩; exact ⟨⟨⟨k0, k1⟩, k2⟩, k3⟩
end R7
end Go.GL


set_option linter.unusedVariables false
namespace Go.GL
open Go.Proofs
attribute [local irreducible] wpList Code.wp Exit.then Exit.inBlock Ends Tri TriH OpV OpG FnC epf wpAnyH
variable {A : List Asrt} {I : List Chunk}
set_option maxHeartbeats 1000000 in
set_option maxRecDepth 100000 in
theorem edge_join {a b : Cell} {d e w : Int} (he : d = e) (ha : R7.Eg w a) (hb : R7.Eg w b) (h0 : 0 ≤ d) (h1 : d ≤ w) (hw : w ≤ 4398046511104) :
  FnC Try.prog 52 [cellV a, cellV b, .int .i64 d].toArray A I (fun v A' I' => v = cellV (R7.jn a b e) ∧ A = A' ∧ I = I') := by
 subst he
 unfold R7.Eg at ha hb
 skip
 skip
 refine fn_enter3 Try.func52 rfl Try.ntmps52 rfl fun w0 => ?_
 refine tS (tR ?_)
 refine tri_g (opg_box_agg rfl) rfl ?_
 rintro _ _ _ ⟨b3, rfl, rfl, rfl⟩
 refine tri_g (opg_box_agg rfl) rfl ?_
 rintro _ _ _ ⟨b4, rfl, rfl, rfl⟩
 refine tri_g opg_alloc rfl ?_
 rintro _ _ _ ⟨b6, rfl, rfl, rfl⟩
 refine tN (tT (tS (tri_block (tS (tR ?_)))))
 refine tri_v (opv_fieldAddr rfl rfl) rfl ?_
 refine tri_v (opv_load1 rfl rfl rfl) rfl ?_
 refine tri_v (opv_fieldAddr rfl rfl) rfl ?_
 refine tri_v (opv_load1 rfl rfl rfl) rfl ?_
 refine tri_v (opv_eql rfl rfl) rfl ?_
 refine tA rfl rfl (tN (tT ?_))
 refine tri_cond_dec rfl (fun g1 => ?_) (fun g1 => ?_)
 ·refine tS (tR ?_)
  refine tri_v (opv_loadA rfl rfl rfl) rfl ?_
  refine tri_g (opg_store rfl rfl rfl rfl rfl rfl) rfl ?_
  rintro _ _ _ ⟨rfl, rfl⟩
  refine tN (tT (tri_ret ?_))
  refine tri_inBlock_ret ?_
  refine tri_then_ret ?_
  refine tri_end A Suf.h rfl (.cons (rv_cellA rfl rfl rfl) .nil) ⟨?_, rfl, rfl⟩
  rw [show R7.jn a b d = a from if_pos g1]
  rfl
 refine tS (tR ?_)
 refine tri_v (opv_fieldAddr rfl rfl) rfl ?_
 refine tri_v (opv_load1 rfl rfl rfl) rfl ?_
 refine tri_v (opv_fieldAddr rfl rfl) rfl ?_
 refine tri_v (opv_load1 rfl rfl rfl) rfl ?_
 refine tri_v (opv_eql rfl rfl) rfl ?_
 refine tA rfl rfl (tN (tT ?_))
 refine tri_cond_dec rfl (fun g2 => ?_) (fun g2 => ?_)
 ·refine tS (tR ?_)
  refine tri_v (opv_fieldAddr rfl rfl) rfl ?_
  refine tri_v (opv_load1 rfl rfl rfl) rfl ?_
  refine tM rfl rfl ?_
  refine tU rfl rfl (by omega) (by omega) rfl ?_
  refine tri_v (opv_fieldAddr rfl rfl) rfl ?_
  refine tri_v (opv_load1 rfl rfl rfl) rfl ?_
  refine tM rfl rfl ?_
  refine tU rfl rfl (by omega) (by omega) rfl ?_
  refine tri_v (opv_buildS rfl rfl) rfl ?_
  refine tri_g (opg_store rfl rfl rfl rfl rfl rfl) rfl ?_
  rintro _ _ _ ⟨rfl, rfl⟩
  refine tN (tT (tri_ret ?_))
  refine tri_inBlock_ret ?_
  refine tri_then_ret ?_
  refine tri_end A Suf.h rfl (.cons (rv_cellA rfl rfl rfl) .nil) ⟨?_, rfl, rfl⟩
  rw [show R7.jn a b d = ⟨b.x + d, b.y + d⟩ from (if_neg g1).trans (if_pos g2)]
  rfl
 skip
 refine tri_skip ?_
 refine tri_inBlock ?_
 refine tT (tS (tR ?_))
 refine tri_v (opv_fieldAddr rfl rfl) rfl ?_
 refine tri_v (opv_load1 rfl rfl rfl) rfl ?_
 refine tri_v (opv_fieldAddr rfl rfl) rfl ?_
 refine tri_v (opv_load1 rfl rfl rfl) rfl ?_
 refine tM rfl rfl ?_
 refine tU rfl rfl (by omega) (by omega) rfl ?_
 refine tri_v (opv_min2 rfl rfl) rfl ?_
 refine tri_v (opv_fieldAddr rfl rfl) rfl ?_
 refine tri_v (opv_load1 rfl rfl rfl) rfl ?_
 refine tri_v (opv_fieldAddr rfl rfl) rfl ?_
 refine tri_v (opv_load1 rfl rfl rfl) rfl ?_
 refine tM rfl rfl ?_
 refine tU rfl rfl (by omega) (by omega) rfl ?_
 refine tri_v (opv_max2 rfl rfl) rfl ?_
 refine tri_v (opv_buildS rfl rfl) rfl ?_
 refine tri_g (opg_store rfl rfl rfl rfl rfl rfl) rfl ?_
 rintro _ _ _ ⟨rfl, rfl⟩
 refine tN (tT (tri_ret ?_))
 refine tri_end A Suf.h rfl (.cons (rv_cellA rfl rfl rfl) .nil) ⟨?_, rfl, rfl⟩
 rw [show R7.jn a b d = ⟨if b.x + d < a.x then b.x + d else a.x, if a.y < b.y + d then b.y + d else a.y⟩ from (if_neg g1).trans (if_neg g2)]
 rfl
end Go.GL


set_option linter.unusedVariables false
namespace Go.GL
open Go.Proofs
attribute [local irreducible] wpList Code.wp Exit.then Exit.inBlock Ends Tri TriH OpV OpG FnC epf wpAnyH
variable {A : List Asrt} {I : List Chunk}
abbrev rectV (r : R1.Rect) : Value := .agg [.int .i64 r.x, .int .i64 r.y, .int .i64 r.w, .int .i64 r.h].toArray
end Go.GL


set_option linter.unusedVariables false
set_option linter.unusedSimpArgs false
namespace Go.GL
/-! ### Slices moved within their own row; the kit's slices.overlaps -/
theorem reps_cell0 : ∀ n, reps n [.int .i64 0, .int .i64 0] = encs (List.replicate n (⟨0, 0⟩ : Cell))
 | 0 => rfl
 | n + 1 => by
  show [_, _] ++ reps n _ = _
  rw [reps_cell0 n, List.replicate_succ, encs_cons]
  rfl
section
variable {w0 : World} {n : Nat} {F : Frm} {A : List Asrt} {I : List Chunk} {P : Program} {dst : Option Tmp} {ty t : TypeId} {pos : String} {af : Array Edge} {gd : Option (Nat × Bool)} {x y ix : Operand} {d d' : TypeDesc} {s s' by_ by' : Nat} {z z' : List Value}
theorem CellsOf.nil {w : World} {a : Option Addr} : CellsOf w a [] := .inl rfl
def mx2 (a b : Int) : Int := if a < b then b else a
end
end Go.GL

