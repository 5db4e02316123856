/- Part 4: contracts of the functions that the law reaches: each answers as its model does. No condition beyond those that each theorem states. -/
import Derived.Test.YtfcijboaamelfaaPart3
set_option linter.unusedVariables false
namespace Go.GL
open Go.Proofs
attribute [local irreducible] wpList Code.wp Exit.then Exit.inBlock Ends Tri TriH OpV OpG FnC epf wpAnyH
variable {A : List Asrt} {I : List Chunk}
set_option maxRecDepth 100000 in
theorem life_lives {alive : Bool} {k : Int} : FnC Try.prog 85 [.bool alive, .int .i64 k].toArray A I (fun v A' I' => v = .bool (R2.lives alive k) ∧ A = A' ∧ I = I') := by
 refine fn_enter2 Try.func85 rfl Try.ntmps85 rfl fun w0 => ?_
 refine tS (tR (tA rfl rfl (tN (tT (tS (tS (tR ?_)))))))
 refine tM rfl rfl (tN (tT (tri_block (tS (tR ?_)))))
 refine tri_v (opv_eql rfl rfl) rfl ?_
 refine tA rfl rfl (tN (tT ?_))
 refine tri_cond_dec rfl (fun h1 => ?_) (fun h1 => ?_)
 ·refine tS (tR (tM rfl rfl (tA rfl rfl (tN (tT (tri_ret ?_))))))
  refine tri_inBlock_ret ?_
  refine tri_then_ret ?_
  refine tri_end A Suf.h rfl (.cons (rv_tmp rfl) .nil) ⟨congrArg Value.bool ?_, rfl, rfl⟩
  have h3 : ¬ k = 3 := by omega
  simp [R2.lives, h1]
 ·refine tS (tR ?_)
  refine tri_v (opv_eql rfl rfl) rfl ?_
  refine tA rfl rfl (tN (tT ?_))
  refine tri_cond_dec rfl (fun h2 => ?_) (fun h2 => ?_)
  ·refine tS (tR (tA rfl rfl (tN (tT (tri_ret ?_)))))
   refine tri_inBlock_ret ?_
   refine tri_then_ret ?_
   refine tri_end A Suf.h rfl (.cons (rv_tmp rfl) .nil) ⟨congrArg Value.bool ?_, rfl, rfl⟩
   simp [R2.lives, h2]
  ·refine tri_skip ?_
   refine tri_inBlock ?_
   refine tT (tS (tR (tA rfl rfl (tN (tT (tri_ret ?_))))))
   refine tri_end A Suf.h rfl (.cons (rv_tmp rfl) .nil) ⟨congrArg Value.bool ?_, rfl, rfl⟩
   simp [R2.lives, h1, h2]
theorem R8.g_off (l : List Int) (i : Int) : l.getD (0 + i.toNat * 1) default = R8.g l i := by
 rw [Nat.zero_add, Nat.mul_one]; rfl
set_option maxRecDepth 100000 in
theorem base_square {l : List Int} {y x : Int} (hl : l.length = 16) (y0 : 0 ≤ y) (y1 : y ≤ 2) (x0 : 0 ≤ x) (x1 : x ≤ 2) :
  FnC Try.prog 92 [.agg (ints l).toArray, .int .i64 y, .int .i64 x].toArray A I (fun v A' I' => v = int4V (R8.g l (4 * y + x)) (R8.g l (4 * y + x + 1)) (R8.g l (4 * y + x + 4)) (R8.g l (4 * y + x + 5)) ∧ A = A' ∧ I = I') := by
 skip
 refine fn_enter3 Try.func92 rfl Try.ntmps92 rfl fun w0 => ?_
 refine tS (tR ?_)
 refine tri_g (opg_box_agg rfl) rfl ?_
 rintro _ _ _ ⟨b3, rfl, rfl, rfl⟩
 refine tri_g opg_alloc rfl ?_
 rintro _ _ _ ⟨b6, rfl, rfl, rfl⟩
 refine tN (tT (tS (tR (tM rfl rfl ?_))))
 refine tri_v (opv_mul rfl rfl (w64 (by omega) (by omega))) rfl ?_
 refine tM rfl rfl ?_
 refine tU rfl rfl (by omega) (by omega) rfl ?_
 refine tA rfl rfl (tN (tT (tS ?_)))
 skip
 refine tri_draw [0, 1, 2, 3, 4, 5, 6, 7, 8, 9, 10, 11, 12, 13, 14, 15, 16, 17] rfl [_] rfl mixed ?_
 refine th_take rfl rfl (by kernel_rfl)  (opv_move rfl) ?_
 refine th_take rfl rfl (by kernel_rfl)  (opv_indexAddrA rfl rfl (by omega) (by omega)) ?_
 refine th_take rfl rfl (by kernel_rfl)  (opv_loadIX rfl rfl (by omega)) ?_
 refine th_take rfl rfl (by kernel_rfl)  (opv_move rfl) ?_
 refine th_take rfl rfl (by kernel_rfl)  (opv_add rfl rfl (w64 (by omega) (by omega))) ?_
 refine th_take rfl rfl (by kernel_rfl)  (opv_indexAddrA rfl rfl (by omega) (by omega)) ?_
 refine th_take rfl rfl (by kernel_rfl)  (opv_loadIX rfl rfl (by omega)) ?_
 refine th_take rfl rfl (by kernel_rfl)  (opv_move rfl) ?_
 refine th_take rfl rfl (by kernel_rfl)  (opv_add rfl rfl (w64 (by omega) (by omega))) ?_
 refine th_take rfl rfl (by kernel_rfl)  (opv_indexAddrA rfl rfl (by omega) (by omega)) ?_
 refine th_take rfl rfl (by kernel_rfl)  (opv_loadIX rfl rfl (by omega)) ?_
 refine th_take rfl rfl (by kernel_rfl)  (opv_move rfl) ?_
 refine th_take rfl rfl (by kernel_rfl)  (opv_add rfl rfl (w64 (by omega) (by omega))) ?_
 refine th_take rfl rfl (by kernel_rfl)  (opv_add rfl rfl (w64 (by omega) (by omega))) ?_
 refine th_take rfl rfl (by kernel_rfl)  (opv_indexAddrA rfl rfl (by omega) (by omega)) ?_
 refine th_take rfl rfl (by kernel_rfl)  (opv_loadIX rfl rfl (by omega)) ?_
 refine th_take rfl rfl (by kernel_rfl)  (opv_buildA rfl rfl) ?_
 refine th_one (by kernel_rfl) (step_m rfl rfl (opg_store rfl rfl rfl rfl rfl rfl) ?_)
 rintro _ _ _ ⟨rfl, rfl⟩
 refine ⟨Suf.h, (fun _ h => h), ?_⟩
 refine th_done (by kernel_rfl) ?_
 refine tT (tri_ret ?_)
 refine tri_end A Suf.h rfl (.cons (rv_cellA rfl rfl rfl) .nil) ⟨?_, rfl, rfl⟩
 simp only [R8.g_off, retV]
 rw [show y * 4 = 4 * y by omega, show 4 * y + x + 4 + 1 = 4 * y + x + 5 by omega]
def R8.ar (l : List Int) (i : Int) : Int := 0 + (R8.g l (i + -4 - 1) + R8.g l (i + -4) + R8.g l (i + -4 + 1)) + (R8.g l (i + 0 - 1) + R8.g l (i + 0) + R8.g l (i + 0 + 1)) + (R8.g l (i + 4 - 1) + R8.g l (i + 4) + R8.g l (i + 4 + 1)) - R8.g l i
set_option maxHeartbeats 1000000 in
set_option maxRecDepth 100000 in
theorem base_around {l : List Int} {i : Int} (hl : l.length = 16) (hb : ∀ i, 0 ≤ R8.g l i ∧ R8.g l i ≤ 1) (i0 : 5 ≤ i) (i1 : i ≤ 10) :
  FnC Try.prog 86 [.agg (ints l).toArray, .int .i64 i].toArray A I (fun v A' I' => v = .int .i64 (R8.ar l i) ∧ A = A' ∧ I = I') := by
 have hb' : ∀ j : Int, 0 ≤ l.getD (0 + j.toNat * 1) default ∧ l.getD (0 + j.toNat * 1) default ≤ 1 := fun j => by rw [R8.g_off]; exact hb j
 skip
 refine fn_enter2 Try.func86 rfl Try.ntmps86 rfl fun w0 => ?_
 refine tS (tR ?_)
 refine tri_g (opg_box_agg rfl) rfl ?_
 rintro _ _ _ ⟨b2, rfl, rfl, rfl⟩
 refine tA rfl rfl (tN (tT (tS (tS (tR (tA rfl rfl (tN ?_)))))))
 refine tT (tri_block ?_)
 refine tri_rounds 4 ?_
 refine tri_round ?_
 refine tS (tS (tR (tM rfl rfl ?_)))
 refine tri_v (opv_leq rfl rfl) rfl ?_
 refine tN (tT ?_)
 refine tri_cond_is rfl (by decide) ?_
 have a0 := hb' (i + (-4) - 1)
 have b0 := hb' (i + (-4))
 have c0 := hb' (i + (-4) + 1)
 refine tri_skip (tT (tS (tri_block ?_)))
 refine tri_draw [0, 1, 2, 3, 4, 5, 6, 7, 8, 9, 10, 11, 12, 13, 14, 15, 16, 17, 18, 19, 20, 21] rfl [] rfl mixed ?_
 refine th_take rfl rfl (by kernel_rfl)  (opv_move rfl) ?_
 refine th_take rfl rfl (by kernel_rfl)  (opv_move rfl) ?_
 refine th_take rfl rfl (by kernel_rfl)  (opv_move rfl) ?_
 refine th_take rfl rfl (by kernel_rfl)  (opv_add rfl rfl (w64 (by omega) (by omega))) ?_
 refine th_take rfl rfl (by kernel_rfl)  (opv_sub rfl rfl (w64 (by omega) (by omega))) ?_
 refine th_take rfl rfl (by kernel_rfl)  (opv_indexAddrA rfl rfl (by omega) (by omega)) ?_
 refine th_take rfl rfl (by kernel_rfl)  (opv_loadIX rfl rfl (by omega)) ?_
 refine th_take rfl rfl (by kernel_rfl)  (opv_move rfl) ?_
 refine th_take rfl rfl (by kernel_rfl)  (opv_move rfl) ?_
 refine th_take rfl rfl (by kernel_rfl)  (opv_add rfl rfl (w64 (by omega) (by omega))) ?_
 refine th_take rfl rfl (by kernel_rfl)  (opv_indexAddrA rfl rfl (by omega) (by omega)) ?_
 refine th_take rfl rfl (by kernel_rfl)  (opv_loadIX rfl rfl (by omega)) ?_
 refine th_take rfl rfl (by kernel_rfl)  (opv_add rfl rfl (w64 (by omega) (by omega))) ?_
 refine th_take rfl rfl (by kernel_rfl)  (opv_move rfl) ?_
 refine th_take rfl rfl (by kernel_rfl)  (opv_move rfl) ?_
 refine th_take rfl rfl (by kernel_rfl)  (opv_add rfl rfl (w64 (by omega) (by omega))) ?_
 refine th_take rfl rfl (by kernel_rfl)  (opv_add rfl rfl (w64 (by omega) (by omega))) ?_
 refine th_take rfl rfl (by kernel_rfl)  (opv_indexAddrA rfl rfl (by omega) (by omega)) ?_
 refine th_take rfl rfl (by kernel_rfl)  (opv_loadIX rfl rfl (by omega)) ?_
 refine th_take rfl rfl (by kernel_rfl)  (opv_add rfl rfl (w64 (by omega) (by omega))) ?_
 refine th_take rfl rfl (by kernel_rfl)  (opv_add rfl rfl (w64 (by omega) (by omega))) ?_
 refine th_take rfl rfl (by kernel_rfl)  (opv_assign rfl) ?_
 refine th_done (by kernel_rfl) ?_
 refine tri_inBlock ?_
 refine tT (tR (tM rfl rfl ?_))
 refine tU rfl rfl (by omega) (by omega) rfl ?_
 refine tA rfl rfl (tN (tT ?_))
 refine tri_round ?_
 refine tS (tS (tR (tM rfl rfl ?_)))
 refine tri_v (opv_leq rfl rfl) rfl ?_
 refine tN (tT ?_)
 skip
 refine tri_cond_is rfl (by decide) ?_
 have a4 := hb' (i + (-4 + 4) - 1)
 have b4 := hb' (i + (-4 + 4))
 have c4 := hb' (i + (-4 + 4) + 1)
 refine tri_skip (tT (tS (tri_block ?_)))
 refine tri_draw [0, 1, 2, 3, 4, 5, 6, 7, 8, 9, 10, 11, 12, 13, 14, 15, 16, 17, 18, 19, 20, 21] rfl [] rfl mixed ?_
 refine th_take rfl rfl (by kernel_rfl)  (opv_move rfl) ?_
 refine th_take rfl rfl (by kernel_rfl)  (opv_move rfl) ?_
 refine th_take rfl rfl (by kernel_rfl)  (opv_move rfl) ?_
 refine th_take rfl rfl (by kernel_rfl)  (opv_add rfl rfl (w64 (by omega) (by omega))) ?_
 refine th_take rfl rfl (by kernel_rfl)  (opv_sub rfl rfl (w64 (by omega) (by omega))) ?_
 refine th_take rfl rfl (by kernel_rfl)  (opv_indexAddrA rfl rfl (by omega) (by omega)) ?_
 refine th_take rfl rfl (by kernel_rfl)  (opv_loadIX rfl rfl (by omega)) ?_
 refine th_take rfl rfl (by kernel_rfl)  (opv_move rfl) ?_
 refine th_take rfl rfl (by kernel_rfl)  (opv_move rfl) ?_
 refine th_take rfl rfl (by kernel_rfl)  (opv_add rfl rfl (w64 (by omega) (by omega))) ?_
 refine th_take rfl rfl (by kernel_rfl)  (opv_indexAddrA rfl rfl (by omega) (by omega)) ?_
 refine th_take rfl rfl (by kernel_rfl)  (opv_loadIX rfl rfl (by omega)) ?_
 refine th_take rfl rfl (by kernel_rfl)  (opv_add rfl rfl (w64 (by omega) (by omega))) ?_
 refine th_take rfl rfl (by kernel_rfl)  (opv_move rfl) ?_
 refine th_take rfl rfl (by kernel_rfl)  (opv_move rfl) ?_
 refine th_take rfl rfl (by kernel_rfl)  (opv_add rfl rfl (w64 (by omega) (by omega))) ?_
 refine th_take rfl rfl (by kernel_rfl)  (opv_add rfl rfl (w64 (by omega) (by omega))) ?_
 refine th_take rfl rfl (by kernel_rfl)  (opv_indexAddrA rfl rfl (by omega) (by omega)) ?_
 refine th_take rfl rfl (by kernel_rfl)  (opv_loadIX rfl rfl (by omega)) ?_
 refine th_take rfl rfl (by kernel_rfl)  (opv_add rfl rfl (w64 (by omega) (by omega))) ?_
 refine th_take rfl rfl (by kernel_rfl)  (opv_add rfl rfl (w64 (by omega) (by omega))) ?_
 refine th_take rfl rfl (by kernel_rfl)  (opv_assign rfl) ?_
 refine th_done (by kernel_rfl) ?_
 refine tri_inBlock ?_
 refine tT (tR (tM rfl rfl ?_))
 refine tU rfl rfl (by omega) (by omega) rfl ?_
 refine tA rfl rfl (tN (tT ?_))
 refine tri_round ?_
 refine tS (tS (tR (tM rfl rfl ?_)))
 refine tri_v (opv_leq rfl rfl) rfl ?_
 refine tN (tT ?_)
 skip
 refine tri_cond_is rfl (by decide) ?_
 have a8 := hb' (i + (-4 + 4 + 4) - 1)
 have b8 := hb' (i + (-4 + 4 + 4))
 have c8 := hb' (i + (-4 + 4 + 4) + 1)
 refine tri_skip (tT (tS (tri_block ?_)))
 refine tri_draw [0, 1, 2, 3, 4, 5, 6, 7, 8, 9, 10, 11, 12, 13, 14, 15, 16, 17, 18, 19, 20, 21] rfl [] rfl mixed ?_
 refine th_take rfl rfl (by kernel_rfl)  (opv_move rfl) ?_
 refine th_take rfl rfl (by kernel_rfl)  (opv_move rfl) ?_
 refine th_take rfl rfl (by kernel_rfl)  (opv_move rfl) ?_
 refine th_take rfl rfl (by kernel_rfl)  (opv_add rfl rfl (w64 (by omega) (by omega))) ?_
 refine th_take rfl rfl (by kernel_rfl)  (opv_sub rfl rfl (w64 (by omega) (by omega))) ?_
 refine th_take rfl rfl (by kernel_rfl)  (opv_indexAddrA rfl rfl (by omega) (by omega)) ?_
 refine th_take rfl rfl (by kernel_rfl)  (opv_loadIX rfl rfl (by omega)) ?_
 refine th_take rfl rfl (by kernel_rfl)  (opv_move rfl) ?_
 refine th_take rfl rfl (by kernel_rfl)  (opv_move rfl) ?_
 refine th_take rfl rfl (by kernel_rfl)  (opv_add rfl rfl (w64 (by omega) (by omega))) ?_
 refine th_take rfl rfl (by kernel_rfl)  (opv_indexAddrA rfl rfl (by omega) (by omega)) ?_
 refine th_take rfl rfl (by kernel_rfl)  (opv_loadIX rfl rfl (by omega)) ?_
 refine th_take rfl rfl (by kernel_rfl)  (opv_add rfl rfl (w64 (by omega) (by omega))) ?_
 refine th_take rfl rfl (by kernel_rfl)  (opv_move rfl) ?_
 refine th_take rfl rfl (by kernel_rfl)  (opv_move rfl) ?_
 refine th_take rfl rfl (by kernel_rfl)  (opv_add rfl rfl (w64 (by omega) (by omega))) ?_
 refine th_take rfl rfl (by kernel_rfl)  (opv_add rfl rfl (w64 (by omega) (by omega))) ?_
 refine th_take rfl rfl (by kernel_rfl)  (opv_indexAddrA rfl rfl (by omega) (by omega)) ?_
 refine th_take rfl rfl (by kernel_rfl)  (opv_loadIX rfl rfl (by omega)) ?_
 refine th_take rfl rfl (by kernel_rfl)  (opv_add rfl rfl (w64 (by omega) (by omega))) ?_
 refine th_take rfl rfl (by kernel_rfl)  (opv_add rfl rfl (w64 (by omega) (by omega))) ?_
 refine th_take rfl rfl (by kernel_rfl)  (opv_assign rfl) ?_
 refine th_done (by kernel_rfl) ?_
 refine tri_inBlock ?_
 refine tT (tR (tM rfl rfl ?_))
 refine tU rfl rfl (by omega) (by omega) rfl ?_
 refine tA rfl rfl (tN (tT ?_))
 refine tri_round ?_
 refine tS (tS (tR (tM rfl rfl ?_)))
 refine tri_v (opv_leq rfl rfl) rfl ?_
 refine tN (tT ?_)
 refine tri_cond_not rfl (by decide) ?_
 have d0 := hb' i
 refine tri_exit ?_
 refine tri_then_exit ?_
 refine tri_then_exit ?_
 refine tri_inBlock_hit rfl ?_
 refine tT (tS (tR (tM rfl rfl (tM rfl rfl ?_))))
 refine tri_v (opv_indexAddrA rfl rfl (by omega) (by omega)) rfl ?_
 refine tri_v (opv_loadIX rfl rfl (by omega)) rfl ?_
 refine tri_v (opv_sub rfl rfl (w64 (by omega) (by omega))) rfl ?_
 refine tA rfl rfl (tN (tT (tri_ret ?_)))
 refine tri_end A Suf.h rfl (.cons (rv_tmp rfl) .nil) ⟨?_, rfl, rfl⟩
 simp only [R8.g_off, retV]
 rfl
end Go.GL

set_option linter.unusedVariables false
namespace Go.GL
open Go.Proofs
attribute [local irreducible] wpList Code.wp Exit.then Exit.inBlock Ends Tri TriH OpV OpG FnC epf wpAnyH
variable {A : List Asrt} {I : List Chunk}
theorem R8.s16_len (ns : List Node) (n : Int) : (R8.s16 ns n).length = 16 := rfl
set_option maxRecDepth 100000 in
theorem ref08_middle {ns : List Node} {a : Option Addr} {cap : Nat} {room n : Int} (hs : StA I a cap ns) (hg : R6.Good ns room) (hk : R8.Kid ns n) :
  FnC Try.prog 75 [storeV a ns.length cap room, .int .i64 n].toArray A I (StoreR (R8.putSq ns room (R8.s16 ns n) 1 1) room A I) := by
 skip
 refine fn_enter2 Try.func75 rfl Try.ntmps75 rfl fun w0 => ?_
 skip
 refine tS (tR ?_)
 refine tri_g (opg_box_agg rfl) rfl ?_
 rintro _ _ _ ⟨b2, rfl, rfl, rfl⟩
 refine tri_g opg_alloc rfl ?_
 rintro _ _ _ ⟨b4, rfl, rfl, rfl⟩
 refine tA rfl rfl (tA rfl rfl (tN (tT (tS ?_))))
 refine tri_draw [0, 1, 2, 3, 4, 5, 6, 7, 8, 9, 10, 11] rfl [_] rfl mixed ?_
 refine th_take rfl rfl (by kernel_rfl)  (opv_loadA rfl rfl rfl) ?_
 refine th_take rfl rfl (by kernel_rfl)  (opv_loadA rfl rfl rfl) ?_
 refine th_take rfl rfl (by kernel_rfl)  (opv_move rfl) ?_
 refine th_one (by kernel_rfl) (step_m rfl rfl (opg_call (xs := [_, _]) rfl (ref08_sixteen hs.sl hk)) ?_)
 rintro _ _ J1 ⟨a1, c1, rfl, hq1, rfl, hJ1⟩
 refine ⟨Suf.h, hJ1, ?_⟩
 skip
 refine th_one (by kernel_rfl) (step_m rfl rfl (opg_call (xs := [_, _, _]) rfl (ref08_square hq1 rfl (by omega) (by omega) (by omega) (by omega))) ?_)
 rintro _ _ _ ⟨rfl, rfl, rfl⟩
 refine ⟨Suf.h, hJ1, ?_⟩
 skip
 refine th_one (by kernel_rfl) (step_m rfl rfl (opg_call (xs := [_, _]) rfl (ref06_put (hs.mono hJ1) hg.len hg.mod)) ?_)
 rintro _ _ J2 ⟨a2, c2, rfl, hq2, rfl, hJ2⟩
 refine ⟨Suf.h, fun _ h => hJ2 (hJ1 h), ?_⟩
 have hJ3 : I ⊆ J2 := fun _ h => hJ2 (hJ1 h)
 refine th_take rfl rfl (by kernel_rfl)  (opv_extract rfl rfl) ?_
 refine th_take rfl rfl (by kernel_rfl)  (opv_extract rfl rfl) ?_
 refine th_take rfl rfl (by kernel_rfl)  (opv_extract rfl rfl) ?_
 refine th_one (by kernel_rfl) (step_m rfl rfl (opg_store rfl rfl rfl rfl rfl rfl) ?_)
 rintro _ _ _ ⟨rfl, rfl⟩
 refine ⟨Suf.h, (by assumption), ?_⟩
 refine th_take rfl rfl (by kernel_rfl)  (opv_assign rfl) ?_
 refine th_take rfl rfl (by kernel_rfl)  (opv_assign rfl) ?_
 refine th_done (by kernel_rfl) ?_
 refine tT (tri_ret ?_)
 refine tri_end A Suf.h rfl (.cons (rv_cellA rfl rfl rfl) (.cons (rv_tmp rfl) (.cons (rv_tmp rfl) .nil))) ?_
 exact ⟨a2, c2, rfl, hq2, rfl, hJ3⟩
theorem R8.about_bd {l : List Int} (hb : ∀ i, 0 ≤ R8.g l i ∧ R8.g l i ≤ 1) (y x : Int) : ∀ i, 0 ≤ R8.about l y x i ∧ R8.about l y x i ≤ i
 | 0 => by simp [R8.about]
 | i + 1 => by
  have := R8.about_bd hb y x i
  have h2 := hb (4 * (y + (i : Int) / 3 - 1) + x + (i : Int) % 3 - 1)
  unfold R8.about
  split <;> omega
theorem R8.about_ne {l : List Int} {y x : Int} {i : Nat} (h : (i : Int) ≠ 4) : R8.about l y x (i + 1) = R8.about l y x i + R8.g l (4 * (y + (i : Int) / 3 - 1) + x + (i : Int) % 3 - 1) := by
 rw [R8.about, if_neg (by omega)]
theorem R8.about_eq {l : List Int} {y x : Int} {i : Nat} (h : ¬ (i : Int) ≠ 4) : R8.about l y x (i + 1) = R8.about l y x i := by
 rw [R8.about, if_pos (by omega), Int.add_zero]
set_option maxHeartbeats 2000000 in
set_option maxRecDepth 100000 in
theorem ref08_one {ns : List Node} {a : Option Addr} {cap : Nat} {room n : Int} (hs : StA I a cap ns) (hg : R6.Good ns room) (hk : R8.Kid ns n) (hb : ∀ i, 0 ≤ R8.g (R8.s16 ns n) i ∧ R8.g (R8.s16 ns n) i ≤ 1) :
  FnC Try.prog 70 [storeV a ns.length cap room, .int .i64 n].toArray A I (StoreR (R8.one ns room n) room A I) := by
 have hlen := R8.s16_len ns n
 skip
 refine fn_enter2 Try.func70 rfl Try.ntmps70 rfl fun w0 => ?_
 refine tS (tR ?_)
 refine tri_g (opg_box_agg rfl) rfl ?_
 rintro _ _ _ ⟨b2, rfl, rfl, rfl⟩
 refine tri_g opg_alloc rfl ?_
 rintro _ _ _ ⟨b4, rfl, rfl, rfl⟩
 refine tA rfl rfl (tA rfl rfl (tN (tT (tS (tR ?_)))))
 refine tri_v (opv_loadA rfl rfl rfl) rfl ?_
 refine tM rfl rfl ?_
 refine tri_g (opg_call (xs := [_, _]) rfl (ref08_sixteen hs.sl hk)) rfl ?_
 rintro _ _ J1 ⟨a1, c1, rfl, hq1, rfl, hJ1⟩
 refine tA rfl rfl (tN (tT (tS (tR ?_))))
 refine tri_g opg_alloc rfl ?_
 rintro _ _ _ ⟨b8, rfl, rfl, rfl⟩
 refine tN (tT (tS (tS (tR (tA rfl rfl (tN (tT ?_)))))))
 refine tri_block ?_
 refine tri_rounds 5 ?_
 refine tri_round ?_
 refine tS (tS (tR (tM rfl rfl ?_)))
 refine tri_v (opv_lss rfl rfl) rfl ?_
 refine tN (tT ?_)
 refine tri_cond_is rfl (by decide) ?_
 refine tri_skip (tT (tS (tri_block (tS (tR (tM rfl rfl ?_))))))
 refine tri_v (opv_quoE rfl rfl (by omega) (by omega) (by omega)) rfl ?_
 refine tU rfl rfl (by omega) (by omega) rfl ?_
 refine tA rfl rfl (tN (tT (tS (tR (tM rfl rfl ?_)))))
 refine tri_v (opv_remE rfl rfl (by omega) (by omega)) rfl ?_
 refine tU rfl rfl (by omega) (by omega) rfl ?_
 refine tA rfl rfl (tN (tT (tS (tR (tA rfl rfl (tN (tT ?_)))))))
 refine tS (tS (tR (tA rfl rfl (tN (tT (tri_block ?_))))))
 refine tri_sub (F' := [(1, .int .i64 n), (2, pt b2 0), (4, pt b4 0), (7, .slice a1 (R8.s16 ns n).length c1), (8, pt b8 0), (9, .int .i64 0), (10, .int .i64 1), (11, .int .i64 1), (12, .int .i64 (R8.about (R8.s16 ns n) 1 1 0)), (13, .int .i64 (0 : Nat))]) ⟨rfl, rfl, rfl, rfl, rfl, rfl, rfl, rfl, rfl, rfl, trivial⟩ ?_
 refine loop_ind (G := Nat) (fun i => 9 - i) (fun i => i ≤ 9) (fun i => [(1, .int .i64 n), (2, pt b2 0), (4, pt b4 0), (7, .slice a1 (R8.s16 ns n).length c1), (8, pt b8 0), (9, .int .i64 0), (10, .int .i64 1), (11, .int .i64 1), (12, .int .i64 (R8.about (R8.s16 ns n) 1 1 i)), (13, .int .i64 (i : Nat))]) (fun _ => _) (fun _ => _) ?_ 0 (by omega)
 rintro i hi K hK
 have hab := R8.about_bd hb 1 1 i
 have hgi := hb (4 * (1 + (i : Int) / 3 - 1) + 1 + (i : Int) % 3 - 1)
 have hgi' : 0 ≤ (R8.s16 ns n).getD (4 * (1 + (i : Int) / 3 - 1) + 1 + (i : Int) % 3 - 1).toNat default ∧ (R8.s16 ns n).getD (4 * (1 + (i : Int) / 3 - 1) + 1 + (i : Int) % 3 - 1).toNat default ≤ 1 := hgi
 skip
 refine tS (tS (tR (tM rfl rfl ?_)))
 refine tri_v (opv_lss rfl rfl) rfl ?_
 refine tN (tT ?_)
 refine tri_cond_dec rfl (fun h0 => ?_) (fun h0 => ?_)
 ·refine tri_skip (tT (tS (tri_block (tS (tR (tM rfl rfl ?_))))))
  refine tri_v (opv_neq rfl rfl) rfl ?_
  refine tN (tT ?_)
  refine tri_cond_dec rfl (fun h => ?_) (fun h => ?_)
  ·have e := R8.about_ne (l := R8.s16 ns n) (y := 1) (x := 1) h
   refine tR (tM rfl rfl (tM rfl rfl (tM rfl rfl (tM rfl rfl ?_))))
   refine tri_v (opv_quoE rfl rfl (by omega) (by omega) (by omega)) rfl ?_
   refine tU rfl rfl (by omega) (by omega) rfl ?_
   refine tri_v (opv_sub rfl rfl (w64 (by omega) (by omega))) rfl ?_
   refine tri_v (opv_mul rfl rfl (w64 (by omega) (by omega))) rfl ?_
   refine tM rfl rfl ?_
   refine tU rfl rfl (by omega) (by omega) rfl ?_
   refine tM rfl rfl ?_
   refine tri_v (opv_remE rfl rfl (by omega) (by omega)) rfl ?_
   refine tU rfl rfl (by omega) (by omega) rfl ?_
   refine tri_v (opv_sub rfl rfl (w64 (by omega) (by omega))) rfl ?_
   refine tri_v (opv_indexAddrS rfl rfl (by omega) (by omega) (by assumption) rfl) rfl ?_
   refine tri_v (opv_loadE1 rfl (by assumption) rfl (by omega) rfl rfl) rfl ?_
   refine tU rfl rfl (by omega) (by omega) rfl ?_
   refine tA rfl rfl (tN ?_)
   refine tri_inBlock ?_
   refine tT (tR (tM rfl rfl ?_))
   refine tU rfl rfl (by omega) (by omega) rfl ?_
   refine tA rfl rfl (tN (tT ?_))
   refine tri_sub ?_ (hK (i + 1) (by omega) (by omega))
   rw [e]
   exact ⟨rfl, rfl, rfl, rfl, rfl, rfl, rfl, rfl, rfl, rfl, trivial⟩
  ·have e := R8.about_eq (l := R8.s16 ns n) (y := 1) (x := 1) h
   refine tri_skip ?_
   refine tri_inBlock ?_
   refine tT (tR (tM rfl rfl ?_))
   refine tU rfl rfl (by omega) (by omega) rfl ?_
   refine tA rfl rfl (tN (tT ?_))
   refine tri_sub ?_ (hK (i + 1) (by omega) (by omega))
   rw [e]
   exact ⟨rfl, rfl, rfl, rfl, rfl, rfl, rfl, rfl, rfl, rfl, trivial⟩
 obtain rfl : i = 9 := by omega
 clear hK hgi' hgi
 refine tri_exit ?_
 refine tri_then_exit ?_
 refine tri_then_exit ?_
 refine tri_inBlock_hit rfl ?_
 refine tT (tS (tR (tM rfl rfl (tM rfl rfl ?_))))
 refine tri_v (opv_mul rfl rfl (w64 (by omega) (by omega))) rfl ?_
 refine tM rfl rfl ?_
 refine tU rfl rfl (by omega) (by omega) rfl ?_
 refine tri_v (opv_indexAddrS rfl rfl (by omega) (by omega) (by assumption) rfl) rfl ?_
 refine tri_v (opv_loadE1 rfl (by assumption) rfl (by omega) rfl rfl) rfl ?_
 refine tri_v (opv_eql rfl rfl) rfl ?_
 refine tM rfl rfl ?_
 refine tri_g (opg_call (xs := [_, _]) rfl (ref02_lives)) rfl ?_
 rintro _ _ _ ⟨rfl, rfl, rfl⟩
 refine tN (tT ?_)
 refine tri_cut (fun F' A' J => F' = [(1, .int .i64 n), (2, pt b2 0), (4, pt b4 0), (7, .slice a1 (R8.s16 ns n).length c1), (8, pt b8 0), (9, .int .i64 0)] ∧ A' = Box b8 [.int .i64 (R8.bit (R8.s16 ns n) 1 1), .int .i64 (0), .int .i64 (0), .int .i64 (0)] 33 :: Box b4 [.slice none 0 0, .int .i64 0] 26 :: Box b2 [.slice a ns.length cap, .int .i64 room] 26 :: A ∧ J1 = J) ?_ ?_
 ·refine tri_cond rfl (fun hv => ?_) (fun hv => ?_)
  ·refine tR (tM rfl rfl ?_)
   refine tri_v (opv_indexAddrA rfl rfl (by decide) (by decide)) rfl ?_
   refine tri_g (opg_store rfl rfl rfl rfl rfl rfl) rfl ?_
   rintro _ _ _ ⟨rfl, rfl⟩
   refine tN ?_
   exact tri_cutEnd _ ⟨rfl, by rw [show R8.bit (R8.s16 ns n) 1 1 = 1 from if_pos hv], rfl⟩ ⟨rfl, rfl, rfl, rfl, rfl, rfl, trivial⟩
  ·refine tri_skip ?_
   exact tri_cutEnd _ ⟨rfl, by rw [show R8.bit (R8.s16 ns n) 1 1 = 0 from if_neg (fun h => Bool.false_ne_true (hv.symm.trans h))], rfl⟩ ⟨rfl, rfl, rfl, rfl, rfl, rfl, trivial⟩
 rintro _ _ _ ⟨rfl, rfl, rfl⟩
 skip
 refine tri_inBlock ?_
 refine tT (tR (tM rfl rfl ?_))
 refine tU rfl rfl (by omega) (by omega) rfl ?_
 refine tA rfl rfl (tN (tT ?_))
 refine tri_round ?_
 refine tS (tS (tR (tM rfl rfl ?_)))
 refine tri_v (opv_lss rfl rfl) rfl ?_
 refine tN (tT ?_)
 skip
 refine tri_cond_is rfl (by decide) ?_
 refine tri_skip (tT (tS (tri_block (tS (tR (tM rfl rfl ?_))))))
 refine tri_v (opv_quoE rfl rfl (by omega) (by omega) (by omega)) rfl ?_
 refine tU rfl rfl (by omega) (by omega) rfl ?_
 refine tA rfl rfl (tN (tT (tS (tR (tM rfl rfl ?_)))))
 refine tri_v (opv_remE rfl rfl (by omega) (by omega)) rfl ?_
 refine tU rfl rfl (by omega) (by omega) rfl ?_
 refine tA rfl rfl (tN (tT (tS (tR (tA rfl rfl (tN (tT ?_)))))))
 refine tS (tS (tR (tA rfl rfl (tN (tT (tri_block ?_))))))
 refine tri_sub (F' := [(1, .int .i64 n), (2, pt b2 0), (4, pt b4 0), (7, .slice a1 (R8.s16 ns n).length c1), (8, pt b8 0), (9, .int .i64 1), (10, .int .i64 1), (11, .int .i64 2), (12, .int .i64 (R8.about (R8.s16 ns n) 1 2 0)), (13, .int .i64 (0 : Nat))]) ⟨rfl, rfl, rfl, rfl, rfl, rfl, rfl, rfl, rfl, rfl, trivial⟩ ?_
 refine loop_ind (G := Nat) (fun i => 9 - i) (fun i => i ≤ 9) (fun i => [(1, .int .i64 n), (2, pt b2 0), (4, pt b4 0), (7, .slice a1 (R8.s16 ns n).length c1), (8, pt b8 0), (9, .int .i64 1), (10, .int .i64 1), (11, .int .i64 2), (12, .int .i64 (R8.about (R8.s16 ns n) 1 2 i)), (13, .int .i64 (i : Nat))]) (fun _ => _) (fun _ => _) ?_ 0 (by omega)
 rintro i hi K hK
 have hab := R8.about_bd hb 1 2 i
 have hgi := hb (4 * (1 + (i : Int) / 3 - 1) + 2 + (i : Int) % 3 - 1)
 have hgi' : 0 ≤ (R8.s16 ns n).getD (4 * (1 + (i : Int) / 3 - 1) + 2 + (i : Int) % 3 - 1).toNat default ∧ (R8.s16 ns n).getD (4 * (1 + (i : Int) / 3 - 1) + 2 + (i : Int) % 3 - 1).toNat default ≤ 1 := hgi
 skip
 refine tS (tS (tR (tM rfl rfl ?_)))
 refine tri_v (opv_lss rfl rfl) rfl ?_
 refine tN (tT ?_)
 refine tri_cond_dec rfl (fun h1 => ?_) (fun h1 => ?_)
 ·refine tri_skip (tT (tS (tri_block (tS (tR (tM rfl rfl ?_))))))
  refine tri_v (opv_neq rfl rfl) rfl ?_
  refine tN (tT ?_)
  refine tri_cond_dec rfl (fun h => ?_) (fun h => ?_)
  ·have e := R8.about_ne (l := R8.s16 ns n) (y := 1) (x := 2) h
   refine tR (tM rfl rfl (tM rfl rfl (tM rfl rfl (tM rfl rfl ?_))))
   refine tri_v (opv_quoE rfl rfl (by omega) (by omega) (by omega)) rfl ?_
   refine tU rfl rfl (by omega) (by omega) rfl ?_
   refine tri_v (opv_sub rfl rfl (w64 (by omega) (by omega))) rfl ?_
   refine tri_v (opv_mul rfl rfl (w64 (by omega) (by omega))) rfl ?_
   refine tM rfl rfl ?_
   refine tU rfl rfl (by omega) (by omega) rfl ?_
   refine tM rfl rfl ?_
   refine tri_v (opv_remE rfl rfl (by omega) (by omega)) rfl ?_
   refine tU rfl rfl (by omega) (by omega) rfl ?_
   refine tri_v (opv_sub rfl rfl (w64 (by omega) (by omega))) rfl ?_
   refine tri_v (opv_indexAddrS rfl rfl (by omega) (by omega) (by assumption) rfl) rfl ?_
   refine tri_v (opv_loadE1 rfl (by assumption) rfl (by omega) rfl rfl) rfl ?_
   refine tU rfl rfl (by omega) (by omega) rfl ?_
   refine tA rfl rfl (tN ?_)
   refine tri_inBlock ?_
   refine tT (tR (tM rfl rfl ?_))
   refine tU rfl rfl (by omega) (by omega) rfl ?_
   refine tA rfl rfl (tN (tT ?_))
   refine tri_sub ?_ (hK (i + 1) (by omega) (by omega))
   rw [e]
   exact ⟨rfl, rfl, rfl, rfl, rfl, rfl, rfl, rfl, rfl, rfl, trivial⟩
  ·have e := R8.about_eq (l := R8.s16 ns n) (y := 1) (x := 2) h
   refine tri_skip ?_
   refine tri_inBlock ?_
   refine tT (tR (tM rfl rfl ?_))
   refine tU rfl rfl (by omega) (by omega) rfl ?_
   refine tA rfl rfl (tN (tT ?_))
   refine tri_sub ?_ (hK (i + 1) (by omega) (by omega))
   rw [e]
   exact ⟨rfl, rfl, rfl, rfl, rfl, rfl, rfl, rfl, rfl, rfl, trivial⟩
 obtain rfl : i = 9 := by omega
 clear hK hgi' hgi
 refine tri_exit ?_
 refine tri_then_exit ?_
 refine tri_then_exit ?_
 refine tri_inBlock_hit rfl ?_
 refine tT (tS (tR (tM rfl rfl (tM rfl rfl ?_))))
 refine tri_v (opv_mul rfl rfl (w64 (by omega) (by omega))) rfl ?_
 refine tM rfl rfl ?_
 refine tU rfl rfl (by omega) (by omega) rfl ?_
 refine tri_v (opv_indexAddrS rfl rfl (by omega) (by omega) (by assumption) rfl) rfl ?_
 refine tri_v (opv_loadE1 rfl (by assumption) rfl (by omega) rfl rfl) rfl ?_
 refine tri_v (opv_eql rfl rfl) rfl ?_
 refine tM rfl rfl ?_
 refine tri_g (opg_call (xs := [_, _]) rfl (ref02_lives)) rfl ?_
 rintro _ _ _ ⟨rfl, rfl, rfl⟩
 refine tN (tT ?_)
 refine tri_cut (fun F' A' J => F' = [(1, .int .i64 n), (2, pt b2 0), (4, pt b4 0), (7, .slice a1 (R8.s16 ns n).length c1), (8, pt b8 0), (9, .int .i64 1)] ∧ A' = Box b8 [.int .i64 (R8.bit (R8.s16 ns n) 1 1), .int .i64 (R8.bit (R8.s16 ns n) 1 2), .int .i64 (0), .int .i64 (0)] 33 :: Box b4 [.slice none 0 0, .int .i64 0] 26 :: Box b2 [.slice a ns.length cap, .int .i64 room] 26 :: A ∧ J1 = J) ?_ ?_
 ·refine tri_cond rfl (fun hv => ?_) (fun hv => ?_)
  ·refine tR (tM rfl rfl ?_)
   refine tri_v (opv_indexAddrA rfl rfl (by decide) (by decide)) rfl ?_
   refine tri_g (opg_store rfl rfl rfl rfl rfl rfl) rfl ?_
   rintro _ _ _ ⟨rfl, rfl⟩
   refine tN ?_
   exact tri_cutEnd _ ⟨rfl, by rw [show R8.bit (R8.s16 ns n) 1 2 = 1 from if_pos hv], rfl⟩ ⟨rfl, rfl, rfl, rfl, rfl, rfl, trivial⟩
  ·refine tri_skip ?_
   exact tri_cutEnd _ ⟨rfl, by rw [show R8.bit (R8.s16 ns n) 1 2 = 0 from if_neg (fun h => Bool.false_ne_true (hv.symm.trans h))], rfl⟩ ⟨rfl, rfl, rfl, rfl, rfl, rfl, trivial⟩
 rintro _ _ _ ⟨rfl, rfl, rfl⟩
 skip
 refine tri_inBlock ?_
 refine tT (tR (tM rfl rfl ?_))
 refine tU rfl rfl (by omega) (by omega) rfl ?_
 refine tA rfl rfl (tN (tT ?_))
 refine tri_round ?_
 refine tS (tS (tR (tM rfl rfl ?_)))
 refine tri_v (opv_lss rfl rfl) rfl ?_
 refine tN (tT ?_)
 skip
 refine tri_cond_is rfl (by decide) ?_
 refine tri_skip (tT (tS (tri_block (tS (tR (tM rfl rfl ?_))))))
 refine tri_v (opv_quoE rfl rfl (by omega) (by omega) (by omega)) rfl ?_
 refine tU rfl rfl (by omega) (by omega) rfl ?_
 refine tA rfl rfl (tN (tT (tS (tR (tM rfl rfl ?_)))))
 refine tri_v (opv_remE rfl rfl (by omega) (by omega)) rfl ?_
 refine tU rfl rfl (by omega) (by omega) rfl ?_
 refine tA rfl rfl (tN (tT (tS (tR (tA rfl rfl (tN (tT ?_)))))))
 refine tS (tS (tR (tA rfl rfl (tN (tT (tri_block ?_))))))
 refine tri_sub (F' := [(1, .int .i64 n), (2, pt b2 0), (4, pt b4 0), (7, .slice a1 (R8.s16 ns n).length c1), (8, pt b8 0), (9, .int .i64 2), (10, .int .i64 2), (11, .int .i64 1), (12, .int .i64 (R8.about (R8.s16 ns n) 2 1 0)), (13, .int .i64 (0 : Nat))]) ⟨rfl, rfl, rfl, rfl, rfl, rfl, rfl, rfl, rfl, rfl, trivial⟩ ?_
 refine loop_ind (G := Nat) (fun i => 9 - i) (fun i => i ≤ 9) (fun i => [(1, .int .i64 n), (2, pt b2 0), (4, pt b4 0), (7, .slice a1 (R8.s16 ns n).length c1), (8, pt b8 0), (9, .int .i64 2), (10, .int .i64 2), (11, .int .i64 1), (12, .int .i64 (R8.about (R8.s16 ns n) 2 1 i)), (13, .int .i64 (i : Nat))]) (fun _ => _) (fun _ => _) ?_ 0 (by omega)
 rintro i hi K hK
 have hab := R8.about_bd hb 2 1 i
 have hgi := hb (4 * (2 + (i : Int) / 3 - 1) + 1 + (i : Int) % 3 - 1)
 have hgi' : 0 ≤ (R8.s16 ns n).getD (4 * (2 + (i : Int) / 3 - 1) + 1 + (i : Int) % 3 - 1).toNat default ∧ (R8.s16 ns n).getD (4 * (2 + (i : Int) / 3 - 1) + 1 + (i : Int) % 3 - 1).toNat default ≤ 1 := hgi
 skip
 refine tS (tS (tR (tM rfl rfl ?_)))
 refine tri_v (opv_lss rfl rfl) rfl ?_
 refine tN (tT ?_)
 refine tri_cond_dec rfl (fun h2 => ?_) (fun h2 => ?_)
 ·refine tri_skip (tT (tS (tri_block (tS (tR (tM rfl rfl ?_))))))
  refine tri_v (opv_neq rfl rfl) rfl ?_
  refine tN (tT ?_)
  refine tri_cond_dec rfl (fun h => ?_) (fun h => ?_)
  ·have e := R8.about_ne (l := R8.s16 ns n) (y := 2) (x := 1) h
   refine tR (tM rfl rfl (tM rfl rfl (tM rfl rfl (tM rfl rfl ?_))))
   refine tri_v (opv_quoE rfl rfl (by omega) (by omega) (by omega)) rfl ?_
   refine tU rfl rfl (by omega) (by omega) rfl ?_
   refine tri_v (opv_sub rfl rfl (w64 (by omega) (by omega))) rfl ?_
   refine tri_v (opv_mul rfl rfl (w64 (by omega) (by omega))) rfl ?_
   refine tM rfl rfl ?_
   refine tU rfl rfl (by omega) (by omega) rfl ?_
   refine tM rfl rfl ?_
   refine tri_v (opv_remE rfl rfl (by omega) (by omega)) rfl ?_
   refine tU rfl rfl (by omega) (by omega) rfl ?_
   refine tri_v (opv_sub rfl rfl (w64 (by omega) (by omega))) rfl ?_
   refine tri_v (opv_indexAddrS rfl rfl (by omega) (by omega) (by assumption) rfl) rfl ?_
   refine tri_v (opv_loadE1 rfl (by assumption) rfl (by omega) rfl rfl) rfl ?_
   refine tU rfl rfl (by omega) (by omega) rfl ?_
   refine tA rfl rfl (tN ?_)
   refine tri_inBlock ?_
   refine tT (tR (tM rfl rfl ?_))
   refine tU rfl rfl (by omega) (by omega) rfl ?_
   refine tA rfl rfl (tN (tT ?_))
   refine tri_sub ?_ (hK (i + 1) (by omega) (by omega))
   rw [e]
   exact ⟨rfl, rfl, rfl, rfl, rfl, rfl, rfl, rfl, rfl, rfl, trivial⟩
  ·have e := R8.about_eq (l := R8.s16 ns n) (y := 2) (x := 1) h
   refine tri_skip ?_
   refine tri_inBlock ?_
   refine tT (tR (tM rfl rfl ?_))
   refine tU rfl rfl (by omega) (by omega) rfl ?_
   refine tA rfl rfl (tN (tT ?_))
   refine tri_sub ?_ (hK (i + 1) (by omega) (by omega))
   rw [e]
   exact ⟨rfl, rfl, rfl, rfl, rfl, rfl, rfl, rfl, rfl, rfl, trivial⟩
 obtain rfl : i = 9 := by omega
 clear hK hgi' hgi
 refine tri_exit ?_
 refine tri_then_exit ?_
 refine tri_then_exit ?_
 refine tri_inBlock_hit rfl ?_
 refine tT (tS (tR (tM rfl rfl (tM rfl rfl ?_))))
 refine tri_v (opv_mul rfl rfl (w64 (by omega) (by omega))) rfl ?_
 refine tM rfl rfl ?_
 refine tU rfl rfl (by omega) (by omega) rfl ?_
 refine tri_v (opv_indexAddrS rfl rfl (by omega) (by omega) (by assumption) rfl) rfl ?_
 refine tri_v (opv_loadE1 rfl (by assumption) rfl (by omega) rfl rfl) rfl ?_
 refine tri_v (opv_eql rfl rfl) rfl ?_
 refine tM rfl rfl ?_
 refine tri_g (opg_call (xs := [_, _]) rfl (ref02_lives)) rfl ?_
 rintro _ _ _ ⟨rfl, rfl, rfl⟩
 refine tN (tT ?_)
 refine tri_cut (fun F' A' J => F' = [(1, .int .i64 n), (2, pt b2 0), (4, pt b4 0), (7, .slice a1 (R8.s16 ns n).length c1), (8, pt b8 0), (9, .int .i64 2)] ∧ A' = Box b8 [.int .i64 (R8.bit (R8.s16 ns n) 1 1), .int .i64 (R8.bit (R8.s16 ns n) 1 2), .int .i64 (R8.bit (R8.s16 ns n) 2 1), .int .i64 (0)] 33 :: Box b4 [.slice none 0 0, .int .i64 0] 26 :: Box b2 [.slice a ns.length cap, .int .i64 room] 26 :: A ∧ J1 = J) ?_ ?_
 ·refine tri_cond rfl (fun hv => ?_) (fun hv => ?_)
  ·refine tR (tM rfl rfl ?_)
   refine tri_v (opv_indexAddrA rfl rfl (by decide) (by decide)) rfl ?_
   refine tri_g (opg_store rfl rfl rfl rfl rfl rfl) rfl ?_
   rintro _ _ _ ⟨rfl, rfl⟩
   refine tN ?_
   exact tri_cutEnd _ ⟨rfl, by rw [show R8.bit (R8.s16 ns n) 2 1 = 1 from if_pos hv], rfl⟩ ⟨rfl, rfl, rfl, rfl, rfl, rfl, trivial⟩
  ·refine tri_skip ?_
   exact tri_cutEnd _ ⟨rfl, by rw [show R8.bit (R8.s16 ns n) 2 1 = 0 from if_neg (fun h => Bool.false_ne_true (hv.symm.trans h))], rfl⟩ ⟨rfl, rfl, rfl, rfl, rfl, rfl, trivial⟩
 rintro _ _ _ ⟨rfl, rfl, rfl⟩
 skip
 refine tri_inBlock ?_
 refine tT (tR (tM rfl rfl ?_))
 refine tU rfl rfl (by omega) (by omega) rfl ?_
 refine tA rfl rfl (tN (tT ?_))
 refine tri_round ?_
 refine tS (tS (tR (tM rfl rfl ?_)))
 refine tri_v (opv_lss rfl rfl) rfl ?_
 refine tN (tT ?_)
 skip
 refine tri_cond_is rfl (by decide) ?_
 refine tri_skip (tT (tS (tri_block (tS (tR (tM rfl rfl ?_))))))
 refine tri_v (opv_quoE rfl rfl (by omega) (by omega) (by omega)) rfl ?_
 refine tU rfl rfl (by omega) (by omega) rfl ?_
 refine tA rfl rfl (tN (tT (tS (tR (tM rfl rfl ?_)))))
 refine tri_v (opv_remE rfl rfl (by omega) (by omega)) rfl ?_
 refine tU rfl rfl (by omega) (by omega) rfl ?_
 refine tA rfl rfl (tN (tT (tS (tR (tA rfl rfl (tN (tT ?_)))))))
 refine tS (tS (tR (tA rfl rfl (tN (tT (tri_block ?_))))))
 refine tri_sub (F' := [(1, .int .i64 n), (2, pt b2 0), (4, pt b4 0), (7, .slice a1 (R8.s16 ns n).length c1), (8, pt b8 0), (9, .int .i64 3), (10, .int .i64 2), (11, .int .i64 2), (12, .int .i64 (R8.about (R8.s16 ns n) 2 2 0)), (13, .int .i64 (0 : Nat))]) ⟨rfl, rfl, rfl, rfl, rfl, rfl, rfl, rfl, rfl, rfl, trivial⟩ ?_
 refine loop_ind (G := Nat) (fun i => 9 - i) (fun i => i ≤ 9) (fun i => [(1, .int .i64 n), (2, pt b2 0), (4, pt b4 0), (7, .slice a1 (R8.s16 ns n).length c1), (8, pt b8 0), (9, .int .i64 3), (10, .int .i64 2), (11, .int .i64 2), (12, .int .i64 (R8.about (R8.s16 ns n) 2 2 i)), (13, .int .i64 (i : Nat))]) (fun _ => _) (fun _ => _) ?_ 0 (by omega)
 rintro i hi K hK
 have hab := R8.about_bd hb 2 2 i
 have hgi := hb (4 * (2 + (i : Int) / 3 - 1) + 2 + (i : Int) % 3 - 1)
 have hgi' : 0 ≤ (R8.s16 ns n).getD (4 * (2 + (i : Int) / 3 - 1) + 2 + (i : Int) % 3 - 1).toNat default ∧ (R8.s16 ns n).getD (4 * (2 + (i : Int) / 3 - 1) + 2 + (i : Int) % 3 - 1).toNat default ≤ 1 := hgi
 skip
 refine tS (tS (tR (tM rfl rfl ?_)))
 refine tri_v (opv_lss rfl rfl) rfl ?_
 refine tN (tT ?_)
 refine tri_cond_dec rfl (fun h3 => ?_) (fun h3 => ?_)
 ·refine tri_skip (tT (tS (tri_block (tS (tR (tM rfl rfl ?_))))))
  refine tri_v (opv_neq rfl rfl) rfl ?_
  refine tN (tT ?_)
  refine tri_cond_dec rfl (fun h => ?_) (fun h => ?_)
  ·have e := R8.about_ne (l := R8.s16 ns n) (y := 2) (x := 2) h
   refine tR (tM rfl rfl (tM rfl rfl (tM rfl rfl (tM rfl rfl ?_))))
   refine tri_v (opv_quoE rfl rfl (by omega) (by omega) (by omega)) rfl ?_
   refine tU rfl rfl (by omega) (by omega) rfl ?_
   refine tri_v (opv_sub rfl rfl (w64 (by omega) (by omega))) rfl ?_
   refine tri_v (opv_mul rfl rfl (w64 (by omega) (by omega))) rfl ?_
   refine tM rfl rfl ?_
   refine tU rfl rfl (by omega) (by omega) rfl ?_
   refine tM rfl rfl ?_
   refine tri_v (opv_remE rfl rfl (by omega) (by omega)) rfl ?_
   refine tU rfl rfl (by omega) (by omega) rfl ?_
   refine tri_v (opv_sub rfl rfl (w64 (by omega) (by omega))) rfl ?_
   refine tri_v (opv_indexAddrS rfl rfl (by omega) (by omega) (by assumption) rfl) rfl ?_
   refine tri_v (opv_loadE1 rfl (by assumption) rfl (by omega) rfl rfl) rfl ?_
   refine tU rfl rfl (by omega) (by omega) rfl ?_
   refine tA rfl rfl (tN ?_)
   refine tri_inBlock ?_
   refine tT (tR (tM rfl rfl ?_))
   refine tU rfl rfl (by omega) (by omega) rfl ?_
   refine tA rfl rfl (tN (tT ?_))
   refine tri_sub ?_ (hK (i + 1) (by omega) (by omega))
   rw [e]
   exact ⟨rfl, rfl, rfl, rfl, rfl, rfl, rfl, rfl, rfl, rfl, trivial⟩
  ·have e := R8.about_eq (l := R8.s16 ns n) (y := 2) (x := 2) h
   refine tri_skip ?_
   refine tri_inBlock ?_
   refine tT (tR (tM rfl rfl ?_))
   refine tU rfl rfl (by omega) (by omega) rfl ?_
   refine tA rfl rfl (tN (tT ?_))
   refine tri_sub ?_ (hK (i + 1) (by omega) (by omega))
   rw [e]
   exact ⟨rfl, rfl, rfl, rfl, rfl, rfl, rfl, rfl, rfl, rfl, trivial⟩
 obtain rfl : i = 9 := by omega
 clear hK hgi' hgi
 refine tri_exit ?_
 refine tri_then_exit ?_
 refine tri_then_exit ?_
 refine tri_inBlock_hit rfl ?_
 refine tT (tS (tR (tM rfl rfl (tM rfl rfl ?_))))
 refine tri_v (opv_mul rfl rfl (w64 (by omega) (by omega))) rfl ?_
 refine tM rfl rfl ?_
 refine tU rfl rfl (by omega) (by omega) rfl ?_
 refine tri_v (opv_indexAddrS rfl rfl (by omega) (by omega) (by assumption) rfl) rfl ?_
 refine tri_v (opv_loadE1 rfl (by assumption) rfl (by omega) rfl rfl) rfl ?_
 refine tri_v (opv_eql rfl rfl) rfl ?_
 refine tM rfl rfl ?_
 refine tri_g (opg_call (xs := [_, _]) rfl (ref02_lives)) rfl ?_
 rintro _ _ _ ⟨rfl, rfl, rfl⟩
 refine tN (tT ?_)
 refine tri_cut (fun F' A' J => F' = [(1, .int .i64 n), (2, pt b2 0), (4, pt b4 0), (7, .slice a1 (R8.s16 ns n).length c1), (8, pt b8 0), (9, .int .i64 3)] ∧ A' = Box b8 [.int .i64 (R8.bit (R8.s16 ns n) 1 1), .int .i64 (R8.bit (R8.s16 ns n) 1 2), .int .i64 (R8.bit (R8.s16 ns n) 2 1), .int .i64 (R8.bit (R8.s16 ns n) 2 2)] 33 :: Box b4 [.slice none 0 0, .int .i64 0] 26 :: Box b2 [.slice a ns.length cap, .int .i64 room] 26 :: A ∧ J1 = J) ?_ ?_
 ·refine tri_cond rfl (fun hv => ?_) (fun hv => ?_)
  ·refine tR (tM rfl rfl ?_)
   refine tri_v (opv_indexAddrA rfl rfl (by decide) (by decide)) rfl ?_
   refine tri_g (opg_store rfl rfl rfl rfl rfl rfl) rfl ?_
   rintro _ _ _ ⟨rfl, rfl⟩
   refine tN ?_
   exact tri_cutEnd _ ⟨rfl, by rw [show R8.bit (R8.s16 ns n) 2 2 = 1 from if_pos hv], rfl⟩ ⟨rfl, rfl, rfl, rfl, rfl, rfl, trivial⟩
  ·refine tri_skip ?_
   exact tri_cutEnd _ ⟨rfl, by rw [show R8.bit (R8.s16 ns n) 2 2 = 0 from if_neg (fun h => Bool.false_ne_true (hv.symm.trans h))], rfl⟩ ⟨rfl, rfl, rfl, rfl, rfl, rfl, trivial⟩
 rintro _ _ _ ⟨rfl, rfl, rfl⟩
 skip
 refine tri_inBlock ?_
 refine tT (tR (tM rfl rfl ?_))
 refine tU rfl rfl (by omega) (by omega) rfl ?_
 refine tA rfl rfl (tN (tT ?_))
 refine tri_round ?_
 refine tS (tS (tR (tM rfl rfl ?_)))
 refine tri_v (opv_lss rfl rfl) rfl ?_
 refine tN (tT ?_)
 refine tri_cond_not rfl (by decide) ?_
 refine tri_exit ?_
 refine tri_then_exit ?_
 refine tri_then_exit ?_
 refine tri_inBlock_hit rfl ?_
 refine tT (tS (tR ?_))
 refine tri_v (opv_loadA rfl rfl rfl) rfl ?_
 refine tri_v (opv_loadA rfl rfl rfl) rfl ?_
 refine tri_g (opg_call (xs := [_, _]) rfl (ref06_put (hs.mono hJ1) hg.len hg.mod)) rfl ?_
 rintro _ _ J2 ⟨a2, c2, rfl, hq2, rfl, hJ2⟩
 refine tri_v (opv_extract rfl rfl) rfl ?_
 refine tri_v (opv_extract rfl rfl) rfl ?_
 refine tri_v (opv_extract rfl rfl) rfl ?_
 refine tri_g (opg_store rfl rfl rfl rfl rfl rfl) rfl ?_
 rintro _ _ _ ⟨rfl, rfl⟩
 refine tA rfl rfl (tA rfl rfl (tN (tT (tri_ret ?_))))
 refine tri_end A Suf.h rfl (.cons (rv_cellA rfl rfl rfl) (.cons (rv_tmp rfl) (.cons (rv_tmp rfl) .nil))) ?_
 exact ⟨a2, c2, rfl, hq2, rfl, fun _ h => hJ2 (hJ1 h)⟩
end Go.GL

set_option linter.unusedVariables false
namespace Go.GL
open Go.Proofs
attribute [local irreducible] wpList Code.wp Exit.then Exit.inBlock Ends Tri TriH OpV OpG FnC epf wpAnyH
variable {A : List Asrt} {I : List Chunk}
theorem R6.right.low {ns : List Node} {room : Int} (h : R6.right ns room) {q : Int} (hq : R6.inS ns q) (hl : (R6.nd ns q).lv = 0) : 0 ≤ q ∧ q ≤ 1 := by
 obtain ⟨q0, q1⟩ := hq
 rcases Nat.lt_or_ge q.toNat 2 with h2 | h2
 ·omega
 ·have := (h.2 q.toNat (by omega) h2).2.2.2.2.1
  have hl' : (ns.getD q.toNat default).lv = 0 := hl
  omega
theorem R6.right.bits {ns : List Node} {room n : Int} (h : R6.right ns room) (hn : R6.inS ns n) (hl : (R6.nd ns n).lv = 2) (i : Int) : 0 ≤ R8.g (R8.s16 ns n) i ∧ R8.g (R8.s16 ns n) i ≤ 1 := by
 have key : ∀ q ∈ R8.s16 ns n, 0 ≤ q ∧ q ≤ 1 := by
  intro q hq
  have k1 := fun q hq => h.kid hn (m := 1) hl (q := q) hq
  have k2 : ∀ p, p ∈ (R6.nd ns n).kids → ∀ q, q ∈ (R6.nd ns p).kids → 0 ≤ q ∧ q ≤ 1 := fun p hp q hq => by
   obtain ⟨g1, _, g3⟩ := k1 p hp
   obtain ⟨f1, _, f3⟩ := h.kid g1 (m := 0) g3 hq
   exact h.low f1 f3
  simp only [R8.s16, List.mem_cons, List.not_mem_nil, or_false] at hq
  have a := k2 _ (by simp [Node.kids] : (R6.nd ns n).k0 ∈ (R6.nd ns n).kids)
  have b := k2 _ (by simp [Node.kids] : (R6.nd ns n).k1 ∈ (R6.nd ns n).kids)
  have c := k2 _ (by simp [Node.kids] : (R6.nd ns n).k2 ∈ (R6.nd ns n).kids)
  have d := k2 _ (by simp [Node.kids] : (R6.nd ns n).k3 ∈ (R6.nd ns n).kids)
  simp only [Node.kids, List.mem_cons, List.not_mem_nil, or_false] at a b c d
  rcases hq with e | e | e | e | e | e | e | e | e | e | e | e | e | e | e | e <;> subst e <;> first | exact a _ (by simp) | exact b _ (by simp) | exact c _ (by simp) | exact d _ (by simp)
 unfold R8.g
 rcases Nat.lt_or_ge i.toNat (R8.s16 ns n).length with h2 | h2
 ·have := key (R8.s16 ns n)[i.toNat] (List.getElem_mem h2)
  simpa [h2] using this
 ·rw [List.getD_eq_getElem?_getD, List.getElem?_eq_none h2]
  decide
theorem ref06_putSq {ns : List Node} {a : Option Addr} {cap : Nat} {room q0 q1 q2 q3 : Int} {p : List Node × Int × Int} (hs : StA I a cap ns) (hg : R6.Good ns room) (he : R6.put ns room q0 q1 q2 q3 = p) :
  FnC Try.prog 66 [storeV a ns.length cap room, int4V q0 q1 q2 q3].toArray A I (StoreR p room A I) := by
 subst he
 exact ref06_put hs hg.len hg.mod
theorem R8.all_eq {ns : List Node} {room n : Int} {p0 p1 p2 p3 p4 p5 p6 p7 p8 : List Node × Int × Int} (e0 : R8.putSq ns room (R8.s16 ns n) 0 0 = p0) (e1 : R8.putSq p0.1 room (R8.s16 ns n) 0 1 = p1) (e2 : R8.putSq p1.1 room (R8.s16 ns n) 0 2 = p2) (e3 : R8.putSq p2.1 room (R8.s16 ns n) 1 0 = p3) (e4 : R8.putSq p3.1 room (R8.s16 ns n) 1 1 = p4) (e5 : R8.putSq p4.1 room (R8.s16 ns n) 1 2 = p5) (e6 : R8.putSq p5.1 room (R8.s16 ns n) 2 0 = p6) (e7 : R8.putSq p6.1 room (R8.s16 ns n) 2 1 = p7) (e8 : R8.putSq p7.1 room (R8.s16 ns n) 2 2 = p8) :
  R8.all ns room n = if p0.2.2 ≠ 0 then (ns, R8.z9, p0.2.2) else if p1.2.2 ≠ 0 then (ns, R8.z9, p1.2.2) else if p2.2.2 ≠ 0 then (ns, R8.z9, p2.2.2) else if p3.2.2 ≠ 0 then (ns, R8.z9, p3.2.2) else if p4.2.2 ≠ 0 then (ns, R8.z9, p4.2.2) else if p5.2.2 ≠ 0 then (ns, R8.z9, p5.2.2) else if p6.2.2 ≠ 0 then (ns, R8.z9, p6.2.2) else if p7.2.2 ≠ 0 then (ns, R8.z9, p7.2.2) else if p8.2.2 ≠ 0 then (ns, R8.z9, p8.2.2) else (p8.1, [p0.2.1, p1.2.1, p2.2.1, p3.2.1, p4.2.1, p5.2.1, p6.2.1, p7.2.1, p8.2.1], 0) := by
 subst e8; subst e7; subst e6; subst e5; subst e4; subst e3; subst e2; subst e1; subst e0
 rfl
set_option maxHeartbeats 2000000 in
set_option maxRecDepth 100000 in
theorem ref08_all {ns : List Node} {a : Option Addr} {cap : Nat} {room n : Int} (hs : StA I a cap ns) (hg : R6.Good ns room) (hk : R8.Kid ns n) :
  FnC Try.prog 90 [storeV a ns.length cap room, .int .i64 n].toArray A I (Nine (R8.all ns room n) room A I) := by
 obtain ⟨p0, e0⟩ : ∃ p, R8.putSq ns room (R8.s16 ns n) 0 0 = p := ⟨_, rfl⟩
 obtain ⟨p1, e1⟩ : ∃ p, R8.putSq p0.1 room (R8.s16 ns n) 0 1 = p := ⟨_, rfl⟩
 obtain ⟨p2, e2⟩ : ∃ p, R8.putSq p1.1 room (R8.s16 ns n) 0 2 = p := ⟨_, rfl⟩
 obtain ⟨p3, e3⟩ : ∃ p, R8.putSq p2.1 room (R8.s16 ns n) 1 0 = p := ⟨_, rfl⟩
 obtain ⟨p4, e4⟩ : ∃ p, R8.putSq p3.1 room (R8.s16 ns n) 1 1 = p := ⟨_, rfl⟩
 obtain ⟨p5, e5⟩ : ∃ p, R8.putSq p4.1 room (R8.s16 ns n) 1 2 = p := ⟨_, rfl⟩
 obtain ⟨p6, e6⟩ : ∃ p, R8.putSq p5.1 room (R8.s16 ns n) 2 0 = p := ⟨_, rfl⟩
 obtain ⟨p7, e7⟩ : ∃ p, R8.putSq p6.1 room (R8.s16 ns n) 2 1 = p := ⟨_, rfl⟩
 obtain ⟨p8, e8⟩ : ∃ p, R8.putSq p7.1 room (R8.s16 ns n) 2 2 = p := ⟨_, rfl⟩
 rw [R8.all_eq e0 e1 e2 e3 e4 e5 e6 e7 e8]
 have g0 : R6.Good p0.1 room := e0 ▸ hg.put ..
 have g1 : R6.Good p1.1 room := e1 ▸ g0.put ..
 have g2 : R6.Good p2.1 room := e2 ▸ g1.put ..
 have g3 : R6.Good p3.1 room := e3 ▸ g2.put ..
 have g4 : R6.Good p4.1 room := e4 ▸ g3.put ..
 have g5 : R6.Good p5.1 room := e5 ▸ g4.put ..
 have g6 : R6.Good p6.1 room := e6 ▸ g5.put ..
 have g7 : R6.Good p7.1 room := e7 ▸ g6.put ..
 have g8 : R6.Good p8.1 room := e8 ▸ g7.put ..
 skip
 refine fn_enter2 Try.func90 rfl Try.ntmps90 rfl fun w0 => ?_
 refine tS (tR ?_)
 refine tri_g (opg_box_agg rfl) rfl ?_
 rintro _ _ _ ⟨b2, rfl, rfl, rfl⟩
 refine tri_g opg_alloc rfl ?_
 rintro _ _ _ ⟨b4, rfl, rfl, rfl⟩
 refine tri_g opg_alloc rfl ?_
 rintro _ _ _ ⟨b5, rfl, rfl, rfl⟩
 refine tA rfl rfl (tN (tT (tS (tR ?_))))
 refine tri_v (opv_loadA rfl rfl rfl) rfl ?_
 refine tM rfl rfl ?_
 refine tri_g (opg_call (xs := [_, _]) rfl (ref08_sixteen hs.sl hk)) rfl ?_
 rintro _ _ J0 ⟨a1, c1, rfl, hq1, rfl, hJ0⟩
 refine tA rfl rfl (tN (tT (tS (tR ?_))))
 refine tri_g opg_alloc rfl ?_
 rintro _ _ _ ⟨b8, rfl, rfl, rfl⟩
 refine tN (tT (tS (tR ?_)))
 refine tri_v (opv_loadA rfl rfl rfl) rfl ?_
 refine tri_g opg_alloc rfl ?_
 rintro _ _ _ ⟨b9, rfl, rfl, rfl⟩
 refine tri_g (opg_store rfl rfl rfl rfl rfl rfl) rfl ?_
 rintro _ _ _ ⟨rfl, rfl⟩
 refine tN (tT (tS (tS (tR (tA rfl rfl (tN (tT ?_)))))))
 refine tri_block ?_
 refine tri_rounds 10 ?_
 refine tri_round ?_
 refine tS (tS (tR (tM rfl rfl ?_)))
 refine tri_v (opv_lss rfl rfl) rfl ?_
 refine tN (tT ?_)
 refine tri_cond_is rfl (by decide) ?_
 refine tri_skip (tT (tS (tri_block (tS ?_))))
 refine tri_cut (fun F' A' J => ∃ b11 d f, F' = [(1, .int .i64 n), (2, pt b2 0), (4, pt b4 0), (5, pt b5 0), (7, .slice a1 (R8.s16 ns n).length c1), (8, pt b8 0), (9, pt b9 0), (10, .int .i64 0), (11, pt b11 0), (12, .int .i64 p0.2.1), (13, .int .i64 p0.2.2)] ∧ A' = Box b11 [.slice d p0.1.length f, .int .i64 room] 26 :: Box b9 [.slice a ns.length cap, .int .i64 room] 26 :: Box b8 [.int .i64 0, .int .i64 0, .int .i64 0, .int .i64 0, .int .i64 0, .int .i64 0, .int .i64 0, .int .i64 0, .int .i64 0] 117 :: Box b5 [.int .i64 0, .int .i64 0, .int .i64 0, .int .i64 0, .int .i64 0, .int .i64 0, .int .i64 0, .int .i64 0, .int .i64 0] 117 :: Box b4 [.slice none 0 0, .int .i64 0] 26 :: Box b2 [.slice a ns.length cap, .int .i64 room] 26 :: A ∧ StA J d f p0.1 ∧ J0 ⊆ J) ?_ ?_
 ·refine tri_draw [0, 1, 2, 3, 4, 5, 6, 7, 8, 9, 10, 11, 12, 13, 14, 15] rfl [] rfl mixed ?_
  refine th_take rfl rfl (by kernel_rfl)  (opv_loadA rfl rfl rfl) ?_
  refine th_take rfl rfl (by kernel_rfl)  (opv_move rfl) ?_
  refine th_take rfl rfl (by kernel_rfl)  (opv_move rfl) ?_
  refine th_take rfl rfl (by kernel_rfl)  (opv_quoE rfl rfl (by omega) (by omega) (by omega)) ?_
  refine th_take rfl rfl (by kernel_rfl)  (opv_move rfl) ?_
  refine th_take rfl rfl (by kernel_rfl)  (opv_remE rfl rfl (by omega) (by omega)) ?_
  refine th_two (j := 12) [6, 7, 8, 9, 10, 11, 13, 14, 15] (by kernel_rfl) rfl ?_ ?_
  ·refine (step_m rfl rfl (opg_call (xs := [_, _, _]) rfl (ref08_square hq1 rfl (by omega) (by omega) (by omega) (by omega))) ?_)
   rintro _ _ _ ⟨rfl, rfl, rfl⟩
   refine ⟨Suf.h, (fun _ h => h), ?_⟩
   skip
   refine th_two (j := 12) [7, 8, 9, 10, 11, 13, 14, 15] (by kernel_rfl) rfl ?_ ?_
   ·refine (step_m rfl rfl (opg_call (xs := [_, _]) rfl (ref06_putSq (hs.mono hJ0) hg e0)) ?_)
    rintro _ _ J1 ⟨d0, f0, rfl, hd0, rfl, hJ1⟩
    refine ⟨Suf.h, hJ1, ?_⟩
    refine th_take rfl rfl (by kernel_rfl)  (opv_move rfl) ?_
    refine th_take rfl rfl (by kernel_rfl)  (opv_extract rfl rfl) ?_
    refine th_take rfl rfl (by kernel_rfl)  (opv_extract rfl rfl) ?_
    refine th_take rfl rfl (by kernel_rfl)  (opv_extract rfl rfl) ?_
    refine th_one (by kernel_rfl) (step_m rfl rfl opg_alloc ?_)
    rintro _ _ _ ⟨b11, rfl, rfl, rfl⟩
    refine ⟨Suf.h, (by assumption), ?_⟩
    refine th_one (by kernel_rfl) (step_m rfl rfl (opg_store rfl rfl rfl rfl rfl rfl) ?_)
    rintro _ _ _ ⟨rfl, rfl⟩
    refine ⟨Suf.h, (by assumption), ?_⟩
    refine th_take rfl rfl (by kernel_rfl)  (opv_assign rfl) ?_
    refine th_take rfl rfl (by kernel_rfl)  (opv_assign rfl) ?_
    refine th_done (by kernel_rfl) ?_
    exact tri_cutEnd _ ⟨b11, d0, f0, rfl, rfl, hd0, hJ1⟩ ⟨rfl, rfl, rfl, rfl, rfl, rfl, rfl, rfl, rfl, rfl, rfl, trivial⟩
   ·refine (step_m rfl rfl opg_alloc ?_)
    rintro _ _ _ ⟨b11, rfl, rfl, rfl⟩
    refine ⟨Suf.h, (fun _ h => h), ?_⟩
    refine th_one (by kernel_rfl) (step_m rfl rfl (opg_call (xs := [_, _]) rfl (ref06_putSq (hs.mono hJ0) hg e0)) ?_)
    rintro _ _ J1 ⟨d0, f0, rfl, hd0, rfl, hJ1⟩
    refine ⟨Suf.h, hJ1, ?_⟩
    refine th_take rfl rfl (by kernel_rfl)  (opv_move rfl) ?_
    refine th_take rfl rfl (by kernel_rfl)  (opv_extract rfl rfl) ?_
    refine th_take rfl rfl (by kernel_rfl)  (opv_extract rfl rfl) ?_
    refine th_take rfl rfl (by kernel_rfl)  (opv_extract rfl rfl) ?_
    refine th_one (by kernel_rfl) (step_m rfl rfl (opg_store rfl rfl rfl rfl rfl rfl) ?_)
    rintro _ _ _ ⟨rfl, rfl⟩
    refine ⟨Suf.h, (by assumption), ?_⟩
    refine th_take rfl rfl (by kernel_rfl)  (opv_assign rfl) ?_
    refine th_take rfl rfl (by kernel_rfl)  (opv_assign rfl) ?_
    refine th_done (by kernel_rfl) ?_
    exact tri_cutEnd _ ⟨b11, d0, f0, rfl, rfl, hd0, hJ1⟩ ⟨rfl, rfl, rfl, rfl, rfl, rfl, rfl, rfl, rfl, rfl, rfl, trivial⟩
  ·refine (step_m rfl rfl opg_alloc ?_)
   rintro _ _ _ ⟨b11, rfl, rfl, rfl⟩
   refine ⟨Suf.h, (fun _ h => h), ?_⟩
   refine th_one (by kernel_rfl) (step_m rfl rfl (opg_call (xs := [_, _, _]) rfl (ref08_square hq1 rfl (by omega) (by omega) (by omega) (by omega))) ?_)
   rintro _ _ _ ⟨rfl, rfl, rfl⟩
   refine ⟨Suf.h, (fun _ h => h), ?_⟩
   skip
   refine th_one (by kernel_rfl) (step_m rfl rfl (opg_call (xs := [_, _]) rfl (ref06_putSq (hs.mono hJ0) hg e0)) ?_)
   rintro _ _ J1 ⟨d0, f0, rfl, hd0, rfl, hJ1⟩
   refine ⟨Suf.h, hJ1, ?_⟩
   refine th_take rfl rfl (by kernel_rfl)  (opv_move rfl) ?_
   refine th_take rfl rfl (by kernel_rfl)  (opv_extract rfl rfl) ?_
   refine th_take rfl rfl (by kernel_rfl)  (opv_extract rfl rfl) ?_
   refine th_take rfl rfl (by kernel_rfl)  (opv_extract rfl rfl) ?_
   refine th_one (by kernel_rfl) (step_m rfl rfl (opg_store rfl rfl rfl rfl rfl rfl) ?_)
   rintro _ _ _ ⟨rfl, rfl⟩
   refine ⟨Suf.h, (by assumption), ?_⟩
   refine th_take rfl rfl (by kernel_rfl)  (opv_assign rfl) ?_
   refine th_take rfl rfl (by kernel_rfl)  (opv_assign rfl) ?_
   refine th_done (by kernel_rfl) ?_
   exact tri_cutEnd _ ⟨b11, d0, f0, rfl, rfl, hd0, hJ1⟩ ⟨rfl, rfl, rfl, rfl, rfl, rfl, rfl, rfl, rfl, rfl, rfl, trivial⟩
 rintro _ _ J1 ⟨b11, d0, f0, rfl, rfl, hd0, hJ1⟩
 skip
 refine tT (tS (tS (tR (tM rfl rfl ?_))))
 refine tri_v (opv_neq rfl rfl) rfl ?_
 refine tN (tT ?_)
 refine tri_cond_dec rfl (fun x0 => ?_) (fun x0 => ?_)
 ·rw [if_pos x0]
  refine tS (tR ?_)
  refine tri_v (opv_loadA rfl rfl rfl) rfl ?_
  refine tri_v (opv_buildA rfl rfl) rfl ?_
  refine tM rfl rfl ?_
  refine tri_g (opg_store rfl rfl rfl rfl rfl rfl) rfl ?_
  rintro _ _ _ ⟨rfl, rfl⟩
  refine tri_g (opg_store rfl rfl rfl rfl rfl rfl) rfl ?_
  rintro _ _ _ ⟨rfl, rfl⟩
  refine tA rfl rfl (tN (tT (tri_ret (tri_then_ret ?_))))
  refine tri_inBlock_ret ?_
  refine tri_then_ret (tri_then_ret ?_)
  refine tri_inBlock_ret ?_
  refine tri_then_ret ?_
  refine tri_end A Suf.h rfl (.cons (rv_cellA rfl rfl rfl) (.cons (rv_cellA rfl rfl rfl) (.cons (rv_tmp rfl) .nil))) ?_
  exact ⟨a, cap, _, _, _, _, _, _, _, _, _, rfl, rfl, hs.mono (fun _ h => hJ1 (hJ0 (h))), rfl, (fun _ h => hJ1 (hJ0 (h)))⟩
 skip
 refine tri_skip (tT (tS (tR ?_)))
 refine tri_v (opv_loadA rfl rfl rfl) rfl ?_
 refine tri_g (opg_store rfl rfl rfl rfl rfl rfl) rfl ?_
 rintro _ _ _ ⟨rfl, rfl⟩
 refine tN (tT (tR (tM rfl rfl (tM rfl rfl ?_))))
 refine tri_v (opv_indexAddrA rfl rfl (by decide) (by decide)) rfl ?_
 refine tri_g (opg_store rfl rfl rfl rfl rfl rfl) rfl ?_
 rintro _ _ _ ⟨rfl, rfl⟩
 refine tN ?_
 refine tri_inBlock ?_
 refine tT ?_
 refine tri_drop ?_
 refine tR (tM rfl rfl ?_)
 refine tU rfl rfl (by omega) (by omega) rfl ?_
 refine tA rfl rfl (tN (tT ?_))
 refine tri_round ?_
 refine tS (tS (tR (tM rfl rfl ?_)))
 refine tri_v (opv_lss rfl rfl) rfl ?_
 refine tN (tT ?_)
 refine tri_cond_is rfl (by decide) ?_
 refine tri_skip (tT (tS (tri_block (tS ?_))))
 refine tri_cut (fun F' A' J => ∃ b11 d f, F' = [(1, .int .i64 n), (2, pt b2 0), (4, pt b4 0), (5, pt b5 0), (7, .slice a1 (R8.s16 ns n).length c1), (8, pt b8 0), (9, pt b9 0), (10, .int .i64 1), (11, pt b11 0), (12, .int .i64 p1.2.1), (13, .int .i64 p1.2.2)] ∧ A' = Box b11 [.slice d p1.1.length f, .int .i64 room] 26 :: Box b9 [.slice d0 p0.1.length f0, .int .i64 room] 26 :: Box b8 [.int .i64 p0.2.1, .int .i64 0, .int .i64 0, .int .i64 0, .int .i64 0, .int .i64 0, .int .i64 0, .int .i64 0, .int .i64 0] 117 :: Box b5 [.int .i64 0, .int .i64 0, .int .i64 0, .int .i64 0, .int .i64 0, .int .i64 0, .int .i64 0, .int .i64 0, .int .i64 0] 117 :: Box b4 [.slice none 0 0, .int .i64 0] 26 :: Box b2 [.slice a ns.length cap, .int .i64 room] 26 :: A ∧ StA J d f p1.1 ∧ J1 ⊆ J) ?_ ?_
 ·refine tri_draw [0, 1, 2, 3, 4, 5, 6, 7, 8, 9, 10, 11, 12, 13, 14, 15] rfl [] rfl mixed ?_
  refine th_take rfl rfl (by kernel_rfl)  (opv_loadA rfl rfl rfl) ?_
  refine th_take rfl rfl (by kernel_rfl)  (opv_move rfl) ?_
  refine th_take rfl rfl (by kernel_rfl)  (opv_move rfl) ?_
  refine th_take rfl rfl (by kernel_rfl)  (opv_quoE rfl rfl (by omega) (by omega) (by omega)) ?_
  refine th_take rfl rfl (by kernel_rfl)  (opv_move rfl) ?_
  refine th_take rfl rfl (by kernel_rfl)  (opv_remE rfl rfl (by omega) (by omega)) ?_
  refine th_two (j := 12) [6, 7, 8, 9, 10, 11, 13, 14, 15] (by kernel_rfl) rfl ?_ ?_
  ·refine (step_m rfl rfl (opg_call (xs := [_, _, _]) rfl (ref08_square (hq1.mono (fun _ h => hJ1 (h))) rfl (by omega) (by omega) (by omega) (by omega))) ?_)
   rintro _ _ _ ⟨rfl, rfl, rfl⟩
   refine ⟨Suf.h, (fun _ h => h), ?_⟩
   skip
   refine th_two (j := 12) [7, 8, 9, 10, 11, 13, 14, 15] (by kernel_rfl) rfl ?_ ?_
   ·refine (step_m rfl rfl (opg_call (xs := [_, _]) rfl (ref06_putSq hd0 g0 e1)) ?_)
    rintro _ _ J2 ⟨d1, f1, rfl, hd1, rfl, hJ2⟩
    refine ⟨Suf.h, hJ2, ?_⟩
    refine th_take rfl rfl (by kernel_rfl)  (opv_move rfl) ?_
    refine th_take rfl rfl (by kernel_rfl)  (opv_extract rfl rfl) ?_
    refine th_take rfl rfl (by kernel_rfl)  (opv_extract rfl rfl) ?_
    refine th_take rfl rfl (by kernel_rfl)  (opv_extract rfl rfl) ?_
    refine th_one (by kernel_rfl) (step_m rfl rfl opg_alloc ?_)
    rintro _ _ _ ⟨b11, rfl, rfl, rfl⟩
    refine ⟨Suf.h, (by assumption), ?_⟩
    refine th_one (by kernel_rfl) (step_m rfl rfl (opg_store rfl rfl rfl rfl rfl rfl) ?_)
    rintro _ _ _ ⟨rfl, rfl⟩
    refine ⟨Suf.h, (by assumption), ?_⟩
    refine th_take rfl rfl (by kernel_rfl)  (opv_assign rfl) ?_
    refine th_take rfl rfl (by kernel_rfl)  (opv_assign rfl) ?_
    refine th_done (by kernel_rfl) ?_
    exact tri_cutEnd _ ⟨b11, d1, f1, rfl, rfl, hd1, hJ2⟩ ⟨rfl, rfl, rfl, rfl, rfl, rfl, rfl, rfl, rfl, rfl, rfl, trivial⟩
   ·refine (step_m rfl rfl opg_alloc ?_)
    rintro _ _ _ ⟨b11, rfl, rfl, rfl⟩
    refine ⟨Suf.h, (fun _ h => h), ?_⟩
    refine th_one (by kernel_rfl) (step_m rfl rfl (opg_call (xs := [_, _]) rfl (ref06_putSq hd0 g0 e1)) ?_)
    rintro _ _ J2 ⟨d1, f1, rfl, hd1, rfl, hJ2⟩
    refine ⟨Suf.h, hJ2, ?_⟩
    refine th_take rfl rfl (by kernel_rfl)  (opv_move rfl) ?_
    refine th_take rfl rfl (by kernel_rfl)  (opv_extract rfl rfl) ?_
    refine th_take rfl rfl (by kernel_rfl)  (opv_extract rfl rfl) ?_
    refine th_take rfl rfl (by kernel_rfl)  (opv_extract rfl rfl) ?_
    refine th_one (by kernel_rfl) (step_m rfl rfl (opg_store rfl rfl rfl rfl rfl rfl) ?_)
    rintro _ _ _ ⟨rfl, rfl⟩
    refine ⟨Suf.h, (by assumption), ?_⟩
    refine th_take rfl rfl (by kernel_rfl)  (opv_assign rfl) ?_
    refine th_take rfl rfl (by kernel_rfl)  (opv_assign rfl) ?_
    refine th_done (by kernel_rfl) ?_
    exact tri_cutEnd _ ⟨b11, d1, f1, rfl, rfl, hd1, hJ2⟩ ⟨rfl, rfl, rfl, rfl, rfl, rfl, rfl, rfl, rfl, rfl, rfl, trivial⟩
  ·refine (step_m rfl rfl opg_alloc ?_)
   rintro _ _ _ ⟨b11, rfl, rfl, rfl⟩
   refine ⟨Suf.h, (fun _ h => h), ?_⟩
   refine th_one (by kernel_rfl) (step_m rfl rfl (opg_call (xs := [_, _, _]) rfl (ref08_square (hq1.mono (fun _ h => hJ1 (h))) rfl (by omega) (by omega) (by omega) (by omega))) ?_)
   rintro _ _ _ ⟨rfl, rfl, rfl⟩
   refine ⟨Suf.h, (fun _ h => h), ?_⟩
   skip
   refine th_one (by kernel_rfl) (step_m rfl rfl (opg_call (xs := [_, _]) rfl (ref06_putSq hd0 g0 e1)) ?_)
   rintro _ _ J2 ⟨d1, f1, rfl, hd1, rfl, hJ2⟩
   refine ⟨Suf.h, hJ2, ?_⟩
   refine th_take rfl rfl (by kernel_rfl)  (opv_move rfl) ?_
   refine th_take rfl rfl (by kernel_rfl)  (opv_extract rfl rfl) ?_
   refine th_take rfl rfl (by kernel_rfl)  (opv_extract rfl rfl) ?_
   refine th_take rfl rfl (by kernel_rfl)  (opv_extract rfl rfl) ?_
   refine th_one (by kernel_rfl) (step_m rfl rfl (opg_store rfl rfl rfl rfl rfl rfl) ?_)
   rintro _ _ _ ⟨rfl, rfl⟩
   refine ⟨Suf.h, (by assumption), ?_⟩
   refine th_take rfl rfl (by kernel_rfl)  (opv_assign rfl) ?_
   refine th_take rfl rfl (by kernel_rfl)  (opv_assign rfl) ?_
   refine th_done (by kernel_rfl) ?_
   exact tri_cutEnd _ ⟨b11, d1, f1, rfl, rfl, hd1, hJ2⟩ ⟨rfl, rfl, rfl, rfl, rfl, rfl, rfl, rfl, rfl, rfl, rfl, trivial⟩
 rintro _ _ J2 ⟨b11, d1, f1, rfl, rfl, hd1, hJ2⟩
 skip
 refine tT (tS (tS (tR (tM rfl rfl ?_))))
 refine tri_v (opv_neq rfl rfl) rfl ?_
 refine tN (tT ?_)
 refine tri_cond_dec rfl (fun x1 => ?_) (fun x1 => ?_)
 ·rw [if_neg x0, if_pos x1]
  refine tS (tR ?_)
  refine tri_v (opv_loadA rfl rfl rfl) rfl ?_
  refine tri_v (opv_buildA rfl rfl) rfl ?_
  refine tM rfl rfl ?_
  refine tri_g (opg_store rfl rfl rfl rfl rfl rfl) rfl ?_
  rintro _ _ _ ⟨rfl, rfl⟩
  refine tri_g (opg_store rfl rfl rfl rfl rfl rfl) rfl ?_
  rintro _ _ _ ⟨rfl, rfl⟩
  refine tA rfl rfl (tN (tT (tri_ret (tri_then_ret ?_))))
  refine tri_inBlock_ret ?_
  refine tri_then_ret (tri_then_ret ?_)
  refine tri_inBlock_ret ?_
  refine tri_then_ret ?_
  refine tri_end A Suf.h rfl (.cons (rv_cellA rfl rfl rfl) (.cons (rv_cellA rfl rfl rfl) (.cons (rv_tmp rfl) .nil))) ?_
  exact ⟨a, cap, _, _, _, _, _, _, _, _, _, rfl, rfl, hs.mono (fun _ h => hJ2 (hJ1 (hJ0 (h)))), rfl, (fun _ h => hJ2 (hJ1 (hJ0 (h))))⟩
 skip
 refine tri_skip (tT (tS (tR ?_)))
 refine tri_v (opv_loadA rfl rfl rfl) rfl ?_
 refine tri_g (opg_store rfl rfl rfl rfl rfl rfl) rfl ?_
 rintro _ _ _ ⟨rfl, rfl⟩
 refine tN (tT (tR (tM rfl rfl (tM rfl rfl ?_))))
 refine tri_v (opv_indexAddrA rfl rfl (by decide) (by decide)) rfl ?_
 refine tri_g (opg_store rfl rfl rfl rfl rfl rfl) rfl ?_
 rintro _ _ _ ⟨rfl, rfl⟩
 refine tN ?_
 refine tri_inBlock ?_
 refine tT ?_
 refine tri_drop ?_
 refine tR (tM rfl rfl ?_)
 refine tU rfl rfl (by omega) (by omega) rfl ?_
 refine tA rfl rfl (tN (tT ?_))
 refine tri_round ?_
 refine tS (tS (tR (tM rfl rfl ?_)))
 refine tri_v (opv_lss rfl rfl) rfl ?_
 refine tN (tT ?_)
 refine tri_cond_is rfl (by decide) ?_
 refine tri_skip (tT (tS (tri_block (tS ?_))))
 refine tri_cut (fun F' A' J => ∃ b11 d f, F' = [(1, .int .i64 n), (2, pt b2 0), (4, pt b4 0), (5, pt b5 0), (7, .slice a1 (R8.s16 ns n).length c1), (8, pt b8 0), (9, pt b9 0), (10, .int .i64 2), (11, pt b11 0), (12, .int .i64 p2.2.1), (13, .int .i64 p2.2.2)] ∧ A' = Box b11 [.slice d p2.1.length f, .int .i64 room] 26 :: Box b9 [.slice d1 p1.1.length f1, .int .i64 room] 26 :: Box b8 [.int .i64 p0.2.1, .int .i64 p1.2.1, .int .i64 0, .int .i64 0, .int .i64 0, .int .i64 0, .int .i64 0, .int .i64 0, .int .i64 0] 117 :: Box b5 [.int .i64 0, .int .i64 0, .int .i64 0, .int .i64 0, .int .i64 0, .int .i64 0, .int .i64 0, .int .i64 0, .int .i64 0] 117 :: Box b4 [.slice none 0 0, .int .i64 0] 26 :: Box b2 [.slice a ns.length cap, .int .i64 room] 26 :: A ∧ StA J d f p2.1 ∧ J2 ⊆ J) ?_ ?_
 ·refine tri_draw [0, 1, 2, 3, 4, 5, 6, 7, 8, 9, 10, 11, 12, 13, 14, 15] rfl [] rfl mixed ?_
  refine th_take rfl rfl (by kernel_rfl)  (opv_loadA rfl rfl rfl) ?_
  refine th_take rfl rfl (by kernel_rfl)  (opv_move rfl) ?_
  refine th_take rfl rfl (by kernel_rfl)  (opv_move rfl) ?_
  refine th_take rfl rfl (by kernel_rfl)  (opv_quoE rfl rfl (by omega) (by omega) (by omega)) ?_
  refine th_take rfl rfl (by kernel_rfl)  (opv_move rfl) ?_
  refine th_take rfl rfl (by kernel_rfl)  (opv_remE rfl rfl (by omega) (by omega)) ?_
  refine th_two (j := 12) [6, 7, 8, 9, 10, 11, 13, 14, 15] (by kernel_rfl) rfl ?_ ?_
  ·refine (step_m rfl rfl (opg_call (xs := [_, _, _]) rfl (ref08_square (hq1.mono (fun _ h => hJ2 (hJ1 (h)))) rfl (by omega) (by omega) (by omega) (by omega))) ?_)
   rintro _ _ _ ⟨rfl, rfl, rfl⟩
   refine ⟨Suf.h, (fun _ h => h), ?_⟩
   skip
   refine th_two (j := 12) [7, 8, 9, 10, 11, 13, 14, 15] (by kernel_rfl) rfl ?_ ?_
   ·refine (step_m rfl rfl (opg_call (xs := [_, _]) rfl (ref06_putSq hd1 g1 e2)) ?_)
    rintro _ _ J3 ⟨d2, f2, rfl, hd2, rfl, hJ3⟩
    refine ⟨Suf.h, hJ3, ?_⟩
    refine th_take rfl rfl (by kernel_rfl)  (opv_move rfl) ?_
    refine th_take rfl rfl (by kernel_rfl)  (opv_extract rfl rfl) ?_
    refine th_take rfl rfl (by kernel_rfl)  (opv_extract rfl rfl) ?_
    refine th_take rfl rfl (by kernel_rfl)  (opv_extract rfl rfl) ?_
    refine th_one (by kernel_rfl) (step_m rfl rfl opg_alloc ?_)
    rintro _ _ _ ⟨b11, rfl, rfl, rfl⟩
    refine ⟨Suf.h, (by assumption), ?_⟩
    refine th_one (by kernel_rfl) (step_m rfl rfl (opg_store rfl rfl rfl rfl rfl rfl) ?_)
    rintro _ _ _ ⟨rfl, rfl⟩
    refine ⟨Suf.h, (by assumption), ?_⟩
    refine th_take rfl rfl (by kernel_rfl)  (opv_assign rfl) ?_
    refine th_take rfl rfl (by kernel_rfl)  (opv_assign rfl) ?_
    refine th_done (by kernel_rfl) ?_
    exact tri_cutEnd _ ⟨b11, d2, f2, rfl, rfl, hd2, hJ3⟩ ⟨rfl, rfl, rfl, rfl, rfl, rfl, rfl, rfl, rfl, rfl, rfl, trivial⟩
   ·refine (step_m rfl rfl opg_alloc ?_)
    rintro _ _ _ ⟨b11, rfl, rfl, rfl⟩
    refine ⟨Suf.h, (fun _ h => h), ?_⟩
    refine th_one (by kernel_rfl) (step_m rfl rfl (opg_call (xs := [_, _]) rfl (ref06_putSq hd1 g1 e2)) ?_)
    rintro _ _ J3 ⟨d2, f2, rfl, hd2, rfl, hJ3⟩
    refine ⟨Suf.h, hJ3, ?_⟩
    refine th_take rfl rfl (by kernel_rfl)  (opv_move rfl) ?_
    refine th_take rfl rfl (by kernel_rfl)  (opv_extract rfl rfl) ?_
    refine th_take rfl rfl (by kernel_rfl)  (opv_extract rfl rfl) ?_
    refine th_take rfl rfl (by kernel_rfl)  (opv_extract rfl rfl) ?_
    refine th_one (by kernel_rfl) (step_m rfl rfl (opg_store rfl rfl rfl rfl rfl rfl) ?_)
    rintro _ _ _ ⟨rfl, rfl⟩
    refine ⟨Suf.h, (by assumption), ?_⟩
    refine th_take rfl rfl (by kernel_rfl)  (opv_assign rfl) ?_
    refine th_take rfl rfl (by kernel_rfl)  (opv_assign rfl) ?_
    refine th_done (by kernel_rfl) ?_
    exact tri_cutEnd _ ⟨b11, d2, f2, rfl, rfl, hd2, hJ3⟩ ⟨rfl, rfl, rfl, rfl, rfl, rfl, rfl, rfl, rfl, rfl, rfl, trivial⟩
  ·refine (step_m rfl rfl opg_alloc ?_)
   rintro _ _ _ ⟨b11, rfl, rfl, rfl⟩
   refine ⟨Suf.h, (fun _ h => h), ?_⟩
   refine th_one (by kernel_rfl) (step_m rfl rfl (opg_call (xs := [_, _, _]) rfl (ref08_square (hq1.mono (fun _ h => hJ2 (hJ1 (h)))) rfl (by omega) (by omega) (by omega) (by omega))) ?_)
   rintro _ _ _ ⟨rfl, rfl, rfl⟩
   refine ⟨Suf.h, (fun _ h => h), ?_⟩
   skip
   refine th_one (by kernel_rfl) (step_m rfl rfl (opg_call (xs := [_, _]) rfl (ref06_putSq hd1 g1 e2)) ?_)
   rintro _ _ J3 ⟨d2, f2, rfl, hd2, rfl, hJ3⟩
   refine ⟨Suf.h, hJ3, ?_⟩
   refine th_take rfl rfl (by kernel_rfl)  (opv_move rfl) ?_
   refine th_take rfl rfl (by kernel_rfl)  (opv_extract rfl rfl) ?_
   refine th_take rfl rfl (by kernel_rfl)  (opv_extract rfl rfl) ?_
   refine th_take rfl rfl (by kernel_rfl)  (opv_extract rfl rfl) ?_
   refine th_one (by kernel_rfl) (step_m rfl rfl (opg_store rfl rfl rfl rfl rfl rfl) ?_)
   rintro _ _ _ ⟨rfl, rfl⟩
   refine ⟨Suf.h, (by assumption), ?_⟩
   refine th_take rfl rfl (by kernel_rfl)  (opv_assign rfl) ?_
   refine th_take rfl rfl (by kernel_rfl)  (opv_assign rfl) ?_
   refine th_done (by kernel_rfl) ?_
   exact tri_cutEnd _ ⟨b11, d2, f2, rfl, rfl, hd2, hJ3⟩ ⟨rfl, rfl, rfl, rfl, rfl, rfl, rfl, rfl, rfl, rfl, rfl, trivial⟩
 rintro _ _ J3 ⟨b11, d2, f2, rfl, rfl, hd2, hJ3⟩
 skip
 refine tT (tS (tS (tR (tM rfl rfl ?_))))
 refine tri_v (opv_neq rfl rfl) rfl ?_
 refine tN (tT ?_)
 refine tri_cond_dec rfl (fun x2 => ?_) (fun x2 => ?_)
 ·rw [if_neg x0, if_neg x1, if_pos x2]
  refine tS (tR ?_)
  refine tri_v (opv_loadA rfl rfl rfl) rfl ?_
  refine tri_v (opv_buildA rfl rfl) rfl ?_
  refine tM rfl rfl ?_
  refine tri_g (opg_store rfl rfl rfl rfl rfl rfl) rfl ?_
  rintro _ _ _ ⟨rfl, rfl⟩
  refine tri_g (opg_store rfl rfl rfl rfl rfl rfl) rfl ?_
  rintro _ _ _ ⟨rfl, rfl⟩
  refine tA rfl rfl (tN (tT (tri_ret (tri_then_ret ?_))))
  refine tri_inBlock_ret ?_
  refine tri_then_ret (tri_then_ret ?_)
  refine tri_inBlock_ret ?_
  refine tri_then_ret ?_
  refine tri_end A Suf.h rfl (.cons (rv_cellA rfl rfl rfl) (.cons (rv_cellA rfl rfl rfl) (.cons (rv_tmp rfl) .nil))) ?_
  exact ⟨a, cap, _, _, _, _, _, _, _, _, _, rfl, rfl, hs.mono (fun _ h => hJ3 (hJ2 (hJ1 (hJ0 (h))))), rfl, (fun _ h => hJ3 (hJ2 (hJ1 (hJ0 (h)))))⟩
 skip
 refine tri_skip (tT (tS (tR ?_)))
 refine tri_v (opv_loadA rfl rfl rfl) rfl ?_
 refine tri_g (opg_store rfl rfl rfl rfl rfl rfl) rfl ?_
 rintro _ _ _ ⟨rfl, rfl⟩
 refine tN (tT (tR (tM rfl rfl (tM rfl rfl ?_))))
 refine tri_v (opv_indexAddrA rfl rfl (by decide) (by decide)) rfl ?_
 refine tri_g (opg_store rfl rfl rfl rfl rfl rfl) rfl ?_
 rintro _ _ _ ⟨rfl, rfl⟩
 refine tN ?_
 refine tri_inBlock ?_
 refine tT ?_
 refine tri_drop ?_
 refine tR (tM rfl rfl ?_)
 refine tU rfl rfl (by omega) (by omega) rfl ?_
 refine tA rfl rfl (tN (tT ?_))
 refine tri_round ?_
 refine tS (tS (tR (tM rfl rfl ?_)))
 refine tri_v (opv_lss rfl rfl) rfl ?_
 refine tN (tT ?_)
 refine tri_cond_is rfl (by decide) ?_
 refine tri_skip (tT (tS (tri_block (tS ?_))))
 refine tri_cut (fun F' A' J => ∃ b11 d f, F' = [(1, .int .i64 n), (2, pt b2 0), (4, pt b4 0), (5, pt b5 0), (7, .slice a1 (R8.s16 ns n).length c1), (8, pt b8 0), (9, pt b9 0), (10, .int .i64 3), (11, pt b11 0), (12, .int .i64 p3.2.1), (13, .int .i64 p3.2.2)] ∧ A' = Box b11 [.slice d p3.1.length f, .int .i64 room] 26 :: Box b9 [.slice d2 p2.1.length f2, .int .i64 room] 26 :: Box b8 [.int .i64 p0.2.1, .int .i64 p1.2.1, .int .i64 p2.2.1, .int .i64 0, .int .i64 0, .int .i64 0, .int .i64 0, .int .i64 0, .int .i64 0] 117 :: Box b5 [.int .i64 0, .int .i64 0, .int .i64 0, .int .i64 0, .int .i64 0, .int .i64 0, .int .i64 0, .int .i64 0, .int .i64 0] 117 :: Box b4 [.slice none 0 0, .int .i64 0] 26 :: Box b2 [.slice a ns.length cap, .int .i64 room] 26 :: A ∧ StA J d f p3.1 ∧ J3 ⊆ J) ?_ ?_
 ·refine tri_draw [0, 1, 2, 3, 4, 5, 6, 7, 8, 9, 10, 11, 12, 13, 14, 15] rfl [] rfl mixed ?_
  refine th_take rfl rfl (by kernel_rfl)  (opv_loadA rfl rfl rfl) ?_
  refine th_take rfl rfl (by kernel_rfl)  (opv_move rfl) ?_
  refine th_take rfl rfl (by kernel_rfl)  (opv_move rfl) ?_
  refine th_take rfl rfl (by kernel_rfl)  (opv_quoE rfl rfl (by omega) (by omega) (by omega)) ?_
  refine th_take rfl rfl (by kernel_rfl)  (opv_move rfl) ?_
  refine th_take rfl rfl (by kernel_rfl)  (opv_remE rfl rfl (by omega) (by omega)) ?_
  refine th_two (j := 12) [6, 7, 8, 9, 10, 11, 13, 14, 15] (by kernel_rfl) rfl ?_ ?_
  ·refine (step_m rfl rfl (opg_call (xs := [_, _, _]) rfl (ref08_square (hq1.mono (fun _ h => hJ3 (hJ2 (hJ1 (h))))) rfl (by omega) (by omega) (by omega) (by omega))) ?_)
   rintro _ _ _ ⟨rfl, rfl, rfl⟩
   refine ⟨Suf.h, (fun _ h => h), ?_⟩
   skip
   refine th_two (j := 12) [7, 8, 9, 10, 11, 13, 14, 15] (by kernel_rfl) rfl ?_ ?_
   ·refine (step_m rfl rfl (opg_call (xs := [_, _]) rfl (ref06_putSq hd2 g2 e3)) ?_)
    rintro _ _ J4 ⟨d3, f3, rfl, hd3, rfl, hJ4⟩
    refine ⟨Suf.h, hJ4, ?_⟩
    refine th_take rfl rfl (by kernel_rfl)  (opv_move rfl) ?_
    refine th_take rfl rfl (by kernel_rfl)  (opv_extract rfl rfl) ?_
    refine th_take rfl rfl (by kernel_rfl)  (opv_extract rfl rfl) ?_
    refine th_take rfl rfl (by kernel_rfl)  (opv_extract rfl rfl) ?_
    refine th_one (by kernel_rfl) (step_m rfl rfl opg_alloc ?_)
    rintro _ _ _ ⟨b11, rfl, rfl, rfl⟩
    refine ⟨Suf.h, (by assumption), ?_⟩
    refine th_one (by kernel_rfl) (step_m rfl rfl (opg_store rfl rfl rfl rfl rfl rfl) ?_)
    rintro _ _ _ ⟨rfl, rfl⟩
    refine ⟨Suf.h, (by assumption), ?_⟩
    refine th_take rfl rfl (by kernel_rfl)  (opv_assign rfl) ?_
    refine th_take rfl rfl (by kernel_rfl)  (opv_assign rfl) ?_
    refine th_done (by kernel_rfl) ?_
    exact tri_cutEnd _ ⟨b11, d3, f3, rfl, rfl, hd3, hJ4⟩ ⟨rfl, rfl, rfl, rfl, rfl, rfl, rfl, rfl, rfl, rfl, rfl, trivial⟩
   ·refine (step_m rfl rfl opg_alloc ?_)
    rintro _ _ _ ⟨b11, rfl, rfl, rfl⟩
    refine ⟨Suf.h, (fun _ h => h), ?_⟩
    refine th_one (by kernel_rfl) (step_m rfl rfl (opg_call (xs := [_, _]) rfl (ref06_putSq hd2 g2 e3)) ?_)
    rintro _ _ J4 ⟨d3, f3, rfl, hd3, rfl, hJ4⟩
    refine ⟨Suf.h, hJ4, ?_⟩
    refine th_take rfl rfl (by kernel_rfl)  (opv_move rfl) ?_
    refine th_take rfl rfl (by kernel_rfl)  (opv_extract rfl rfl) ?_
    refine th_take rfl rfl (by kernel_rfl)  (opv_extract rfl rfl) ?_
    refine th_take rfl rfl (by kernel_rfl)  (opv_extract rfl rfl) ?_
    refine th_one (by kernel_rfl) (step_m rfl rfl (opg_store rfl rfl rfl rfl rfl rfl) ?_)
    rintro _ _ _ ⟨rfl, rfl⟩
    refine ⟨Suf.h, (by assumption), ?_⟩
    refine th_take rfl rfl (by kernel_rfl)  (opv_assign rfl) ?_
    refine th_take rfl rfl (by kernel_rfl)  (opv_assign rfl) ?_
    refine th_done (by kernel_rfl) ?_
    exact tri_cutEnd _ ⟨b11, d3, f3, rfl, rfl, hd3, hJ4⟩ ⟨rfl, rfl, rfl, rfl, rfl, rfl, rfl, rfl, rfl, rfl, rfl, trivial⟩
  ·refine (step_m rfl rfl opg_alloc ?_)
   rintro _ _ _ ⟨b11, rfl, rfl, rfl⟩
   refine ⟨Suf.h, (fun _ h => h), ?_⟩
   refine th_one (by kernel_rfl) (step_m rfl rfl (opg_call (xs := [_, _, _]) rfl (ref08_square (hq1.mono (fun _ h => hJ3 (hJ2 (hJ1 (h))))) rfl (by omega) (by omega) (by omega) (by omega))) ?_)
   rintro _ _ _ ⟨rfl, rfl, rfl⟩
   refine ⟨Suf.h, (fun _ h => h), ?_⟩
   skip
   refine th_one (by kernel_rfl) (step_m rfl rfl (opg_call (xs := [_, _]) rfl (ref06_putSq hd2 g2 e3)) ?_)
   rintro _ _ J4 ⟨d3, f3, rfl, hd3, rfl, hJ4⟩
   refine ⟨Suf.h, hJ4, ?_⟩
   refine th_take rfl rfl (by kernel_rfl)  (opv_move rfl) ?_
   refine th_take rfl rfl (by kernel_rfl)  (opv_extract rfl rfl) ?_
   refine th_take rfl rfl (by kernel_rfl)  (opv_extract rfl rfl) ?_
   refine th_take rfl rfl (by kernel_rfl)  (opv_extract rfl rfl) ?_
   refine th_one (by kernel_rfl) (step_m rfl rfl (opg_store rfl rfl rfl rfl rfl rfl) ?_)
   rintro _ _ _ ⟨rfl, rfl⟩
   refine ⟨Suf.h, (by assumption), ?_⟩
   refine th_take rfl rfl (by kernel_rfl)  (opv_assign rfl) ?_
   refine th_take rfl rfl (by kernel_rfl)  (opv_assign rfl) ?_
   refine th_done (by kernel_rfl) ?_
   exact tri_cutEnd _ ⟨b11, d3, f3, rfl, rfl, hd3, hJ4⟩ ⟨rfl, rfl, rfl, rfl, rfl, rfl, rfl, rfl, rfl, rfl, rfl, trivial⟩
 rintro _ _ J4 ⟨b11, d3, f3, rfl, rfl, hd3, hJ4⟩
 skip
 refine tT (tS (tS (tR (tM rfl rfl ?_))))
 refine tri_v (opv_neq rfl rfl) rfl ?_
 refine tN (tT ?_)
 refine tri_cond_dec rfl (fun x3 => ?_) (fun x3 => ?_)
 ·rw [if_neg x0, if_neg x1, if_neg x2, if_pos x3]
  refine tS (tR ?_)
  refine tri_v (opv_loadA rfl rfl rfl) rfl ?_
  refine tri_v (opv_buildA rfl rfl) rfl ?_
  refine tM rfl rfl ?_
  refine tri_g (opg_store rfl rfl rfl rfl rfl rfl) rfl ?_
  rintro _ _ _ ⟨rfl, rfl⟩
  refine tri_g (opg_store rfl rfl rfl rfl rfl rfl) rfl ?_
  rintro _ _ _ ⟨rfl, rfl⟩
  refine tA rfl rfl (tN (tT (tri_ret (tri_then_ret ?_))))
  refine tri_inBlock_ret ?_
  refine tri_then_ret (tri_then_ret ?_)
  refine tri_inBlock_ret ?_
  refine tri_then_ret ?_
  refine tri_end A Suf.h rfl (.cons (rv_cellA rfl rfl rfl) (.cons (rv_cellA rfl rfl rfl) (.cons (rv_tmp rfl) .nil))) ?_
  exact ⟨a, cap, _, _, _, _, _, _, _, _, _, rfl, rfl, hs.mono (fun _ h => hJ4 (hJ3 (hJ2 (hJ1 (hJ0 (h)))))), rfl, (fun _ h => hJ4 (hJ3 (hJ2 (hJ1 (hJ0 (h))))))⟩
 skip
 refine tri_skip (tT (tS (tR ?_)))
 refine tri_v (opv_loadA rfl rfl rfl) rfl ?_
 refine tri_g (opg_store rfl rfl rfl rfl rfl rfl) rfl ?_
 rintro _ _ _ ⟨rfl, rfl⟩
 refine tN (tT (tR (tM rfl rfl (tM rfl rfl ?_))))
 refine tri_v (opv_indexAddrA rfl rfl (by decide) (by decide)) rfl ?_
 refine tri_g (opg_store rfl rfl rfl rfl rfl rfl) rfl ?_
 rintro _ _ _ ⟨rfl, rfl⟩
 refine tN ?_
 refine tri_inBlock ?_
 refine tT ?_
 refine tri_drop ?_
 refine tR (tM rfl rfl ?_)
 refine tU rfl rfl (by omega) (by omega) rfl ?_
 refine tA rfl rfl (tN (tT ?_))
 refine tri_round ?_
 refine tS (tS (tR (tM rfl rfl ?_)))
 refine tri_v (opv_lss rfl rfl) rfl ?_
 refine tN (tT ?_)
 refine tri_cond_is rfl (by decide) ?_
 refine tri_skip (tT (tS (tri_block (tS ?_))))
 refine tri_cut (fun F' A' J => ∃ b11 d f, F' = [(1, .int .i64 n), (2, pt b2 0), (4, pt b4 0), (5, pt b5 0), (7, .slice a1 (R8.s16 ns n).length c1), (8, pt b8 0), (9, pt b9 0), (10, .int .i64 4), (11, pt b11 0), (12, .int .i64 p4.2.1), (13, .int .i64 p4.2.2)] ∧ A' = Box b11 [.slice d p4.1.length f, .int .i64 room] 26 :: Box b9 [.slice d3 p3.1.length f3, .int .i64 room] 26 :: Box b8 [.int .i64 p0.2.1, .int .i64 p1.2.1, .int .i64 p2.2.1, .int .i64 p3.2.1, .int .i64 0, .int .i64 0, .int .i64 0, .int .i64 0, .int .i64 0] 117 :: Box b5 [.int .i64 0, .int .i64 0, .int .i64 0, .int .i64 0, .int .i64 0, .int .i64 0, .int .i64 0, .int .i64 0, .int .i64 0] 117 :: Box b4 [.slice none 0 0, .int .i64 0] 26 :: Box b2 [.slice a ns.length cap, .int .i64 room] 26 :: A ∧ StA J d f p4.1 ∧ J4 ⊆ J) ?_ ?_
 ·refine tri_draw [0, 1, 2, 3, 4, 5, 6, 7, 8, 9, 10, 11, 12, 13, 14, 15] rfl [] rfl mixed ?_
  refine th_take rfl rfl (by kernel_rfl)  (opv_loadA rfl rfl rfl) ?_
  refine th_take rfl rfl (by kernel_rfl)  (opv_move rfl) ?_
  refine th_take rfl rfl (by kernel_rfl)  (opv_move rfl) ?_
  refine th_take rfl rfl (by kernel_rfl)  (opv_quoE rfl rfl (by omega) (by omega) (by omega)) ?_
  refine th_take rfl rfl (by kernel_rfl)  (opv_move rfl) ?_
  refine th_take rfl rfl (by kernel_rfl)  (opv_remE rfl rfl (by omega) (by omega)) ?_
  refine th_two (j := 12) [6, 7, 8, 9, 10, 11, 13, 14, 15] (by kernel_rfl) rfl ?_ ?_
  ·refine (step_m rfl rfl (opg_call (xs := [_, _, _]) rfl (ref08_square (hq1.mono (fun _ h => hJ4 (hJ3 (hJ2 (hJ1 (h)))))) rfl (by omega) (by omega) (by omega) (by omega))) ?_)
   rintro _ _ _ ⟨rfl, rfl, rfl⟩
   refine ⟨Suf.h, (fun _ h => h), ?_⟩
   skip
   refine th_two (j := 12) [7, 8, 9, 10, 11, 13, 14, 15] (by kernel_rfl) rfl ?_ ?_
   ·refine (step_m rfl rfl (opg_call (xs := [_, _]) rfl (ref06_putSq hd3 g3 e4)) ?_)
    rintro _ _ J5 ⟨d4, f4, rfl, hd4, rfl, hJ5⟩
    refine ⟨Suf.h, hJ5, ?_⟩
    refine th_take rfl rfl (by kernel_rfl)  (opv_move rfl) ?_
    refine th_take rfl rfl (by kernel_rfl)  (opv_extract rfl rfl) ?_
    refine th_take rfl rfl (by kernel_rfl)  (opv_extract rfl rfl) ?_
    refine th_take rfl rfl (by kernel_rfl)  (opv_extract rfl rfl) ?_
    refine th_one (by kernel_rfl) (step_m rfl rfl opg_alloc ?_)
    rintro _ _ _ ⟨b11, rfl, rfl, rfl⟩
    refine ⟨Suf.h, (by assumption), ?_⟩
    refine th_one (by kernel_rfl) (step_m rfl rfl (opg_store rfl rfl rfl rfl rfl rfl) ?_)
    rintro _ _ _ ⟨rfl, rfl⟩
    refine ⟨Suf.h, (by assumption), ?_⟩
    refine th_take rfl rfl (by kernel_rfl)  (opv_assign rfl) ?_
    refine th_take rfl rfl (by kernel_rfl)  (opv_assign rfl) ?_
    refine th_done (by kernel_rfl) ?_
    exact tri_cutEnd _ ⟨b11, d4, f4, rfl, rfl, hd4, hJ5⟩ ⟨rfl, rfl, rfl, rfl, rfl, rfl, rfl, rfl, rfl, rfl, rfl, trivial⟩
   ·refine (step_m rfl rfl opg_alloc ?_)
    rintro _ _ _ ⟨b11, rfl, rfl, rfl⟩
    refine ⟨Suf.h, (fun _ h => h), ?_⟩
    refine th_one (by kernel_rfl) (step_m rfl rfl (opg_call (xs := [_, _]) rfl (ref06_putSq hd3 g3 e4)) ?_)
    rintro _ _ J5 ⟨d4, f4, rfl, hd4, rfl, hJ5⟩
    refine ⟨Suf.h, hJ5, ?_⟩
    refine th_take rfl rfl (by kernel_rfl)  (opv_move rfl) ?_
    refine th_take rfl rfl (by kernel_rfl)  (opv_extract rfl rfl) ?_
    refine th_take rfl rfl (by kernel_rfl)  (opv_extract rfl rfl) ?_
    refine th_take rfl rfl (by kernel_rfl)  (opv_extract rfl rfl) ?_
    refine th_one (by kernel_rfl) (step_m rfl rfl (opg_store rfl rfl rfl rfl rfl rfl) ?_)
    rintro _ _ _ ⟨rfl, rfl⟩
    refine ⟨Suf.h, (by assumption), ?_⟩
    refine th_take rfl rfl (by kernel_rfl)  (opv_assign rfl) ?_
    refine th_take rfl rfl (by kernel_rfl)  (opv_assign rfl) ?_
    refine th_done (by kernel_rfl) ?_
    exact tri_cutEnd _ ⟨b11, d4, f4, rfl, rfl, hd4, hJ5⟩ ⟨rfl, rfl, rfl, rfl, rfl, rfl, rfl, rfl, rfl, rfl, rfl, trivial⟩
  ·refine (step_m rfl rfl opg_alloc ?_)
   rintro _ _ _ ⟨b11, rfl, rfl, rfl⟩
   refine ⟨Suf.h, (fun _ h => h), ?_⟩
   refine th_one (by kernel_rfl) (step_m rfl rfl (opg_call (xs := [_, _, _]) rfl (ref08_square (hq1.mono (fun _ h => hJ4 (hJ3 (hJ2 (hJ1 (h)))))) rfl (by omega) (by omega) (by omega) (by omega))) ?_)
   rintro _ _ _ ⟨rfl, rfl, rfl⟩
   refine ⟨Suf.h, (fun _ h => h), ?_⟩
   skip
   refine th_one (by kernel_rfl) (step_m rfl rfl (opg_call (xs := [_, _]) rfl (ref06_putSq hd3 g3 e4)) ?_)
   rintro _ _ J5 ⟨d4, f4, rfl, hd4, rfl, hJ5⟩
   refine ⟨Suf.h, hJ5, ?_⟩
   refine th_take rfl rfl (by kernel_rfl)  (opv_move rfl) ?_
   refine th_take rfl rfl (by kernel_rfl)  (opv_extract rfl rfl) ?_
   refine th_take rfl rfl (by kernel_rfl)  (opv_extract rfl rfl) ?_
   refine th_take rfl rfl (by kernel_rfl)  (opv_extract rfl rfl) ?_
   refine th_one (by kernel_rfl) (step_m rfl rfl (opg_store rfl rfl rfl rfl rfl rfl) ?_)
   rintro _ _ _ ⟨rfl, rfl⟩
   refine ⟨Suf.h, (by assumption), ?_⟩
   refine th_take rfl rfl (by kernel_rfl)  (opv_assign rfl) ?_
   refine th_take rfl rfl (by kernel_rfl)  (opv_assign rfl) ?_
   refine th_done (by kernel_rfl) ?_
   exact tri_cutEnd _ ⟨b11, d4, f4, rfl, rfl, hd4, hJ5⟩ ⟨rfl, rfl, rfl, rfl, rfl, rfl, rfl, rfl, rfl, rfl, rfl, trivial⟩
 rintro _ _ J5 ⟨b11, d4, f4, rfl, rfl, hd4, hJ5⟩
 skip
 refine tT (tS (tS (tR (tM rfl rfl ?_))))
 refine tri_v (opv_neq rfl rfl) rfl ?_
 refine tN (tT ?_)
 refine tri_cond_dec rfl (fun x4 => ?_) (fun x4 => ?_)
 ·rw [if_neg x0, if_neg x1, if_neg x2, if_neg x3, if_pos x4]
  refine tS (tR ?_)
  refine tri_v (opv_loadA rfl rfl rfl) rfl ?_
  refine tri_v (opv_buildA rfl rfl) rfl ?_
  refine tM rfl rfl ?_
  refine tri_g (opg_store rfl rfl rfl rfl rfl rfl) rfl ?_
  rintro _ _ _ ⟨rfl, rfl⟩
  refine tri_g (opg_store rfl rfl rfl rfl rfl rfl) rfl ?_
  rintro _ _ _ ⟨rfl, rfl⟩
  refine tA rfl rfl (tN (tT (tri_ret (tri_then_ret ?_))))
  refine tri_inBlock_ret ?_
  refine tri_then_ret (tri_then_ret ?_)
  refine tri_inBlock_ret ?_
  refine tri_then_ret ?_
  refine tri_end A Suf.h rfl (.cons (rv_cellA rfl rfl rfl) (.cons (rv_cellA rfl rfl rfl) (.cons (rv_tmp rfl) .nil))) ?_
  exact ⟨a, cap, _, _, _, _, _, _, _, _, _, rfl, rfl, hs.mono (fun _ h => hJ5 (hJ4 (hJ3 (hJ2 (hJ1 (hJ0 (h))))))), rfl, (fun _ h => hJ5 (hJ4 (hJ3 (hJ2 (hJ1 (hJ0 (h)))))))⟩
 skip
 refine tri_skip (tT (tS (tR ?_)))
 refine tri_v (opv_loadA rfl rfl rfl) rfl ?_
 refine tri_g (opg_store rfl rfl rfl rfl rfl rfl) rfl ?_
 rintro _ _ _ ⟨rfl, rfl⟩
 refine tN (tT (tR (tM rfl rfl (tM rfl rfl ?_))))
 refine tri_v (opv_indexAddrA rfl rfl (by decide) (by decide)) rfl ?_
 refine tri_g (opg_store rfl rfl rfl rfl rfl rfl) rfl ?_
 rintro _ _ _ ⟨rfl, rfl⟩
 refine tN ?_
 refine tri_inBlock ?_
 refine tT ?_
 refine tri_drop ?_
 refine tR (tM rfl rfl ?_)
 refine tU rfl rfl (by omega) (by omega) rfl ?_
 refine tA rfl rfl (tN (tT ?_))
 refine tri_round ?_
 refine tS (tS (tR (tM rfl rfl ?_)))
 refine tri_v (opv_lss rfl rfl) rfl ?_
 refine tN (tT ?_)
 refine tri_cond_is rfl (by decide) ?_
 refine tri_skip (tT (tS (tri_block (tS ?_))))
 refine tri_cut (fun F' A' J => ∃ b11 d f, F' = [(1, .int .i64 n), (2, pt b2 0), (4, pt b4 0), (5, pt b5 0), (7, .slice a1 (R8.s16 ns n).length c1), (8, pt b8 0), (9, pt b9 0), (10, .int .i64 5), (11, pt b11 0), (12, .int .i64 p5.2.1), (13, .int .i64 p5.2.2)] ∧ A' = Box b11 [.slice d p5.1.length f, .int .i64 room] 26 :: Box b9 [.slice d4 p4.1.length f4, .int .i64 room] 26 :: Box b8 [.int .i64 p0.2.1, .int .i64 p1.2.1, .int .i64 p2.2.1, .int .i64 p3.2.1, .int .i64 p4.2.1, .int .i64 0, .int .i64 0, .int .i64 0, .int .i64 0] 117 :: Box b5 [.int .i64 0, .int .i64 0, .int .i64 0, .int .i64 0, .int .i64 0, .int .i64 0, .int .i64 0, .int .i64 0, .int .i64 0] 117 :: Box b4 [.slice none 0 0, .int .i64 0] 26 :: Box b2 [.slice a ns.length cap, .int .i64 room] 26 :: A ∧ StA J d f p5.1 ∧ J5 ⊆ J) ?_ ?_
 ·refine tri_draw [0, 1, 2, 3, 4, 5, 6, 7, 8, 9, 10, 11, 12, 13, 14, 15] rfl [] rfl mixed ?_
  refine th_take rfl rfl (by kernel_rfl)  (opv_loadA rfl rfl rfl) ?_
  refine th_take rfl rfl (by kernel_rfl)  (opv_move rfl) ?_
  refine th_take rfl rfl (by kernel_rfl)  (opv_move rfl) ?_
  refine th_take rfl rfl (by kernel_rfl)  (opv_quoE rfl rfl (by omega) (by omega) (by omega)) ?_
  refine th_take rfl rfl (by kernel_rfl)  (opv_move rfl) ?_
  refine th_take rfl rfl (by kernel_rfl)  (opv_remE rfl rfl (by omega) (by omega)) ?_
  refine th_two (j := 12) [6, 7, 8, 9, 10, 11, 13, 14, 15] (by kernel_rfl) rfl ?_ ?_
  ·refine (step_m rfl rfl (opg_call (xs := [_, _, _]) rfl (ref08_square (hq1.mono (fun _ h => hJ5 (hJ4 (hJ3 (hJ2 (hJ1 (h))))))) rfl (by omega) (by omega) (by omega) (by omega))) ?_)
   rintro _ _ _ ⟨rfl, rfl, rfl⟩
   refine ⟨Suf.h, (fun _ h => h), ?_⟩
   skip
   refine th_two (j := 12) [7, 8, 9, 10, 11, 13, 14, 15] (by kernel_rfl) rfl ?_ ?_
   ·refine (step_m rfl rfl (opg_call (xs := [_, _]) rfl (ref06_putSq hd4 g4 e5)) ?_)
    rintro _ _ J6 ⟨d5, f5, rfl, hd5, rfl, hJ6⟩
    refine ⟨Suf.h, hJ6, ?_⟩
    refine th_take rfl rfl (by kernel_rfl)  (opv_move rfl) ?_
    refine th_take rfl rfl (by kernel_rfl)  (opv_extract rfl rfl) ?_
    refine th_take rfl rfl (by kernel_rfl)  (opv_extract rfl rfl) ?_
    refine th_take rfl rfl (by kernel_rfl)  (opv_extract rfl rfl) ?_
    refine th_one (by kernel_rfl) (step_m rfl rfl opg_alloc ?_)
    rintro _ _ _ ⟨b11, rfl, rfl, rfl⟩
    refine ⟨Suf.h, (by assumption), ?_⟩
    refine th_one (by kernel_rfl) (step_m rfl rfl (opg_store rfl rfl rfl rfl rfl rfl) ?_)
    rintro _ _ _ ⟨rfl, rfl⟩
    refine ⟨Suf.h, (by assumption), ?_⟩
    refine th_take rfl rfl (by kernel_rfl)  (opv_assign rfl) ?_
    refine th_take rfl rfl (by kernel_rfl)  (opv_assign rfl) ?_
    refine th_done (by kernel_rfl) ?_
    exact tri_cutEnd _ ⟨b11, d5, f5, rfl, rfl, hd5, hJ6⟩ ⟨rfl, rfl, rfl, rfl, rfl, rfl, rfl, rfl, rfl, rfl, rfl, trivial⟩
   ·refine (step_m rfl rfl opg_alloc ?_)
    rintro _ _ _ ⟨b11, rfl, rfl, rfl⟩
    refine ⟨Suf.h, (fun _ h => h), ?_⟩
    refine th_one (by kernel_rfl) (step_m rfl rfl (opg_call (xs := [_, _]) rfl (ref06_putSq hd4 g4 e5)) ?_)
    rintro _ _ J6 ⟨d5, f5, rfl, hd5, rfl, hJ6⟩
    refine ⟨Suf.h, hJ6, ?_⟩
    refine th_take rfl rfl (by kernel_rfl)  (opv_move rfl) ?_
    refine th_take rfl rfl (by kernel_rfl)  (opv_extract rfl rfl) ?_
    refine th_take rfl rfl (by kernel_rfl)  (opv_extract rfl rfl) ?_
    refine th_take rfl rfl (by kernel_rfl)  (opv_extract rfl rfl) ?_
    refine th_one (by kernel_rfl) (step_m rfl rfl (opg_store rfl rfl rfl rfl rfl rfl) ?_)
    rintro _ _ _ ⟨rfl, rfl⟩
    refine ⟨Suf.h, (by assumption), ?_⟩
    refine th_take rfl rfl (by kernel_rfl)  (opv_assign rfl) ?_
    refine th_take rfl rfl (by kernel_rfl)  (opv_assign rfl) ?_
    refine th_done (by kernel_rfl) ?_
    exact tri_cutEnd _ ⟨b11, d5, f5, rfl, rfl, hd5, hJ6⟩ ⟨rfl, rfl, rfl, rfl, rfl, rfl, rfl, rfl, rfl, rfl, rfl, trivial⟩
  ·refine (step_m rfl rfl opg_alloc ?_)
   rintro _ _ _ ⟨b11, rfl, rfl, rfl⟩
   refine ⟨Suf.h, (fun _ h => h), ?_⟩
   refine th_one (by kernel_rfl) (step_m rfl rfl (opg_call (xs := [_, _, _]) rfl (ref08_square (hq1.mono (fun _ h => hJ5 (hJ4 (hJ3 (hJ2 (hJ1 (h))))))) rfl (by omega) (by omega) (by omega) (by omega))) ?_)
   rintro _ _ _ ⟨rfl, rfl, rfl⟩
   refine ⟨Suf.h, (fun _ h => h), ?_⟩
   skip
   refine th_one (by kernel_rfl) (step_m rfl rfl (opg_call (xs := [_, _]) rfl (ref06_putSq hd4 g4 e5)) ?_)
   rintro _ _ J6 ⟨d5, f5, rfl, hd5, rfl, hJ6⟩
   refine ⟨Suf.h, hJ6, ?_⟩
   refine th_take rfl rfl (by kernel_rfl)  (opv_move rfl) ?_
   refine th_take rfl rfl (by kernel_rfl)  (opv_extract rfl rfl) ?_
   refine th_take rfl rfl (by kernel_rfl)  (opv_extract rfl rfl) ?_
   refine th_take rfl rfl (by kernel_rfl)  (opv_extract rfl rfl) ?_
   refine th_one (by kernel_rfl) (step_m rfl rfl (opg_store rfl rfl rfl rfl rfl rfl) ?_)
   rintro _ _ _ ⟨rfl, rfl⟩
   refine ⟨Suf.h, (by assumption), ?_⟩
   refine th_take rfl rfl (by kernel_rfl)  (opv_assign rfl) ?_
   refine th_take rfl rfl (by kernel_rfl)  (opv_assign rfl) ?_
   refine th_done (by kernel_rfl) ?_
   exact tri_cutEnd _ ⟨b11, d5, f5, rfl, rfl, hd5, hJ6⟩ ⟨rfl, rfl, rfl, rfl, rfl, rfl, rfl, rfl, rfl, rfl, rfl, trivial⟩
 rintro _ _ J6 ⟨b11, d5, f5, rfl, rfl, hd5, hJ6⟩
 skip
 refine tT (tS (tS (tR (tM rfl rfl ?_))))
 refine tri_v (opv_neq rfl rfl) rfl ?_
 refine tN (tT ?_)
 refine tri_cond_dec rfl (fun x5 => ?_) (fun x5 => ?_)
 ·rw [if_neg x0, if_neg x1, if_neg x2, if_neg x3, if_neg x4, if_pos x5]
  refine tS (tR ?_)
  refine tri_v (opv_loadA rfl rfl rfl) rfl ?_
  refine tri_v (opv_buildA rfl rfl) rfl ?_
  refine tM rfl rfl ?_
  refine tri_g (opg_store rfl rfl rfl rfl rfl rfl) rfl ?_
  rintro _ _ _ ⟨rfl, rfl⟩
  refine tri_g (opg_store rfl rfl rfl rfl rfl rfl) rfl ?_
  rintro _ _ _ ⟨rfl, rfl⟩
  refine tA rfl rfl (tN (tT (tri_ret (tri_then_ret ?_))))
  refine tri_inBlock_ret ?_
  refine tri_then_ret (tri_then_ret ?_)
  refine tri_inBlock_ret ?_
  refine tri_then_ret ?_
  refine tri_end A Suf.h rfl (.cons (rv_cellA rfl rfl rfl) (.cons (rv_cellA rfl rfl rfl) (.cons (rv_tmp rfl) .nil))) ?_
  exact ⟨a, cap, _, _, _, _, _, _, _, _, _, rfl, rfl, hs.mono (fun _ h => hJ6 (hJ5 (hJ4 (hJ3 (hJ2 (hJ1 (hJ0 (h)))))))), rfl, (fun _ h => hJ6 (hJ5 (hJ4 (hJ3 (hJ2 (hJ1 (hJ0 (h))))))))⟩
 skip
 refine tri_skip (tT (tS (tR ?_)))
 refine tri_v (opv_loadA rfl rfl rfl) rfl ?_
 refine tri_g (opg_store rfl rfl rfl rfl rfl rfl) rfl ?_
 rintro _ _ _ ⟨rfl, rfl⟩
 refine tN (tT (tR (tM rfl rfl (tM rfl rfl ?_))))
 refine tri_v (opv_indexAddrA rfl rfl (by decide) (by decide)) rfl ?_
 refine tri_g (opg_store rfl rfl rfl rfl rfl rfl) rfl ?_
 rintro _ _ _ ⟨rfl, rfl⟩
 refine tN ?_
 refine tri_inBlock ?_
 refine tT ?_
 refine tri_drop ?_
 refine tR (tM rfl rfl ?_)
 refine tU rfl rfl (by omega) (by omega) rfl ?_
 refine tA rfl rfl (tN (tT ?_))
 refine tri_round ?_
 refine tS (tS (tR (tM rfl rfl ?_)))
 refine tri_v (opv_lss rfl rfl) rfl ?_
 refine tN (tT ?_)
 refine tri_cond_is rfl (by decide) ?_
 refine tri_skip (tT (tS (tri_block (tS ?_))))
 refine tri_cut (fun F' A' J => ∃ b11 d f, F' = [(1, .int .i64 n), (2, pt b2 0), (4, pt b4 0), (5, pt b5 0), (7, .slice a1 (R8.s16 ns n).length c1), (8, pt b8 0), (9, pt b9 0), (10, .int .i64 6), (11, pt b11 0), (12, .int .i64 p6.2.1), (13, .int .i64 p6.2.2)] ∧ A' = Box b11 [.slice d p6.1.length f, .int .i64 room] 26 :: Box b9 [.slice d5 p5.1.length f5, .int .i64 room] 26 :: Box b8 [.int .i64 p0.2.1, .int .i64 p1.2.1, .int .i64 p2.2.1, .int .i64 p3.2.1, .int .i64 p4.2.1, .int .i64 p5.2.1, .int .i64 0, .int .i64 0, .int .i64 0] 117 :: Box b5 [.int .i64 0, .int .i64 0, .int .i64 0, .int .i64 0, .int .i64 0, .int .i64 0, .int .i64 0, .int .i64 0, .int .i64 0] 117 :: Box b4 [.slice none 0 0, .int .i64 0] 26 :: Box b2 [.slice a ns.length cap, .int .i64 room] 26 :: A ∧ StA J d f p6.1 ∧ J6 ⊆ J) ?_ ?_
 ·refine tri_draw [0, 1, 2, 3, 4, 5, 6, 7, 8, 9, 10, 11, 12, 13, 14, 15] rfl [] rfl mixed ?_
  refine th_take rfl rfl (by kernel_rfl)  (opv_loadA rfl rfl rfl) ?_
  refine th_take rfl rfl (by kernel_rfl)  (opv_move rfl) ?_
  refine th_take rfl rfl (by kernel_rfl)  (opv_move rfl) ?_
  refine th_take rfl rfl (by kernel_rfl)  (opv_quoE rfl rfl (by omega) (by omega) (by omega)) ?_
  refine th_take rfl rfl (by kernel_rfl)  (opv_move rfl) ?_
  refine th_take rfl rfl (by kernel_rfl)  (opv_remE rfl rfl (by omega) (by omega)) ?_
  refine th_two (j := 12) [6, 7, 8, 9, 10, 11, 13, 14, 15] (by kernel_rfl) rfl ?_ ?_
  ·refine (step_m rfl rfl (opg_call (xs := [_, _, _]) rfl (ref08_square (hq1.mono (fun _ h => hJ6 (hJ5 (hJ4 (hJ3 (hJ2 (hJ1 (h)))))))) rfl (by omega) (by omega) (by omega) (by omega))) ?_)
   rintro _ _ _ ⟨rfl, rfl, rfl⟩
   refine ⟨Suf.h, (fun _ h => h), ?_⟩
   skip
   refine th_two (j := 12) [7, 8, 9, 10, 11, 13, 14, 15] (by kernel_rfl) rfl ?_ ?_
   ·refine (step_m rfl rfl (opg_call (xs := [_, _]) rfl (ref06_putSq hd5 g5 e6)) ?_)
    rintro _ _ J7 ⟨d6, f6, rfl, hd6, rfl, hJ7⟩
    refine ⟨Suf.h, hJ7, ?_⟩
    refine th_take rfl rfl (by kernel_rfl)  (opv_move rfl) ?_
    refine th_take rfl rfl (by kernel_rfl)  (opv_extract rfl rfl) ?_
    refine th_take rfl rfl (by kernel_rfl)  (opv_extract rfl rfl) ?_
    refine th_take rfl rfl (by kernel_rfl)  (opv_extract rfl rfl) ?_
    refine th_one (by kernel_rfl) (step_m rfl rfl opg_alloc ?_)
    rintro _ _ _ ⟨b11, rfl, rfl, rfl⟩
    refine ⟨Suf.h, (by assumption), ?_⟩
    refine th_one (by kernel_rfl) (step_m rfl rfl (opg_store rfl rfl rfl rfl rfl rfl) ?_)
    rintro _ _ _ ⟨rfl, rfl⟩
    refine ⟨Suf.h, (by assumption), ?_⟩
    refine th_take rfl rfl (by kernel_rfl)  (opv_assign rfl) ?_
    refine th_take rfl rfl (by kernel_rfl)  (opv_assign rfl) ?_
    refine th_done (by kernel_rfl) ?_
    exact tri_cutEnd _ ⟨b11, d6, f6, rfl, rfl, hd6, hJ7⟩ ⟨rfl, rfl, rfl, rfl, rfl, rfl, rfl, rfl, rfl, rfl, rfl, trivial⟩
   ·refine (step_m rfl rfl opg_alloc ?_)
    rintro _ _ _ ⟨b11, rfl, rfl, rfl⟩
    refine ⟨Suf.h, (fun _ h => h), ?_⟩
    refine th_one (by kernel_rfl) (step_m rfl rfl (opg_call (xs := [_, _]) rfl (ref06_putSq hd5 g5 e6)) ?_)
    rintro _ _ J7 ⟨d6, f6, rfl, hd6, rfl, hJ7⟩
    refine ⟨Suf.h, hJ7, ?_⟩
    refine th_take rfl rfl (by kernel_rfl)  (opv_move rfl) ?_
    refine th_take rfl rfl (by kernel_rfl)  (opv_extract rfl rfl) ?_
    refine th_take rfl rfl (by kernel_rfl)  (opv_extract rfl rfl) ?_
    refine th_take rfl rfl (by kernel_rfl)  (opv_extract rfl rfl) ?_
    refine th_one (by kernel_rfl) (step_m rfl rfl (opg_store rfl rfl rfl rfl rfl rfl) ?_)
    rintro _ _ _ ⟨rfl, rfl⟩
    refine ⟨Suf.h, (by assumption), ?_⟩
    refine th_take rfl rfl (by kernel_rfl)  (opv_assign rfl) ?_
    refine th_take rfl rfl (by kernel_rfl)  (opv_assign rfl) ?_
    refine th_done (by kernel_rfl) ?_
    exact tri_cutEnd _ ⟨b11, d6, f6, rfl, rfl, hd6, hJ7⟩ ⟨rfl, rfl, rfl, rfl, rfl, rfl, rfl, rfl, rfl, rfl, rfl, trivial⟩
  ·refine (step_m rfl rfl opg_alloc ?_)
   rintro _ _ _ ⟨b11, rfl, rfl, rfl⟩
   refine ⟨Suf.h, (fun _ h => h), ?_⟩
   refine th_one (by kernel_rfl) (step_m rfl rfl (opg_call (xs := [_, _, _]) rfl (ref08_square (hq1.mono (fun _ h => hJ6 (hJ5 (hJ4 (hJ3 (hJ2 (hJ1 (h)))))))) rfl (by omega) (by omega) (by omega) (by omega))) ?_)
   rintro _ _ _ ⟨rfl, rfl, rfl⟩
   refine ⟨Suf.h, (fun _ h => h), ?_⟩
   skip
   refine th_one (by kernel_rfl) (step_m rfl rfl (opg_call (xs := [_, _]) rfl (ref06_putSq hd5 g5 e6)) ?_)
   rintro _ _ J7 ⟨d6, f6, rfl, hd6, rfl, hJ7⟩
   refine ⟨Suf.h, hJ7, ?_⟩
   refine th_take rfl rfl (by kernel_rfl)  (opv_move rfl) ?_
   refine th_take rfl rfl (by kernel_rfl)  (opv_extract rfl rfl) ?_
   refine th_take rfl rfl (by kernel_rfl)  (opv_extract rfl rfl) ?_
   refine th_take rfl rfl (by kernel_rfl)  (opv_extract rfl rfl) ?_
   refine th_one (by kernel_rfl) (step_m rfl rfl (opg_store rfl rfl rfl rfl rfl rfl) ?_)
   rintro _ _ _ ⟨rfl, rfl⟩
   refine ⟨Suf.h, (by assumption), ?_⟩
   refine th_take rfl rfl (by kernel_rfl)  (opv_assign rfl) ?_
   refine th_take rfl rfl (by kernel_rfl)  (opv_assign rfl) ?_
   refine th_done (by kernel_rfl) ?_
   exact tri_cutEnd _ ⟨b11, d6, f6, rfl, rfl, hd6, hJ7⟩ ⟨rfl, rfl, rfl, rfl, rfl, rfl, rfl, rfl, rfl, rfl, rfl, trivial⟩
 rintro _ _ J7 ⟨b11, d6, f6, rfl, rfl, hd6, hJ7⟩
 skip
 refine tT (tS (tS (tR (tM rfl rfl ?_))))
 refine tri_v (opv_neq rfl rfl) rfl ?_
 refine tN (tT ?_)
 refine tri_cond_dec rfl (fun x6 => ?_) (fun x6 => ?_)
 ·rw [if_neg x0, if_neg x1, if_neg x2, if_neg x3, if_neg x4, if_neg x5, if_pos x6]
  refine tS (tR ?_)
  refine tri_v (opv_loadA rfl rfl rfl) rfl ?_
  refine tri_v (opv_buildA rfl rfl) rfl ?_
  refine tM rfl rfl ?_
  refine tri_g (opg_store rfl rfl rfl rfl rfl rfl) rfl ?_
  rintro _ _ _ ⟨rfl, rfl⟩
  refine tri_g (opg_store rfl rfl rfl rfl rfl rfl) rfl ?_
  rintro _ _ _ ⟨rfl, rfl⟩
  refine tA rfl rfl (tN (tT (tri_ret (tri_then_ret ?_))))
  refine tri_inBlock_ret ?_
  refine tri_then_ret (tri_then_ret ?_)
  refine tri_inBlock_ret ?_
  refine tri_then_ret ?_
  refine tri_end A Suf.h rfl (.cons (rv_cellA rfl rfl rfl) (.cons (rv_cellA rfl rfl rfl) (.cons (rv_tmp rfl) .nil))) ?_
  exact ⟨a, cap, _, _, _, _, _, _, _, _, _, rfl, rfl, hs.mono (fun _ h => hJ7 (hJ6 (hJ5 (hJ4 (hJ3 (hJ2 (hJ1 (hJ0 (h))))))))), rfl, (fun _ h => hJ7 (hJ6 (hJ5 (hJ4 (hJ3 (hJ2 (hJ1 (hJ0 (h)))))))))⟩
 skip
 refine tri_skip (tT (tS (tR ?_)))
 refine tri_v (opv_loadA rfl rfl rfl) rfl ?_
 refine tri_g (opg_store rfl rfl rfl rfl rfl rfl) rfl ?_
 rintro _ _ _ ⟨rfl, rfl⟩
 refine tN (tT (tR (tM rfl rfl (tM rfl rfl ?_))))
 refine tri_v (opv_indexAddrA rfl rfl (by decide) (by decide)) rfl ?_
 refine tri_g (opg_store rfl rfl rfl rfl rfl rfl) rfl ?_
 rintro _ _ _ ⟨rfl, rfl⟩
 refine tN ?_
 refine tri_inBlock ?_
 refine tT ?_
 refine tri_drop ?_
 refine tR (tM rfl rfl ?_)
 refine tU rfl rfl (by omega) (by omega) rfl ?_
 refine tA rfl rfl (tN (tT ?_))
 refine tri_round ?_
 refine tS (tS (tR (tM rfl rfl ?_)))
 refine tri_v (opv_lss rfl rfl) rfl ?_
 refine tN (tT ?_)
 refine tri_cond_is rfl (by decide) ?_
 refine tri_skip (tT (tS (tri_block (tS ?_))))
 refine tri_cut (fun F' A' J => ∃ b11 d f, F' = [(1, .int .i64 n), (2, pt b2 0), (4, pt b4 0), (5, pt b5 0), (7, .slice a1 (R8.s16 ns n).length c1), (8, pt b8 0), (9, pt b9 0), (10, .int .i64 7), (11, pt b11 0), (12, .int .i64 p7.2.1), (13, .int .i64 p7.2.2)] ∧ A' = Box b11 [.slice d p7.1.length f, .int .i64 room] 26 :: Box b9 [.slice d6 p6.1.length f6, .int .i64 room] 26 :: Box b8 [.int .i64 p0.2.1, .int .i64 p1.2.1, .int .i64 p2.2.1, .int .i64 p3.2.1, .int .i64 p4.2.1, .int .i64 p5.2.1, .int .i64 p6.2.1, .int .i64 0, .int .i64 0] 117 :: Box b5 [.int .i64 0, .int .i64 0, .int .i64 0, .int .i64 0, .int .i64 0, .int .i64 0, .int .i64 0, .int .i64 0, .int .i64 0] 117 :: Box b4 [.slice none 0 0, .int .i64 0] 26 :: Box b2 [.slice a ns.length cap, .int .i64 room] 26 :: A ∧ StA J d f p7.1 ∧ J7 ⊆ J) ?_ ?_
 ·refine tri_draw [0, 1, 2, 3, 4, 5, 6, 7, 8, 9, 10, 11, 12, 13, 14, 15] rfl [] rfl mixed ?_
  refine th_take rfl rfl (by kernel_rfl)  (opv_loadA rfl rfl rfl) ?_
  refine th_take rfl rfl (by kernel_rfl)  (opv_move rfl) ?_
  refine th_take rfl rfl (by kernel_rfl)  (opv_move rfl) ?_
  refine th_take rfl rfl (by kernel_rfl)  (opv_quoE rfl rfl (by omega) (by omega) (by omega)) ?_
  refine th_take rfl rfl (by kernel_rfl)  (opv_move rfl) ?_
  refine th_take rfl rfl (by kernel_rfl)  (opv_remE rfl rfl (by omega) (by omega)) ?_
  refine th_two (j := 12) [6, 7, 8, 9, 10, 11, 13, 14, 15] (by kernel_rfl) rfl ?_ ?_
  ·refine (step_m rfl rfl (opg_call (xs := [_, _, _]) rfl (ref08_square (hq1.mono (fun _ h => hJ7 (hJ6 (hJ5 (hJ4 (hJ3 (hJ2 (hJ1 (h))))))))) rfl (by omega) (by omega) (by omega) (by omega))) ?_)
   rintro _ _ _ ⟨rfl, rfl, rfl⟩
   refine ⟨Suf.h, (fun _ h => h), ?_⟩
   skip
   refine th_two (j := 12) [7, 8, 9, 10, 11, 13, 14, 15] (by kernel_rfl) rfl ?_ ?_
   ·refine (step_m rfl rfl (opg_call (xs := [_, _]) rfl (ref06_putSq hd6 g6 e7)) ?_)
    rintro _ _ J8 ⟨d7, f7, rfl, hd7, rfl, hJ8⟩
    refine ⟨Suf.h, hJ8, ?_⟩
    refine th_take rfl rfl (by kernel_rfl)  (opv_move rfl) ?_
    refine th_take rfl rfl (by kernel_rfl)  (opv_extract rfl rfl) ?_
    refine th_take rfl rfl (by kernel_rfl)  (opv_extract rfl rfl) ?_
    refine th_take rfl rfl (by kernel_rfl)  (opv_extract rfl rfl) ?_
    refine th_one (by kernel_rfl) (step_m rfl rfl opg_alloc ?_)
    rintro _ _ _ ⟨b11, rfl, rfl, rfl⟩
    refine ⟨Suf.h, (by assumption), ?_⟩
    refine th_one (by kernel_rfl) (step_m rfl rfl (opg_store rfl rfl rfl rfl rfl rfl) ?_)
    rintro _ _ _ ⟨rfl, rfl⟩
    refine ⟨Suf.h, (by assumption), ?_⟩
    refine th_take rfl rfl (by kernel_rfl)  (opv_assign rfl) ?_
    refine th_take rfl rfl (by kernel_rfl)  (opv_assign rfl) ?_
    refine th_done (by kernel_rfl) ?_
    exact tri_cutEnd _ ⟨b11, d7, f7, rfl, rfl, hd7, hJ8⟩ ⟨rfl, rfl, rfl, rfl, rfl, rfl, rfl, rfl, rfl, rfl, rfl, trivial⟩
   ·refine (step_m rfl rfl opg_alloc ?_)
    rintro _ _ _ ⟨b11, rfl, rfl, rfl⟩
    refine ⟨Suf.h, (fun _ h => h), ?_⟩
    refine th_one (by kernel_rfl) (step_m rfl rfl (opg_call (xs := [_, _]) rfl (ref06_putSq hd6 g6 e7)) ?_)
    rintro _ _ J8 ⟨d7, f7, rfl, hd7, rfl, hJ8⟩
    refine ⟨Suf.h, hJ8, ?_⟩
    refine th_take rfl rfl (by kernel_rfl)  (opv_move rfl) ?_
    refine th_take rfl rfl (by kernel_rfl)  (opv_extract rfl rfl) ?_
    refine th_take rfl rfl (by kernel_rfl)  (opv_extract rfl rfl) ?_
    refine th_take rfl rfl (by kernel_rfl)  (opv_extract rfl rfl) ?_
    refine th_one (by kernel_rfl) (step_m rfl rfl (opg_store rfl rfl rfl rfl rfl rfl) ?_)
    rintro _ _ _ ⟨rfl, rfl⟩
    refine ⟨Suf.h, (by assumption), ?_⟩
    refine th_take rfl rfl (by kernel_rfl)  (opv_assign rfl) ?_
    refine th_take rfl rfl (by kernel_rfl)  (opv_assign rfl) ?_
    refine th_done (by kernel_rfl) ?_
    exact tri_cutEnd _ ⟨b11, d7, f7, rfl, rfl, hd7, hJ8⟩ ⟨rfl, rfl, rfl, rfl, rfl, rfl, rfl, rfl, rfl, rfl, rfl, trivial⟩
  ·refine (step_m rfl rfl opg_alloc ?_)
   rintro _ _ _ ⟨b11, rfl, rfl, rfl⟩
   refine ⟨Suf.h, (fun _ h => h), ?_⟩
   refine th_one (by kernel_rfl) (step_m rfl rfl (opg_call (xs := [_, _, _]) rfl (ref08_square (hq1.mono (fun _ h => hJ7 (hJ6 (hJ5 (hJ4 (hJ3 (hJ2 (hJ1 (h))))))))) rfl (by omega) (by omega) (by omega) (by omega))) ?_)
   rintro _ _ _ ⟨rfl, rfl, rfl⟩
   refine ⟨Suf.h, (fun _ h => h), ?_⟩
   skip
   refine th_one (by kernel_rfl) (step_m rfl rfl (opg_call (xs := [_, _]) rfl (ref06_putSq hd6 g6 e7)) ?_)
   rintro _ _ J8 ⟨d7, f7, rfl, hd7, rfl, hJ8⟩
   refine ⟨Suf.h, hJ8, ?_⟩
   refine th_take rfl rfl (by kernel_rfl)  (opv_move rfl) ?_
   refine th_take rfl rfl (by kernel_rfl)  (opv_extract rfl rfl) ?_
   refine th_take rfl rfl (by kernel_rfl)  (opv_extract rfl rfl) ?_
   refine th_take rfl rfl (by kernel_rfl)  (opv_extract rfl rfl) ?_
   refine th_one (by kernel_rfl) (step_m rfl rfl (opg_store rfl rfl rfl rfl rfl rfl) ?_)
   rintro _ _ _ ⟨rfl, rfl⟩
   refine ⟨Suf.h, (by assumption), ?_⟩
   refine th_take rfl rfl (by kernel_rfl)  (opv_assign rfl) ?_
   refine th_take rfl rfl (by kernel_rfl)  (opv_assign rfl) ?_
   refine th_done (by kernel_rfl) ?_
   exact tri_cutEnd _ ⟨b11, d7, f7, rfl, rfl, hd7, hJ8⟩ ⟨rfl, rfl, rfl, rfl, rfl, rfl, rfl, rfl, rfl, rfl, rfl, trivial⟩
 rintro _ _ J8 ⟨b11, d7, f7, rfl, rfl, hd7, hJ8⟩
 skip
 refine tT (tS (tS (tR (tM rfl rfl ?_))))
 refine tri_v (opv_neq rfl rfl) rfl ?_
 refine tN (tT ?_)
 refine tri_cond_dec rfl (fun x7 => ?_) (fun x7 => ?_)
 ·rw [if_neg x0, if_neg x1, if_neg x2, if_neg x3, if_neg x4, if_neg x5, if_neg x6, if_pos x7]
  refine tS (tR ?_)
  refine tri_v (opv_loadA rfl rfl rfl) rfl ?_
  refine tri_v (opv_buildA rfl rfl) rfl ?_
  refine tM rfl rfl ?_
  refine tri_g (opg_store rfl rfl rfl rfl rfl rfl) rfl ?_
  rintro _ _ _ ⟨rfl, rfl⟩
  refine tri_g (opg_store rfl rfl rfl rfl rfl rfl) rfl ?_
  rintro _ _ _ ⟨rfl, rfl⟩
  refine tA rfl rfl (tN (tT (tri_ret (tri_then_ret ?_))))
  refine tri_inBlock_ret ?_
  refine tri_then_ret (tri_then_ret ?_)
  refine tri_inBlock_ret ?_
  refine tri_then_ret ?_
  refine tri_end A Suf.h rfl (.cons (rv_cellA rfl rfl rfl) (.cons (rv_cellA rfl rfl rfl) (.cons (rv_tmp rfl) .nil))) ?_
  exact ⟨a, cap, _, _, _, _, _, _, _, _, _, rfl, rfl, hs.mono (fun _ h => hJ8 (hJ7 (hJ6 (hJ5 (hJ4 (hJ3 (hJ2 (hJ1 (hJ0 (h)))))))))), rfl, (fun _ h => hJ8 (hJ7 (hJ6 (hJ5 (hJ4 (hJ3 (hJ2 (hJ1 (hJ0 (h))))))))))⟩
 skip
 refine tri_skip (tT (tS (tR ?_)))
 refine tri_v (opv_loadA rfl rfl rfl) rfl ?_
 refine tri_g (opg_store rfl rfl rfl rfl rfl rfl) rfl ?_
 rintro _ _ _ ⟨rfl, rfl⟩
 refine tN (tT (tR (tM rfl rfl (tM rfl rfl ?_))))
 refine tri_v (opv_indexAddrA rfl rfl (by decide) (by decide)) rfl ?_
 refine tri_g (opg_store rfl rfl rfl rfl rfl rfl) rfl ?_
 rintro _ _ _ ⟨rfl, rfl⟩
 refine tN ?_
 refine tri_inBlock ?_
 refine tT ?_
 refine tri_drop ?_
 refine tR (tM rfl rfl ?_)
 refine tU rfl rfl (by omega) (by omega) rfl ?_
 refine tA rfl rfl (tN (tT ?_))
 refine tri_round ?_
 refine tS (tS (tR (tM rfl rfl ?_)))
 refine tri_v (opv_lss rfl rfl) rfl ?_
 refine tN (tT ?_)
 refine tri_cond_is rfl (by decide) ?_
 refine tri_skip (tT (tS (tri_block (tS ?_))))
 refine tri_cut (fun F' A' J => ∃ b11 d f, F' = [(1, .int .i64 n), (2, pt b2 0), (4, pt b4 0), (5, pt b5 0), (7, .slice a1 (R8.s16 ns n).length c1), (8, pt b8 0), (9, pt b9 0), (10, .int .i64 8), (11, pt b11 0), (12, .int .i64 p8.2.1), (13, .int .i64 p8.2.2)] ∧ A' = Box b11 [.slice d p8.1.length f, .int .i64 room] 26 :: Box b9 [.slice d7 p7.1.length f7, .int .i64 room] 26 :: Box b8 [.int .i64 p0.2.1, .int .i64 p1.2.1, .int .i64 p2.2.1, .int .i64 p3.2.1, .int .i64 p4.2.1, .int .i64 p5.2.1, .int .i64 p6.2.1, .int .i64 p7.2.1, .int .i64 0] 117 :: Box b5 [.int .i64 0, .int .i64 0, .int .i64 0, .int .i64 0, .int .i64 0, .int .i64 0, .int .i64 0, .int .i64 0, .int .i64 0] 117 :: Box b4 [.slice none 0 0, .int .i64 0] 26 :: Box b2 [.slice a ns.length cap, .int .i64 room] 26 :: A ∧ StA J d f p8.1 ∧ J8 ⊆ J) ?_ ?_
 ·refine tri_draw [0, 1, 2, 3, 4, 5, 6, 7, 8, 9, 10, 11, 12, 13, 14, 15] rfl [] rfl mixed ?_
  refine th_take rfl rfl (by kernel_rfl)  (opv_loadA rfl rfl rfl) ?_
  refine th_take rfl rfl (by kernel_rfl)  (opv_move rfl) ?_
  refine th_take rfl rfl (by kernel_rfl)  (opv_move rfl) ?_
  refine th_take rfl rfl (by kernel_rfl)  (opv_quoE rfl rfl (by omega) (by omega) (by omega)) ?_
  refine th_take rfl rfl (by kernel_rfl)  (opv_move rfl) ?_
  refine th_take rfl rfl (by kernel_rfl)  (opv_remE rfl rfl (by omega) (by omega)) ?_
  refine th_two (j := 12) [6, 7, 8, 9, 10, 11, 13, 14, 15] (by kernel_rfl) rfl ?_ ?_
  ·refine (step_m rfl rfl (opg_call (xs := [_, _, _]) rfl (ref08_square (hq1.mono (fun _ h => hJ8 (hJ7 (hJ6 (hJ5 (hJ4 (hJ3 (hJ2 (hJ1 (h)))))))))) rfl (by omega) (by omega) (by omega) (by omega))) ?_)
   rintro _ _ _ ⟨rfl, rfl, rfl⟩
   refine ⟨Suf.h, (fun _ h => h), ?_⟩
   skip
   refine th_two (j := 12) [7, 8, 9, 10, 11, 13, 14, 15] (by kernel_rfl) rfl ?_ ?_
   ·refine (step_m rfl rfl (opg_call (xs := [_, _]) rfl (ref06_putSq hd7 g7 e8)) ?_)
    rintro _ _ J9 ⟨d8, f8, rfl, hd8, rfl, hJ9⟩
    refine ⟨Suf.h, hJ9, ?_⟩
    refine th_take rfl rfl (by kernel_rfl)  (opv_move rfl) ?_
    refine th_take rfl rfl (by kernel_rfl)  (opv_extract rfl rfl) ?_
    refine th_take rfl rfl (by kernel_rfl)  (opv_extract rfl rfl) ?_
    refine th_take rfl rfl (by kernel_rfl)  (opv_extract rfl rfl) ?_
    refine th_one (by kernel_rfl) (step_m rfl rfl opg_alloc ?_)
    rintro _ _ _ ⟨b11, rfl, rfl, rfl⟩
    refine ⟨Suf.h, (by assumption), ?_⟩
    refine th_one (by kernel_rfl) (step_m rfl rfl (opg_store rfl rfl rfl rfl rfl rfl) ?_)
    rintro _ _ _ ⟨rfl, rfl⟩
    refine ⟨Suf.h, (by assumption), ?_⟩
    refine th_take rfl rfl (by kernel_rfl)  (opv_assign rfl) ?_
    refine th_take rfl rfl (by kernel_rfl)  (opv_assign rfl) ?_
    refine th_done (by kernel_rfl) ?_
    exact tri_cutEnd _ ⟨b11, d8, f8, rfl, rfl, hd8, hJ9⟩ ⟨rfl, rfl, rfl, rfl, rfl, rfl, rfl, rfl, rfl, rfl, rfl, trivial⟩
   ·refine (step_m rfl rfl opg_alloc ?_)
    rintro _ _ _ ⟨b11, rfl, rfl, rfl⟩
    refine ⟨Suf.h, (fun _ h => h), ?_⟩
    refine th_one (by kernel_rfl) (step_m rfl rfl (opg_call (xs := [_, _]) rfl (ref06_putSq hd7 g7 e8)) ?_)
    rintro _ _ J9 ⟨d8, f8, rfl, hd8, rfl, hJ9⟩
    refine ⟨Suf.h, hJ9, ?_⟩
    refine th_take rfl rfl (by kernel_rfl)  (opv_move rfl) ?_
    refine th_take rfl rfl (by kernel_rfl)  (opv_extract rfl rfl) ?_
    refine th_take rfl rfl (by kernel_rfl)  (opv_extract rfl rfl) ?_
    refine th_take rfl rfl (by kernel_rfl)  (opv_extract rfl rfl) ?_
    refine th_one (by kernel_rfl) (step_m rfl rfl (opg_store rfl rfl rfl rfl rfl rfl) ?_)
    rintro _ _ _ ⟨rfl, rfl⟩
    refine ⟨Suf.h, (by assumption), ?_⟩
    refine th_take rfl rfl (by kernel_rfl)  (opv_assign rfl) ?_
    refine th_take rfl rfl (by kernel_rfl)  (opv_assign rfl) ?_
    refine th_done (by kernel_rfl) ?_
    exact tri_cutEnd _ ⟨b11, d8, f8, rfl, rfl, hd8, hJ9⟩ ⟨rfl, rfl, rfl, rfl, rfl, rfl, rfl, rfl, rfl, rfl, rfl, trivial⟩
  ·refine (step_m rfl rfl opg_alloc ?_)
   rintro _ _ _ ⟨b11, rfl, rfl, rfl⟩
   refine ⟨Suf.h, (fun _ h => h), ?_⟩
   refine th_one (by kernel_rfl) (step_m rfl rfl (opg_call (xs := [_, _, _]) rfl (ref08_square (hq1.mono (fun _ h => hJ8 (hJ7 (hJ6 (hJ5 (hJ4 (hJ3 (hJ2 (hJ1 (h)))))))))) rfl (by omega) (by omega) (by omega) (by omega))) ?_)
   rintro _ _ _ ⟨rfl, rfl, rfl⟩
   refine ⟨Suf.h, (fun _ h => h), ?_⟩
   skip
   refine th_one (by kernel_rfl) (step_m rfl rfl (opg_call (xs := [_, _]) rfl (ref06_putSq hd7 g7 e8)) ?_)
   rintro _ _ J9 ⟨d8, f8, rfl, hd8, rfl, hJ9⟩
   refine ⟨Suf.h, hJ9, ?_⟩
   refine th_take rfl rfl (by kernel_rfl)  (opv_move rfl) ?_
   refine th_take rfl rfl (by kernel_rfl)  (opv_extract rfl rfl) ?_
   refine th_take rfl rfl (by kernel_rfl)  (opv_extract rfl rfl) ?_
   refine th_take rfl rfl (by kernel_rfl)  (opv_extract rfl rfl) ?_
   refine th_one (by kernel_rfl) (step_m rfl rfl (opg_store rfl rfl rfl rfl rfl rfl) ?_)
   rintro _ _ _ ⟨rfl, rfl⟩
   refine ⟨Suf.h, (by assumption), ?_⟩
   refine th_take rfl rfl (by kernel_rfl)  (opv_assign rfl) ?_
   refine th_take rfl rfl (by kernel_rfl)  (opv_assign rfl) ?_
   refine th_done (by kernel_rfl) ?_
   exact tri_cutEnd _ ⟨b11, d8, f8, rfl, rfl, hd8, hJ9⟩ ⟨rfl, rfl, rfl, rfl, rfl, rfl, rfl, rfl, rfl, rfl, rfl, trivial⟩
 rintro _ _ J9 ⟨b11, d8, f8, rfl, rfl, hd8, hJ9⟩
 skip
 refine tT (tS (tS (tR (tM rfl rfl ?_))))
 refine tri_v (opv_neq rfl rfl) rfl ?_
 refine tN (tT ?_)
 refine tri_cond_dec rfl (fun x8 => ?_) (fun x8 => ?_)
 ·rw [if_neg x0, if_neg x1, if_neg x2, if_neg x3, if_neg x4, if_neg x5, if_neg x6, if_neg x7, if_pos x8]
  refine tS (tR ?_)
  refine tri_v (opv_loadA rfl rfl rfl) rfl ?_
  refine tri_v (opv_buildA rfl rfl) rfl ?_
  refine tM rfl rfl ?_
  refine tri_g (opg_store rfl rfl rfl rfl rfl rfl) rfl ?_
  rintro _ _ _ ⟨rfl, rfl⟩
  refine tri_g (opg_store rfl rfl rfl rfl rfl rfl) rfl ?_
  rintro _ _ _ ⟨rfl, rfl⟩
  refine tA rfl rfl (tN (tT (tri_ret (tri_then_ret ?_))))
  refine tri_inBlock_ret ?_
  refine tri_then_ret (tri_then_ret ?_)
  refine tri_inBlock_ret ?_
  refine tri_then_ret ?_
  refine tri_end A Suf.h rfl (.cons (rv_cellA rfl rfl rfl) (.cons (rv_cellA rfl rfl rfl) (.cons (rv_tmp rfl) .nil))) ?_
  exact ⟨a, cap, _, _, _, _, _, _, _, _, _, rfl, rfl, hs.mono (fun _ h => hJ9 (hJ8 (hJ7 (hJ6 (hJ5 (hJ4 (hJ3 (hJ2 (hJ1 (hJ0 (h))))))))))), rfl, (fun _ h => hJ9 (hJ8 (hJ7 (hJ6 (hJ5 (hJ4 (hJ3 (hJ2 (hJ1 (hJ0 (h)))))))))))⟩
 skip
 refine tri_skip (tT (tS (tR ?_)))
 refine tri_v (opv_loadA rfl rfl rfl) rfl ?_
 refine tri_g (opg_store rfl rfl rfl rfl rfl rfl) rfl ?_
 rintro _ _ _ ⟨rfl, rfl⟩
 refine tN (tT (tR (tM rfl rfl (tM rfl rfl ?_))))
 refine tri_v (opv_indexAddrA rfl rfl (by decide) (by decide)) rfl ?_
 refine tri_g (opg_store rfl rfl rfl rfl rfl rfl) rfl ?_
 rintro _ _ _ ⟨rfl, rfl⟩
 refine tN ?_
 refine tri_inBlock ?_
 refine tT ?_
 refine tri_drop ?_
 rw [if_neg x0, if_neg x1, if_neg x2, if_neg x3, if_neg x4, if_neg x5, if_neg x6, if_neg x7, if_neg x8]
 refine tR (tM rfl rfl ?_)
 refine tU rfl rfl (by omega) (by omega) rfl ?_
 refine tA rfl rfl (tN (tT ?_))
 refine tri_round ?_
 refine tS (tS (tR (tM rfl rfl ?_)))
 refine tri_v (opv_lss rfl rfl) rfl ?_
 refine tN (tT ?_)
 refine tri_cond_not rfl (by decide) ?_
 refine tri_exit ?_
 refine tri_then_exit ?_
 refine tri_then_exit ?_
 refine tri_inBlock_hit rfl ?_
 refine tT (tS ?_)
 refine tri_perm (A := ?a1_0 :: ?a1_1 :: ?a1_2 :: ?a1_3 :: ?T1) (B := ?a1_2 :: ?a1_3 :: ?a1_0 :: ?a1_1 :: ?T1) (by exact permL [2, 3, 0, 1] [?a1_0, ?a1_1, ?a1_2, ?a1_3] ?T1 (by decide) rfl) ?_
 skip
 refine tri_draw [0, 1, 2, 3, 4] rfl [_, _] rfl mixed ?_
 refine th_take rfl rfl (by kernel_rfl)  (opv_loadA rfl rfl rfl) ?_
 refine th_take rfl rfl (by kernel_rfl)  (opv_loadA rfl rfl rfl) ?_
 refine th_one (by kernel_rfl) (step_m rfl rfl (opg_store rfl rfl rfl rfl rfl rfl) ?_)
 rintro _ _ _ ⟨rfl, rfl⟩
 refine ⟨Suf.h, (fun _ h => h), ?_⟩
 refine th_one (by kernel_rfl) (step_m rfl rfl (opg_store rfl rfl rfl rfl rfl rfl) ?_)
 rintro _ _ _ ⟨rfl, rfl⟩
 refine ⟨Suf.h, (fun _ h => h), ?_⟩
 refine th_take rfl rfl (by kernel_rfl)  (opv_assign rfl) ?_
 refine th_done (by kernel_rfl) ?_
 refine tT (tri_ret ?_)
 refine tri_end A Suf.h rfl (.cons (rv_cellA rfl rfl rfl) (.cons (rv_cellA rfl rfl rfl) (.cons (rv_tmp rfl) .nil))) ?_
 exact ⟨d8, f8, _, _, _, _, _, _, _, _, _, rfl, rfl, hd8, rfl, (fun _ h => hJ9 (hJ8 (hJ7 (hJ6 (hJ5 (hJ4 (hJ3 (hJ2 (hJ1 (hJ0 h))))))))))⟩
end Go.GL

set_option linter.unusedVariables false
namespace Go.GL
open Go.Proofs
attribute [local irreducible] wpList Code.wp Exit.then Exit.inBlock Ends Tri TriH OpV OpG FnC epf wpAnyH
variable {A : List Asrt} {I : List Chunk}
set_option maxHeartbeats 2000000 in
set_option maxRecDepth 100000 in
theorem base_sixteen {ns : List Node} {a : Option Addr} {cap bx : Nat} {room n : Int} {mv : Value} (hk : R8.Kid ns n) :
  FnC Try.prog 84 [.agg [pt bx 0].toArray, .int .i64 n].toArray (Box bx [.slice a ns.length cap, .int .i64 room, mv] 99 :: Row a cap ns.length 35 6 (encs ns) :: A) I (fun v A' I' => v = .agg (ints (R8.s16 ns n)).toArray ∧ A' = (Box bx [.slice a ns.length cap, .int .i64 room, mv] 99 :: Row a cap ns.length 35 6 (encs ns) :: A) ∧ I = I') := by
 obtain ⟨⟨hn0, hn1⟩, ⟨ha0, ha1⟩, ⟨hb0, hb1⟩, ⟨hc0, hc1⟩, ⟨hd0, hd1⟩⟩ := hk
 unfold R6.nd at ha0 ha1 hb0 hb1 hc0 hc1 hd0 hd1
 skip
 refine fn_enter2 Try.func84 rfl Try.ntmps84 rfl fun w0 => ?_
 refine tS (tR ?_)
 refine tri_g (opg_box_agg rfl) rfl ?_
 rintro _ _ _ ⟨b2, rfl, rfl, rfl⟩
 refine tri_g opg_alloc rfl ?_
 rintro _ _ _ ⟨b4, rfl, rfl, rfl⟩
 refine tN (tT (tS (tS (tR ?_))))
 refine tri_v (opv_fieldAddr rfl rfl) rfl ?_
 refine tri_v (opv_load1 rfl rfl rfl) rfl ?_
 refine tri_v (opv_nilCheck rfl) rfl ?_
 refine tri_v (opv_fieldAddr rfl rfl) rfl ?_
 refine tri_v (opv_fieldAddr rfl rfl) rfl ?_
 refine tri_v (opv_load1 rfl rfl rfl) rfl ?_
 refine tM rfl rfl ?_
 refine tri_v (opv_indexAddrR rfl rfl (by omega) (by omega)) rfl ?_
 refine tri_v (opv_fieldAddrR rfl (by omega) rfl) rfl ?_
 refine tri_v (opv_loadRXA rfl rfl (by omega) rfl rfl rfl) rfl ?_
 refine tM rfl rfl (tN (tT (tri_block ?_)))
 refine tri_rounds 5 ?_
 refine tri_round ?_
 refine tS (tR ?_)
 refine tri_v (opv_lss rfl rfl) rfl ?_
 refine tN (tT (tS ?_))
 refine tri_cond_is rfl (by decide) ?_
 refine tri_skip (tT (tS (tri_block (tS (tR (tM rfl rfl ?_))))))
 refine tri_v (opv_index rfl rfl (by decide) (by decide) rfl rfl) rfl ?_
 refine tA rfl rfl (tA rfl rfl (tN (tT (tS (tR ?_)))))
 refine tri_v (opv_fieldAddr rfl rfl) rfl ?_
 refine tri_v (opv_load1 rfl rfl rfl) rfl ?_
 refine tri_v (opv_nilCheck rfl) rfl ?_
 refine tri_v (opv_fieldAddr rfl rfl) rfl ?_
 refine tri_v (opv_fieldAddr rfl rfl) rfl ?_
 refine tri_v (opv_load1 rfl rfl rfl) rfl ?_
 refine tM rfl rfl ?_
 refine tri_v (opv_indexAddrR rfl rfl (by omega) (by omega)) rfl ?_
 refine tri_v (opv_fieldAddrR rfl (by omega) rfl) rfl ?_
 refine tri_v (opv_loadRXA rfl rfl (by omega) rfl rfl rfl) rfl ?_
 refine tM rfl rfl (tN (tT (tri_block ?_)))
 refine tri_rounds 5 ?_
 refine tri_round ?_
 refine tS (tR ?_)
 refine tri_v (opv_lss rfl rfl) rfl ?_
 refine tN (tT (tS ?_))
 refine tri_cond_is rfl (by decide) ?_
 refine tri_skip (tT (tS (tri_block (tS (tR (tM rfl rfl ?_))))))
 refine tri_v (opv_index rfl rfl (by decide) (by decide) rfl rfl) rfl ?_
 refine tA rfl rfl (tA rfl rfl (tN (tT (tR (tM rfl rfl ?_)))))
 refine tri_v (opv_quoE rfl rfl (by omega) (by omega) (by omega)) rfl ?_
 refine tri_v (opv_mul rfl rfl (w64 (by omega) (by omega))) rfl ?_
 refine tM rfl rfl ?_
 refine tri_v (opv_quoE rfl rfl (by omega) (by omega) (by omega)) rfl ?_
 refine tU rfl rfl (by omega) (by omega) rfl ?_
 refine tri_v (opv_mul rfl rfl (w64 (by omega) (by omega))) rfl ?_
 refine tM rfl rfl ?_
 refine tri_v (opv_remE rfl rfl (by omega) (by omega)) rfl ?_
 refine tri_v (opv_mul rfl rfl (w64 (by omega) (by omega))) rfl ?_
 refine tU rfl rfl (by omega) (by omega) rfl ?_
 refine tM rfl rfl ?_
 refine tri_v (opv_remE rfl rfl (by omega) (by omega)) rfl ?_
 refine tU rfl rfl (by omega) (by omega) rfl ?_
 refine tM rfl rfl ?_
 refine tri_v (opv_indexAddrA rfl rfl (by decide) (by decide)) rfl ?_
 refine tri_g (opg_store rfl rfl rfl rfl rfl rfl) rfl ?_
 rintro _ _ _ ⟨rfl, rfl⟩
 refine tN ?_
 refine tri_inBlock ?_
 refine tT (tR ?_)
 refine tU rfl rfl (by omega) (by omega) rfl ?_
 refine tM rfl rfl (tN (tT ?_))
 refine tri_round ?_
 refine tS (tR ?_)
 refine tri_v (opv_lss rfl rfl) rfl ?_
 refine tN (tT (tS ?_))
 skip
 refine tri_cond_is rfl (by decide) ?_
 refine tri_skip (tT (tS (tri_block (tS (tR (tM rfl rfl ?_))))))
 refine tri_v (opv_index rfl rfl (by decide) (by decide) rfl rfl) rfl ?_
 refine tA rfl rfl (tA rfl rfl (tN (tT (tR (tM rfl rfl ?_)))))
 refine tri_v (opv_quoE rfl rfl (by omega) (by omega) (by omega)) rfl ?_
 refine tri_v (opv_mul rfl rfl (w64 (by omega) (by omega))) rfl ?_
 refine tM rfl rfl ?_
 refine tri_v (opv_quoE rfl rfl (by omega) (by omega) (by omega)) rfl ?_
 refine tU rfl rfl (by omega) (by omega) rfl ?_
 refine tri_v (opv_mul rfl rfl (w64 (by omega) (by omega))) rfl ?_
 refine tM rfl rfl ?_
 refine tri_v (opv_remE rfl rfl (by omega) (by omega)) rfl ?_
 refine tri_v (opv_mul rfl rfl (w64 (by omega) (by omega))) rfl ?_
 refine tU rfl rfl (by omega) (by omega) rfl ?_
 refine tM rfl rfl ?_
 refine tri_v (opv_remE rfl rfl (by omega) (by omega)) rfl ?_
 refine tU rfl rfl (by omega) (by omega) rfl ?_
 refine tM rfl rfl ?_
 refine tri_v (opv_indexAddrA rfl rfl (by decide) (by decide)) rfl ?_
 refine tri_g (opg_store rfl rfl rfl rfl rfl rfl) rfl ?_
 rintro _ _ _ ⟨rfl, rfl⟩
 refine tN ?_
 refine tri_inBlock ?_
 refine tT (tR ?_)
 refine tU rfl rfl (by omega) (by omega) rfl ?_
 refine tM rfl rfl (tN (tT ?_))
 refine tri_round ?_
 refine tS (tR ?_)
 refine tri_v (opv_lss rfl rfl) rfl ?_
 refine tN (tT (tS ?_))
 skip
 refine tri_cond_is rfl (by decide) ?_
 refine tri_skip (tT (tS (tri_block (tS (tR (tM rfl rfl ?_))))))
 refine tri_v (opv_index rfl rfl (by decide) (by decide) rfl rfl) rfl ?_
 refine tA rfl rfl (tA rfl rfl (tN (tT (tR (tM rfl rfl ?_)))))
 refine tri_v (opv_quoE rfl rfl (by omega) (by omega) (by omega)) rfl ?_
 refine tri_v (opv_mul rfl rfl (w64 (by omega) (by omega))) rfl ?_
 refine tM rfl rfl ?_
 refine tri_v (opv_quoE rfl rfl (by omega) (by omega) (by omega)) rfl ?_
 refine tU rfl rfl (by omega) (by omega) rfl ?_
 refine tri_v (opv_mul rfl rfl (w64 (by omega) (by omega))) rfl ?_
 refine tM rfl rfl ?_
 refine tri_v (opv_remE rfl rfl (by omega) (by omega)) rfl ?_
 refine tri_v (opv_mul rfl rfl (w64 (by omega) (by omega))) rfl ?_
 refine tU rfl rfl (by omega) (by omega) rfl ?_
 refine tM rfl rfl ?_
 refine tri_v (opv_remE rfl rfl (by omega) (by omega)) rfl ?_
 refine tU rfl rfl (by omega) (by omega) rfl ?_
 refine tM rfl rfl ?_
 refine tri_v (opv_indexAddrA rfl rfl (by decide) (by decide)) rfl ?_
 refine tri_g (opg_store rfl rfl rfl rfl rfl rfl) rfl ?_
 rintro _ _ _ ⟨rfl, rfl⟩
 refine tN ?_
 refine tri_inBlock ?_
 refine tT (tR ?_)
 refine tU rfl rfl (by omega) (by omega) rfl ?_
 refine tM rfl rfl (tN (tT ?_))
 refine tri_round ?_
 refine tS (tR ?_)
 refine tri_v (opv_lss rfl rfl) rfl ?_
 refine tN (tT (tS ?_))
 skip
 refine tri_cond_is rfl (by decide) ?_
 refine tri_skip (tT (tS (tri_block (tS (tR (tM rfl rfl ?_))))))
 refine tri_v (opv_index rfl rfl (by decide) (by decide) rfl rfl) rfl ?_
 refine tA rfl rfl (tA rfl rfl (tN (tT (tR (tM rfl rfl ?_)))))
 refine tri_v (opv_quoE rfl rfl (by omega) (by omega) (by omega)) rfl ?_
 refine tri_v (opv_mul rfl rfl (w64 (by omega) (by omega))) rfl ?_
 refine tM rfl rfl ?_
 refine tri_v (opv_quoE rfl rfl (by omega) (by omega) (by omega)) rfl ?_
 refine tU rfl rfl (by omega) (by omega) rfl ?_
 refine tri_v (opv_mul rfl rfl (w64 (by omega) (by omega))) rfl ?_
 refine tM rfl rfl ?_
 refine tri_v (opv_remE rfl rfl (by omega) (by omega)) rfl ?_
 refine tri_v (opv_mul rfl rfl (w64 (by omega) (by omega))) rfl ?_
 refine tU rfl rfl (by omega) (by omega) rfl ?_
 refine tM rfl rfl ?_
 refine tri_v (opv_remE rfl rfl (by omega) (by omega)) rfl ?_
 refine tU rfl rfl (by omega) (by omega) rfl ?_
 refine tM rfl rfl ?_
 refine tri_v (opv_indexAddrA rfl rfl (by decide) (by decide)) rfl ?_
 refine tri_g (opg_store rfl rfl rfl rfl rfl rfl) rfl ?_
 rintro _ _ _ ⟨rfl, rfl⟩
 refine tN ?_
 refine tri_inBlock ?_
 refine tT (tR ?_)
 refine tU rfl rfl (by omega) (by omega) rfl ?_
 refine tM rfl rfl (tN (tT ?_))
 refine tri_round ?_
 refine tS (tR ?_)
 refine tri_v (opv_lss rfl rfl) rfl ?_
 refine tN (tT (tS ?_))
 refine tri_cond_not rfl (by decide) ?_
 refine tri_exit ?_
 refine tri_then_exit ?_
 refine tri_then_exit ?_
 refine tri_inBlock_hit rfl ?_
 refine tri_inBlock ?_
 refine tT (tR ?_)
 refine tU rfl rfl (by omega) (by omega) rfl ?_
 refine tM rfl rfl (tN (tT ?_))
 refine tri_round ?_
 refine tS (tR ?_)
 refine tri_v (opv_lss rfl rfl) rfl ?_
 refine tN (tT (tS ?_))
 refine tri_cond_is rfl (by decide) ?_
 refine tri_skip (tT (tS (tri_block (tS (tR (tM rfl rfl ?_))))))
 refine tri_v (opv_index rfl rfl (by decide) (by decide) rfl rfl) rfl ?_
 refine tA rfl rfl (tA rfl rfl (tN (tT (tS (tR ?_)))))
 refine tri_v (opv_fieldAddr rfl rfl) rfl ?_
 refine tri_v (opv_load1 rfl rfl rfl) rfl ?_
 refine tri_v (opv_nilCheck rfl) rfl ?_
 refine tri_v (opv_fieldAddr rfl rfl) rfl ?_
 refine tri_v (opv_fieldAddr rfl rfl) rfl ?_
 refine tri_v (opv_load1 rfl rfl rfl) rfl ?_
 refine tM rfl rfl ?_
 refine tri_v (opv_indexAddrR rfl rfl (by omega) (by omega)) rfl ?_
 refine tri_v (opv_fieldAddrR rfl (by omega) rfl) rfl ?_
 refine tri_v (opv_loadRXA rfl rfl (by omega) rfl rfl rfl) rfl ?_
 refine tM rfl rfl (tN (tT (tri_block ?_)))
 refine tri_rounds 5 ?_
 refine tri_round ?_
 refine tS (tR ?_)
 refine tri_v (opv_lss rfl rfl) rfl ?_
 refine tN (tT (tS ?_))
 refine tri_cond_is rfl (by decide) ?_
 refine tri_skip (tT (tS (tri_block (tS (tR (tM rfl rfl ?_))))))
 refine tri_v (opv_index rfl rfl (by decide) (by decide) rfl rfl) rfl ?_
 refine tA rfl rfl (tA rfl rfl (tN (tT (tR (tM rfl rfl ?_)))))
 refine tri_v (opv_quoE rfl rfl (by omega) (by omega) (by omega)) rfl ?_
 refine tri_v (opv_mul rfl rfl (w64 (by omega) (by omega))) rfl ?_
 refine tM rfl rfl ?_
 refine tri_v (opv_quoE rfl rfl (by omega) (by omega) (by omega)) rfl ?_
 refine tU rfl rfl (by omega) (by omega) rfl ?_
 refine tri_v (opv_mul rfl rfl (w64 (by omega) (by omega))) rfl ?_
 refine tM rfl rfl ?_
 refine tri_v (opv_remE rfl rfl (by omega) (by omega)) rfl ?_
 refine tri_v (opv_mul rfl rfl (w64 (by omega) (by omega))) rfl ?_
 refine tU rfl rfl (by omega) (by omega) rfl ?_
 refine tM rfl rfl ?_
 refine tri_v (opv_remE rfl rfl (by omega) (by omega)) rfl ?_
 refine tU rfl rfl (by omega) (by omega) rfl ?_
 refine tM rfl rfl ?_
 refine tri_v (opv_indexAddrA rfl rfl (by decide) (by decide)) rfl ?_
 refine tri_g (opg_store rfl rfl rfl rfl rfl rfl) rfl ?_
 rintro _ _ _ ⟨rfl, rfl⟩
 refine tN ?_
 refine tri_inBlock ?_
 refine tT (tR ?_)
 refine tU rfl rfl (by omega) (by omega) rfl ?_
 refine tM rfl rfl (tN (tT ?_))
 refine tri_round ?_
 refine tS (tR ?_)
 refine tri_v (opv_lss rfl rfl) rfl ?_
 refine tN (tT (tS ?_))
 skip
 refine tri_cond_is rfl (by decide) ?_
 refine tri_skip (tT (tS (tri_block (tS (tR (tM rfl rfl ?_))))))
 refine tri_v (opv_index rfl rfl (by decide) (by decide) rfl rfl) rfl ?_
 refine tA rfl rfl (tA rfl rfl (tN (tT (tR (tM rfl rfl ?_)))))
 refine tri_v (opv_quoE rfl rfl (by omega) (by omega) (by omega)) rfl ?_
 refine tri_v (opv_mul rfl rfl (w64 (by omega) (by omega))) rfl ?_
 refine tM rfl rfl ?_
 refine tri_v (opv_quoE rfl rfl (by omega) (by omega) (by omega)) rfl ?_
 refine tU rfl rfl (by omega) (by omega) rfl ?_
 refine tri_v (opv_mul rfl rfl (w64 (by omega) (by omega))) rfl ?_
 refine tM rfl rfl ?_
 refine tri_v (opv_remE rfl rfl (by omega) (by omega)) rfl ?_
 refine tri_v (opv_mul rfl rfl (w64 (by omega) (by omega))) rfl ?_
 refine tU rfl rfl (by omega) (by omega) rfl ?_
 refine tM rfl rfl ?_
 refine tri_v (opv_remE rfl rfl (by omega) (by omega)) rfl ?_
 refine tU rfl rfl (by omega) (by omega) rfl ?_
 refine tM rfl rfl ?_
 refine tri_v (opv_indexAddrA rfl rfl (by decide) (by decide)) rfl ?_
 refine tri_g (opg_store rfl rfl rfl rfl rfl rfl) rfl ?_
 rintro _ _ _ ⟨rfl, rfl⟩
 refine tN ?_
 refine tri_inBlock ?_
 refine tT (tR ?_)
 refine tU rfl rfl (by omega) (by omega) rfl ?_
 refine tM rfl rfl (tN (tT ?_))
 refine tri_round ?_
 refine tS (tR ?_)
 refine tri_v (opv_lss rfl rfl) rfl ?_
 refine tN (tT (tS ?_))
 skip
 refine tri_cond_is rfl (by decide) ?_
 refine tri_skip (tT (tS (tri_block (tS (tR (tM rfl rfl ?_))))))
 refine tri_v (opv_index rfl rfl (by decide) (by decide) rfl rfl) rfl ?_
 refine tA rfl rfl (tA rfl rfl (tN (tT (tR (tM rfl rfl ?_)))))
 refine tri_v (opv_quoE rfl rfl (by omega) (by omega) (by omega)) rfl ?_
 refine tri_v (opv_mul rfl rfl (w64 (by omega) (by omega))) rfl ?_
 refine tM rfl rfl ?_
 refine tri_v (opv_quoE rfl rfl (by omega) (by omega) (by omega)) rfl ?_
 refine tU rfl rfl (by omega) (by omega) rfl ?_
 refine tri_v (opv_mul rfl rfl (w64 (by omega) (by omega))) rfl ?_
 refine tM rfl rfl ?_
 refine tri_v (opv_remE rfl rfl (by omega) (by omega)) rfl ?_
 refine tri_v (opv_mul rfl rfl (w64 (by omega) (by omega))) rfl ?_
 refine tU rfl rfl (by omega) (by omega) rfl ?_
 refine tM rfl rfl ?_
 refine tri_v (opv_remE rfl rfl (by omega) (by omega)) rfl ?_
 refine tU rfl rfl (by omega) (by omega) rfl ?_
 refine tM rfl rfl ?_
 refine tri_v (opv_indexAddrA rfl rfl (by decide) (by decide)) rfl ?_
 refine tri_g (opg_store rfl rfl rfl rfl rfl rfl) rfl ?_
 rintro _ _ _ ⟨rfl, rfl⟩
 refine tN ?_
 refine tri_inBlock ?_
 refine tT (tR ?_)
 refine tU rfl rfl (by omega) (by omega) rfl ?_
 refine tM rfl rfl (tN (tT ?_))
 refine tri_round ?_
 refine tS (tR ?_)
 refine tri_v (opv_lss rfl rfl) rfl ?_
 refine tN (tT (tS ?_))
 skip
 refine tri_cond_is rfl (by decide) ?_
 refine tri_skip (tT (tS (tri_block (tS (tR (tM rfl rfl ?_))))))
 refine tri_v (opv_index rfl rfl (by decide) (by decide) rfl rfl) rfl ?_
 refine tA rfl rfl (tA rfl rfl (tN (tT (tR (tM rfl rfl ?_)))))
 refine tri_v (opv_quoE rfl rfl (by omega) (by omega) (by omega)) rfl ?_
 refine tri_v (opv_mul rfl rfl (w64 (by omega) (by omega))) rfl ?_
 refine tM rfl rfl ?_
 refine tri_v (opv_quoE rfl rfl (by omega) (by omega) (by omega)) rfl ?_
 refine tU rfl rfl (by omega) (by omega) rfl ?_
 refine tri_v (opv_mul rfl rfl (w64 (by omega) (by omega))) rfl ?_
 refine tM rfl rfl ?_
 refine tri_v (opv_remE rfl rfl (by omega) (by omega)) rfl ?_
 refine tri_v (opv_mul rfl rfl (w64 (by omega) (by omega))) rfl ?_
 refine tU rfl rfl (by omega) (by omega) rfl ?_
 refine tM rfl rfl ?_
 refine tri_v (opv_remE rfl rfl (by omega) (by omega)) rfl ?_
 refine tU rfl rfl (by omega) (by omega) rfl ?_
 refine tM rfl rfl ?_
 refine tri_v (opv_indexAddrA rfl rfl (by decide) (by decide)) rfl ?_
 refine tri_g (opg_store rfl rfl rfl rfl rfl rfl) rfl ?_
 rintro _ _ _ ⟨rfl, rfl⟩
 refine tN ?_
 refine tri_inBlock ?_
 refine tT (tR ?_)
 refine tU rfl rfl (by omega) (by omega) rfl ?_
 refine tM rfl rfl (tN (tT ?_))
 refine tri_round ?_
 refine tS (tR ?_)
 refine tri_v (opv_lss rfl rfl) rfl ?_
 refine tN (tT (tS ?_))
 refine tri_cond_not rfl (by decide) ?_
 refine tri_exit ?_
 refine tri_then_exit ?_
 refine tri_then_exit ?_
 refine tri_inBlock_hit rfl ?_
 refine tri_inBlock ?_
 refine tT (tR ?_)
 refine tU rfl rfl (by omega) (by omega) rfl ?_
 refine tM rfl rfl (tN (tT ?_))
 refine tri_round ?_
 refine tS (tR ?_)
 refine tri_v (opv_lss rfl rfl) rfl ?_
 refine tN (tT (tS ?_))
 refine tri_cond_is rfl (by decide) ?_
 refine tri_skip (tT (tS (tri_block (tS (tR (tM rfl rfl ?_))))))
 refine tri_v (opv_index rfl rfl (by decide) (by decide) rfl rfl) rfl ?_
 refine tA rfl rfl (tA rfl rfl (tN (tT (tS (tR ?_)))))
 refine tri_v (opv_fieldAddr rfl rfl) rfl ?_
 refine tri_v (opv_load1 rfl rfl rfl) rfl ?_
 refine tri_v (opv_nilCheck rfl) rfl ?_
 refine tri_v (opv_fieldAddr rfl rfl) rfl ?_
 refine tri_v (opv_fieldAddr rfl rfl) rfl ?_
 refine tri_v (opv_load1 rfl rfl rfl) rfl ?_
 refine tM rfl rfl ?_
 refine tri_v (opv_indexAddrR rfl rfl (by omega) (by omega)) rfl ?_
 refine tri_v (opv_fieldAddrR rfl (by omega) rfl) rfl ?_
 refine tri_v (opv_loadRXA rfl rfl (by omega) rfl rfl rfl) rfl ?_
 refine tM rfl rfl (tN (tT (tri_block ?_)))
 refine tri_rounds 5 ?_
 refine tri_round ?_
 refine tS (tR ?_)
 refine tri_v (opv_lss rfl rfl) rfl ?_
 refine tN (tT (tS ?_))
 refine tri_cond_is rfl (by decide) ?_
 refine tri_skip (tT (tS (tri_block (tS (tR (tM rfl rfl ?_))))))
 refine tri_v (opv_index rfl rfl (by decide) (by decide) rfl rfl) rfl ?_
 refine tA rfl rfl (tA rfl rfl (tN (tT (tR (tM rfl rfl ?_)))))
 refine tri_v (opv_quoE rfl rfl (by omega) (by omega) (by omega)) rfl ?_
 refine tri_v (opv_mul rfl rfl (w64 (by omega) (by omega))) rfl ?_
 refine tM rfl rfl ?_
 refine tri_v (opv_quoE rfl rfl (by omega) (by omega) (by omega)) rfl ?_
 refine tU rfl rfl (by omega) (by omega) rfl ?_
 refine tri_v (opv_mul rfl rfl (w64 (by omega) (by omega))) rfl ?_
 refine tM rfl rfl ?_
 refine tri_v (opv_remE rfl rfl (by omega) (by omega)) rfl ?_
 refine tri_v (opv_mul rfl rfl (w64 (by omega) (by omega))) rfl ?_
 refine tU rfl rfl (by omega) (by omega) rfl ?_
 refine tM rfl rfl ?_
 refine tri_v (opv_remE rfl rfl (by omega) (by omega)) rfl ?_
 refine tU rfl rfl (by omega) (by omega) rfl ?_
 refine tM rfl rfl ?_
 refine tri_v (opv_indexAddrA rfl rfl (by decide) (by decide)) rfl ?_
 refine tri_g (opg_store rfl rfl rfl rfl rfl rfl) rfl ?_
 rintro _ _ _ ⟨rfl, rfl⟩
 refine tN ?_
 refine tri_inBlock ?_
 refine tT (tR ?_)
 refine tU rfl rfl (by omega) (by omega) rfl ?_
 refine tM rfl rfl (tN (tT ?_))
 refine tri_round ?_
 refine tS (tR ?_)
 refine tri_v (opv_lss rfl rfl) rfl ?_
 refine tN (tT (tS ?_))
 skip
 refine tri_cond_is rfl (by decide) ?_
 refine tri_skip (tT (tS (tri_block (tS (tR (tM rfl rfl ?_))))))
 refine tri_v (opv_index rfl rfl (by decide) (by decide) rfl rfl) rfl ?_
 refine tA rfl rfl (tA rfl rfl (tN (tT (tR (tM rfl rfl ?_)))))
 refine tri_v (opv_quoE rfl rfl (by omega) (by omega) (by omega)) rfl ?_
 refine tri_v (opv_mul rfl rfl (w64 (by omega) (by omega))) rfl ?_
 refine tM rfl rfl ?_
 refine tri_v (opv_quoE rfl rfl (by omega) (by omega) (by omega)) rfl ?_
 refine tU rfl rfl (by omega) (by omega) rfl ?_
 refine tri_v (opv_mul rfl rfl (w64 (by omega) (by omega))) rfl ?_
 refine tM rfl rfl ?_
 refine tri_v (opv_remE rfl rfl (by omega) (by omega)) rfl ?_
 refine tri_v (opv_mul rfl rfl (w64 (by omega) (by omega))) rfl ?_
 refine tU rfl rfl (by omega) (by omega) rfl ?_
 refine tM rfl rfl ?_
 refine tri_v (opv_remE rfl rfl (by omega) (by omega)) rfl ?_
 refine tU rfl rfl (by omega) (by omega) rfl ?_
 refine tM rfl rfl ?_
 refine tri_v (opv_indexAddrA rfl rfl (by decide) (by decide)) rfl ?_
 refine tri_g (opg_store rfl rfl rfl rfl rfl rfl) rfl ?_
 rintro _ _ _ ⟨rfl, rfl⟩
 refine tN ?_
 refine tri_inBlock ?_
 refine tT (tR ?_)
 refine tU rfl rfl (by omega) (by omega) rfl ?_
 refine tM rfl rfl (tN (tT ?_))
 refine tri_round ?_
 refine tS (tR ?_)
 refine tri_v (opv_lss rfl rfl) rfl ?_
 refine tN (tT (tS ?_))
 skip
 refine tri_cond_is rfl (by decide) ?_
 refine tri_skip (tT (tS (tri_block (tS (tR (tM rfl rfl ?_))))))
 refine tri_v (opv_index rfl rfl (by decide) (by decide) rfl rfl) rfl ?_
 refine tA rfl rfl (tA rfl rfl (tN (tT (tR (tM rfl rfl ?_)))))
 refine tri_v (opv_quoE rfl rfl (by omega) (by omega) (by omega)) rfl ?_
 refine tri_v (opv_mul rfl rfl (w64 (by omega) (by omega))) rfl ?_
 refine tM rfl rfl ?_
 refine tri_v (opv_quoE rfl rfl (by omega) (by omega) (by omega)) rfl ?_
 refine tU rfl rfl (by omega) (by omega) rfl ?_
 refine tri_v (opv_mul rfl rfl (w64 (by omega) (by omega))) rfl ?_
 refine tM rfl rfl ?_
 refine tri_v (opv_remE rfl rfl (by omega) (by omega)) rfl ?_
 refine tri_v (opv_mul rfl rfl (w64 (by omega) (by omega))) rfl ?_
 refine tU rfl rfl (by omega) (by omega) rfl ?_
 refine tM rfl rfl ?_
 refine tri_v (opv_remE rfl rfl (by omega) (by omega)) rfl ?_
 refine tU rfl rfl (by omega) (by omega) rfl ?_
 refine tM rfl rfl ?_
 refine tri_v (opv_indexAddrA rfl rfl (by decide) (by decide)) rfl ?_
 refine tri_g (opg_store rfl rfl rfl rfl rfl rfl) rfl ?_
 rintro _ _ _ ⟨rfl, rfl⟩
 refine tN ?_
 refine tri_inBlock ?_
 refine tT (tR ?_)
 refine tU rfl rfl (by omega) (by omega) rfl ?_
 refine tM rfl rfl (tN (tT ?_))
 refine tri_round ?_
 refine tS (tR ?_)
 refine tri_v (opv_lss rfl rfl) rfl ?_
 refine tN (tT (tS ?_))
 skip
 refine tri_cond_is rfl (by decide) ?_
 refine tri_skip (tT (tS (tri_block (tS (tR (tM rfl rfl ?_))))))
 refine tri_v (opv_index rfl rfl (by decide) (by decide) rfl rfl) rfl ?_
 refine tA rfl rfl (tA rfl rfl (tN (tT (tR (tM rfl rfl ?_)))))
 refine tri_v (opv_quoE rfl rfl (by omega) (by omega) (by omega)) rfl ?_
 refine tri_v (opv_mul rfl rfl (w64 (by omega) (by omega))) rfl ?_
 refine tM rfl rfl ?_
 refine tri_v (opv_quoE rfl rfl (by omega) (by omega) (by omega)) rfl ?_
 refine tU rfl rfl (by omega) (by omega) rfl ?_
 refine tri_v (opv_mul rfl rfl (w64 (by omega) (by omega))) rfl ?_
 refine tM rfl rfl ?_
 refine tri_v (opv_remE rfl rfl (by omega) (by omega)) rfl ?_
 refine tri_v (opv_mul rfl rfl (w64 (by omega) (by omega))) rfl ?_
 refine tU rfl rfl (by omega) (by omega) rfl ?_
 refine tM rfl rfl ?_
 refine tri_v (opv_remE rfl rfl (by omega) (by omega)) rfl ?_
 refine tU rfl rfl (by omega) (by omega) rfl ?_
 refine tM rfl rfl ?_
 refine tri_v (opv_indexAddrA rfl rfl (by decide) (by decide)) rfl ?_
 refine tri_g (opg_store rfl rfl rfl rfl rfl rfl) rfl ?_
 rintro _ _ _ ⟨rfl, rfl⟩
 refine tN ?_
 refine tri_inBlock ?_
 refine tT (tR ?_)
 refine tU rfl rfl (by omega) (by omega) rfl ?_
 refine tM rfl rfl (tN (tT ?_))
 refine tri_round ?_
 refine tS (tR ?_)
 refine tri_v (opv_lss rfl rfl) rfl ?_
 refine tN (tT (tS ?_))
 refine tri_cond_not rfl (by decide) ?_
 refine tri_exit ?_
 refine tri_then_exit ?_
 refine tri_then_exit ?_
 refine tri_inBlock_hit rfl ?_
 refine tri_inBlock ?_
 refine tT (tR ?_)
 refine tU rfl rfl (by omega) (by omega) rfl ?_
 refine tM rfl rfl (tN (tT ?_))
 refine tri_round ?_
 refine tS (tR ?_)
 refine tri_v (opv_lss rfl rfl) rfl ?_
 refine tN (tT (tS ?_))
 refine tri_cond_is rfl (by decide) ?_
 refine tri_skip (tT (tS (tri_block (tS (tR (tM rfl rfl ?_))))))
 refine tri_v (opv_index rfl rfl (by decide) (by decide) rfl rfl) rfl ?_
 refine tA rfl rfl (tA rfl rfl (tN (tT (tS (tR ?_)))))
 refine tri_v (opv_fieldAddr rfl rfl) rfl ?_
 refine tri_v (opv_load1 rfl rfl rfl) rfl ?_
 refine tri_v (opv_nilCheck rfl) rfl ?_
 refine tri_v (opv_fieldAddr rfl rfl) rfl ?_
 refine tri_v (opv_fieldAddr rfl rfl) rfl ?_
 refine tri_v (opv_load1 rfl rfl rfl) rfl ?_
 refine tM rfl rfl ?_
 refine tri_v (opv_indexAddrR rfl rfl (by omega) (by omega)) rfl ?_
 refine tri_v (opv_fieldAddrR rfl (by omega) rfl) rfl ?_
 refine tri_v (opv_loadRXA rfl rfl (by omega) rfl rfl rfl) rfl ?_
 refine tM rfl rfl (tN (tT (tri_block ?_)))
 refine tri_rounds 5 ?_
 refine tri_round ?_
 refine tS (tR ?_)
 refine tri_v (opv_lss rfl rfl) rfl ?_
 refine tN (tT (tS ?_))
 refine tri_cond_is rfl (by decide) ?_
 refine tri_skip (tT (tS (tri_block (tS (tR (tM rfl rfl ?_))))))
 refine tri_v (opv_index rfl rfl (by decide) (by decide) rfl rfl) rfl ?_
 refine tA rfl rfl (tA rfl rfl (tN (tT (tR (tM rfl rfl ?_)))))
 refine tri_v (opv_quoE rfl rfl (by omega) (by omega) (by omega)) rfl ?_
 refine tri_v (opv_mul rfl rfl (w64 (by omega) (by omega))) rfl ?_
 refine tM rfl rfl ?_
 refine tri_v (opv_quoE rfl rfl (by omega) (by omega) (by omega)) rfl ?_
 refine tU rfl rfl (by omega) (by omega) rfl ?_
 refine tri_v (opv_mul rfl rfl (w64 (by omega) (by omega))) rfl ?_
 refine tM rfl rfl ?_
 refine tri_v (opv_remE rfl rfl (by omega) (by omega)) rfl ?_
 refine tri_v (opv_mul rfl rfl (w64 (by omega) (by omega))) rfl ?_
 refine tU rfl rfl (by omega) (by omega) rfl ?_
 refine tM rfl rfl ?_
 refine tri_v (opv_remE rfl rfl (by omega) (by omega)) rfl ?_
 refine tU rfl rfl (by omega) (by omega) rfl ?_
 refine tM rfl rfl ?_
 refine tri_v (opv_indexAddrA rfl rfl (by decide) (by decide)) rfl ?_
 refine tri_g (opg_store rfl rfl rfl rfl rfl rfl) rfl ?_
 rintro _ _ _ ⟨rfl, rfl⟩
 refine tN ?_
 refine tri_inBlock ?_
 refine tT (tR ?_)
 refine tU rfl rfl (by omega) (by omega) rfl ?_
 refine tM rfl rfl (tN (tT ?_))
 refine tri_round ?_
 refine tS (tR ?_)
 refine tri_v (opv_lss rfl rfl) rfl ?_
 refine tN (tT (tS ?_))
 skip
 refine tri_cond_is rfl (by decide) ?_
 refine tri_skip (tT (tS (tri_block (tS (tR (tM rfl rfl ?_))))))
 refine tri_v (opv_index rfl rfl (by decide) (by decide) rfl rfl) rfl ?_
 refine tA rfl rfl (tA rfl rfl (tN (tT (tR (tM rfl rfl ?_)))))
 refine tri_v (opv_quoE rfl rfl (by omega) (by omega) (by omega)) rfl ?_
 refine tri_v (opv_mul rfl rfl (w64 (by omega) (by omega))) rfl ?_
 refine tM rfl rfl ?_
 refine tri_v (opv_quoE rfl rfl (by omega) (by omega) (by omega)) rfl ?_
 refine tU rfl rfl (by omega) (by omega) rfl ?_
 refine tri_v (opv_mul rfl rfl (w64 (by omega) (by omega))) rfl ?_
 refine tM rfl rfl ?_
 refine tri_v (opv_remE rfl rfl (by omega) (by omega)) rfl ?_
 refine tri_v (opv_mul rfl rfl (w64 (by omega) (by omega))) rfl ?_
 refine tU rfl rfl (by omega) (by omega) rfl ?_
 refine tM rfl rfl ?_
 refine tri_v (opv_remE rfl rfl (by omega) (by omega)) rfl ?_
 refine tU rfl rfl (by omega) (by omega) rfl ?_
 refine tM rfl rfl ?_
 refine tri_v (opv_indexAddrA rfl rfl (by decide) (by decide)) rfl ?_
 refine tri_g (opg_store rfl rfl rfl rfl rfl rfl) rfl ?_
 rintro _ _ _ ⟨rfl, rfl⟩
 refine tN ?_
 refine tri_inBlock ?_
 refine tT (tR ?_)
 refine tU rfl rfl (by omega) (by omega) rfl ?_
 refine tM rfl rfl (tN (tT ?_))
 refine tri_round ?_
 refine tS (tR ?_)
 refine tri_v (opv_lss rfl rfl) rfl ?_
 refine tN (tT (tS ?_))
 skip
 refine tri_cond_is rfl (by decide) ?_
 refine tri_skip (tT (tS (tri_block (tS (tR (tM rfl rfl ?_))))))
 refine tri_v (opv_index rfl rfl (by decide) (by decide) rfl rfl) rfl ?_
 refine tA rfl rfl (tA rfl rfl (tN (tT (tR (tM rfl rfl ?_)))))
 refine tri_v (opv_quoE rfl rfl (by omega) (by omega) (by omega)) rfl ?_
 refine tri_v (opv_mul rfl rfl (w64 (by omega) (by omega))) rfl ?_
 refine tM rfl rfl ?_
 refine tri_v (opv_quoE rfl rfl (by omega) (by omega) (by omega)) rfl ?_
 refine tU rfl rfl (by omega) (by omega) rfl ?_
 refine tri_v (opv_mul rfl rfl (w64 (by omega) (by omega))) rfl ?_
 refine tM rfl rfl ?_
 refine tri_v (opv_remE rfl rfl (by omega) (by omega)) rfl ?_
 refine tri_v (opv_mul rfl rfl (w64 (by omega) (by omega))) rfl ?_
 refine tU rfl rfl (by omega) (by omega) rfl ?_
 refine tM rfl rfl ?_
 refine tri_v (opv_remE rfl rfl (by omega) (by omega)) rfl ?_
 refine tU rfl rfl (by omega) (by omega) rfl ?_
 refine tM rfl rfl ?_
 refine tri_v (opv_indexAddrA rfl rfl (by decide) (by decide)) rfl ?_
 refine tri_g (opg_store rfl rfl rfl rfl rfl rfl) rfl ?_
 rintro _ _ _ ⟨rfl, rfl⟩
 refine tN ?_
 refine tri_inBlock ?_
 refine tT (tR ?_)
 refine tU rfl rfl (by omega) (by omega) rfl ?_
 refine tM rfl rfl (tN (tT ?_))
 refine tri_round ?_
 refine tS (tR ?_)
 refine tri_v (opv_lss rfl rfl) rfl ?_
 refine tN (tT (tS ?_))
 skip
 refine tri_cond_is rfl (by decide) ?_
 refine tri_skip (tT (tS (tri_block (tS (tR (tM rfl rfl ?_))))))
 refine tri_v (opv_index rfl rfl (by decide) (by decide) rfl rfl) rfl ?_
 refine tA rfl rfl (tA rfl rfl (tN (tT (tR (tM rfl rfl ?_)))))
 refine tri_v (opv_quoE rfl rfl (by omega) (by omega) (by omega)) rfl ?_
 refine tri_v (opv_mul rfl rfl (w64 (by omega) (by omega))) rfl ?_
 refine tM rfl rfl ?_
 refine tri_v (opv_quoE rfl rfl (by omega) (by omega) (by omega)) rfl ?_
 refine tU rfl rfl (by omega) (by omega) rfl ?_
 refine tri_v (opv_mul rfl rfl (w64 (by omega) (by omega))) rfl ?_
 refine tM rfl rfl ?_
 refine tri_v (opv_remE rfl rfl (by omega) (by omega)) rfl ?_
 refine tri_v (opv_mul rfl rfl (w64 (by omega) (by omega))) rfl ?_
 refine tU rfl rfl (by omega) (by omega) rfl ?_
 refine tM rfl rfl ?_
 refine tri_v (opv_remE rfl rfl (by omega) (by omega)) rfl ?_
 refine tU rfl rfl (by omega) (by omega) rfl ?_
 refine tM rfl rfl ?_
 refine tri_v (opv_indexAddrA rfl rfl (by decide) (by decide)) rfl ?_
 refine tri_g (opg_store rfl rfl rfl rfl rfl rfl) rfl ?_
 rintro _ _ _ ⟨rfl, rfl⟩
 refine tN ?_
 refine tri_inBlock ?_
 refine tT (tR ?_)
 refine tU rfl rfl (by omega) (by omega) rfl ?_
 refine tM rfl rfl (tN (tT ?_))
 refine tri_round ?_
 refine tS (tR ?_)
 refine tri_v (opv_lss rfl rfl) rfl ?_
 refine tN (tT (tS ?_))
 refine tri_cond_not rfl (by decide) ?_
 refine tri_exit ?_
 refine tri_then_exit ?_
 refine tri_then_exit ?_
 refine tri_inBlock_hit rfl ?_
 refine tri_inBlock ?_
 refine tT (tR ?_)
 refine tU rfl rfl (by omega) (by omega) rfl ?_
 refine tM rfl rfl (tN (tT ?_))
 refine tri_round ?_
 refine tS (tR ?_)
 refine tri_v (opv_lss rfl rfl) rfl ?_
 refine tN (tT (tS ?_))
 refine tri_cond_not rfl (by decide) ?_
 refine tri_exit ?_
 refine tri_then_exit ?_
 refine tri_then_exit ?_
 refine tri_inBlock_hit rfl ?_
 refine tT (tS (tR ?_))
 refine tri_v (opv_loadA rfl rfl rfl) rfl ?_
 refine tri_g (opg_store rfl rfl rfl rfl rfl rfl) rfl ?_
 rintro _ _ _ ⟨rfl, rfl⟩
 refine tN (tT (tri_ret ?_))
 refine tri_end _ (⟨[_, _], rfl⟩) rfl (.cons (rv_cellA rfl rfl rfl) .nil) ⟨rfl, rfl, rfl⟩
end Go.GL

set_option linter.unusedVariables false
namespace Go.GL
open Go.Proofs
attribute [local irreducible] wpList Code.wp Exit.then Exit.inBlock Ends Tri TriH OpV OpG FnC epf wpAnyH
variable {A : List Asrt} {I : List Chunk}
/-- What a function on an index tells and leaves behind. -/
def IxR (bx mb : Nat) (r : List Node × Int × Int) (room : Int) (A : List Asrt) (I : List Chunk) : Value → List Asrt → List Chunk → Prop :=
 fun v A' I' => ∃ a' cap' es', v = .tuple [.int .i64 r.2.1, .int .i64 r.2.2].toArray ∧ A' = IxA bx mb a' cap' r.1 room es' A ∧ Idx r.1 es' ∧ I = I'
theorem node_putR {A : List Asrt} {I : List Chunk} {ns : List Node} {a : Option Addr} {cap bx mb : Nat} {room q0 q1 q2 q3 : Int} {es : KVs} {r : List Node × Int × Int} (hg : R6.Good ns room) (h2 : 2 ≤ ns.length) (hi : Idx ns es) (hr : R6.put ns room q0 q1 q2 q3 = r) :
  FnC Try.prog 87 [pt bx 0, int4V q0 q1 q2 q3].toArray (IxA bx mb a cap ns room es A) I (IxR bx mb r room A I) := by
 subst hr
 exact node_put hg h2 hi
theorem R6.put_len {ns : List Node} {room q0 q1 q2 q3 : Int} (h : 2 ≤ ns.length) : 2 ≤ (R6.put ns room q0 q1 q2 q3).1.length := by
 unfold R6.put
 split
 ·split
  ·exact h
  ·split
   ·exact h
   ·simp only [List.length_append]; omega
 ·exact h
set_option maxHeartbeats 2000000 in
set_option maxRecDepth 100000 in
theorem index_empty {ns : List Node} {a : Option Addr} {cap bx mb lv : Nat} {room : Int} {es : KVs} (hlv : lv ≤ 1000000) (hg : R6.Good ns room) (h2 : 2 ≤ ns.length) (hi : Idx ns es) :
  FnC Try.prog 98 [pt bx 0, .int .i64 (lv : Nat)].toArray (IxA bx mb a cap ns room es A) I (IxR bx mb (R7.empty ns room lv) room A I) := by
 skip
 refine fn_enter2 Try.func98 rfl Try.ntmps98 rfl fun w0 => ?_
 refine tS (tR (tA rfl rfl (tA rfl rfl (tN (tT (tS (tS ?_)))))))
 refine tR (tM rfl rfl (tM rfl rfl (tN (tT (tri_block ?_)))))
 refine tri_sub (F' := [(0, pt bx 0), (4, .int .i64 0), (6, .int .i64 (lv : Nat)), (7, .int .i64 (0 : Nat))]) ⟨rfl, rfl, rfl, rfl, trivial⟩ ?_
 refine loop_ind (G := Nat × List Node × Int × Option Addr × Nat × KVs) (fun g => lv - g.1) (fun g => g.1 ≤ lv ∧ R6.Good g.2.1 room ∧ 2 ≤ g.2.1.length ∧ Idx g.2.1 g.2.2.2.2.2 ∧ R7.empty ns room lv = R7.emptyF room (lv - g.1) g.2.1 g.2.2.1) (fun g => [(0, pt bx 0), (4, .int .i64 g.2.2.1), (6, .int .i64 (lv : Nat)), (7, .int .i64 (g.1 : Nat))]) (fun g => IxA bx mb g.2.2.2.1 g.2.2.2.2.1 g.2.1 room g.2.2.2.2.2 A) (fun _ => I) ?_ (0, ns, 0, a, cap, es) ⟨by simp, hg, h2, hi, rfl⟩
 rintro ⟨i, ns1, n1, a1, c1, es1⟩ ⟨hi1, hg1, hl1, hx1, he⟩ K hK
 simp only at hi1 hg1 hl1 hx1 he hK ⊢
 skip
 refine tS (tR ?_)
 refine tri_v (opv_lss rfl rfl) rfl ?_
 refine tN (tT (tS ?_))
 refine tri_cond_dec rfl (fun h => ?_) (fun h => ?_)
 ·have hlt : i < lv := by omega
  rw [show lv - i = (lv - (i + 1)) + 1 by omega] at he
  unfold R7.emptyF at he
  obtain ⟨r, hr⟩ : ∃ r, R6.put ns1 room n1 n1 n1 n1 = r := ⟨_, rfl⟩
  rw [hr] at he
  refine tri_skip (tT (tS (tri_block (tS (tR (tM rfl rfl (tM rfl rfl ?_)))))))
  refine tM rfl rfl (tM rfl rfl (tM rfl rfl ?_))
  refine tri_v (by first | exact opv_buildS rfl rfl | exact opv_buildA rfl rfl) rfl ?_
  refine tri_g (opg_call (xs := [_, _]) rfl (node_putR hg1 hl1 hx1 hr)) rfl ?_
  rintro _ _ _ ⟨a2, c2, es2, rfl, rfl, hi2, rfl⟩
  refine tM rfl rfl ?_
  refine tri_v (opv_extract rfl rfl) rfl ?_
  refine tri_v (opv_extract rfl rfl) rfl ?_
  refine tA rfl rfl (tA rfl rfl (tN (tT (tS (tR (tM rfl rfl ?_))))))
  refine tri_v (by first | exact opv_neq rfl rfl | exact opv_neqI rfl rfl rfl rfl rfl rfl | exact opv_neqB rfl rfl) rfl ?_
  refine tN (tT ?_)
  refine tri_cond_dec rfl (fun x => ?_) (fun x => ?_)
  ·rw [if_pos x] at he
   have e1 : r.1 = ns1 := by
    rw [← hr] at x ⊢
    unfold R6.put at x ⊢
    split
    ·split
     ·rfl
     ·split
      ·rfl
      ·rename_i p q s
       rw [if_pos p, if_neg q, if_neg s] at x
       exact absurd rfl x
    ·rfl
   refine tS (tR (tM rfl rfl (tA rfl rfl (tA rfl rfl (tN (tT (tri_ret ?_)))))))
   refine tri_inBlock_ret ?_
   refine tri_then_ret (tri_then_ret ?_)
   refine tri_inBlock_ret ?_
   refine tri_then_ret ?_
   rw [e1] at hi2
   rw [e1]
   refine tri_end _ (by first | exact ⟨[], rfl⟩ | exact ⟨[_], rfl⟩ | exact ⟨[_, _], rfl⟩ | exact ⟨[_, _, _], rfl⟩ | exact ⟨[_, _, _, _], rfl⟩ | exact ⟨[_, _, _, _, _], rfl⟩ | exact ⟨[_, _, _, _, _, _], rfl⟩ | exact ⟨[_, _, _, _, _, _, _], rfl⟩ | exact ⟨[_, _, _, _, _, _, _, _], rfl⟩) rfl (.cons (rv_tmp rfl) (.cons (rv_tmp rfl) .nil)) ⟨a2, c2, es2, by rw [he]; rfl, by rw [he], by rw [he]; exact hi2, rfl⟩
  ·rw [if_neg x] at he
   refine tri_skip ?_
   refine tri_inBlock ?_
   refine tT (tR ?_)
   refine tri_v (by first | exact opv_add rfl rfl (w64 (by omega) (by omega))) rfl ?_
   refine tM rfl rfl (tN (tT ?_))
   refine tri_sub ?_ (hK (i + 1, r.1, r.2.1, a2, c2, es2) ⟨by simp only; omega, by rw [← hr]; exact hg1.put .., by rw [← hr]; exact R6.put_len hl1, hi2, he⟩ (by simp only; omega))
   exact ⟨rfl, rfl, rfl, rfl, trivial⟩
 ·have hle : i = lv := by omega
  subst hle
  rw [Nat.sub_self] at he
  unfold R7.emptyF at he
  refine tri_exit ?_
  refine tri_then_exit ?_
  refine tri_then_exit ?_
  refine tri_inBlock_hit rfl ?_
  refine tT (tS (tR (tM rfl rfl (tA rfl rfl (tA rfl rfl (tN (tT ?_)))))))
  refine tri_ret ?_
  refine tri_end _ (by first | exact ⟨[], rfl⟩ | exact ⟨[_], rfl⟩ | exact ⟨[_, _], rfl⟩ | exact ⟨[_, _, _], rfl⟩ | exact ⟨[_, _, _, _], rfl⟩ | exact ⟨[_, _, _, _, _], rfl⟩ | exact ⟨[_, _, _, _, _, _], rfl⟩ | exact ⟨[_, _, _, _, _, _, _], rfl⟩ | exact ⟨[_, _, _, _, _, _, _, _], rfl⟩) rfl (.cons (rv_tmp rfl) (.cons (rv_tmp rfl) .nil)) ⟨a1, c1, es1, by rw [he]; rfl, by rw [he], by rw [he]; exact hx1, rfl⟩
end Go.GL

set_option linter.unusedVariables false
namespace Go.GL
open Go.Proofs
attribute [local irreducible] wpList Code.wp Exit.then Exit.inBlock Ends Tri TriH OpV OpG FnC epf wpAnyH
variable {A : List Asrt} {I : List Chunk}
set_option maxRecDepth 100000 in
theorem maker_centre {ns : List Node} {a : Option Addr} {cap bx mb : Nat} {room n : Int} {es : KVs} (hg : R6.Good ns room) (h2 : 2 ≤ ns.length) (hi : Idx ns es) (hk : R8.Kid ns n) :
  FnC Try.prog 73 [.agg [pt bx 0].toArray, .int .i64 n].toArray (IxA bx mb a cap ns room es A) I (IxR bx mb (R8.putSq ns room (R8.s16 ns n) 1 1) room A I) := by
 skip
 refine fn_enter2 Try.func73 rfl Try.ntmps73 rfl fun w0 => ?_
 refine tS (tR ?_)
 first | refine tri_g (opg_box_agg rfl) rfl ?_ | refine tri_g (opg_box1 rfl rfl) rfl ?_
 rintro _ _ _ ⟨b2, rfl, rfl, rfl⟩
 refine tA rfl rfl (tA rfl rfl (tN (tT (tS ?_))))
 refine tri_perm (A := ?a1_0 :: ?a1_1 :: ?a1_2 :: ?a1_3 :: ?T1) (B := ?a1_1 :: ?a1_2 :: ?a1_3 :: ?a1_0 :: ?T1) (by exact permL [1, 2, 3, 0] [?a1_0, ?a1_1, ?a1_2, ?a1_3] ?T1 (by decide) rfl) ?_
 skip
 refine tri_draw [0, 1, 2, 3, 4, 5, 6, 7, 8, 9, 10] rfl [_, _, _] rfl mixed ?_
 refine th_take rfl rfl (by kernel_rfl)  (by first | exact opv_fieldAddr rfl rfl | exact opv_fieldAddrE rfl (by assumption) (by omega) rfl | exact opv_fieldAddrR rfl (by omega) rfl | exact opv_fieldAddrP rfl rfl rfl) ?_
 refine th_take rfl rfl (by kernel_rfl)  (by first | exact opv_load1 rfl rfl rfl | exact opv_loadA rfl rfl rfl | exact opv_loadE1 rfl (by assumption) rfl (by omega) rfl rfl | exact opv_loadEA rfl (by assumption) rfl (by omega) rfl rfl | exact opv_loadRX1 rfl rfl (by omega) rfl rfl | exact opv_loadRXA rfl rfl (by omega) rfl rfl rfl | exact opv_loadIX rfl rfl (by omega) | exact opv_loadR1 rfl rfl rfl | exact opv_loadRA rfl rfl rfl rfl) ?_
 refine th_take rfl rfl (by kernel_rfl)  (by first | exact opv_load1 rfl rfl rfl | exact opv_loadA rfl rfl rfl | exact opv_loadE1 rfl (by assumption) rfl (by omega) rfl rfl | exact opv_loadEA rfl (by assumption) rfl (by omega) rfl rfl | exact opv_loadRX1 rfl rfl (by omega) rfl rfl | exact opv_loadRXA rfl rfl (by omega) rfl rfl rfl | exact opv_loadIX rfl rfl (by omega) | exact opv_loadR1 rfl rfl rfl | exact opv_loadRA rfl rfl rfl rfl) ?_
 refine th_take rfl rfl (by kernel_rfl)  (opv_move rfl) ?_
 refine th_one (by kernel_rfl) (step_m rfl rfl (opg_call (xs := [_, _]) rfl (base_sixteen hk)) ?_)
 rintro _ _ _ ⟨rfl, rfl, rfl⟩
 refine ⟨Suf.h, (by first | exact fun _ h => h | assumption | exact fun _ h => (by assumption : _ ⊆ _) ((by assumption : _ ⊆ _) h)), ?_⟩
 skip
 refine th_one (by kernel_rfl) (step_m rfl rfl (opg_call (xs := [_, _, _]) rfl (base_square (R8.s16_len ns n) (by omega) (by omega) (by omega) (by omega))) ?_)
 rintro _ _ _ ⟨rfl, rfl, rfl⟩
 refine ⟨Suf.h, (by first | exact fun _ h => h | assumption | exact fun _ h => (by assumption : _ ⊆ _) ((by assumption : _ ⊆ _) h)), ?_⟩
 skip
 refine th_one (by kernel_rfl) (step_m rfl rfl (opg_call (xs := [_, _]) rfl (node_putR (r := R8.putSq ns room (R8.s16 ns n) 1 1) hg h2 hi rfl)) ?_)
 rintro _ _ _ ⟨a1, c1, es1, rfl, rfl, hi1, rfl⟩
 refine ⟨Suf.h, (by first | exact fun _ h => h | assumption | exact fun _ h => (by assumption : _ ⊆ _) ((by assumption : _ ⊆ _) h)), ?_⟩
 refine th_take rfl rfl (by kernel_rfl)  (opv_extract rfl rfl) ?_
 refine th_take rfl rfl (by kernel_rfl)  (opv_extract rfl rfl) ?_
 refine th_take rfl rfl (by kernel_rfl)  (opv_assign rfl) ?_
 refine th_take rfl rfl (by kernel_rfl)  (opv_assign rfl) ?_
 refine th_done (by kernel_rfl) ?_
 refine tT (tri_ret ?_)
 refine tri_perm (A := ?a2_0 :: ?a2_1 :: ?a2_2 :: ?a2_3 :: ?T2) (B := ?a2_3 :: ?a2_0 :: ?a2_1 :: ?a2_2 :: ?T2) (by exact permL [3, 0, 1, 2] [?a2_0, ?a2_1, ?a2_2, ?a2_3] ?T2 (by decide) rfl) ?_
 refine tri_end (IxA bx mb a1 c1 (R8.putSq ns room (R8.s16 ns n) 1 1).1 room es1 A) Suf.h rfl (.cons (rv_tmp rfl) (.cons (rv_tmp rfl) .nil)) ⟨a1, c1, es1, rfl, rfl, hi1, rfl⟩
theorem R8.ar_eq (l : List Int) : R8.ar l 5 = R8.about l 1 1 9 ∧ R8.ar l 6 = R8.about l 1 2 9 ∧ R8.ar l 9 = R8.about l 2 1 9 ∧ R8.ar l 10 = R8.about l 2 2 9 := by
 refine ⟨?_, ?_, ?_, ?_⟩ <;> simp [R8.about, R8.ar] <;> omega
theorem R8.bit_ar (l : List Int) : R8.bit l 1 1 = (if R2.lives (decide (R8.g l 5 = 1)) (R8.ar l 5) = true then 1 else 0) ∧ R8.bit l 1 2 = (if R2.lives (decide (R8.g l 6 = 1)) (R8.ar l 6) = true then 1 else 0) ∧ R8.bit l 2 1 = (if R2.lives (decide (R8.g l 9 = 1)) (R8.ar l 9) = true then 1 else 0) ∧ R8.bit l 2 2 = (if R2.lives (decide (R8.g l 10 = 1)) (R8.ar l 10) = true then 1 else 0) := by
 obtain ⟨h1, h2, h3, h4⟩ := R8.ar_eq l
 rw [h1, h2, h3, h4]
 exact ⟨rfl, rfl, rfl, rfl⟩
set_option maxHeartbeats 2000000 in
set_option maxRecDepth 100000 in
theorem maker_step {ns : List Node} {a : Option Addr} {cap bx mb : Nat} {room n : Int} {es : KVs} (hg : R6.Good ns room) (h2 : 2 ≤ ns.length) (hi : Idx ns es) (hk : R8.Kid ns n) (hb : ∀ i, 0 ≤ R8.g (R8.s16 ns n) i ∧ R8.g (R8.s16 ns n) i ≤ 1) :
  FnC Try.prog 68 [.agg [pt bx 0].toArray, .int .i64 n].toArray (IxA bx mb a cap ns room es A) I (IxR bx mb (R8.one ns room n) room A I) := by
 have hlen := R8.s16_len ns n
 obtain ⟨hb0, hb1, hb2, hb3⟩ := R8.bit_ar (R8.s16 ns n)
 skip
 refine fn_enter2 Try.func68 rfl Try.ntmps68 rfl fun w0 => ?_
 refine tS (tR ?_)
 first | refine tri_g (opg_box_agg rfl) rfl ?_ | refine tri_g (opg_box1 rfl rfl) rfl ?_
 rintro _ _ _ ⟨b2, rfl, rfl, rfl⟩
 refine tA rfl rfl (tA rfl rfl (tN (tT (tS ?_))))
 refine tri_perm (A := ?a3_0 :: ?a3_1 :: ?a3_2 :: ?T3) (B := ?a3_1 :: ?a3_2 :: ?a3_0 :: ?T3) (by exact permL [1, 2, 0] [?a3_0, ?a3_1, ?a3_2] ?T3 (by decide) rfl) ?_
 refine tR ?_
 refine tri_v (by first | exact opv_load1 rfl rfl rfl | exact opv_loadA rfl rfl rfl | exact opv_loadE1 rfl (by assumption) rfl (by omega) rfl rfl | exact opv_loadEA rfl (by assumption) rfl (by omega) rfl rfl | exact opv_loadRX1 rfl rfl (by omega) rfl rfl | exact opv_loadRXA rfl rfl (by omega) rfl rfl rfl | exact opv_loadIX rfl rfl (by omega) | exact opv_loadR1 rfl rfl rfl | exact opv_loadRA rfl rfl rfl rfl) rfl ?_
 refine tM rfl rfl ?_
 refine tri_g (opg_call (xs := [_, _]) rfl (base_sixteen hk)) rfl ?_
 rintro _ _ _ ⟨rfl, rfl, rfl⟩
 refine tri_g opg_alloc rfl ?_
 rintro _ _ _ ⟨b6, rfl, rfl, rfl⟩
 refine tri_g (opg_store rfl rfl rfl rfl rfl rfl) rfl ?_
 rintro _ _ _ ⟨rfl, rfl⟩
 refine tN (tT (tS (tR ?_)))
 refine tri_g opg_alloc rfl ?_
 rintro _ _ _ ⟨b7, rfl, rfl, rfl⟩
 refine tN (tT (tS (tS (tR (tM rfl rfl (tN (tT ?_)))))))
 refine tri_block ?_
 refine tri_rounds 5 ?_
 refine tri_round ?_
 refine tS (tR ?_)
 refine tri_v (opv_lss rfl rfl) rfl ?_
 refine tN (tT (tS ?_))
 refine tri_cond_is rfl ((by decide)) ?_
 refine tri_skip (tT (tS (tri_block (tS (tR (tM rfl rfl (tA rfl rfl ?_)))))))
 refine tN (tT (tS (tR (tM rfl rfl ?_))))
 refine tri_v (by first | exact opv_quoE rfl rfl (by omega) (by omega) (by omega) | exact opv_quo rfl rfl (by omega) (w64 (by omega) (by omega))) rfl ?_
 refine tri_v (by first | exact opv_add rfl rfl (w64 (by omega) (by omega))) rfl ?_
 refine tri_v (by first | exact opv_mul rfl rfl (w64 (by omega) (by omega)) | exact opv_mul rfl rfl (by assumption)) rfl ?_
 refine tri_v (by first | exact opv_add rfl rfl (w64 (by omega) (by omega))) rfl ?_
 refine tM rfl rfl ?_
 refine tri_v (by first | exact opv_remE rfl rfl (by omega) (by omega) | exact opv_rem rfl rfl (by omega) rfl) rfl ?_
 refine tri_v (by first | exact opv_add rfl rfl (w64 (by omega) (by omega))) rfl ?_
 refine tA rfl rfl (tN (tT (tS ?_)))
 refine tri_draw [0, 1, 2, 3, 4, 5, 6, 7] rfl [] rfl mixed ?_
 refine th_take rfl rfl (by kernel_rfl)  (opv_move rfl) ?_
 refine th_take rfl rfl (by kernel_rfl)  (by first | exact opv_indexAddrA rfl rfl (by first | decide | omega) (by first | decide | omega) | exact opv_indexAddrSN rfl rfl (by omega) (by assumption) rfl | exact opv_indexAddrS rfl rfl (by omega) (by omega) (by assumption) rfl | exact opv_indexAddrE rfl (by assumption) (by omega) rfl (by first | decide | omega) (by first | decide | omega) | exact opv_indexAddrRN rfl rfl (by omega) | exact opv_indexAddrR rfl rfl (by omega) (by omega) | exact opv_indexAddrRA rfl (by omega) rfl (by first | decide | omega) (by first | decide | omega) | exact opv_indexAddrSP rfl rfl (by omega) (by omega) | exact opv_indexAddrSN rfl rfl (by omega) (by assumption) (by omega) | exact opv_indexAddrS rfl rfl (by omega) (by omega) (by assumption) (by omega)) ?_
 refine th_take rfl rfl (by kernel_rfl)  (by first | exact opv_load1 rfl rfl rfl | exact opv_loadA rfl rfl rfl | exact opv_loadE1 rfl (by assumption) rfl (by omega) rfl rfl | exact opv_loadEA rfl (by assumption) rfl (by omega) rfl rfl | exact opv_loadRX1 rfl rfl (by omega) rfl rfl | exact opv_loadRXA rfl rfl (by omega) rfl rfl rfl | exact opv_loadIX rfl rfl (by omega) | exact opv_loadR1 rfl rfl rfl | exact opv_loadRA rfl rfl rfl rfl) ?_
 refine th_take rfl rfl (by kernel_rfl)  (by first | exact opv_eql rfl rfl | exact opv_eqlI rfl rfl rfl rfl rfl rfl | exact opv_eqlB rfl rfl | exact opv_eqlNil rfl rfl) ?_
 refine th_take rfl rfl (by kernel_rfl)  (by first | exact opv_load1 rfl rfl rfl | exact opv_loadA rfl rfl rfl | exact opv_loadE1 rfl (by assumption) rfl (by omega) rfl rfl | exact opv_loadEA rfl (by assumption) rfl (by omega) rfl rfl | exact opv_loadRX1 rfl rfl (by omega) rfl rfl | exact opv_loadRXA rfl rfl (by omega) rfl rfl rfl | exact opv_loadIX rfl rfl (by omega) | exact opv_loadR1 rfl rfl rfl | exact opv_loadRA rfl rfl rfl rfl) ?_
 refine th_take rfl rfl (by kernel_rfl)  (opv_move rfl) ?_
 refine th_one (by kernel_rfl) (step_m rfl rfl (opg_call (xs := [_, _]) rfl (base_around (i := 5) hlen hb (by omega) (by omega))) ?_)
 rintro _ _ _ ⟨rfl, rfl, rfl⟩
 refine ⟨Suf.h, (by first | exact fun _ h => h | assumption | exact fun _ h => (by assumption : _ ⊆ _) ((by assumption : _ ⊆ _) h)), ?_⟩
 skip
 refine th_one (by kernel_rfl) (step_m rfl rfl (opg_call (xs := [_, _]) rfl (life_lives)) ?_)
 rintro _ _ _ ⟨rfl, rfl, rfl⟩
 refine ⟨Suf.h, (by first | exact fun _ h => h | assumption | exact fun _ h => (by assumption : _ ⊆ _) ((by assumption : _ ⊆ _) h)), ?_⟩
 refine th_done (by kernel_rfl) ?_
 refine tT ?_
 refine tri_cut (fun F' A' J => F' = [(1, .int .i64 n), (2, pt b2 0), (6, pt b6 0), (7, pt b7 0), (8, .int .i64 0), (13, .int .i64 0)] ∧ A' = Box b7 [.int .i64 (R8.bit (R8.s16 ns n) 1 1), .int .i64 (0), .int .i64 (0), .int .i64 (0)] 33 :: Box b6 (ints (R8.s16 ns n)) 114 :: Box bx [.slice a ns.length cap, .int .i64 room, .map (some mb)] 99 :: Row a cap ns.length 35 6 (encs ns) :: Box b2 [pt bx 0] 93 :: MapA Try.prog 33 mb es :: A ∧ I = J) ?_ ?_
 ·refine tri_cond rfl (fun hv => ?_) (fun hv => ?_)
  ·refine tR (tM rfl rfl ?_)
   refine tri_v (by first | exact opv_indexAddrA rfl rfl (by first | decide | omega) (by first | decide | omega) | exact opv_indexAddrSN rfl rfl (by omega) (by assumption) rfl | exact opv_indexAddrS rfl rfl (by omega) (by omega) (by assumption) rfl | exact opv_indexAddrE rfl (by assumption) (by omega) rfl (by first | decide | omega) (by first | decide | omega) | exact opv_indexAddrRN rfl rfl (by omega) | exact opv_indexAddrR rfl rfl (by omega) (by omega) | exact opv_indexAddrRA rfl (by omega) rfl (by first | decide | omega) (by first | decide | omega) | exact opv_indexAddrSP rfl rfl (by omega) (by omega) | exact opv_indexAddrSN rfl rfl (by omega) (by assumption) (by omega) | exact opv_indexAddrS rfl rfl (by omega) (by omega) (by assumption) (by omega)) rfl ?_
   refine tri_g (opg_store rfl rfl rfl rfl rfl rfl) rfl ?_
   rintro _ _ _ ⟨rfl, rfl⟩
   refine tN ?_
   have hv' : R2.lives (decide (R8.g (R8.s16 ns n) 5 = 1)) (R8.ar (R8.s16 ns n) 5) = true := hv
   exact tri_cutEnd _ ⟨rfl, by rw [hb0, if_pos hv'] <;> rfl, rfl⟩ ⟨rfl, rfl, rfl, rfl, rfl, rfl, trivial⟩
  ·refine tri_skip ?_
   have hv' : ¬ R2.lives (decide (R8.g (R8.s16 ns n) 5 = 1)) (R8.ar (R8.s16 ns n) 5) = true := fun h => Bool.false_ne_true (hv.symm.trans h)
   exact tri_cutEnd _ ⟨rfl, by rw [hb0, if_neg hv'] <;> rfl, rfl⟩ ⟨rfl, rfl, rfl, rfl, rfl, rfl, trivial⟩
 rintro _ _ _ ⟨rfl, rfl, rfl⟩
 skip
 refine tri_inBlock ?_
 refine tT (tR ?_)
 refine tri_v (by first | exact opv_add rfl rfl (w64 (by omega) (by omega))) rfl ?_
 refine tM rfl rfl (tN (tT ?_))
 refine tri_round ?_
 refine tS (tR ?_)
 refine tri_v (opv_lss rfl rfl) rfl ?_
 refine tN (tT (tS ?_))
 skip
 refine tri_cond_is rfl ((by decide)) ?_
 refine tri_skip (tT (tS (tri_block (tS (tR (tM rfl rfl (tA rfl rfl ?_)))))))
 refine tN (tT (tS (tR (tM rfl rfl ?_))))
 refine tri_v (by first | exact opv_quoE rfl rfl (by omega) (by omega) (by omega) | exact opv_quo rfl rfl (by omega) (w64 (by omega) (by omega))) rfl ?_
 refine tri_v (by first | exact opv_add rfl rfl (w64 (by omega) (by omega))) rfl ?_
 refine tri_v (by first | exact opv_mul rfl rfl (w64 (by omega) (by omega)) | exact opv_mul rfl rfl (by assumption)) rfl ?_
 refine tri_v (by first | exact opv_add rfl rfl (w64 (by omega) (by omega))) rfl ?_
 refine tM rfl rfl ?_
 refine tri_v (by first | exact opv_remE rfl rfl (by omega) (by omega) | exact opv_rem rfl rfl (by omega) rfl) rfl ?_
 refine tri_v (by first | exact opv_add rfl rfl (w64 (by omega) (by omega))) rfl ?_
 refine tA rfl rfl (tN (tT (tS ?_)))
 refine tri_draw [0, 1, 2, 3, 4, 5, 6, 7] rfl [] rfl mixed ?_
 refine th_take rfl rfl (by kernel_rfl)  (opv_move rfl) ?_
 refine th_take rfl rfl (by kernel_rfl)  (by first | exact opv_indexAddrA rfl rfl (by first | decide | omega) (by first | decide | omega) | exact opv_indexAddrSN rfl rfl (by omega) (by assumption) rfl | exact opv_indexAddrS rfl rfl (by omega) (by omega) (by assumption) rfl | exact opv_indexAddrE rfl (by assumption) (by omega) rfl (by first | decide | omega) (by first | decide | omega) | exact opv_indexAddrRN rfl rfl (by omega) | exact opv_indexAddrR rfl rfl (by omega) (by omega) | exact opv_indexAddrRA rfl (by omega) rfl (by first | decide | omega) (by first | decide | omega) | exact opv_indexAddrSP rfl rfl (by omega) (by omega) | exact opv_indexAddrSN rfl rfl (by omega) (by assumption) (by omega) | exact opv_indexAddrS rfl rfl (by omega) (by omega) (by assumption) (by omega)) ?_
 refine th_take rfl rfl (by kernel_rfl)  (by first | exact opv_load1 rfl rfl rfl | exact opv_loadA rfl rfl rfl | exact opv_loadE1 rfl (by assumption) rfl (by omega) rfl rfl | exact opv_loadEA rfl (by assumption) rfl (by omega) rfl rfl | exact opv_loadRX1 rfl rfl (by omega) rfl rfl | exact opv_loadRXA rfl rfl (by omega) rfl rfl rfl | exact opv_loadIX rfl rfl (by omega) | exact opv_loadR1 rfl rfl rfl | exact opv_loadRA rfl rfl rfl rfl) ?_
 refine th_take rfl rfl (by kernel_rfl)  (by first | exact opv_eql rfl rfl | exact opv_eqlI rfl rfl rfl rfl rfl rfl | exact opv_eqlB rfl rfl | exact opv_eqlNil rfl rfl) ?_
 refine th_take rfl rfl (by kernel_rfl)  (by first | exact opv_load1 rfl rfl rfl | exact opv_loadA rfl rfl rfl | exact opv_loadE1 rfl (by assumption) rfl (by omega) rfl rfl | exact opv_loadEA rfl (by assumption) rfl (by omega) rfl rfl | exact opv_loadRX1 rfl rfl (by omega) rfl rfl | exact opv_loadRXA rfl rfl (by omega) rfl rfl rfl | exact opv_loadIX rfl rfl (by omega) | exact opv_loadR1 rfl rfl rfl | exact opv_loadRA rfl rfl rfl rfl) ?_
 refine th_take rfl rfl (by kernel_rfl)  (opv_move rfl) ?_
 refine th_one (by kernel_rfl) (step_m rfl rfl (opg_call (xs := [_, _]) rfl (base_around (i := 6) hlen hb (by omega) (by omega))) ?_)
 rintro _ _ _ ⟨rfl, rfl, rfl⟩
 refine ⟨Suf.h, (by first | exact fun _ h => h | assumption | exact fun _ h => (by assumption : _ ⊆ _) ((by assumption : _ ⊆ _) h)), ?_⟩
 skip
 refine th_one (by kernel_rfl) (step_m rfl rfl (opg_call (xs := [_, _]) rfl (life_lives)) ?_)
 rintro _ _ _ ⟨rfl, rfl, rfl⟩
 refine ⟨Suf.h, (by first | exact fun _ h => h | assumption | exact fun _ h => (by assumption : _ ⊆ _) ((by assumption : _ ⊆ _) h)), ?_⟩
 refine th_done (by kernel_rfl) ?_
 refine tT ?_
 refine tri_cut (fun F' A' J => F' = [(1, .int .i64 n), (2, pt b2 0), (6, pt b6 0), (7, pt b7 0), (8, .int .i64 1), (13, .int .i64 1)] ∧ A' = Box b7 [.int .i64 (R8.bit (R8.s16 ns n) 1 1), .int .i64 (R8.bit (R8.s16 ns n) 1 2), .int .i64 (0), .int .i64 (0)] 33 :: Box b6 (ints (R8.s16 ns n)) 114 :: Box bx [.slice a ns.length cap, .int .i64 room, .map (some mb)] 99 :: Row a cap ns.length 35 6 (encs ns) :: Box b2 [pt bx 0] 93 :: MapA Try.prog 33 mb es :: A ∧ I = J) ?_ ?_
 ·refine tri_cond rfl (fun hv => ?_) (fun hv => ?_)
  ·refine tR (tM rfl rfl ?_)
   refine tri_v (by first | exact opv_indexAddrA rfl rfl (by first | decide | omega) (by first | decide | omega) | exact opv_indexAddrSN rfl rfl (by omega) (by assumption) rfl | exact opv_indexAddrS rfl rfl (by omega) (by omega) (by assumption) rfl | exact opv_indexAddrE rfl (by assumption) (by omega) rfl (by first | decide | omega) (by first | decide | omega) | exact opv_indexAddrRN rfl rfl (by omega) | exact opv_indexAddrR rfl rfl (by omega) (by omega) | exact opv_indexAddrRA rfl (by omega) rfl (by first | decide | omega) (by first | decide | omega) | exact opv_indexAddrSP rfl rfl (by omega) (by omega) | exact opv_indexAddrSN rfl rfl (by omega) (by assumption) (by omega) | exact opv_indexAddrS rfl rfl (by omega) (by omega) (by assumption) (by omega)) rfl ?_
   refine tri_g (opg_store rfl rfl rfl rfl rfl rfl) rfl ?_
   rintro _ _ _ ⟨rfl, rfl⟩
   refine tN ?_
   have hv' : R2.lives (decide (R8.g (R8.s16 ns n) 6 = 1)) (R8.ar (R8.s16 ns n) 6) = true := hv
   exact tri_cutEnd _ ⟨rfl, by rw [hb1, if_pos hv'] <;> rfl, rfl⟩ ⟨rfl, rfl, rfl, rfl, rfl, rfl, trivial⟩
  ·refine tri_skip ?_
   have hv' : ¬ R2.lives (decide (R8.g (R8.s16 ns n) 6 = 1)) (R8.ar (R8.s16 ns n) 6) = true := fun h => Bool.false_ne_true (hv.symm.trans h)
   exact tri_cutEnd _ ⟨rfl, by rw [hb1, if_neg hv'] <;> rfl, rfl⟩ ⟨rfl, rfl, rfl, rfl, rfl, rfl, trivial⟩
 rintro _ _ _ ⟨rfl, rfl, rfl⟩
 skip
 refine tri_inBlock ?_
 refine tT (tR ?_)
 refine tri_v (by first | exact opv_add rfl rfl (w64 (by omega) (by omega))) rfl ?_
 refine tM rfl rfl (tN (tT ?_))
 refine tri_round ?_
 refine tS (tR ?_)
 refine tri_v (opv_lss rfl rfl) rfl ?_
 refine tN (tT (tS ?_))
 skip
 refine tri_cond_is rfl ((by decide)) ?_
 refine tri_skip (tT (tS (tri_block (tS (tR (tM rfl rfl (tA rfl rfl ?_)))))))
 refine tN (tT (tS (tR (tM rfl rfl ?_))))
 refine tri_v (by first | exact opv_quoE rfl rfl (by omega) (by omega) (by omega) | exact opv_quo rfl rfl (by omega) (w64 (by omega) (by omega))) rfl ?_
 refine tri_v (by first | exact opv_add rfl rfl (w64 (by omega) (by omega))) rfl ?_
 refine tri_v (by first | exact opv_mul rfl rfl (w64 (by omega) (by omega)) | exact opv_mul rfl rfl (by assumption)) rfl ?_
 refine tri_v (by first | exact opv_add rfl rfl (w64 (by omega) (by omega))) rfl ?_
 refine tM rfl rfl ?_
 refine tri_v (by first | exact opv_remE rfl rfl (by omega) (by omega) | exact opv_rem rfl rfl (by omega) rfl) rfl ?_
 refine tri_v (by first | exact opv_add rfl rfl (w64 (by omega) (by omega))) rfl ?_
 refine tA rfl rfl (tN (tT (tS ?_)))
 refine tri_draw [0, 1, 2, 3, 4, 5, 6, 7] rfl [] rfl mixed ?_
 refine th_take rfl rfl (by kernel_rfl)  (opv_move rfl) ?_
 refine th_take rfl rfl (by kernel_rfl)  (by first | exact opv_indexAddrA rfl rfl (by first | decide | omega) (by first | decide | omega) | exact opv_indexAddrSN rfl rfl (by omega) (by assumption) rfl | exact opv_indexAddrS rfl rfl (by omega) (by omega) (by assumption) rfl | exact opv_indexAddrE rfl (by assumption) (by omega) rfl (by first | decide | omega) (by first | decide | omega) | exact opv_indexAddrRN rfl rfl (by omega) | exact opv_indexAddrR rfl rfl (by omega) (by omega) | exact opv_indexAddrRA rfl (by omega) rfl (by first | decide | omega) (by first | decide | omega) | exact opv_indexAddrSP rfl rfl (by omega) (by omega) | exact opv_indexAddrSN rfl rfl (by omega) (by assumption) (by omega) | exact opv_indexAddrS rfl rfl (by omega) (by omega) (by assumption) (by omega)) ?_
 refine th_take rfl rfl (by kernel_rfl)  (by first | exact opv_load1 rfl rfl rfl | exact opv_loadA rfl rfl rfl | exact opv_loadE1 rfl (by assumption) rfl (by omega) rfl rfl | exact opv_loadEA rfl (by assumption) rfl (by omega) rfl rfl | exact opv_loadRX1 rfl rfl (by omega) rfl rfl | exact opv_loadRXA rfl rfl (by omega) rfl rfl rfl | exact opv_loadIX rfl rfl (by omega) | exact opv_loadR1 rfl rfl rfl | exact opv_loadRA rfl rfl rfl rfl) ?_
 refine th_take rfl rfl (by kernel_rfl)  (by first | exact opv_eql rfl rfl | exact opv_eqlI rfl rfl rfl rfl rfl rfl | exact opv_eqlB rfl rfl | exact opv_eqlNil rfl rfl) ?_
 refine th_take rfl rfl (by kernel_rfl)  (by first | exact opv_load1 rfl rfl rfl | exact opv_loadA rfl rfl rfl | exact opv_loadE1 rfl (by assumption) rfl (by omega) rfl rfl | exact opv_loadEA rfl (by assumption) rfl (by omega) rfl rfl | exact opv_loadRX1 rfl rfl (by omega) rfl rfl | exact opv_loadRXA rfl rfl (by omega) rfl rfl rfl | exact opv_loadIX rfl rfl (by omega) | exact opv_loadR1 rfl rfl rfl | exact opv_loadRA rfl rfl rfl rfl) ?_
 refine th_take rfl rfl (by kernel_rfl)  (opv_move rfl) ?_
 refine th_one (by kernel_rfl) (step_m rfl rfl (opg_call (xs := [_, _]) rfl (base_around (i := 9) hlen hb (by omega) (by omega))) ?_)
 rintro _ _ _ ⟨rfl, rfl, rfl⟩
 refine ⟨Suf.h, (by first | exact fun _ h => h | assumption | exact fun _ h => (by assumption : _ ⊆ _) ((by assumption : _ ⊆ _) h)), ?_⟩
 skip
 refine th_one (by kernel_rfl) (step_m rfl rfl (opg_call (xs := [_, _]) rfl (life_lives)) ?_)
 rintro _ _ _ ⟨rfl, rfl, rfl⟩
 refine ⟨Suf.h, (by first | exact fun _ h => h | assumption | exact fun _ h => (by assumption : _ ⊆ _) ((by assumption : _ ⊆ _) h)), ?_⟩
 refine th_done (by kernel_rfl) ?_
 refine tT ?_
 refine tri_cut (fun F' A' J => F' = [(1, .int .i64 n), (2, pt b2 0), (6, pt b6 0), (7, pt b7 0), (8, .int .i64 2), (13, .int .i64 2)] ∧ A' = Box b7 [.int .i64 (R8.bit (R8.s16 ns n) 1 1), .int .i64 (R8.bit (R8.s16 ns n) 1 2), .int .i64 (R8.bit (R8.s16 ns n) 2 1), .int .i64 (0)] 33 :: Box b6 (ints (R8.s16 ns n)) 114 :: Box bx [.slice a ns.length cap, .int .i64 room, .map (some mb)] 99 :: Row a cap ns.length 35 6 (encs ns) :: Box b2 [pt bx 0] 93 :: MapA Try.prog 33 mb es :: A ∧ I = J) ?_ ?_
 ·refine tri_cond rfl (fun hv => ?_) (fun hv => ?_)
  ·refine tR (tM rfl rfl ?_)
   refine tri_v (by first | exact opv_indexAddrA rfl rfl (by first | decide | omega) (by first | decide | omega) | exact opv_indexAddrSN rfl rfl (by omega) (by assumption) rfl | exact opv_indexAddrS rfl rfl (by omega) (by omega) (by assumption) rfl | exact opv_indexAddrE rfl (by assumption) (by omega) rfl (by first | decide | omega) (by first | decide | omega) | exact opv_indexAddrRN rfl rfl (by omega) | exact opv_indexAddrR rfl rfl (by omega) (by omega) | exact opv_indexAddrRA rfl (by omega) rfl (by first | decide | omega) (by first | decide | omega) | exact opv_indexAddrSP rfl rfl (by omega) (by omega) | exact opv_indexAddrSN rfl rfl (by omega) (by assumption) (by omega) | exact opv_indexAddrS rfl rfl (by omega) (by omega) (by assumption) (by omega)) rfl ?_
   refine tri_g (opg_store rfl rfl rfl rfl rfl rfl) rfl ?_
   rintro _ _ _ ⟨rfl, rfl⟩
   refine tN ?_
   have hv' : R2.lives (decide (R8.g (R8.s16 ns n) 9 = 1)) (R8.ar (R8.s16 ns n) 9) = true := hv
   exact tri_cutEnd _ ⟨rfl, by rw [hb2, if_pos hv'] <;> rfl, rfl⟩ ⟨rfl, rfl, rfl, rfl, rfl, rfl, trivial⟩
  ·refine tri_skip ?_
   have hv' : ¬ R2.lives (decide (R8.g (R8.s16 ns n) 9 = 1)) (R8.ar (R8.s16 ns n) 9) = true := fun h => Bool.false_ne_true (hv.symm.trans h)
   exact tri_cutEnd _ ⟨rfl, by rw [hb2, if_neg hv'] <;> rfl, rfl⟩ ⟨rfl, rfl, rfl, rfl, rfl, rfl, trivial⟩
 rintro _ _ _ ⟨rfl, rfl, rfl⟩
 skip
 refine tri_inBlock ?_
 refine tT (tR ?_)
 refine tri_v (by first | exact opv_add rfl rfl (w64 (by omega) (by omega))) rfl ?_
 refine tM rfl rfl (tN (tT ?_))
 refine tri_round ?_
 refine tS (tR ?_)
 refine tri_v (opv_lss rfl rfl) rfl ?_
 refine tN (tT (tS ?_))
 skip
 refine tri_cond_is rfl ((by decide)) ?_
 refine tri_skip (tT (tS (tri_block (tS (tR (tM rfl rfl (tA rfl rfl ?_)))))))
 refine tN (tT (tS (tR (tM rfl rfl ?_))))
 refine tri_v (by first | exact opv_quoE rfl rfl (by omega) (by omega) (by omega) | exact opv_quo rfl rfl (by omega) (w64 (by omega) (by omega))) rfl ?_
 refine tri_v (by first | exact opv_add rfl rfl (w64 (by omega) (by omega))) rfl ?_
 refine tri_v (by first | exact opv_mul rfl rfl (w64 (by omega) (by omega)) | exact opv_mul rfl rfl (by assumption)) rfl ?_
 refine tri_v (by first | exact opv_add rfl rfl (w64 (by omega) (by omega))) rfl ?_
 refine tM rfl rfl ?_
 refine tri_v (by first | exact opv_remE rfl rfl (by omega) (by omega) | exact opv_rem rfl rfl (by omega) rfl) rfl ?_
 refine tri_v (by first | exact opv_add rfl rfl (w64 (by omega) (by omega))) rfl ?_
 refine tA rfl rfl (tN (tT (tS ?_)))
 refine tri_draw [0, 1, 2, 3, 4, 5, 6, 7] rfl [] rfl mixed ?_
 refine th_take rfl rfl (by kernel_rfl)  (opv_move rfl) ?_
 refine th_take rfl rfl (by kernel_rfl)  (by first | exact opv_indexAddrA rfl rfl (by first | decide | omega) (by first | decide | omega) | exact opv_indexAddrSN rfl rfl (by omega) (by assumption) rfl | exact opv_indexAddrS rfl rfl (by omega) (by omega) (by assumption) rfl | exact opv_indexAddrE rfl (by assumption) (by omega) rfl (by first | decide | omega) (by first | decide | omega) | exact opv_indexAddrRN rfl rfl (by omega) | exact opv_indexAddrR rfl rfl (by omega) (by omega) | exact opv_indexAddrRA rfl (by omega) rfl (by first | decide | omega) (by first | decide | omega) | exact opv_indexAddrSP rfl rfl (by omega) (by omega) | exact opv_indexAddrSN rfl rfl (by omega) (by assumption) (by omega) | exact opv_indexAddrS rfl rfl (by omega) (by omega) (by assumption) (by omega)) ?_
 refine th_take rfl rfl (by kernel_rfl)  (by first | exact opv_load1 rfl rfl rfl | exact opv_loadA rfl rfl rfl | exact opv_loadE1 rfl (by assumption) rfl (by omega) rfl rfl | exact opv_loadEA rfl (by assumption) rfl (by omega) rfl rfl | exact opv_loadRX1 rfl rfl (by omega) rfl rfl | exact opv_loadRXA rfl rfl (by omega) rfl rfl rfl | exact opv_loadIX rfl rfl (by omega) | exact opv_loadR1 rfl rfl rfl | exact opv_loadRA rfl rfl rfl rfl) ?_
 refine th_take rfl rfl (by kernel_rfl)  (by first | exact opv_eql rfl rfl | exact opv_eqlI rfl rfl rfl rfl rfl rfl | exact opv_eqlB rfl rfl | exact opv_eqlNil rfl rfl) ?_
 refine th_take rfl rfl (by kernel_rfl)  (by first | exact opv_load1 rfl rfl rfl | exact opv_loadA rfl rfl rfl | exact opv_loadE1 rfl (by assumption) rfl (by omega) rfl rfl | exact opv_loadEA rfl (by assumption) rfl (by omega) rfl rfl | exact opv_loadRX1 rfl rfl (by omega) rfl rfl | exact opv_loadRXA rfl rfl (by omega) rfl rfl rfl | exact opv_loadIX rfl rfl (by omega) | exact opv_loadR1 rfl rfl rfl | exact opv_loadRA rfl rfl rfl rfl) ?_
 refine th_take rfl rfl (by kernel_rfl)  (opv_move rfl) ?_
 refine th_one (by kernel_rfl) (step_m rfl rfl (opg_call (xs := [_, _]) rfl (base_around (i := 10) hlen hb (by omega) (by omega))) ?_)
 rintro _ _ _ ⟨rfl, rfl, rfl⟩
 refine ⟨Suf.h, (by first | exact fun _ h => h | assumption | exact fun _ h => (by assumption : _ ⊆ _) ((by assumption : _ ⊆ _) h)), ?_⟩
 skip
 refine th_one (by kernel_rfl) (step_m rfl rfl (opg_call (xs := [_, _]) rfl (life_lives)) ?_)
 rintro _ _ _ ⟨rfl, rfl, rfl⟩
 refine ⟨Suf.h, (by first | exact fun _ h => h | assumption | exact fun _ h => (by assumption : _ ⊆ _) ((by assumption : _ ⊆ _) h)), ?_⟩
 refine th_done (by kernel_rfl) ?_
 refine tT ?_
 refine tri_cut (fun F' A' J => F' = [(1, .int .i64 n), (2, pt b2 0), (6, pt b6 0), (7, pt b7 0), (8, .int .i64 3), (13, .int .i64 3)] ∧ A' = Box b7 [.int .i64 (R8.bit (R8.s16 ns n) 1 1), .int .i64 (R8.bit (R8.s16 ns n) 1 2), .int .i64 (R8.bit (R8.s16 ns n) 2 1), .int .i64 (R8.bit (R8.s16 ns n) 2 2)] 33 :: Box b6 (ints (R8.s16 ns n)) 114 :: Box bx [.slice a ns.length cap, .int .i64 room, .map (some mb)] 99 :: Row a cap ns.length 35 6 (encs ns) :: Box b2 [pt bx 0] 93 :: MapA Try.prog 33 mb es :: A ∧ I = J) ?_ ?_
 ·refine tri_cond rfl (fun hv => ?_) (fun hv => ?_)
  ·refine tR (tM rfl rfl ?_)
   refine tri_v (by first | exact opv_indexAddrA rfl rfl (by first | decide | omega) (by first | decide | omega) | exact opv_indexAddrSN rfl rfl (by omega) (by assumption) rfl | exact opv_indexAddrS rfl rfl (by omega) (by omega) (by assumption) rfl | exact opv_indexAddrE rfl (by assumption) (by omega) rfl (by first | decide | omega) (by first | decide | omega) | exact opv_indexAddrRN rfl rfl (by omega) | exact opv_indexAddrR rfl rfl (by omega) (by omega) | exact opv_indexAddrRA rfl (by omega) rfl (by first | decide | omega) (by first | decide | omega) | exact opv_indexAddrSP rfl rfl (by omega) (by omega) | exact opv_indexAddrSN rfl rfl (by omega) (by assumption) (by omega) | exact opv_indexAddrS rfl rfl (by omega) (by omega) (by assumption) (by omega)) rfl ?_
   refine tri_g (opg_store rfl rfl rfl rfl rfl rfl) rfl ?_
   rintro _ _ _ ⟨rfl, rfl⟩
   refine tN ?_
   have hv' : R2.lives (decide (R8.g (R8.s16 ns n) 10 = 1)) (R8.ar (R8.s16 ns n) 10) = true := hv
   exact tri_cutEnd _ ⟨rfl, by rw [hb3, if_pos hv'] <;> rfl, rfl⟩ ⟨rfl, rfl, rfl, rfl, rfl, rfl, trivial⟩
  ·refine tri_skip ?_
   have hv' : ¬ R2.lives (decide (R8.g (R8.s16 ns n) 10 = 1)) (R8.ar (R8.s16 ns n) 10) = true := fun h => Bool.false_ne_true (hv.symm.trans h)
   exact tri_cutEnd _ ⟨rfl, by rw [hb3, if_neg hv'] <;> rfl, rfl⟩ ⟨rfl, rfl, rfl, rfl, rfl, rfl, trivial⟩
 rintro _ _ _ ⟨rfl, rfl, rfl⟩
 skip
 refine tri_inBlock ?_
 refine tT (tR ?_)
 refine tri_v (by first | exact opv_add rfl rfl (w64 (by omega) (by omega))) rfl ?_
 refine tM rfl rfl (tN (tT ?_))
 refine tri_round ?_
 refine tS (tR ?_)
 refine tri_v (opv_lss rfl rfl) rfl ?_
 refine tN (tT (tS ?_))
 refine tri_cond_not rfl ((by decide)) ?_
 refine tri_exit ?_
 refine tri_then_exit ?_
 refine tri_then_exit ?_
 refine tri_inBlock_hit rfl ?_
 refine tT (tS ?_)
 refine tri_perm (A := ?a4_0 :: ?a4_1 :: ?a4_2 :: ?a4_3 :: ?a4_4 :: ?a4_5 :: ?T4) (B := ?a4_2 :: ?a4_3 :: ?a4_5 :: ?a4_0 :: ?a4_1 :: ?a4_4 :: ?T4) (by exact permL [2, 3, 5, 0, 1, 4] [?a4_0, ?a4_1, ?a4_2, ?a4_3, ?a4_4, ?a4_5] ?T4 (by decide) rfl) ?_
 refine tR ?_
 refine tri_v (by first | exact opv_fieldAddr rfl rfl | exact opv_fieldAddrE rfl (by assumption) (by omega) rfl | exact opv_fieldAddrR rfl (by omega) rfl | exact opv_fieldAddrP rfl rfl rfl) rfl ?_
 refine tri_v (by first | exact opv_load1 rfl rfl rfl | exact opv_loadA rfl rfl rfl | exact opv_loadE1 rfl (by assumption) rfl (by omega) rfl rfl | exact opv_loadEA rfl (by assumption) rfl (by omega) rfl rfl | exact opv_loadRX1 rfl rfl (by omega) rfl rfl | exact opv_loadRXA rfl rfl (by omega) rfl rfl rfl | exact opv_loadIX rfl rfl (by omega) | exact opv_loadR1 rfl rfl rfl | exact opv_loadRA rfl rfl rfl rfl) rfl ?_
 refine tri_v (by first | exact opv_load1 rfl rfl rfl | exact opv_loadA rfl rfl rfl | exact opv_loadE1 rfl (by assumption) rfl (by omega) rfl rfl | exact opv_loadEA rfl (by assumption) rfl (by omega) rfl rfl | exact opv_loadRX1 rfl rfl (by omega) rfl rfl | exact opv_loadRXA rfl rfl (by omega) rfl rfl rfl | exact opv_loadIX rfl rfl (by omega) | exact opv_loadR1 rfl rfl rfl | exact opv_loadRA rfl rfl rfl rfl) rfl ?_
 refine tri_g (opg_call (xs := [_, _]) rfl (node_putR (r := R8.one ns room n) hg h2 hi rfl)) rfl ?_
 rintro _ _ _ ⟨a1, c1, es1, rfl, rfl, hi1, rfl⟩
 refine tri_v (opv_extract rfl rfl) rfl ?_
 refine tri_v (opv_extract rfl rfl) rfl ?_
 refine tA rfl rfl (tA rfl rfl (tN (tT (tri_ret ?_))))
 refine tri_perm (A := ?a5_0 :: ?a5_1 :: ?a5_2 :: ?a5_3 :: ?a5_4 :: ?a5_5 :: ?T5) (B := ?a5_3 :: ?a5_4 :: ?a5_5 :: ?a5_0 :: ?a5_1 :: ?a5_2 :: ?T5) (by exact permL [3, 4, 5, 0, 1, 2] [?a5_0, ?a5_1, ?a5_2, ?a5_3, ?a5_4, ?a5_5] ?T5 (by decide) rfl) ?_
 refine tri_end (IxA bx mb a1 c1 (R8.one ns room n).1 room es1 A) Suf.h rfl (.cons (rv_tmp rfl) (.cons (rv_tmp rfl) .nil)) ⟨a1, c1, es1, rfl, rfl, hi1, rfl⟩
end Go.GL

set_option linter.unusedVariables false
namespace Go.GL
open Go.Proofs
attribute [local irreducible] wpList Code.wp Exit.then Exit.inBlock Ends Tri TriH OpV OpG FnC epf wpAnyH
def BaseOfR (ns : List Node) (room n lv : Int) (A : List Asrt) (I : List Chunk) : Value → List Asrt → List Chunk → Prop := fun v A' I' =>
 (R8.may ns room n lv ∧ ∃ bx mb a' cap' es, v = .tuple [.agg [pt bx 0].toArray, .bool true].toArray ∧ A' = IxA bx mb a' cap' ns room es A ∧ Idx ns es ∧ I = I') ∨ (¬ R8.may ns room n lv ∧ ∃ p, v = .tuple [.agg [.pointer p].toArray, .bool false].toArray ∧ A = A' ∧ I = I')
set_option maxHeartbeats 1000000 in
set_option maxRecDepth 100000 in
theorem base_of {A : List Asrt} {I : List Chunk} {ns : List Node} {a : Option Addr} {cap : Nat} {room n lv : Int} (hs : StA I a cap ns) (hn : ns.length ≤ 1000000000) :
  FnC Try.prog 83 [storeV a ns.length cap room, .int .i64 n, .int .i64 lv].toArray A I (BaseOfR ns room n lv A I) := by
 have hsl := hs.sl
 skip
 refine fn_enter3 Try.func83 rfl Try.ntmps83 rfl fun w0 => ?_
 refine tS (tR ?_)
 refine tri_g (opg_box_agg rfl) rfl ?_
 rintro _ _ _ ⟨b3, rfl, rfl, rfl⟩
 refine tri_g opg_alloc rfl ?_
 rintro _ _ _ ⟨b6, rfl, rfl, rfl⟩
 refine tA rfl rfl (tN (tT (tS (tR ?_))))
 refine tri_v (opv_loadA rfl rfl rfl) rfl ?_
 refine tri_g (opg_call (xs := [_]) rfl (node_of hs hn)) rfl ?_
 rintro v A1 I1 hR
 rcases hR with ⟨hr, bx, mb, a1, c1, es, rfl, rfl, hix, rfl⟩ | ⟨hr, rfl, rfl, rfl⟩
 ·refine tM rfl rfl ?_
  refine tri_v (opv_extract rfl rfl) rfl ?_
  refine tri_v (opv_extract rfl rfl) rfl ?_
  refine tA rfl rfl (tA rfl rfl (tN (tT (tS ?_))))
  refine tri_perm (A := ?a1_0 :: ?a1_1 :: ?a1_2 :: ?a1_3 :: ?T1) (B := ?a1_3 :: ?a1_0 :: ?a1_1 :: ?a1_2 :: ?T1) (by exact permL [3, 0, 1, 2] [?a1_0, ?a1_1, ?a1_2, ?a1_3] ?T1 (by decide) rfl) ?_
  skip
  refine tri_draw [0, 1, 2, 3, 4, 5, 6, 7, 8, 9, 10, 11, 12, 13, 14, 15, 16, 17, 18, 19, 20, 21, 22, 23, 24, 25] rfl [_] rfl mixed ?_
  refine th_take rfl rfl (by kernel_rfl)  (opv_move rfl) ?_
  refine th_take rfl rfl (by kernel_rfl)  (opv_buildS rfl rfl) ?_
  refine th_take rfl rfl (by kernel_rfl)  (opv_move rfl) ?_
  refine th_take rfl rfl (by kernel_rfl)  (opv_move rfl) ?_
  skip
  refine th_take_g rfl rfl rfl rfl rfl (by kernel_rfl)  (opv_move rfl) ?_
  refine th_take_g rfl rfl rfl rfl rfl (by kernel_rfl)  (opv_geq rfl rfl) ?_
  refine th_take rfl rfl (by kernel_rfl)  (opv_pick_t rfl rfl) ?_
  refine th_take rfl rfl (by kernel_rfl)  (opv_move rfl) ?_
  refine th_split rfl rfl rfl (fun h1 => ?_) (fun h1 => ?_)
  ·refine th_take_g rfl rfl rfl rfl rfl (by kernel_rfl)  (opv_move rfl) ?_
   refine th_take_g rfl rfl rfl rfl rfl (by kernel_rfl)  (opv_fieldAddr rfl rfl) ?_
   refine th_take_g rfl rfl rfl rfl rfl (by kernel_rfl)  (opv_load1 rfl rfl rfl) ?_
   refine th_take_g rfl rfl rfl rfl rfl (by kernel_rfl)  (opv_len rfl) ?_
   refine th_take_g rfl rfl rfl rfl rfl (by kernel_rfl)  (opv_lss rfl rfl) ?_
   refine th_take rfl rfl (by kernel_rfl)  (opv_pick_t rfl rfl) ?_
   refine th_take rfl rfl (by kernel_rfl)  (opv_move rfl) ?_
   refine th_split rfl rfl rfl (fun h2 => ?_) (fun h2 => ?_)
   ·refine th_take_g rfl rfl rfl rfl rfl (by kernel_rfl)  (opv_fieldAddr rfl rfl) ?_
    refine th_take_g rfl rfl rfl rfl rfl (by kernel_rfl)  (opv_load1 rfl rfl rfl) ?_
    refine th_take_g rfl rfl rfl rfl rfl (by kernel_rfl)  (opv_move rfl) ?_
    refine th_take_g rfl rfl rfl rfl rfl (by kernel_rfl)  (opv_indexAddrS rfl rfl (by omega) (by omega) (by assumption) rfl) ?_
    refine th_take_g rfl rfl rfl rfl rfl (by kernel_rfl)  (opv_fieldAddrE rfl (by assumption) (by omega) rfl) ?_
    refine th_take_g rfl rfl rfl rfl rfl (by kernel_rfl)  (opv_loadE1 rfl (by assumption) rfl (by omega) rfl rfl) ?_
    refine th_take_g rfl rfl rfl rfl rfl (by kernel_rfl)  (opv_move rfl) ?_
    refine th_take_g rfl rfl rfl rfl rfl (by kernel_rfl)  (opv_geq rfl rfl) ?_
    refine th_take rfl rfl (by kernel_rfl)  (opv_pick_t rfl rfl) ?_
    refine th_one (by kernel_rfl) (step_m rfl rfl (opg_store rfl rfl rfl rfl rfl rfl) ?_)
    rintro _ _ _ ⟨rfl, rfl⟩
    refine ⟨Suf.h, (fun _ h => h), ?_⟩
    refine th_take rfl rfl (by kernel_rfl)  (opv_assign rfl) ?_
    refine th_done (by kernel_rfl) ?_
    refine tT (tri_ret ?_)
    refine tri_perm (A := ?a2_0 :: ?a2_1 :: ?a2_2 :: ?a2_3 :: ?a2_4 :: ?T2) (B := ?a2_0 :: ?a2_4 :: ?a2_1 :: ?a2_2 :: ?a2_3 :: ?T2) (by exact permL [0, 4, 1, 2, 3] [?a2_0, ?a2_1, ?a2_2, ?a2_3, ?a2_4] ?T2 (by decide) rfl) ?_
    by_cases h3 : lv ≤ (ns.getD n.toNat default).lv
    ·rw [decide_eq_true h3]
     refine tri_end _ (⟨[_, _], rfl⟩) rfl (.cons (rv_cellA rfl rfl rfl) (.cons (rv_tmp rfl) .nil)) (.inl ⟨⟨hr, ⟨h1, h2⟩, h3⟩, bx, mb, a1, c1, es, rfl, rfl, hix, rfl⟩)
    ·rw [decide_eq_false h3]
     refine tri_end A Suf.h rfl (.cons (rv_cellA rfl rfl rfl) (.cons (rv_tmp rfl) .nil)) (.inr ⟨fun h => h3 h.2.2, _, rfl, rfl, rfl⟩)
   ·refine th_skip rfl rfl rfl rfl rfl (by kernel_rfl)  ?_
    refine th_skip rfl rfl rfl rfl rfl (by kernel_rfl)  ?_
    refine th_skip rfl rfl rfl rfl rfl (by kernel_rfl)  ?_
    refine th_skip rfl rfl rfl rfl rfl (by kernel_rfl)  ?_
    refine th_skip rfl rfl rfl rfl rfl (by kernel_rfl)  ?_
    refine th_skip rfl rfl rfl rfl rfl (by kernel_rfl)  ?_
    refine th_skip rfl rfl rfl rfl rfl (by kernel_rfl)  ?_
    refine th_skip rfl rfl rfl rfl rfl (by kernel_rfl)  ?_
    refine th_take rfl rfl (by kernel_rfl)  (opv_pick_f rfl rfl) ?_
    refine th_one (by kernel_rfl) (step_m rfl rfl (opg_store rfl rfl rfl rfl rfl rfl) ?_)
    rintro _ _ _ ⟨rfl, rfl⟩
    refine ⟨Suf.h, (fun _ h => h), ?_⟩
    refine th_take rfl rfl (by kernel_rfl)  (opv_assign rfl) ?_
    refine th_done (by kernel_rfl) ?_
    refine tT (tri_ret ?_)
    refine tri_end A Suf.h rfl (.cons (rv_cellA rfl rfl rfl) (.cons (rv_tmp rfl) .nil)) (.inr ⟨fun h => h2 h.2.1.2, _, rfl, rfl, rfl⟩)
  ·refine th_skip rfl rfl rfl rfl rfl (by kernel_rfl)  ?_
   refine th_skip rfl rfl rfl rfl rfl (by kernel_rfl)  ?_
   refine th_skip rfl rfl rfl rfl rfl (by kernel_rfl)  ?_
   refine th_skip rfl rfl rfl rfl rfl (by kernel_rfl)  ?_
   refine th_skip rfl rfl rfl rfl rfl (by kernel_rfl)  ?_
   refine th_take rfl rfl (by kernel_rfl)  (opv_pick_f rfl rfl) ?_
   refine th_take rfl rfl (by kernel_rfl)  (opv_move rfl) ?_
   refine th_skip rfl rfl rfl rfl rfl (by kernel_rfl)  ?_
   refine th_skip rfl rfl rfl rfl rfl (by kernel_rfl)  ?_
   refine th_skip rfl rfl rfl rfl rfl (by kernel_rfl)  ?_
   refine th_skip rfl rfl rfl rfl rfl (by kernel_rfl)  ?_
   refine th_skip rfl rfl rfl rfl rfl (by kernel_rfl)  ?_
   refine th_skip rfl rfl rfl rfl rfl (by kernel_rfl)  ?_
   refine th_skip rfl rfl rfl rfl rfl (by kernel_rfl)  ?_
   refine th_skip rfl rfl rfl rfl rfl (by kernel_rfl)  ?_
   refine th_take rfl rfl (by kernel_rfl)  (opv_pick_f rfl rfl) ?_
   refine th_one (by kernel_rfl) (step_m rfl rfl (opg_store rfl rfl rfl rfl rfl rfl) ?_)
   rintro _ _ _ ⟨rfl, rfl⟩
   refine ⟨Suf.h, (fun _ h => h), ?_⟩
   refine th_take rfl rfl (by kernel_rfl)  (opv_assign rfl) ?_
   refine th_done (by kernel_rfl) ?_
   refine tT (tri_ret ?_)
   refine tri_end A Suf.h rfl (.cons (rv_cellA rfl rfl rfl) (.cons (rv_tmp rfl) .nil)) (.inr ⟨fun h => h1 h.2.1.1, _, rfl, rfl, rfl⟩)
 ·refine tM rfl rfl ?_
  refine tri_v (opv_extract rfl rfl) rfl ?_
  refine tri_v (opv_extract rfl rfl) rfl ?_
  refine tA rfl rfl (tA rfl rfl (tN (tT (tS ?_))))
  skip
  refine tri_draw [0, 1, 2, 3, 4, 5, 6, 7, 8, 9, 10, 11, 12, 13, 14, 15, 16, 17, 18, 19, 20, 21, 22, 23, 24, 25] rfl [_] rfl mixed ?_
  refine th_take rfl rfl (by kernel_rfl)  (opv_move rfl) ?_
  refine th_take rfl rfl (by kernel_rfl)  (opv_buildS rfl rfl) ?_
  refine th_take rfl rfl (by kernel_rfl)  (opv_move rfl) ?_
  refine th_take rfl rfl (by kernel_rfl)  (opv_move rfl) ?_
  skip
  refine th_skip rfl rfl rfl rfl rfl (by kernel_rfl)  ?_
  refine th_skip rfl rfl rfl rfl rfl (by kernel_rfl)  ?_
  refine th_take rfl rfl (by kernel_rfl)  (opv_pick_f rfl rfl) ?_
  refine th_take rfl rfl (by kernel_rfl)  (opv_move rfl) ?_
  refine th_skip rfl rfl rfl rfl rfl (by kernel_rfl)  ?_
  refine th_skip rfl rfl rfl rfl rfl (by kernel_rfl)  ?_
  refine th_skip rfl rfl rfl rfl rfl (by kernel_rfl)  ?_
  refine th_skip rfl rfl rfl rfl rfl (by kernel_rfl)  ?_
  refine th_skip rfl rfl rfl rfl rfl (by kernel_rfl)  ?_
  refine th_take rfl rfl (by kernel_rfl)  (opv_pick_f rfl rfl) ?_
  refine th_take rfl rfl (by kernel_rfl)  (opv_move rfl) ?_
  refine th_skip rfl rfl rfl rfl rfl (by kernel_rfl)  ?_
  refine th_skip rfl rfl rfl rfl rfl (by kernel_rfl)  ?_
  refine th_skip rfl rfl rfl rfl rfl (by kernel_rfl)  ?_
  refine th_skip rfl rfl rfl rfl rfl (by kernel_rfl)  ?_
  refine th_skip rfl rfl rfl rfl rfl (by kernel_rfl)  ?_
  refine th_skip rfl rfl rfl rfl rfl (by kernel_rfl)  ?_
  refine th_skip rfl rfl rfl rfl rfl (by kernel_rfl)  ?_
  refine th_skip rfl rfl rfl rfl rfl (by kernel_rfl)  ?_
  refine th_take rfl rfl (by kernel_rfl)  (opv_pick_f rfl rfl) ?_
  refine th_one (by kernel_rfl) (step_m rfl rfl (opg_store rfl rfl rfl rfl rfl rfl) ?_)
  rintro _ _ _ ⟨rfl, rfl⟩
  refine ⟨Suf.h, (fun _ h => h), ?_⟩
  refine th_take rfl rfl (by kernel_rfl)  (opv_assign rfl) ?_
  refine th_done (by kernel_rfl) ?_
  refine tT (tri_ret ?_)
  refine tri_end A Suf.h rfl (.cons (rv_cellA rfl rfl rfl) (.cons (rv_tmp rfl) .nil)) (.inr ⟨fun h => hr h.1, _, rfl, rfl, rfl⟩)
end Go.GL

set_option linter.unusedVariables false
namespace Go.GL
open Go.Proofs
attribute [local irreducible] wpList Code.wp Exit.then Exit.inBlock Ends Tri TriH OpV OpG FnC epf wpAnyH
variable {A : List Asrt} {I : List Chunk}
/-- What Maker.Nine tells and leaves behind. -/
def IxR9 (bx mb : Nat) (r : R8.R9) (room : Int) (A : List Asrt) (I : List Chunk) : Value → List Asrt → List Chunk → Prop :=
 fun v A' I' => ∃ a' cap' es' ns' q0 q1 q2 q3 q4 q5 q6 q7 q8, v = .tuple [.agg [.int .i64 q0, .int .i64 q1, .int .i64 q2, .int .i64 q3, .int .i64 q4, .int .i64 q5, .int .i64 q6, .int .i64 q7, .int .i64 q8].toArray, .int .i64 r.2.2].toArray ∧ A' = IxA bx mb a' cap' ns' room es' A ∧ (r.2.2 = 0 → ns' = r.1 ∧ r.2.1 = [q0, q1, q2, q3, q4, q5, q6, q7, q8] ∧ Idx r.1 es') ∧ I = I'
set_option maxHeartbeats 2000000 in
set_option maxRecDepth 100000 in
theorem maker_nine {ns : List Node} {a : Option Addr} {cap bx mb : Nat} {room n : Int} {es : KVs} (hg : R6.Good ns room) (h2 : 2 ≤ ns.length) (hi : Idx ns es) (hk : R8.Kid ns n) :
  FnC Try.prog 97 [.agg [pt bx 0].toArray, .int .i64 n].toArray (IxA bx mb a cap ns room es A) I (IxR9 bx mb (R8.all ns room n) room A I) := by
 obtain ⟨p0, e0⟩ : ∃ p, R8.putSq ns room (R8.s16 ns n) 0 0 = p := ⟨_, rfl⟩
 obtain ⟨p1, e1⟩ : ∃ p, R8.putSq p0.1 room (R8.s16 ns n) 0 1 = p := ⟨_, rfl⟩
 obtain ⟨p2, e2⟩ : ∃ p, R8.putSq p1.1 room (R8.s16 ns n) 0 2 = p := ⟨_, rfl⟩
 obtain ⟨p3, e3⟩ : ∃ p, R8.putSq p2.1 room (R8.s16 ns n) 1 0 = p := ⟨_, rfl⟩
 obtain ⟨p4, e4⟩ : ∃ p, R8.putSq p3.1 room (R8.s16 ns n) 1 1 = p := ⟨_, rfl⟩
 obtain ⟨p5, e5⟩ : ∃ p, R8.putSq p4.1 room (R8.s16 ns n) 1 2 = p := ⟨_, rfl⟩
 obtain ⟨p6, e6⟩ : ∃ p, R8.putSq p5.1 room (R8.s16 ns n) 2 0 = p := ⟨_, rfl⟩
 obtain ⟨p7, e7⟩ : ∃ p, R8.putSq p6.1 room (R8.s16 ns n) 2 1 = p := ⟨_, rfl⟩
 obtain ⟨p8, e8⟩ : ∃ p, R8.putSq p7.1 room (R8.s16 ns n) 2 2 = p := ⟨_, rfl⟩
 rw [R8.all_eq e0 e1 e2 e3 e4 e5 e6 e7 e8]
 have g0 : R6.Good p0.1 room := e0 ▸ hg.put ..
 have l0 : 2 ≤ p0.1.length := e0 ▸ R6.put_len h2
 have g1 : R6.Good p1.1 room := e1 ▸ g0.put ..
 have l1 : 2 ≤ p1.1.length := e1 ▸ R6.put_len l0
 have g2 : R6.Good p2.1 room := e2 ▸ g1.put ..
 have l2 : 2 ≤ p2.1.length := e2 ▸ R6.put_len l1
 have g3 : R6.Good p3.1 room := e3 ▸ g2.put ..
 have l3 : 2 ≤ p3.1.length := e3 ▸ R6.put_len l2
 have g4 : R6.Good p4.1 room := e4 ▸ g3.put ..
 have l4 : 2 ≤ p4.1.length := e4 ▸ R6.put_len l3
 have g5 : R6.Good p5.1 room := e5 ▸ g4.put ..
 have l5 : 2 ≤ p5.1.length := e5 ▸ R6.put_len l4
 have g6 : R6.Good p6.1 room := e6 ▸ g5.put ..
 have l6 : 2 ≤ p6.1.length := e6 ▸ R6.put_len l5
 have g7 : R6.Good p7.1 room := e7 ▸ g6.put ..
 have l7 : 2 ≤ p7.1.length := e7 ▸ R6.put_len l6
 have g8 : R6.Good p8.1 room := e8 ▸ g7.put ..
 have l8 : 2 ≤ p8.1.length := e8 ▸ R6.put_len l7
 skip
 refine fn_enter2 Try.func97 rfl Try.ntmps97 rfl fun w0 => ?_
 refine tS (tR ?_)
 first | refine tri_g (opg_box_agg rfl) rfl ?_ | refine tri_g (opg_box1 rfl rfl) rfl ?_
 rintro _ _ _ ⟨b2, rfl, rfl, rfl⟩
 refine tri_g opg_alloc rfl ?_
 rintro _ _ _ ⟨b4, rfl, rfl, rfl⟩
 refine tA rfl rfl (tN (tT (tS ?_)))
 refine tri_perm (A := ?a1_0 :: ?a1_1 :: ?a1_2 :: ?a1_3 :: ?a1_4 :: ?T1) (B := ?a1_2 :: ?a1_3 :: ?a1_4 :: ?a1_0 :: ?a1_1 :: ?T1) (by exact permL [2, 3, 4, 0, 1] [?a1_0, ?a1_1, ?a1_2, ?a1_3, ?a1_4] ?T1 (by decide) rfl) ?_
 refine tR ?_
 refine tri_v (by first | exact opv_load1 rfl rfl rfl | exact opv_loadA rfl rfl rfl | exact opv_loadE1 rfl (by assumption) rfl (by omega) rfl rfl | exact opv_loadEA rfl (by assumption) rfl (by omega) rfl rfl | exact opv_loadRX1 rfl rfl (by omega) rfl rfl | exact opv_loadRXA rfl rfl (by omega) rfl rfl rfl | exact opv_loadIX rfl rfl (by omega) | exact opv_loadR1 rfl rfl rfl | exact opv_loadRA rfl rfl rfl rfl) rfl ?_
 refine tM rfl rfl ?_
 refine tri_g (opg_call (xs := [_, _]) rfl (base_sixteen hk)) rfl ?_
 rintro _ _ _ ⟨rfl, rfl, rfl⟩
 refine tri_g opg_alloc rfl ?_
 rintro _ _ _ ⟨b6, rfl, rfl, rfl⟩
 refine tri_g (opg_store rfl rfl rfl rfl rfl rfl) rfl ?_
 rintro _ _ _ ⟨rfl, rfl⟩
 refine tN (tT (tS (tS (tR (tM rfl rfl (tN (tT ?_)))))))
 refine tri_block ?_
 refine tri_perm (A := ?a2_0 :: ?a2_1 :: ?a2_2 :: ?a2_3 :: ?a2_4 :: ?a2_5 :: ?T2) (B := ?a2_1 :: ?a2_2 :: ?a2_3 :: ?a2_4 :: ?a2_0 :: ?a2_5 :: ?T2) (by exact permL [1, 2, 3, 4, 0, 5] [?a2_0, ?a2_1, ?a2_2, ?a2_3, ?a2_4, ?a2_5] ?T2 (by decide) rfl) ?_
 refine tri_rounds 10 ?_
 refine tri_round ?_
 refine tS (tR ?_)
 refine tri_v (opv_lss rfl rfl) rfl ?_
 refine tN (tT (tS ?_))
 refine tri_cond_is rfl ((by decide)) ?_
 skip
 refine tri_skip (tT (tS (tri_block (tS (tR (tM rfl rfl (tA rfl rfl ?_)))))))
 refine tN (tT (tS ?_))
 refine tri_draw [0, 1, 2, 3, 4, 5, 6, 7, 8, 9, 10, 11, 12, 13, 14, 15] rfl [_, _, _, _] rfl mixed ?_
 refine th_take rfl rfl (by kernel_rfl)  (opv_move rfl) ?_
 refine th_take rfl rfl (by kernel_rfl)  (by first | exact opv_fieldAddr rfl rfl | exact opv_fieldAddrE rfl (by assumption) (by omega) rfl | exact opv_fieldAddrR rfl (by omega) rfl | exact opv_fieldAddrP rfl rfl rfl) ?_
 refine th_take rfl rfl (by kernel_rfl)  (by first | exact opv_load1 rfl rfl rfl | exact opv_loadA rfl rfl rfl | exact opv_loadE1 rfl (by assumption) rfl (by omega) rfl rfl | exact opv_loadEA rfl (by assumption) rfl (by omega) rfl rfl | exact opv_loadRX1 rfl rfl (by omega) rfl rfl | exact opv_loadRXA rfl rfl (by omega) rfl rfl rfl | exact opv_loadIX rfl rfl (by omega) | exact opv_loadR1 rfl rfl rfl | exact opv_loadRA rfl rfl rfl rfl) ?_
 refine th_take rfl rfl (by kernel_rfl)  (by first | exact opv_load1 rfl rfl rfl | exact opv_loadA rfl rfl rfl | exact opv_loadE1 rfl (by assumption) rfl (by omega) rfl rfl | exact opv_loadEA rfl (by assumption) rfl (by omega) rfl rfl | exact opv_loadRX1 rfl rfl (by omega) rfl rfl | exact opv_loadRXA rfl rfl (by omega) rfl rfl rfl | exact opv_loadIX rfl rfl (by omega) | exact opv_loadR1 rfl rfl rfl | exact opv_loadRA rfl rfl rfl rfl) ?_
 refine th_take rfl rfl (by kernel_rfl)  (opv_move rfl) ?_
 refine th_take rfl rfl (by kernel_rfl)  (by first | exact opv_quoE rfl rfl (by omega) (by omega) (by omega) | exact opv_quo rfl rfl (by omega) (w64 (by omega) (by omega))) ?_
 refine th_take rfl rfl (by kernel_rfl)  (opv_move rfl) ?_
 refine th_take rfl rfl (by kernel_rfl)  (by first | exact opv_remE rfl rfl (by omega) (by omega) | exact opv_rem rfl rfl (by omega) rfl) ?_
 refine th_one (by kernel_rfl) (step_m rfl rfl (opg_call (xs := [_, _, _]) rfl (base_square (R8.s16_len ns n) (by omega) (by omega) (by omega) (by omega))) ?_)
 rintro _ _ _ ⟨rfl, rfl, rfl⟩
 refine ⟨Suf.h, (by first | exact fun _ h => h | assumption | exact fun _ h => (by assumption : _ ⊆ _) ((by assumption : _ ⊆ _) h)), ?_⟩
 skip
 refine th_one (by kernel_rfl) (step_m rfl rfl (opg_call (xs := [_, _]) rfl (node_putR (r := p0) hg h2 hi e0)) ?_)
 rintro _ _ _ ⟨a0, c0, es0, rfl, rfl, hi0, rfl⟩
 refine ⟨Suf.h, (by first | exact fun _ h => h | assumption | exact fun _ h => (by assumption : _ ⊆ _) ((by assumption : _ ⊆ _) h)), ?_⟩
 refine th_take rfl rfl (by kernel_rfl)  (opv_move rfl) ?_
 refine th_take rfl rfl (by kernel_rfl)  (opv_extract rfl rfl) ?_
 refine th_take rfl rfl (by kernel_rfl)  (opv_extract rfl rfl) ?_
 refine th_take rfl rfl (by kernel_rfl)  (by first | exact opv_indexAddrA rfl rfl (by first | decide | omega) (by first | decide | omega) | exact opv_indexAddrSN rfl rfl (by omega) (by assumption) rfl | exact opv_indexAddrS rfl rfl (by omega) (by omega) (by assumption) rfl | exact opv_indexAddrE rfl (by assumption) (by omega) rfl (by first | decide | omega) (by first | decide | omega) | exact opv_indexAddrRN rfl rfl (by omega) | exact opv_indexAddrR rfl rfl (by omega) (by omega) | exact opv_indexAddrRA rfl (by omega) rfl (by first | decide | omega) (by first | decide | omega) | exact opv_indexAddrSP rfl rfl (by omega) (by omega) | exact opv_indexAddrSN rfl rfl (by omega) (by assumption) (by omega) | exact opv_indexAddrS rfl rfl (by omega) (by omega) (by assumption) (by omega)) ?_
 refine th_one (by kernel_rfl) (step_m rfl rfl (opg_store rfl rfl rfl rfl rfl rfl) ?_)
 rintro _ _ _ ⟨rfl, rfl⟩
 refine ⟨Suf.h, (by first | exact fun _ h => h | assumption | exact fun _ h => (by assumption : _ ⊆ _) ((by assumption : _ ⊆ _) h)), ?_⟩
 refine th_take rfl rfl (by kernel_rfl)  (opv_assign rfl) ?_
 refine th_done (by kernel_rfl) ?_
 refine tT (tS (tR (tM rfl rfl ?_)))
 refine tri_v (by first | exact opv_neq rfl rfl | exact opv_neqI rfl rfl rfl rfl rfl rfl | exact opv_neqB rfl rfl) rfl ?_
 refine tN (tT ?_)
 refine tri_cond_dec rfl (fun x0 => ?_) (fun x0 => ?_)
 ·rw [if_pos x0]
  refine tS (tR ?_)
  refine tri_v (by first | exact opv_buildS rfl rfl | exact opv_buildA rfl rfl) rfl ?_
  refine tM rfl rfl ?_
  refine tri_g (opg_store rfl rfl rfl rfl rfl rfl) rfl ?_
  rintro _ _ _ ⟨rfl, rfl⟩
  refine tA rfl rfl (tN (tT (tri_ret ?_)))
  refine tri_inBlock_ret ?_
  refine tri_then_ret (tri_then_ret ?_)
  refine tri_inBlock_ret ?_
  refine tri_then_ret ?_
  refine tri_perm (A := ?a3_0 :: ?a3_1 :: ?a3_2 :: ?a3_3 :: ?a3_4 :: ?a3_5 :: ?T3) (B := ?a3_3 :: ?a3_4 :: ?a3_5 :: ?a3_0 :: ?a3_1 :: ?a3_2 :: ?T3) (by exact permL [3, 4, 5, 0, 1, 2] [?a3_0, ?a3_1, ?a3_2, ?a3_3, ?a3_4, ?a3_5] ?T3 (by decide) rfl) ?_
  refine tri_end (IxA bx mb a0 c0 p0.1 room es0 A) Suf.h rfl (.cons (rv_cellA rfl rfl rfl) (.cons (rv_tmp rfl) .nil)) ⟨a0, c0, es0, p0.1, _, _, _, _, _, _, _, _, _, rfl, rfl, fun h => absurd h x0, rfl⟩
 refine tri_skip ?_
 refine tri_inBlock ?_
 refine tT (tR ?_)
 refine tri_v (by first | exact opv_add rfl rfl (w64 (by omega) (by omega))) rfl ?_
 refine tM rfl rfl (tN (tT ?_))
 refine tri_round ?_
 refine tS (tR ?_)
 refine tri_v (opv_lss rfl rfl) rfl ?_
 refine tN (tT (tS ?_))
 skip
 refine tri_cond_is rfl ((by decide)) ?_
 skip
 refine tri_skip (tT (tS (tri_block (tS (tR (tM rfl rfl (tA rfl rfl ?_)))))))
 refine tN (tT (tS ?_))
 refine tri_draw [0, 1, 2, 3, 4, 5, 6, 7, 8, 9, 10, 11, 12, 13, 14, 15] rfl [_, _, _, _] rfl mixed ?_
 refine th_take rfl rfl (by kernel_rfl)  (opv_move rfl) ?_
 refine th_take rfl rfl (by kernel_rfl)  (by first | exact opv_fieldAddr rfl rfl | exact opv_fieldAddrE rfl (by assumption) (by omega) rfl | exact opv_fieldAddrR rfl (by omega) rfl | exact opv_fieldAddrP rfl rfl rfl) ?_
 refine th_take rfl rfl (by kernel_rfl)  (by first | exact opv_load1 rfl rfl rfl | exact opv_loadA rfl rfl rfl | exact opv_loadE1 rfl (by assumption) rfl (by omega) rfl rfl | exact opv_loadEA rfl (by assumption) rfl (by omega) rfl rfl | exact opv_loadRX1 rfl rfl (by omega) rfl rfl | exact opv_loadRXA rfl rfl (by omega) rfl rfl rfl | exact opv_loadIX rfl rfl (by omega) | exact opv_loadR1 rfl rfl rfl | exact opv_loadRA rfl rfl rfl rfl) ?_
 refine th_take rfl rfl (by kernel_rfl)  (by first | exact opv_load1 rfl rfl rfl | exact opv_loadA rfl rfl rfl | exact opv_loadE1 rfl (by assumption) rfl (by omega) rfl rfl | exact opv_loadEA rfl (by assumption) rfl (by omega) rfl rfl | exact opv_loadRX1 rfl rfl (by omega) rfl rfl | exact opv_loadRXA rfl rfl (by omega) rfl rfl rfl | exact opv_loadIX rfl rfl (by omega) | exact opv_loadR1 rfl rfl rfl | exact opv_loadRA rfl rfl rfl rfl) ?_
 refine th_take rfl rfl (by kernel_rfl)  (opv_move rfl) ?_
 refine th_take rfl rfl (by kernel_rfl)  (by first | exact opv_quoE rfl rfl (by omega) (by omega) (by omega) | exact opv_quo rfl rfl (by omega) (w64 (by omega) (by omega))) ?_
 refine th_take rfl rfl (by kernel_rfl)  (opv_move rfl) ?_
 refine th_take rfl rfl (by kernel_rfl)  (by first | exact opv_remE rfl rfl (by omega) (by omega) | exact opv_rem rfl rfl (by omega) rfl) ?_
 refine th_one (by kernel_rfl) (step_m rfl rfl (opg_call (xs := [_, _, _]) rfl (base_square (R8.s16_len ns n) (by omega) (by omega) (by omega) (by omega))) ?_)
 rintro _ _ _ ⟨rfl, rfl, rfl⟩
 refine ⟨Suf.h, (by first | exact fun _ h => h | assumption | exact fun _ h => (by assumption : _ ⊆ _) ((by assumption : _ ⊆ _) h)), ?_⟩
 skip
 refine th_one (by kernel_rfl) (step_m rfl rfl (opg_call (xs := [_, _]) rfl (node_putR (r := p1) g0 l0 hi0 e1)) ?_)
 rintro _ _ _ ⟨a1, c1, es1, rfl, rfl, hi1, rfl⟩
 refine ⟨Suf.h, (by first | exact fun _ h => h | assumption | exact fun _ h => (by assumption : _ ⊆ _) ((by assumption : _ ⊆ _) h)), ?_⟩
 refine th_take rfl rfl (by kernel_rfl)  (opv_move rfl) ?_
 refine th_take rfl rfl (by kernel_rfl)  (opv_extract rfl rfl) ?_
 refine th_take rfl rfl (by kernel_rfl)  (opv_extract rfl rfl) ?_
 refine th_take rfl rfl (by kernel_rfl)  (by first | exact opv_indexAddrA rfl rfl (by first | decide | omega) (by first | decide | omega) | exact opv_indexAddrSN rfl rfl (by omega) (by assumption) rfl | exact opv_indexAddrS rfl rfl (by omega) (by omega) (by assumption) rfl | exact opv_indexAddrE rfl (by assumption) (by omega) rfl (by first | decide | omega) (by first | decide | omega) | exact opv_indexAddrRN rfl rfl (by omega) | exact opv_indexAddrR rfl rfl (by omega) (by omega) | exact opv_indexAddrRA rfl (by omega) rfl (by first | decide | omega) (by first | decide | omega) | exact opv_indexAddrSP rfl rfl (by omega) (by omega) | exact opv_indexAddrSN rfl rfl (by omega) (by assumption) (by omega) | exact opv_indexAddrS rfl rfl (by omega) (by omega) (by assumption) (by omega)) ?_
 refine th_one (by kernel_rfl) (step_m rfl rfl (opg_store rfl rfl rfl rfl rfl rfl) ?_)
 rintro _ _ _ ⟨rfl, rfl⟩
 refine ⟨Suf.h, (by first | exact fun _ h => h | assumption | exact fun _ h => (by assumption : _ ⊆ _) ((by assumption : _ ⊆ _) h)), ?_⟩
 refine th_take rfl rfl (by kernel_rfl)  (opv_assign rfl) ?_
 refine th_done (by kernel_rfl) ?_
 refine tT (tS (tR (tM rfl rfl ?_)))
 refine tri_v (by first | exact opv_neq rfl rfl | exact opv_neqI rfl rfl rfl rfl rfl rfl | exact opv_neqB rfl rfl) rfl ?_
 refine tN (tT ?_)
 refine tri_cond_dec rfl (fun x1 => ?_) (fun x1 => ?_)
 ·rw [if_neg x0, if_pos x1]
  refine tS (tR ?_)
  refine tri_v (by first | exact opv_buildS rfl rfl | exact opv_buildA rfl rfl) rfl ?_
  refine tM rfl rfl ?_
  refine tri_g (opg_store rfl rfl rfl rfl rfl rfl) rfl ?_
  rintro _ _ _ ⟨rfl, rfl⟩
  refine tA rfl rfl (tN (tT (tri_ret ?_)))
  refine tri_inBlock_ret ?_
  refine tri_then_ret (tri_then_ret ?_)
  refine tri_inBlock_ret ?_
  refine tri_then_ret ?_
  refine tri_perm (A := ?a4_0 :: ?a4_1 :: ?a4_2 :: ?a4_3 :: ?a4_4 :: ?a4_5 :: ?T4) (B := ?a4_3 :: ?a4_4 :: ?a4_5 :: ?a4_0 :: ?a4_1 :: ?a4_2 :: ?T4) (by exact permL [3, 4, 5, 0, 1, 2] [?a4_0, ?a4_1, ?a4_2, ?a4_3, ?a4_4, ?a4_5] ?T4 (by decide) rfl) ?_
  refine tri_end (IxA bx mb a1 c1 p1.1 room es1 A) Suf.h rfl (.cons (rv_cellA rfl rfl rfl) (.cons (rv_tmp rfl) .nil)) ⟨a1, c1, es1, p1.1, _, _, _, _, _, _, _, _, _, rfl, rfl, fun h => absurd h x1, rfl⟩
 refine tri_skip ?_
 refine tri_inBlock ?_
 refine tT (tR ?_)
 refine tri_v (by first | exact opv_add rfl rfl (w64 (by omega) (by omega))) rfl ?_
 refine tM rfl rfl (tN (tT ?_))
 refine tri_round ?_
 refine tS (tR ?_)
 refine tri_v (opv_lss rfl rfl) rfl ?_
 refine tN (tT (tS ?_))
 skip
 refine tri_cond_is rfl ((by decide)) ?_
 skip
 refine tri_skip (tT (tS (tri_block (tS (tR (tM rfl rfl (tA rfl rfl ?_)))))))
 refine tN (tT (tS ?_))
 refine tri_draw [0, 1, 2, 3, 4, 5, 6, 7, 8, 9, 10, 11, 12, 13, 14, 15] rfl [_, _, _, _] rfl mixed ?_
 refine th_take rfl rfl (by kernel_rfl)  (opv_move rfl) ?_
 refine th_take rfl rfl (by kernel_rfl)  (by first | exact opv_fieldAddr rfl rfl | exact opv_fieldAddrE rfl (by assumption) (by omega) rfl | exact opv_fieldAddrR rfl (by omega) rfl | exact opv_fieldAddrP rfl rfl rfl) ?_
 refine th_take rfl rfl (by kernel_rfl)  (by first | exact opv_load1 rfl rfl rfl | exact opv_loadA rfl rfl rfl | exact opv_loadE1 rfl (by assumption) rfl (by omega) rfl rfl | exact opv_loadEA rfl (by assumption) rfl (by omega) rfl rfl | exact opv_loadRX1 rfl rfl (by omega) rfl rfl | exact opv_loadRXA rfl rfl (by omega) rfl rfl rfl | exact opv_loadIX rfl rfl (by omega) | exact opv_loadR1 rfl rfl rfl | exact opv_loadRA rfl rfl rfl rfl) ?_
 refine th_take rfl rfl (by kernel_rfl)  (by first | exact opv_load1 rfl rfl rfl | exact opv_loadA rfl rfl rfl | exact opv_loadE1 rfl (by assumption) rfl (by omega) rfl rfl | exact opv_loadEA rfl (by assumption) rfl (by omega) rfl rfl | exact opv_loadRX1 rfl rfl (by omega) rfl rfl | exact opv_loadRXA rfl rfl (by omega) rfl rfl rfl | exact opv_loadIX rfl rfl (by omega) | exact opv_loadR1 rfl rfl rfl | exact opv_loadRA rfl rfl rfl rfl) ?_
 refine th_take rfl rfl (by kernel_rfl)  (opv_move rfl) ?_
 refine th_take rfl rfl (by kernel_rfl)  (by first | exact opv_quoE rfl rfl (by omega) (by omega) (by omega) | exact opv_quo rfl rfl (by omega) (w64 (by omega) (by omega))) ?_
 refine th_take rfl rfl (by kernel_rfl)  (opv_move rfl) ?_
 refine th_take rfl rfl (by kernel_rfl)  (by first | exact opv_remE rfl rfl (by omega) (by omega) | exact opv_rem rfl rfl (by omega) rfl) ?_
 refine th_one (by kernel_rfl) (step_m rfl rfl (opg_call (xs := [_, _, _]) rfl (base_square (R8.s16_len ns n) (by omega) (by omega) (by omega) (by omega))) ?_)
 rintro _ _ _ ⟨rfl, rfl, rfl⟩
 refine ⟨Suf.h, (by first | exact fun _ h => h | assumption | exact fun _ h => (by assumption : _ ⊆ _) ((by assumption : _ ⊆ _) h)), ?_⟩
 skip
 refine th_one (by kernel_rfl) (step_m rfl rfl (opg_call (xs := [_, _]) rfl (node_putR (r := p2) g1 l1 hi1 e2)) ?_)
 rintro _ _ _ ⟨a2, c2, es2, rfl, rfl, hi2, rfl⟩
 refine ⟨Suf.h, (by first | exact fun _ h => h | assumption | exact fun _ h => (by assumption : _ ⊆ _) ((by assumption : _ ⊆ _) h)), ?_⟩
 refine th_take rfl rfl (by kernel_rfl)  (opv_move rfl) ?_
 refine th_take rfl rfl (by kernel_rfl)  (opv_extract rfl rfl) ?_
 refine th_take rfl rfl (by kernel_rfl)  (opv_extract rfl rfl) ?_
 refine th_take rfl rfl (by kernel_rfl)  (by first | exact opv_indexAddrA rfl rfl (by first | decide | omega) (by first | decide | omega) | exact opv_indexAddrSN rfl rfl (by omega) (by assumption) rfl | exact opv_indexAddrS rfl rfl (by omega) (by omega) (by assumption) rfl | exact opv_indexAddrE rfl (by assumption) (by omega) rfl (by first | decide | omega) (by first | decide | omega) | exact opv_indexAddrRN rfl rfl (by omega) | exact opv_indexAddrR rfl rfl (by omega) (by omega) | exact opv_indexAddrRA rfl (by omega) rfl (by first | decide | omega) (by first | decide | omega) | exact opv_indexAddrSP rfl rfl (by omega) (by omega) | exact opv_indexAddrSN rfl rfl (by omega) (by assumption) (by omega) | exact opv_indexAddrS rfl rfl (by omega) (by omega) (by assumption) (by omega)) ?_
 refine th_one (by kernel_rfl) (step_m rfl rfl (opg_store rfl rfl rfl rfl rfl rfl) ?_)
 rintro _ _ _ ⟨rfl, rfl⟩
 refine ⟨Suf.h, (by first | exact fun _ h => h | assumption | exact fun _ h => (by assumption : _ ⊆ _) ((by assumption : _ ⊆ _) h)), ?_⟩
 refine th_take rfl rfl (by kernel_rfl)  (opv_assign rfl) ?_
 refine th_done (by kernel_rfl) ?_
 refine tT (tS (tR (tM rfl rfl ?_)))
 refine tri_v (by first | exact opv_neq rfl rfl | exact opv_neqI rfl rfl rfl rfl rfl rfl | exact opv_neqB rfl rfl) rfl ?_
 refine tN (tT ?_)
 refine tri_cond_dec rfl (fun x2 => ?_) (fun x2 => ?_)
 ·rw [if_neg x0, if_neg x1, if_pos x2]
  refine tS (tR ?_)
  refine tri_v (by first | exact opv_buildS rfl rfl | exact opv_buildA rfl rfl) rfl ?_
  refine tM rfl rfl ?_
  refine tri_g (opg_store rfl rfl rfl rfl rfl rfl) rfl ?_
  rintro _ _ _ ⟨rfl, rfl⟩
  refine tA rfl rfl (tN (tT (tri_ret ?_)))
  refine tri_inBlock_ret ?_
  refine tri_then_ret (tri_then_ret ?_)
  refine tri_inBlock_ret ?_
  refine tri_then_ret ?_
  refine tri_perm (A := ?a5_0 :: ?a5_1 :: ?a5_2 :: ?a5_3 :: ?a5_4 :: ?a5_5 :: ?T5) (B := ?a5_3 :: ?a5_4 :: ?a5_5 :: ?a5_0 :: ?a5_1 :: ?a5_2 :: ?T5) (by exact permL [3, 4, 5, 0, 1, 2] [?a5_0, ?a5_1, ?a5_2, ?a5_3, ?a5_4, ?a5_5] ?T5 (by decide) rfl) ?_
  refine tri_end (IxA bx mb a2 c2 p2.1 room es2 A) Suf.h rfl (.cons (rv_cellA rfl rfl rfl) (.cons (rv_tmp rfl) .nil)) ⟨a2, c2, es2, p2.1, _, _, _, _, _, _, _, _, _, rfl, rfl, fun h => absurd h x2, rfl⟩
 refine tri_skip ?_
 refine tri_inBlock ?_
 refine tT (tR ?_)
 refine tri_v (by first | exact opv_add rfl rfl (w64 (by omega) (by omega))) rfl ?_
 refine tM rfl rfl (tN (tT ?_))
 refine tri_round ?_
 refine tS (tR ?_)
 refine tri_v (opv_lss rfl rfl) rfl ?_
 refine tN (tT (tS ?_))
 skip
 refine tri_cond_is rfl ((by decide)) ?_
 skip
 refine tri_skip (tT (tS (tri_block (tS (tR (tM rfl rfl (tA rfl rfl ?_)))))))
 refine tN (tT (tS ?_))
 refine tri_draw [0, 1, 2, 3, 4, 5, 6, 7, 8, 9, 10, 11, 12, 13, 14, 15] rfl [_, _, _, _] rfl mixed ?_
 refine th_take rfl rfl (by kernel_rfl)  (opv_move rfl) ?_
 refine th_take rfl rfl (by kernel_rfl)  (by first | exact opv_fieldAddr rfl rfl | exact opv_fieldAddrE rfl (by assumption) (by omega) rfl | exact opv_fieldAddrR rfl (by omega) rfl | exact opv_fieldAddrP rfl rfl rfl) ?_
 refine th_take rfl rfl (by kernel_rfl)  (by first | exact opv_load1 rfl rfl rfl | exact opv_loadA rfl rfl rfl | exact opv_loadE1 rfl (by assumption) rfl (by omega) rfl rfl | exact opv_loadEA rfl (by assumption) rfl (by omega) rfl rfl | exact opv_loadRX1 rfl rfl (by omega) rfl rfl | exact opv_loadRXA rfl rfl (by omega) rfl rfl rfl | exact opv_loadIX rfl rfl (by omega) | exact opv_loadR1 rfl rfl rfl | exact opv_loadRA rfl rfl rfl rfl) ?_
 refine th_take rfl rfl (by kernel_rfl)  (by first | exact opv_load1 rfl rfl rfl | exact opv_loadA rfl rfl rfl | exact opv_loadE1 rfl (by assumption) rfl (by omega) rfl rfl | exact opv_loadEA rfl (by assumption) rfl (by omega) rfl rfl | exact opv_loadRX1 rfl rfl (by omega) rfl rfl | exact opv_loadRXA rfl rfl (by omega) rfl rfl rfl | exact opv_loadIX rfl rfl (by omega) | exact opv_loadR1 rfl rfl rfl | exact opv_loadRA rfl rfl rfl rfl) ?_
 refine th_take rfl rfl (by kernel_rfl)  (opv_move rfl) ?_
 refine th_take rfl rfl (by kernel_rfl)  (by first | exact opv_quoE rfl rfl (by omega) (by omega) (by omega) | exact opv_quo rfl rfl (by omega) (w64 (by omega) (by omega))) ?_
 refine th_take rfl rfl (by kernel_rfl)  (opv_move rfl) ?_
 refine th_take rfl rfl (by kernel_rfl)  (by first | exact opv_remE rfl rfl (by omega) (by omega) | exact opv_rem rfl rfl (by omega) rfl) ?_
 refine th_one (by kernel_rfl) (step_m rfl rfl (opg_call (xs := [_, _, _]) rfl (base_square (R8.s16_len ns n) (by omega) (by omega) (by omega) (by omega))) ?_)
 rintro _ _ _ ⟨rfl, rfl, rfl⟩
 refine ⟨Suf.h, (by first | exact fun _ h => h | assumption | exact fun _ h => (by assumption : _ ⊆ _) ((by assumption : _ ⊆ _) h)), ?_⟩
 skip
 refine th_one (by kernel_rfl) (step_m rfl rfl (opg_call (xs := [_, _]) rfl (node_putR (r := p3) g2 l2 hi2 e3)) ?_)
 rintro _ _ _ ⟨a3, c3, es3, rfl, rfl, hi3, rfl⟩
 refine ⟨Suf.h, (by first | exact fun _ h => h | assumption | exact fun _ h => (by assumption : _ ⊆ _) ((by assumption : _ ⊆ _) h)), ?_⟩
 refine th_take rfl rfl (by kernel_rfl)  (opv_move rfl) ?_
 refine th_take rfl rfl (by kernel_rfl)  (opv_extract rfl rfl) ?_
 refine th_take rfl rfl (by kernel_rfl)  (opv_extract rfl rfl) ?_
 refine th_take rfl rfl (by kernel_rfl)  (by first | exact opv_indexAddrA rfl rfl (by first | decide | omega) (by first | decide | omega) | exact opv_indexAddrSN rfl rfl (by omega) (by assumption) rfl | exact opv_indexAddrS rfl rfl (by omega) (by omega) (by assumption) rfl | exact opv_indexAddrE rfl (by assumption) (by omega) rfl (by first | decide | omega) (by first | decide | omega) | exact opv_indexAddrRN rfl rfl (by omega) | exact opv_indexAddrR rfl rfl (by omega) (by omega) | exact opv_indexAddrRA rfl (by omega) rfl (by first | decide | omega) (by first | decide | omega) | exact opv_indexAddrSP rfl rfl (by omega) (by omega) | exact opv_indexAddrSN rfl rfl (by omega) (by assumption) (by omega) | exact opv_indexAddrS rfl rfl (by omega) (by omega) (by assumption) (by omega)) ?_
 refine th_one (by kernel_rfl) (step_m rfl rfl (opg_store rfl rfl rfl rfl rfl rfl) ?_)
 rintro _ _ _ ⟨rfl, rfl⟩
 refine ⟨Suf.h, (by first | exact fun _ h => h | assumption | exact fun _ h => (by assumption : _ ⊆ _) ((by assumption : _ ⊆ _) h)), ?_⟩
 refine th_take rfl rfl (by kernel_rfl)  (opv_assign rfl) ?_
 refine th_done (by kernel_rfl) ?_
 refine tT (tS (tR (tM rfl rfl ?_)))
 refine tri_v (by first | exact opv_neq rfl rfl | exact opv_neqI rfl rfl rfl rfl rfl rfl | exact opv_neqB rfl rfl) rfl ?_
 refine tN (tT ?_)
 refine tri_cond_dec rfl (fun x3 => ?_) (fun x3 => ?_)
 ·rw [if_neg x0, if_neg x1, if_neg x2, if_pos x3]
  refine tS (tR ?_)
  refine tri_v (by first | exact opv_buildS rfl rfl | exact opv_buildA rfl rfl) rfl ?_
  refine tM rfl rfl ?_
  refine tri_g (opg_store rfl rfl rfl rfl rfl rfl) rfl ?_
  rintro _ _ _ ⟨rfl, rfl⟩
  refine tA rfl rfl (tN (tT (tri_ret ?_)))
  refine tri_inBlock_ret ?_
  refine tri_then_ret (tri_then_ret ?_)
  refine tri_inBlock_ret ?_
  refine tri_then_ret ?_
  refine tri_perm (A := ?a6_0 :: ?a6_1 :: ?a6_2 :: ?a6_3 :: ?a6_4 :: ?a6_5 :: ?T6) (B := ?a6_3 :: ?a6_4 :: ?a6_5 :: ?a6_0 :: ?a6_1 :: ?a6_2 :: ?T6) (by exact permL [3, 4, 5, 0, 1, 2] [?a6_0, ?a6_1, ?a6_2, ?a6_3, ?a6_4, ?a6_5] ?T6 (by decide) rfl) ?_
  refine tri_end (IxA bx mb a3 c3 p3.1 room es3 A) Suf.h rfl (.cons (rv_cellA rfl rfl rfl) (.cons (rv_tmp rfl) .nil)) ⟨a3, c3, es3, p3.1, _, _, _, _, _, _, _, _, _, rfl, rfl, fun h => absurd h x3, rfl⟩
 refine tri_skip ?_
 refine tri_inBlock ?_
 refine tT (tR ?_)
 refine tri_v (by first | exact opv_add rfl rfl (w64 (by omega) (by omega))) rfl ?_
 refine tM rfl rfl (tN (tT ?_))
 refine tri_round ?_
 refine tS (tR ?_)
 refine tri_v (opv_lss rfl rfl) rfl ?_
 refine tN (tT (tS ?_))
 skip
 refine tri_cond_is rfl ((by decide)) ?_
 skip
 refine tri_skip (tT (tS (tri_block (tS (tR (tM rfl rfl (tA rfl rfl ?_)))))))
 refine tN (tT (tS ?_))
 refine tri_draw [0, 1, 2, 3, 4, 5, 6, 7, 8, 9, 10, 11, 12, 13, 14, 15] rfl [_, _, _, _] rfl mixed ?_
 refine th_take rfl rfl (by kernel_rfl)  (opv_move rfl) ?_
 refine th_take rfl rfl (by kernel_rfl)  (by first | exact opv_fieldAddr rfl rfl | exact opv_fieldAddrE rfl (by assumption) (by omega) rfl | exact opv_fieldAddrR rfl (by omega) rfl | exact opv_fieldAddrP rfl rfl rfl) ?_
 refine th_take rfl rfl (by kernel_rfl)  (by first | exact opv_load1 rfl rfl rfl | exact opv_loadA rfl rfl rfl | exact opv_loadE1 rfl (by assumption) rfl (by omega) rfl rfl | exact opv_loadEA rfl (by assumption) rfl (by omega) rfl rfl | exact opv_loadRX1 rfl rfl (by omega) rfl rfl | exact opv_loadRXA rfl rfl (by omega) rfl rfl rfl | exact opv_loadIX rfl rfl (by omega) | exact opv_loadR1 rfl rfl rfl | exact opv_loadRA rfl rfl rfl rfl) ?_
 refine th_take rfl rfl (by kernel_rfl)  (by first | exact opv_load1 rfl rfl rfl | exact opv_loadA rfl rfl rfl | exact opv_loadE1 rfl (by assumption) rfl (by omega) rfl rfl | exact opv_loadEA rfl (by assumption) rfl (by omega) rfl rfl | exact opv_loadRX1 rfl rfl (by omega) rfl rfl | exact opv_loadRXA rfl rfl (by omega) rfl rfl rfl | exact opv_loadIX rfl rfl (by omega) | exact opv_loadR1 rfl rfl rfl | exact opv_loadRA rfl rfl rfl rfl) ?_
 refine th_take rfl rfl (by kernel_rfl)  (opv_move rfl) ?_
 refine th_take rfl rfl (by kernel_rfl)  (by first | exact opv_quoE rfl rfl (by omega) (by omega) (by omega) | exact opv_quo rfl rfl (by omega) (w64 (by omega) (by omega))) ?_
 refine th_take rfl rfl (by kernel_rfl)  (opv_move rfl) ?_
 refine th_take rfl rfl (by kernel_rfl)  (by first | exact opv_remE rfl rfl (by omega) (by omega) | exact opv_rem rfl rfl (by omega) rfl) ?_
 refine th_one (by kernel_rfl) (step_m rfl rfl (opg_call (xs := [_, _, _]) rfl (base_square (R8.s16_len ns n) (by omega) (by omega) (by omega) (by omega))) ?_)
 rintro _ _ _ ⟨rfl, rfl, rfl⟩
 refine ⟨Suf.h, (by first | exact fun _ h => h | assumption | exact fun _ h => (by assumption : _ ⊆ _) ((by assumption : _ ⊆ _) h)), ?_⟩
 skip
 refine th_one (by kernel_rfl) (step_m rfl rfl (opg_call (xs := [_, _]) rfl (node_putR (r := p4) g3 l3 hi3 e4)) ?_)
 rintro _ _ _ ⟨a4, c4, es4, rfl, rfl, hi4, rfl⟩
 refine ⟨Suf.h, (by first | exact fun _ h => h | assumption | exact fun _ h => (by assumption : _ ⊆ _) ((by assumption : _ ⊆ _) h)), ?_⟩
 refine th_take rfl rfl (by kernel_rfl)  (opv_move rfl) ?_
 refine th_take rfl rfl (by kernel_rfl)  (opv_extract rfl rfl) ?_
 refine th_take rfl rfl (by kernel_rfl)  (opv_extract rfl rfl) ?_
 refine th_take rfl rfl (by kernel_rfl)  (by first | exact opv_indexAddrA rfl rfl (by first | decide | omega) (by first | decide | omega) | exact opv_indexAddrSN rfl rfl (by omega) (by assumption) rfl | exact opv_indexAddrS rfl rfl (by omega) (by omega) (by assumption) rfl | exact opv_indexAddrE rfl (by assumption) (by omega) rfl (by first | decide | omega) (by first | decide | omega) | exact opv_indexAddrRN rfl rfl (by omega) | exact opv_indexAddrR rfl rfl (by omega) (by omega) | exact opv_indexAddrRA rfl (by omega) rfl (by first | decide | omega) (by first | decide | omega) | exact opv_indexAddrSP rfl rfl (by omega) (by omega) | exact opv_indexAddrSN rfl rfl (by omega) (by assumption) (by omega) | exact opv_indexAddrS rfl rfl (by omega) (by omega) (by assumption) (by omega)) ?_
 refine th_one (by kernel_rfl) (step_m rfl rfl (opg_store rfl rfl rfl rfl rfl rfl) ?_)
 rintro _ _ _ ⟨rfl, rfl⟩
 refine ⟨Suf.h, (by first | exact fun _ h => h | assumption | exact fun _ h => (by assumption : _ ⊆ _) ((by assumption : _ ⊆ _) h)), ?_⟩
 refine th_take rfl rfl (by kernel_rfl)  (opv_assign rfl) ?_
 refine th_done (by kernel_rfl) ?_
 refine tT (tS (tR (tM rfl rfl ?_)))
 refine tri_v (by first | exact opv_neq rfl rfl | exact opv_neqI rfl rfl rfl rfl rfl rfl | exact opv_neqB rfl rfl) rfl ?_
 refine tN (tT ?_)
 refine tri_cond_dec rfl (fun x4 => ?_) (fun x4 => ?_)
 ·rw [if_neg x0, if_neg x1, if_neg x2, if_neg x3, if_pos x4]
  refine tS (tR ?_)
  refine tri_v (by first | exact opv_buildS rfl rfl | exact opv_buildA rfl rfl) rfl ?_
  refine tM rfl rfl ?_
  refine tri_g (opg_store rfl rfl rfl rfl rfl rfl) rfl ?_
  rintro _ _ _ ⟨rfl, rfl⟩
  refine tA rfl rfl (tN (tT (tri_ret ?_)))
  refine tri_inBlock_ret ?_
  refine tri_then_ret (tri_then_ret ?_)
  refine tri_inBlock_ret ?_
  refine tri_then_ret ?_
  refine tri_perm (A := ?a7_0 :: ?a7_1 :: ?a7_2 :: ?a7_3 :: ?a7_4 :: ?a7_5 :: ?T7) (B := ?a7_3 :: ?a7_4 :: ?a7_5 :: ?a7_0 :: ?a7_1 :: ?a7_2 :: ?T7) (by exact permL [3, 4, 5, 0, 1, 2] [?a7_0, ?a7_1, ?a7_2, ?a7_3, ?a7_4, ?a7_5] ?T7 (by decide) rfl) ?_
  refine tri_end (IxA bx mb a4 c4 p4.1 room es4 A) Suf.h rfl (.cons (rv_cellA rfl rfl rfl) (.cons (rv_tmp rfl) .nil)) ⟨a4, c4, es4, p4.1, _, _, _, _, _, _, _, _, _, rfl, rfl, fun h => absurd h x4, rfl⟩
 refine tri_skip ?_
 refine tri_inBlock ?_
 refine tT (tR ?_)
 refine tri_v (by first | exact opv_add rfl rfl (w64 (by omega) (by omega))) rfl ?_
 refine tM rfl rfl (tN (tT ?_))
 refine tri_round ?_
 refine tS (tR ?_)
 refine tri_v (opv_lss rfl rfl) rfl ?_
 refine tN (tT (tS ?_))
 skip
 refine tri_cond_is rfl ((by decide)) ?_
 skip
 refine tri_skip (tT (tS (tri_block (tS (tR (tM rfl rfl (tA rfl rfl ?_)))))))
 refine tN (tT (tS ?_))
 refine tri_draw [0, 1, 2, 3, 4, 5, 6, 7, 8, 9, 10, 11, 12, 13, 14, 15] rfl [_, _, _, _] rfl mixed ?_
 refine th_take rfl rfl (by kernel_rfl)  (opv_move rfl) ?_
 refine th_take rfl rfl (by kernel_rfl)  (by first | exact opv_fieldAddr rfl rfl | exact opv_fieldAddrE rfl (by assumption) (by omega) rfl | exact opv_fieldAddrR rfl (by omega) rfl | exact opv_fieldAddrP rfl rfl rfl) ?_
 refine th_take rfl rfl (by kernel_rfl)  (by first | exact opv_load1 rfl rfl rfl | exact opv_loadA rfl rfl rfl | exact opv_loadE1 rfl (by assumption) rfl (by omega) rfl rfl | exact opv_loadEA rfl (by assumption) rfl (by omega) rfl rfl | exact opv_loadRX1 rfl rfl (by omega) rfl rfl | exact opv_loadRXA rfl rfl (by omega) rfl rfl rfl | exact opv_loadIX rfl rfl (by omega) | exact opv_loadR1 rfl rfl rfl | exact opv_loadRA rfl rfl rfl rfl) ?_
 refine th_take rfl rfl (by kernel_rfl)  (by first | exact opv_load1 rfl rfl rfl | exact opv_loadA rfl rfl rfl | exact opv_loadE1 rfl (by assumption) rfl (by omega) rfl rfl | exact opv_loadEA rfl (by assumption) rfl (by omega) rfl rfl | exact opv_loadRX1 rfl rfl (by omega) rfl rfl | exact opv_loadRXA rfl rfl (by omega) rfl rfl rfl | exact opv_loadIX rfl rfl (by omega) | exact opv_loadR1 rfl rfl rfl | exact opv_loadRA rfl rfl rfl rfl) ?_
 refine th_take rfl rfl (by kernel_rfl)  (opv_move rfl) ?_
 refine th_take rfl rfl (by kernel_rfl)  (by first | exact opv_quoE rfl rfl (by omega) (by omega) (by omega) | exact opv_quo rfl rfl (by omega) (w64 (by omega) (by omega))) ?_
 refine th_take rfl rfl (by kernel_rfl)  (opv_move rfl) ?_
 refine th_take rfl rfl (by kernel_rfl)  (by first | exact opv_remE rfl rfl (by omega) (by omega) | exact opv_rem rfl rfl (by omega) rfl) ?_
 refine th_one (by kernel_rfl) (step_m rfl rfl (opg_call (xs := [_, _, _]) rfl (base_square (R8.s16_len ns n) (by omega) (by omega) (by omega) (by omega))) ?_)
 rintro _ _ _ ⟨rfl, rfl, rfl⟩
 refine ⟨Suf.h, (by first | exact fun _ h => h | assumption | exact fun _ h => (by assumption : _ ⊆ _) ((by assumption : _ ⊆ _) h)), ?_⟩
 skip
 refine th_one (by kernel_rfl) (step_m rfl rfl (opg_call (xs := [_, _]) rfl (node_putR (r := p5) g4 l4 hi4 e5)) ?_)
 rintro _ _ _ ⟨a5, c5, es5, rfl, rfl, hi5, rfl⟩
 refine ⟨Suf.h, (by first | exact fun _ h => h | assumption | exact fun _ h => (by assumption : _ ⊆ _) ((by assumption : _ ⊆ _) h)), ?_⟩
 refine th_take rfl rfl (by kernel_rfl)  (opv_move rfl) ?_
 refine th_take rfl rfl (by kernel_rfl)  (opv_extract rfl rfl) ?_
 refine th_take rfl rfl (by kernel_rfl)  (opv_extract rfl rfl) ?_
 refine th_take rfl rfl (by kernel_rfl)  (by first | exact opv_indexAddrA rfl rfl (by first | decide | omega) (by first | decide | omega) | exact opv_indexAddrSN rfl rfl (by omega) (by assumption) rfl | exact opv_indexAddrS rfl rfl (by omega) (by omega) (by assumption) rfl | exact opv_indexAddrE rfl (by assumption) (by omega) rfl (by first | decide | omega) (by first | decide | omega) | exact opv_indexAddrRN rfl rfl (by omega) | exact opv_indexAddrR rfl rfl (by omega) (by omega) | exact opv_indexAddrRA rfl (by omega) rfl (by first | decide | omega) (by first | decide | omega) | exact opv_indexAddrSP rfl rfl (by omega) (by omega) | exact opv_indexAddrSN rfl rfl (by omega) (by assumption) (by omega) | exact opv_indexAddrS rfl rfl (by omega) (by omega) (by assumption) (by omega)) ?_
 refine th_one (by kernel_rfl) (step_m rfl rfl (opg_store rfl rfl rfl rfl rfl rfl) ?_)
 rintro _ _ _ ⟨rfl, rfl⟩
 refine ⟨Suf.h, (by first | exact fun _ h => h | assumption | exact fun _ h => (by assumption : _ ⊆ _) ((by assumption : _ ⊆ _) h)), ?_⟩
 refine th_take rfl rfl (by kernel_rfl)  (opv_assign rfl) ?_
 refine th_done (by kernel_rfl) ?_
 refine tT (tS (tR (tM rfl rfl ?_)))
 refine tri_v (by first | exact opv_neq rfl rfl | exact opv_neqI rfl rfl rfl rfl rfl rfl | exact opv_neqB rfl rfl) rfl ?_
 refine tN (tT ?_)
 refine tri_cond_dec rfl (fun x5 => ?_) (fun x5 => ?_)
 ·rw [if_neg x0, if_neg x1, if_neg x2, if_neg x3, if_neg x4, if_pos x5]
  refine tS (tR ?_)
  refine tri_v (by first | exact opv_buildS rfl rfl | exact opv_buildA rfl rfl) rfl ?_
  refine tM rfl rfl ?_
  refine tri_g (opg_store rfl rfl rfl rfl rfl rfl) rfl ?_
  rintro _ _ _ ⟨rfl, rfl⟩
  refine tA rfl rfl (tN (tT (tri_ret ?_)))
  refine tri_inBlock_ret ?_
  refine tri_then_ret (tri_then_ret ?_)
  refine tri_inBlock_ret ?_
  refine tri_then_ret ?_
  refine tri_perm (A := ?a8_0 :: ?a8_1 :: ?a8_2 :: ?a8_3 :: ?a8_4 :: ?a8_5 :: ?T8) (B := ?a8_3 :: ?a8_4 :: ?a8_5 :: ?a8_0 :: ?a8_1 :: ?a8_2 :: ?T8) (by exact permL [3, 4, 5, 0, 1, 2] [?a8_0, ?a8_1, ?a8_2, ?a8_3, ?a8_4, ?a8_5] ?T8 (by decide) rfl) ?_
  refine tri_end (IxA bx mb a5 c5 p5.1 room es5 A) Suf.h rfl (.cons (rv_cellA rfl rfl rfl) (.cons (rv_tmp rfl) .nil)) ⟨a5, c5, es5, p5.1, _, _, _, _, _, _, _, _, _, rfl, rfl, fun h => absurd h x5, rfl⟩
 refine tri_skip ?_
 refine tri_inBlock ?_
 refine tT (tR ?_)
 refine tri_v (by first | exact opv_add rfl rfl (w64 (by omega) (by omega))) rfl ?_
 refine tM rfl rfl (tN (tT ?_))
 refine tri_round ?_
 refine tS (tR ?_)
 refine tri_v (opv_lss rfl rfl) rfl ?_
 refine tN (tT (tS ?_))
 skip
 refine tri_cond_is rfl ((by decide)) ?_
 skip
 refine tri_skip (tT (tS (tri_block (tS (tR (tM rfl rfl (tA rfl rfl ?_)))))))
 refine tN (tT (tS ?_))
 refine tri_draw [0, 1, 2, 3, 4, 5, 6, 7, 8, 9, 10, 11, 12, 13, 14, 15] rfl [_, _, _, _] rfl mixed ?_
 refine th_take rfl rfl (by kernel_rfl)  (opv_move rfl) ?_
 refine th_take rfl rfl (by kernel_rfl)  (by first | exact opv_fieldAddr rfl rfl | exact opv_fieldAddrE rfl (by assumption) (by omega) rfl | exact opv_fieldAddrR rfl (by omega) rfl | exact opv_fieldAddrP rfl rfl rfl) ?_
 refine th_take rfl rfl (by kernel_rfl)  (by first | exact opv_load1 rfl rfl rfl | exact opv_loadA rfl rfl rfl | exact opv_loadE1 rfl (by assumption) rfl (by omega) rfl rfl | exact opv_loadEA rfl (by assumption) rfl (by omega) rfl rfl | exact opv_loadRX1 rfl rfl (by omega) rfl rfl | exact opv_loadRXA rfl rfl (by omega) rfl rfl rfl | exact opv_loadIX rfl rfl (by omega) | exact opv_loadR1 rfl rfl rfl | exact opv_loadRA rfl rfl rfl rfl) ?_
 refine th_take rfl rfl (by kernel_rfl)  (by first | exact opv_load1 rfl rfl rfl | exact opv_loadA rfl rfl rfl | exact opv_loadE1 rfl (by assumption) rfl (by omega) rfl rfl | exact opv_loadEA rfl (by assumption) rfl (by omega) rfl rfl | exact opv_loadRX1 rfl rfl (by omega) rfl rfl | exact opv_loadRXA rfl rfl (by omega) rfl rfl rfl | exact opv_loadIX rfl rfl (by omega) | exact opv_loadR1 rfl rfl rfl | exact opv_loadRA rfl rfl rfl rfl) ?_
 refine th_take rfl rfl (by kernel_rfl)  (opv_move rfl) ?_
 refine th_take rfl rfl (by kernel_rfl)  (by first | exact opv_quoE rfl rfl (by omega) (by omega) (by omega) | exact opv_quo rfl rfl (by omega) (w64 (by omega) (by omega))) ?_
 refine th_take rfl rfl (by kernel_rfl)  (opv_move rfl) ?_
 refine th_take rfl rfl (by kernel_rfl)  (by first | exact opv_remE rfl rfl (by omega) (by omega) | exact opv_rem rfl rfl (by omega) rfl) ?_
 refine th_one (by kernel_rfl) (step_m rfl rfl (opg_call (xs := [_, _, _]) rfl (base_square (R8.s16_len ns n) (by omega) (by omega) (by omega) (by omega))) ?_)
 rintro _ _ _ ⟨rfl, rfl, rfl⟩
 refine ⟨Suf.h, (by first | exact fun _ h => h | assumption | exact fun _ h => (by assumption : _ ⊆ _) ((by assumption : _ ⊆ _) h)), ?_⟩
 skip
 refine th_one (by kernel_rfl) (step_m rfl rfl (opg_call (xs := [_, _]) rfl (node_putR (r := p6) g5 l5 hi5 e6)) ?_)
 rintro _ _ _ ⟨a6, c6, es6, rfl, rfl, hi6, rfl⟩
 refine ⟨Suf.h, (by first | exact fun _ h => h | assumption | exact fun _ h => (by assumption : _ ⊆ _) ((by assumption : _ ⊆ _) h)), ?_⟩
 refine th_take rfl rfl (by kernel_rfl)  (opv_move rfl) ?_
 refine th_take rfl rfl (by kernel_rfl)  (opv_extract rfl rfl) ?_
 refine th_take rfl rfl (by kernel_rfl)  (opv_extract rfl rfl) ?_
 refine th_take rfl rfl (by kernel_rfl)  (by first | exact opv_indexAddrA rfl rfl (by first | decide | omega) (by first | decide | omega) | exact opv_indexAddrSN rfl rfl (by omega) (by assumption) rfl | exact opv_indexAddrS rfl rfl (by omega) (by omega) (by assumption) rfl | exact opv_indexAddrE rfl (by assumption) (by omega) rfl (by first | decide | omega) (by first | decide | omega) | exact opv_indexAddrRN rfl rfl (by omega) | exact opv_indexAddrR rfl rfl (by omega) (by omega) | exact opv_indexAddrRA rfl (by omega) rfl (by first | decide | omega) (by first | decide | omega) | exact opv_indexAddrSP rfl rfl (by omega) (by omega) | exact opv_indexAddrSN rfl rfl (by omega) (by assumption) (by omega) | exact opv_indexAddrS rfl rfl (by omega) (by omega) (by assumption) (by omega)) ?_
 refine th_one (by kernel_rfl) (step_m rfl rfl (opg_store rfl rfl rfl rfl rfl rfl) ?_)
 rintro _ _ _ ⟨rfl, rfl⟩
 refine ⟨Suf.h, (by first | exact fun _ h => h | assumption | exact fun _ h => (by assumption : _ ⊆ _) ((by assumption : _ ⊆ _) h)), ?_⟩
 refine th_take rfl rfl (by kernel_rfl)  (opv_assign rfl) ?_
 refine th_done (by kernel_rfl) ?_
 refine tT (tS (tR (tM rfl rfl ?_)))
 refine tri_v (by first | exact opv_neq rfl rfl | exact opv_neqI rfl rfl rfl rfl rfl rfl | exact opv_neqB rfl rfl) rfl ?_
 refine tN (tT ?_)
 refine tri_cond_dec rfl (fun x6 => ?_) (fun x6 => ?_)
 ·rw [if_neg x0, if_neg x1, if_neg x2, if_neg x3, if_neg x4, if_neg x5, if_pos x6]
  refine tS (tR ?_)
  refine tri_v (by first | exact opv_buildS rfl rfl | exact opv_buildA rfl rfl) rfl ?_
  refine tM rfl rfl ?_
  refine tri_g (opg_store rfl rfl rfl rfl rfl rfl) rfl ?_
  rintro _ _ _ ⟨rfl, rfl⟩
  refine tA rfl rfl (tN (tT (tri_ret ?_)))
  refine tri_inBlock_ret ?_
  refine tri_then_ret (tri_then_ret ?_)
  refine tri_inBlock_ret ?_
  refine tri_then_ret ?_
  refine tri_perm (A := ?a9_0 :: ?a9_1 :: ?a9_2 :: ?a9_3 :: ?a9_4 :: ?a9_5 :: ?T9) (B := ?a9_3 :: ?a9_4 :: ?a9_5 :: ?a9_0 :: ?a9_1 :: ?a9_2 :: ?T9) (by exact permL [3, 4, 5, 0, 1, 2] [?a9_0, ?a9_1, ?a9_2, ?a9_3, ?a9_4, ?a9_5] ?T9 (by decide) rfl) ?_
  refine tri_end (IxA bx mb a6 c6 p6.1 room es6 A) Suf.h rfl (.cons (rv_cellA rfl rfl rfl) (.cons (rv_tmp rfl) .nil)) ⟨a6, c6, es6, p6.1, _, _, _, _, _, _, _, _, _, rfl, rfl, fun h => absurd h x6, rfl⟩
 refine tri_skip ?_
 refine tri_inBlock ?_
 refine tT (tR ?_)
 refine tri_v (by first | exact opv_add rfl rfl (w64 (by omega) (by omega))) rfl ?_
 refine tM rfl rfl (tN (tT ?_))
 refine tri_round ?_
 refine tS (tR ?_)
 refine tri_v (opv_lss rfl rfl) rfl ?_
 refine tN (tT (tS ?_))
 skip
 refine tri_cond_is rfl ((by decide)) ?_
 skip
 refine tri_skip (tT (tS (tri_block (tS (tR (tM rfl rfl (tA rfl rfl ?_)))))))
 refine tN (tT (tS ?_))
 refine tri_draw [0, 1, 2, 3, 4, 5, 6, 7, 8, 9, 10, 11, 12, 13, 14, 15] rfl [_, _, _, _] rfl mixed ?_
 refine th_take rfl rfl (by kernel_rfl)  (opv_move rfl) ?_
 refine th_take rfl rfl (by kernel_rfl)  (by first | exact opv_fieldAddr rfl rfl | exact opv_fieldAddrE rfl (by assumption) (by omega) rfl | exact opv_fieldAddrR rfl (by omega) rfl | exact opv_fieldAddrP rfl rfl rfl) ?_
 refine th_take rfl rfl (by kernel_rfl)  (by first | exact opv_load1 rfl rfl rfl | exact opv_loadA rfl rfl rfl | exact opv_loadE1 rfl (by assumption) rfl (by omega) rfl rfl | exact opv_loadEA rfl (by assumption) rfl (by omega) rfl rfl | exact opv_loadRX1 rfl rfl (by omega) rfl rfl | exact opv_loadRXA rfl rfl (by omega) rfl rfl rfl | exact opv_loadIX rfl rfl (by omega) | exact opv_loadR1 rfl rfl rfl | exact opv_loadRA rfl rfl rfl rfl) ?_
 refine th_take rfl rfl (by kernel_rfl)  (by first | exact opv_load1 rfl rfl rfl | exact opv_loadA rfl rfl rfl | exact opv_loadE1 rfl (by assumption) rfl (by omega) rfl rfl | exact opv_loadEA rfl (by assumption) rfl (by omega) rfl rfl | exact opv_loadRX1 rfl rfl (by omega) rfl rfl | exact opv_loadRXA rfl rfl (by omega) rfl rfl rfl | exact opv_loadIX rfl rfl (by omega) | exact opv_loadR1 rfl rfl rfl | exact opv_loadRA rfl rfl rfl rfl) ?_
 refine th_take rfl rfl (by kernel_rfl)  (opv_move rfl) ?_
 refine th_take rfl rfl (by kernel_rfl)  (by first | exact opv_quoE rfl rfl (by omega) (by omega) (by omega) | exact opv_quo rfl rfl (by omega) (w64 (by omega) (by omega))) ?_
 refine th_take rfl rfl (by kernel_rfl)  (opv_move rfl) ?_
 refine th_take rfl rfl (by kernel_rfl)  (by first | exact opv_remE rfl rfl (by omega) (by omega) | exact opv_rem rfl rfl (by omega) rfl) ?_
 refine th_one (by kernel_rfl) (step_m rfl rfl (opg_call (xs := [_, _, _]) rfl (base_square (R8.s16_len ns n) (by omega) (by omega) (by omega) (by omega))) ?_)
 rintro _ _ _ ⟨rfl, rfl, rfl⟩
 refine ⟨Suf.h, (by first | exact fun _ h => h | assumption | exact fun _ h => (by assumption : _ ⊆ _) ((by assumption : _ ⊆ _) h)), ?_⟩
 skip
 refine th_one (by kernel_rfl) (step_m rfl rfl (opg_call (xs := [_, _]) rfl (node_putR (r := p7) g6 l6 hi6 e7)) ?_)
 rintro _ _ _ ⟨a7, c7, es7, rfl, rfl, hi7, rfl⟩
 refine ⟨Suf.h, (by first | exact fun _ h => h | assumption | exact fun _ h => (by assumption : _ ⊆ _) ((by assumption : _ ⊆ _) h)), ?_⟩
 refine th_take rfl rfl (by kernel_rfl)  (opv_move rfl) ?_
 refine th_take rfl rfl (by kernel_rfl)  (opv_extract rfl rfl) ?_
 refine th_take rfl rfl (by kernel_rfl)  (opv_extract rfl rfl) ?_
 refine th_take rfl rfl (by kernel_rfl)  (by first | exact opv_indexAddrA rfl rfl (by first | decide | omega) (by first | decide | omega) | exact opv_indexAddrSN rfl rfl (by omega) (by assumption) rfl | exact opv_indexAddrS rfl rfl (by omega) (by omega) (by assumption) rfl | exact opv_indexAddrE rfl (by assumption) (by omega) rfl (by first | decide | omega) (by first | decide | omega) | exact opv_indexAddrRN rfl rfl (by omega) | exact opv_indexAddrR rfl rfl (by omega) (by omega) | exact opv_indexAddrRA rfl (by omega) rfl (by first | decide | omega) (by first | decide | omega) | exact opv_indexAddrSP rfl rfl (by omega) (by omega) | exact opv_indexAddrSN rfl rfl (by omega) (by assumption) (by omega) | exact opv_indexAddrS rfl rfl (by omega) (by omega) (by assumption) (by omega)) ?_
 refine th_one (by kernel_rfl) (step_m rfl rfl (opg_store rfl rfl rfl rfl rfl rfl) ?_)
 rintro _ _ _ ⟨rfl, rfl⟩
 refine ⟨Suf.h, (by first | exact fun _ h => h | assumption | exact fun _ h => (by assumption : _ ⊆ _) ((by assumption : _ ⊆ _) h)), ?_⟩
 refine th_take rfl rfl (by kernel_rfl)  (opv_assign rfl) ?_
 refine th_done (by kernel_rfl) ?_
 refine tT (tS (tR (tM rfl rfl ?_)))
 refine tri_v (by first | exact opv_neq rfl rfl | exact opv_neqI rfl rfl rfl rfl rfl rfl | exact opv_neqB rfl rfl) rfl ?_
 refine tN (tT ?_)
 refine tri_cond_dec rfl (fun x7 => ?_) (fun x7 => ?_)
 ·rw [if_neg x0, if_neg x1, if_neg x2, if_neg x3, if_neg x4, if_neg x5, if_neg x6, if_pos x7]
  refine tS (tR ?_)
  refine tri_v (by first | exact opv_buildS rfl rfl | exact opv_buildA rfl rfl) rfl ?_
  refine tM rfl rfl ?_
  refine tri_g (opg_store rfl rfl rfl rfl rfl rfl) rfl ?_
  rintro _ _ _ ⟨rfl, rfl⟩
  refine tA rfl rfl (tN (tT (tri_ret ?_)))
  refine tri_inBlock_ret ?_
  refine tri_then_ret (tri_then_ret ?_)
  refine tri_inBlock_ret ?_
  refine tri_then_ret ?_
  refine tri_perm (A := ?a10_0 :: ?a10_1 :: ?a10_2 :: ?a10_3 :: ?a10_4 :: ?a10_5 :: ?T10) (B := ?a10_3 :: ?a10_4 :: ?a10_5 :: ?a10_0 :: ?a10_1 :: ?a10_2 :: ?T10) (by exact permL [3, 4, 5, 0, 1, 2] [?a10_0, ?a10_1, ?a10_2, ?a10_3, ?a10_4, ?a10_5] ?T10 (by decide) rfl) ?_
  refine tri_end (IxA bx mb a7 c7 p7.1 room es7 A) Suf.h rfl (.cons (rv_cellA rfl rfl rfl) (.cons (rv_tmp rfl) .nil)) ⟨a7, c7, es7, p7.1, _, _, _, _, _, _, _, _, _, rfl, rfl, fun h => absurd h x7, rfl⟩
 refine tri_skip ?_
 refine tri_inBlock ?_
 refine tT (tR ?_)
 refine tri_v (by first | exact opv_add rfl rfl (w64 (by omega) (by omega))) rfl ?_
 refine tM rfl rfl (tN (tT ?_))
 refine tri_round ?_
 refine tS (tR ?_)
 refine tri_v (opv_lss rfl rfl) rfl ?_
 refine tN (tT (tS ?_))
 skip
 refine tri_cond_is rfl ((by decide)) ?_
 skip
 refine tri_skip (tT (tS (tri_block (tS (tR (tM rfl rfl (tA rfl rfl ?_)))))))
 refine tN (tT (tS ?_))
 refine tri_draw [0, 1, 2, 3, 4, 5, 6, 7, 8, 9, 10, 11, 12, 13, 14, 15] rfl [_, _, _, _] rfl mixed ?_
 refine th_take rfl rfl (by kernel_rfl)  (opv_move rfl) ?_
 refine th_take rfl rfl (by kernel_rfl)  (by first | exact opv_fieldAddr rfl rfl | exact opv_fieldAddrE rfl (by assumption) (by omega) rfl | exact opv_fieldAddrR rfl (by omega) rfl | exact opv_fieldAddrP rfl rfl rfl) ?_
 refine th_take rfl rfl (by kernel_rfl)  (by first | exact opv_load1 rfl rfl rfl | exact opv_loadA rfl rfl rfl | exact opv_loadE1 rfl (by assumption) rfl (by omega) rfl rfl | exact opv_loadEA rfl (by assumption) rfl (by omega) rfl rfl | exact opv_loadRX1 rfl rfl (by omega) rfl rfl | exact opv_loadRXA rfl rfl (by omega) rfl rfl rfl | exact opv_loadIX rfl rfl (by omega) | exact opv_loadR1 rfl rfl rfl | exact opv_loadRA rfl rfl rfl rfl) ?_
 refine th_take rfl rfl (by kernel_rfl)  (by first | exact opv_load1 rfl rfl rfl | exact opv_loadA rfl rfl rfl | exact opv_loadE1 rfl (by assumption) rfl (by omega) rfl rfl | exact opv_loadEA rfl (by assumption) rfl (by omega) rfl rfl | exact opv_loadRX1 rfl rfl (by omega) rfl rfl | exact opv_loadRXA rfl rfl (by omega) rfl rfl rfl | exact opv_loadIX rfl rfl (by omega) | exact opv_loadR1 rfl rfl rfl | exact opv_loadRA rfl rfl rfl rfl) ?_
 refine th_take rfl rfl (by kernel_rfl)  (opv_move rfl) ?_
 refine th_take rfl rfl (by kernel_rfl)  (by first | exact opv_quoE rfl rfl (by omega) (by omega) (by omega) | exact opv_quo rfl rfl (by omega) (w64 (by omega) (by omega))) ?_
 refine th_take rfl rfl (by kernel_rfl)  (opv_move rfl) ?_
 refine th_take rfl rfl (by kernel_rfl)  (by first | exact opv_remE rfl rfl (by omega) (by omega) | exact opv_rem rfl rfl (by omega) rfl) ?_
 refine th_one (by kernel_rfl) (step_m rfl rfl (opg_call (xs := [_, _, _]) rfl (base_square (R8.s16_len ns n) (by omega) (by omega) (by omega) (by omega))) ?_)
 rintro _ _ _ ⟨rfl, rfl, rfl⟩
 refine ⟨Suf.h, (by first | exact fun _ h => h | assumption | exact fun _ h => (by assumption : _ ⊆ _) ((by assumption : _ ⊆ _) h)), ?_⟩
 skip
 refine th_one (by kernel_rfl) (step_m rfl rfl (opg_call (xs := [_, _]) rfl (node_putR (r := p8) g7 l7 hi7 e8)) ?_)
 rintro _ _ _ ⟨a8, c8, es8, rfl, rfl, hi8, rfl⟩
 refine ⟨Suf.h, (by first | exact fun _ h => h | assumption | exact fun _ h => (by assumption : _ ⊆ _) ((by assumption : _ ⊆ _) h)), ?_⟩
 refine th_take rfl rfl (by kernel_rfl)  (opv_move rfl) ?_
 refine th_take rfl rfl (by kernel_rfl)  (opv_extract rfl rfl) ?_
 refine th_take rfl rfl (by kernel_rfl)  (opv_extract rfl rfl) ?_
 refine th_take rfl rfl (by kernel_rfl)  (by first | exact opv_indexAddrA rfl rfl (by first | decide | omega) (by first | decide | omega) | exact opv_indexAddrSN rfl rfl (by omega) (by assumption) rfl | exact opv_indexAddrS rfl rfl (by omega) (by omega) (by assumption) rfl | exact opv_indexAddrE rfl (by assumption) (by omega) rfl (by first | decide | omega) (by first | decide | omega) | exact opv_indexAddrRN rfl rfl (by omega) | exact opv_indexAddrR rfl rfl (by omega) (by omega) | exact opv_indexAddrRA rfl (by omega) rfl (by first | decide | omega) (by first | decide | omega) | exact opv_indexAddrSP rfl rfl (by omega) (by omega) | exact opv_indexAddrSN rfl rfl (by omega) (by assumption) (by omega) | exact opv_indexAddrS rfl rfl (by omega) (by omega) (by assumption) (by omega)) ?_
 refine th_one (by kernel_rfl) (step_m rfl rfl (opg_store rfl rfl rfl rfl rfl rfl) ?_)
 rintro _ _ _ ⟨rfl, rfl⟩
 refine ⟨Suf.h, (by first | exact fun _ h => h | assumption | exact fun _ h => (by assumption : _ ⊆ _) ((by assumption : _ ⊆ _) h)), ?_⟩
 refine th_take rfl rfl (by kernel_rfl)  (opv_assign rfl) ?_
 refine th_done (by kernel_rfl) ?_
 refine tT (tS (tR (tM rfl rfl ?_)))
 refine tri_v (by first | exact opv_neq rfl rfl | exact opv_neqI rfl rfl rfl rfl rfl rfl | exact opv_neqB rfl rfl) rfl ?_
 refine tN (tT ?_)
 refine tri_cond_dec rfl (fun x8 => ?_) (fun x8 => ?_)
 ·rw [if_neg x0, if_neg x1, if_neg x2, if_neg x3, if_neg x4, if_neg x5, if_neg x6, if_neg x7, if_pos x8]
  refine tS (tR ?_)
  refine tri_v (by first | exact opv_buildS rfl rfl | exact opv_buildA rfl rfl) rfl ?_
  refine tM rfl rfl ?_
  refine tri_g (opg_store rfl rfl rfl rfl rfl rfl) rfl ?_
  rintro _ _ _ ⟨rfl, rfl⟩
  refine tA rfl rfl (tN (tT (tri_ret ?_)))
  refine tri_inBlock_ret ?_
  refine tri_then_ret (tri_then_ret ?_)
  refine tri_inBlock_ret ?_
  refine tri_then_ret ?_
  refine tri_perm (A := ?a11_0 :: ?a11_1 :: ?a11_2 :: ?a11_3 :: ?a11_4 :: ?a11_5 :: ?T11) (B := ?a11_3 :: ?a11_4 :: ?a11_5 :: ?a11_0 :: ?a11_1 :: ?a11_2 :: ?T11) (by exact permL [3, 4, 5, 0, 1, 2] [?a11_0, ?a11_1, ?a11_2, ?a11_3, ?a11_4, ?a11_5] ?T11 (by decide) rfl) ?_
  refine tri_end (IxA bx mb a8 c8 p8.1 room es8 A) Suf.h rfl (.cons (rv_cellA rfl rfl rfl) (.cons (rv_tmp rfl) .nil)) ⟨a8, c8, es8, p8.1, _, _, _, _, _, _, _, _, _, rfl, rfl, fun h => absurd h x8, rfl⟩
 refine tri_skip ?_
 refine tri_inBlock ?_
 refine tT (tR ?_)
 refine tri_v (by first | exact opv_add rfl rfl (w64 (by omega) (by omega))) rfl ?_
 refine tM rfl rfl (tN (tT ?_))
 refine tri_round ?_
 refine tS (tR ?_)
 refine tri_v (opv_lss rfl rfl) rfl ?_
 refine tN (tT (tS ?_))
 rw [if_neg x0, if_neg x1, if_neg x2, if_neg x3, if_neg x4, if_neg x5, if_neg x6, if_neg x7, if_neg x8]
 refine tri_cond_not rfl ((by decide)) ?_
 refine tri_exit ?_
 refine tri_then_exit ?_
 refine tri_then_exit ?_
 refine tri_inBlock_hit rfl ?_
 refine tT (tS (tR ?_))
 refine tri_v (by first | exact opv_load1 rfl rfl rfl | exact opv_loadA rfl rfl rfl | exact opv_loadE1 rfl (by assumption) rfl (by omega) rfl rfl | exact opv_loadEA rfl (by assumption) rfl (by omega) rfl rfl | exact opv_loadRX1 rfl rfl (by omega) rfl rfl | exact opv_loadRXA rfl rfl (by omega) rfl rfl rfl | exact opv_loadIX rfl rfl (by omega) | exact opv_loadR1 rfl rfl rfl | exact opv_loadRA rfl rfl rfl rfl) rfl ?_
 refine tri_g (opg_store rfl rfl rfl rfl rfl rfl) rfl ?_
 rintro _ _ _ ⟨rfl, rfl⟩
 refine tA rfl rfl (tN (tT (tri_ret ?_)))
 refine tri_perm (A := ?a12_0 :: ?a12_1 :: ?a12_2 :: ?a12_3 :: ?a12_4 :: ?a12_5 :: ?T12) (B := ?a12_3 :: ?a12_4 :: ?a12_5 :: ?a12_0 :: ?a12_1 :: ?a12_2 :: ?T12) (by exact permL [3, 4, 5, 0, 1, 2] [?a12_0, ?a12_1, ?a12_2, ?a12_3, ?a12_4, ?a12_5] ?T12 (by decide) rfl) ?_
 refine tri_end (IxA bx mb a8 c8 p8.1 room es8 A) Suf.h rfl (.cons (rv_cellA rfl rfl rfl) (.cons (rv_tmp rfl) .nil)) ⟨a8, c8, es8, p8.1, _, _, _, _, _, _, _, _, _, rfl, rfl, fun h => ⟨rfl, rfl, hi8⟩, rfl⟩
end Go.GL

set_option linter.unusedVariables false
namespace Go.GL
open Go.Proofs
attribute [local irreducible] wpList Code.wp Exit.then Exit.inBlock Ends Tri TriH OpV OpG FnC epf wpAnyH
variable {A : List Asrt} {I : List Chunk}
theorem keyTask (n j : Int) : (.agg [.int .i64 n, .int .i64 j].toArray : Value) = mkv Try.prog 102 [n, j] := by kernel_rfl
theorem keyTaskAt : intAt Try.prog 9 102 = some 2 := by kernel_rfl
/-- The map tells what was leapt. -/
def MemIx (mm : R9.Memo) (ds : KVs) : Prop := ∀ n j, mfind ds [n, j] = (R9.look9 mm n j).map (.int .i64)
theorem MemIx.nil : MemIx [] [] := fun _ _ => rfl
theorem look9_snoc : ∀ (mm : R9.Memo) (n j to n' j' : Int), R9.look9 (mm ++ [(n, j, to)]) n' j' = match R9.look9 mm n' j' with | some t => some t | none => if n = n' ∧ j = j' then some to else none
 | [], n, j, to, n', j' => rfl
 | p :: mm, n, j, to, n', j' => by
  simp only [List.cons_append, R9.look9]
  split
  ·rfl
  ·exact look9_snoc mm n j to n' j'
theorem MemIx.snoc {mm : R9.Memo} {ds : KVs} (h : MemIx mm ds) {n j : Int} (hn : R9.look9 mm n j = none) (to : Int) : MemIx (mm ++ [(n, j, to)]) (mset ds [n, j] (.int .i64 to)) := by
 intro n' j'
 rw [mfind_mset, look9_snoc, h n' j']
 by_cases e : n = n' ∧ j = j'
 ·obtain ⟨rfl, rfl⟩ := e
  rw [if_pos rfl, hn]
  simp
 ·rw [if_neg (by simpa using e)]
  cases R9.look9 mm n' j' with
  | some t => rfl
  | none => simp [e]
/-- The leaper, as it lies in the heap. -/
abbrev LxA (bl bx mb db : Nat) (a : Option Addr) (cap : Nat) (ns : List Node) (room : Int) (es ds : KVs) (A : List Asrt) : List Asrt :=
 IxA bx mb a cap ns room es (Box bl [pt bx 0, .map (some db)] 96 :: MapA Try.prog 102 db ds :: A)
set_option maxRecDepth 100000 in
theorem leaper_level {a : Option Addr} {cap bl bx mb db : Nat} {ns : List Node} {room n : Int} {es ds : KVs} (hn : R6.inS ns n) :
  FnC Try.prog 41 [pt bl 0, .int .i64 n].toArray (LxA bl bx mb db a cap ns room es ds A) I (fun v A' I' => v = .int .i64 (R6.nd ns n).lv ∧ LxA bl bx mb db a cap ns room es ds A = A' ∧ I = I') := by
 obtain ⟨hn0, hn1⟩ := hn
 refine fn_enter2 Try.func41 rfl Try.ntmps41 rfl fun w0 => ?_
 refine tS (tR (tA rfl rfl (tN (tT (tS (tR (tM rfl rfl ?_)))))))
 refine tri_v (opv_nilCheck rfl) rfl ?_
 refine tri_v (opv_fieldAddr rfl rfl) rfl ?_
 refine tri_v (opv_fieldAddr rfl rfl) rfl ?_
 refine tri_v (opv_load1 rfl rfl rfl) rfl ?_
 refine tri_v (opv_nilCheck rfl) rfl ?_
 refine tri_v (opv_fieldAddr rfl rfl) rfl ?_
 refine tri_v (opv_fieldAddr rfl rfl) rfl ?_
 refine tri_v (opv_load1 rfl rfl rfl) rfl ?_
 refine tM rfl rfl ?_
 refine tri_v (opv_indexAddrR rfl rfl (by omega) (by omega)) rfl ?_
 refine tri_v (opv_fieldAddrR rfl (by omega) rfl) rfl ?_
 refine tri_v (opv_loadRX1 rfl rfl (by omega) rfl rfl) rfl ?_
 refine tA rfl rfl (tN (tT (tri_ret ?_)))
 refine tri_end _ (⟨[], rfl⟩) rfl (.cons (rv_tmp rfl) .nil) ⟨rfl, rfl, rfl⟩
end Go.GL

set_option linter.unusedVariables false
namespace Go.GL
section
variable {w0 : World} {n : Nat} {F : Frm} {A : List Asrt} {I : List Chunk} {P : Program} {dst : Option Tmp} {ty t : TypeId} {pos : String} {af : Array Edge} {gd : Option (Nat × Bool)} {x y : Operand} {d : TypeDesc} {s by_ : Nat} {z : List Value}
theorem spl_ints : ∀ (l : List Int) (off : Nat) (v : Int), off < l.length → spl (ints l) off [.int .i64 v] = some (ints (l.set off v))
 | a :: l, 0, v, _ => by cases l <;> rfl
 | a :: l, k + 1, v, h => by
  have := spl_ints l k v (by simpa using h)
  simp only [ints, List.map_cons, spl, List.set_cons_succ] at this ⊢
  rw [this]
 | [], k, v, h => by simp at h
/-- A whole number into a block of such. -/
theorem opg_storeIX {l : List Int} {b off : Nat} {v : Int} {T : TypeId} {u : List Value → List Asrt} [TyI P t d 1 by_ z] [Sel A b (ints l) T u] (hx : ev F x = some (pt b off)) (hy : ev F y = some (.int .i64 v)) (hl : off < l.length) :
  OpG P w0 n ⟨dst, .store t x y, ty, pos, af, gd⟩ F A I (fun _ A' I' => A' = u (ints (l.set off v)) ∧ I = I') :=
 opg_store (vs := [.int .i64 v]) hx hy rfl rfl rfl (spl_ints l off v hl)
/-- A place of an array of whole numbers that is a value. -/
theorem opv_indexIX {l : List Int} {l2 : Nat} {k : IntKind} {i : Int} {ix : Operand} {e : TypeId} {b' : Nat} {z' : List Value} [TyI P t (.array l2 e) s by_ z] [TyI P e (.int .i64) 1 b' z'] (hx : ev F x = some (.agg (ints l).toArray)) (hi : ev F ix = some (.int k i)) (h0 : 0 ≤ i) (h1 : i < l2) (hl : l2 = l.length) :
  OpV P w0 n ⟨dst, .index t x ix, ty, pos, af, gd⟩ F A I (.int .i64 (l.getD i.toNat default)) :=
 opv_index hx hi h0 h1 rfl (by
  rw [Nat.mul_one]
  have : i.toNat < l.length := by omega
  simp [ints, this])
theorem and_two_pow' (m k : Nat) : m &&& 2 ^ k = (m.testBit k).toNat * 2 ^ k := by
 apply Nat.eq_of_testBit_eq
 intro j
 rw [Nat.testBit_and, Nat.testBit_two_pow]
 by_cases e : k = j
 ·subst e
  cases h : m.testBit k
  ·simp
  ·simp
 ·cases h : m.testBit k
  ·simp [e]
  ·simp [e]
theorem and_pow {m k : Nat} (hm : m < 4611686018427387904) (hk : k ≤ 61) : IntKind.i64.wrap ((BitVec.ofInt IntKind.i64.bits (m : Int) &&& BitVec.ofInt IntKind.i64.bits (2 ^ k)).toNat : Int) = if (m : Int) / 2 ^ k % 2 = 1 then 2 ^ k else 0 := by
 have hk2 : (2:Nat) ^ k ≤ 2 ^ 61 := Nat.pow_le_pow_right (by omega) hk
 have e1 : (2:Int) ^ k = ((2 ^ k : Nat) : Int) := by simp
 have e2 : (BitVec.ofInt IntKind.i64.bits (m : Int) &&& BitVec.ofInt IntKind.i64.bits (2 ^ k)).toNat = m &&& 2 ^ k := by
  rw [e1, BitVec.toNat_and]
  show (BitVec.ofInt 64 (m : Int)).toNat &&& (BitVec.ofInt 64 ((2 ^ k : Nat) : Int)).toNat = _
  rw [BitVec.ofInt_natCast, BitVec.ofInt_natCast, BitVec.toNat_ofNat, BitVec.toNat_ofNat, Nat.mod_eq_of_lt (by omega), Nat.mod_eq_of_lt (by omega)]
 rw [e2, and_two_pow', Nat.testBit_eq_decide_div_mod_eq]
 have e3 : ((m : Int) / 2 ^ k % 2 = 1) ↔ m / 2 ^ k % 2 = 1 := by
  rw [e1]
  constructor
  ·intro h; exact_mod_cast h
  ·intro h; exact_mod_cast h
 by_cases h : m / 2 ^ k % 2 = 1
 ·rw [if_pos (e3.2 h), decide_eq_true h, e1]
  generalize (2:Nat) ^ k = p at hk2
  simp only [Bool.toNat_true, Nat.one_mul]
  exact w64 (by omega) (by omega)
 ·rw [if_neg (fun x => h (e3.1 x)), decide_eq_false h]
  simp only [Bool.toNat_false, Nat.zero_mul]
  exact w64 (by omega) (by omega)
/-- One bit of a count. -/
theorem opv_bit {xt yt : TypeId} {a b : Int} {k : Nat} (hx : ev F x = some (.int .i64 a)) (hy : ev F y = some (.int .i64 b)) (h0 : 0 ≤ a) (h1 : a < 4611686018427387904) (hb : b = 2 ^ k) (hk : k ≤ 61) : OpV P w0 n ⟨dst, .binOp .and xt x y yt, ty, pos, af, gd⟩ F A I (.int .i64 (if a / 2 ^ k % 2 = 1 then 2 ^ k else 0)) :=
 fun t w hf hs => by
  subst hb
  obtain ⟨m, rfl⟩ : ∃ m : Nat, a = m := ⟨a.toNat, by omega⟩
  simp only [execOp, hf.eval hx, hf.eval hy, eqGuard_and, binOp_and, Op.intBits, and_pow (show m < 4611686018427387904 by omega) hk, Sem.run_bind, Sem.run_pure, Result.andThen_ok]
theorem opv_shrN {xt yt : TypeId} {a b : Int} {k : Nat} {yk : IntKind} (hx : ev F x = some (.int .i64 a)) (hy : ev F y = some (.int yk b)) (h0 : 0 ≤ a) (hb : b = k) (hk : k ≤ 62) : OpV P w0 n ⟨dst, .binOp .shr xt x y yt, ty, pos, af, gd⟩ F A I (.int .i64 (a / 2 ^ k)) :=
 opv_shr hx hy (by omega) (by
  have h1 : min b.toNat IntKind.i64.bits = k := by
   show min b.toNat 64 = k
   omega
  rw [h1]
  exact Int.fdiv_eq_ediv_of_nonneg _ (Int.le_of_lt (Int.pow_pos (by omega))))
theorem div_pow_bd {a : Int} {k : Nat} (h0 : 0 ≤ a) : 0 ≤ a / 2 ^ k ∧ a / 2 ^ k ≤ a :=
 ⟨Int.ediv_nonneg h0 (Int.le_of_lt (Int.pow_pos (by omega))), Int.ediv_le_self _ h0⟩
end
end Go.GL

set_option linter.unusedVariables false
namespace Go.GL
open Go.Proofs
attribute [local irreducible] wpList Code.wp Exit.then Exit.inBlock Ends Tri TriH OpV OpG FnC epf wpAnyH
/-- What a function on a leaper tells and leaves behind. -/
def LxR (bl bx mb db : Nat) (r : R9.L9) (room : Int) (A : List Asrt) (I : List Chunk) : Value → List Asrt → List Chunk → Prop :=
 fun v A' I' => ∃ a' cap' es' ds' ns' m, v = .tuple [.int .i64 m, .int .i64 r.2.2].toArray ∧ A' = LxA bl bx mb db a' cap' ns' room es' ds' A ∧ (r.2.2 = 0 → ns' = r.1.ns ∧ m = r.2.1 ∧ Idx r.1.ns es' ∧ MemIx r.1.mm ds') ∧ I = I'
def LeapSpec (k : Nat) : Prop := ∀ (A : List Asrt) (I : List Chunk) (s : R9.LS) (a : Option Addr) (cap bl bx mb db : Nat) (room n j : Int) (es ds : KVs) (r : R9.L9), R9.Lk room s → R7.IsN s.ns (k + 2) n → Idx s.ns es → MemIx s.mm ds → 0 ≤ j ∧ j ≤ 1000000 → R9.leap room k s n j = r →
 FnC Try.prog 43 [pt bl 0, .int .i64 n, .int .i64 j].toArray (LxA bl bx mb db a cap s.ns room es ds A) I (LxR bl bx mb db r room A I)
theorem R9.Lk.good {room : Int} {s : R9.LS} (h : R9.Lk room s) : R6.Good s.ns room := h.right.good (by have := h.right.1.2.1; omega)
theorem R9.Lk.len2 {room : Int} {s : R9.LS} (h : R9.Lk room s) : 2 ≤ s.ns.length := h.wf.len
theorem R9.Lk.kid {room : Int} {s : R9.LS} (h : R9.Lk room s) {lv : Nat} {n : Int} (hn : R7.IsN s.ns (lv + 2) n) : R8.Kid s.ns n := h.right.kids hn.1 (by rw [hn.2]; omega)
theorem nine_len {l : List Int} (h : l.length = 9) : ∃ q0 q1 q2 q3 q4 q5 q6 q7 q8, l = [q0, q1, q2, q3, q4, q5, q6, q7, q8] := by
 match l, h with
 | [a, b, c, d, e, f, g, h, i], _ => exact ⟨a, b, c, d, e, f, g, h, i, rfl⟩
/-- The first so many made. -/
theorem mapS_step {f : R9.LS → Int → R9.L9} {s : R9.LS} {qs : List Int} {i : Nat} (hi : i < qs.length) : R9.mapS f s (qs.drop i) = if (f s (qs.getD i default)).2.2 ≠ 0 then ((f s (qs.getD i default)).1, [], (f s (qs.getD i default)).2.2) else ((R9.mapS f (f s (qs.getD i default)).1 (qs.drop (i + 1))).1, (f s (qs.getD i default)).2.1 :: (R9.mapS f (f s (qs.getD i default)).1 (qs.drop (i + 1))).2.1, (R9.mapS f (f s (qs.getD i default)).1 (qs.drop (i + 1))).2.2) := by
 rw [List.drop_eq_getElem_cons hi, show qs.getD i default = qs[i] by simp [hi]]
 rfl
/-- The list in the middle of a round: what is made, and what is to be made. -/
def midL (res qs : List Int) : List Int := res ++ qs.drop res.length
theorem midL_len {res qs : List Int} (h : res.length ≤ qs.length) : (midL res qs).length = qs.length := by unfold midL; rw [List.length_append, List.length_drop]; omega
theorem midL_at {res qs : List Int} (h : res.length < qs.length) : (midL res qs).getD res.length default = qs.getD res.length default := by
 unfold midL
 rw [List.getD_eq_getElem?_getD, List.getElem?_append_right (Nat.le_refl _), Nat.sub_self, List.getElem?_drop]
 simp
theorem midL_set {res qs : List Int} (h : res.length < qs.length) (v : Int) : (midL res qs).set res.length v = midL (res ++ [v]) qs := by
 unfold midL
 rw [List.set_append_right _ _ (Nat.le_refl _), Nat.sub_self, show qs.drop res.length = qs[res.length] :: qs.drop (res.length + 1) from List.drop_eq_getElem_cons h, List.set_cons_zero, List.append_assoc, List.length_append]
 rfl
theorem midL_done {res qs : List Int} (h : res.length = qs.length) : midL res qs = res := by unfold midL; rw [List.drop_of_length_le (by omega)]; simp
theorem midL_nil (qs : List Int) : midL [] qs = qs := rfl
theorem mapS_next {f : R9.LS → Int → R9.L9} {t : R9.LS} {res qs : List Int} {i : Nat} {r : R9.LS × List Int × Int} (hl : res.length = i) (hi : i < qs.length) (hr : r = ((R9.mapS f t (qs.drop i)).1, res ++ (R9.mapS f t (qs.drop i)).2.1, (R9.mapS f t (qs.drop i)).2.2)) {R : R9.L9} (hR : f t (qs.getD i default) = R) :
  (R.2.2 = 0 → (res ++ [R.2.1]).length = i + 1 ∧ r = ((R9.mapS f R.1 (qs.drop (i + 1))).1, (res ++ [R.2.1]) ++ (R9.mapS f R.1 (qs.drop (i + 1))).2.1, (R9.mapS f R.1 (qs.drop (i + 1))).2.2)) ∧ (R.2.2 ≠ 0 → r.2.2 = R.2.2) := by
 rw [mapS_step hi, hR] at hr
 constructor
 ·intro h
  rw [if_neg (by simpa using h)] at hr
  exact ⟨by simp [hl], by rw [hr]; simp⟩
 ·intro h
  rw [if_pos h] at hr
  rw [hr]
set_option maxHeartbeats 2000000 in
set_option maxRecDepth 100000 in
theorem leaper_half {A : List Asrt} {I : List Chunk} {k : Nat} (ih : LeapSpec k) {s : R9.LS} {a : Option Addr} {cap bl bx mb db : Nat} {room n j : Int} {es ds : KVs} {full : Bool} {r : R9.LS × List Int × Int} (h : R9.Lk room s) (hn : R7.IsN s.ns (k + 3) n) (hix : Idx s.ns es) (hmx : MemIx s.mm ds) (hj : 0 ≤ j ∧ j ≤ 1000000) (hfull : full = true → 1 ≤ j)
  (hr : R9.half (R9.leap room k) room full s n j = r) :
  FnC Try.prog 88 [pt bl 0, .int .i64 n, .int .i64 j, .bool full].toArray (LxA bl bx mb db a cap s.ns room es ds A) I (fun v A' I' => ∃ a' cap' es' ds' ns' q0 q1 q2 q3 q4 q5 q6 q7 q8, v = .tuple [.agg [.int .i64 q0, .int .i64 q1, .int .i64 q2, .int .i64 q3, .int .i64 q4, .int .i64 q5, .int .i64 q6, .int .i64 q7, .int .i64 q8].toArray, .int .i64 r.2.2].toArray ∧ A' = LxA bl bx mb db a' cap' ns' room es' ds' A ∧ (r.2.2 = 0 → ns' = r.1.ns ∧ r.2.1 = [q0, q1, q2, q3, q4, q5, q6, q7, q8] ∧ Idx r.1.ns es' ∧ MemIx r.1.mm ds') ∧ I = I') := by
 have hk := h.kid hn
 skip
 skip
 refine fn_enter4 Try.func88 rfl Try.ntmps88 rfl fun w0 => ?_
 refine tS (tR ?_)
 refine tri_g opg_alloc rfl ?_
 rintro _ _ _ ⟨b8, rfl, rfl, rfl⟩
 refine tA rfl rfl (tN (tT (tS ?_)))
 refine tri_perm (A := ?a1_0 :: ?a1_1 :: ?a1_2 :: ?a1_3 :: ?a1_4 :: ?a1_5 :: ?T1) (B := ?a1_1 :: ?a1_2 :: ?a1_3 :: ?a1_4 :: ?a1_5 :: ?a1_0 :: ?T1) (by exact permL [1, 2, 3, 4, 5, 0] [?a1_0, ?a1_1, ?a1_2, ?a1_3, ?a1_4, ?a1_5] ?T1 (by decide) rfl) ?_
 refine tR (tM rfl rfl ?_)
 refine tri_v (opv_nilCheck rfl) rfl ?_
 refine tri_v (opv_fieldAddr rfl rfl) rfl ?_
 refine tri_v (opv_loadA rfl rfl rfl) rfl ?_
 refine tM rfl rfl ?_
 refine tri_g (opg_call (xs := [_, _]) rfl (maker_nine h.good h.len2 hix hk)) rfl ?_
 rintro _ _ _ ⟨a1, c1, es1, ns1, q0, q1, q2, q3, q4, q5, q6, q7, q8, rfl, rfl, hq, rfl⟩
 refine tM rfl rfl ?_
 refine tri_v (opv_extract rfl rfl) rfl ?_
 refine tri_v (opv_extract rfl rfl) rfl ?_
 refine tri_g opg_alloc rfl ?_
 rintro _ _ _ ⟨b10, rfl, rfl, rfl⟩
 refine tri_g (opg_store rfl rfl rfl rfl rfl rfl) rfl ?_
 rintro _ _ _ ⟨rfl, rfl⟩
 refine tA rfl rfl (tN (tT (tS (tS (tR (tA rfl rfl (tN ?_)))))))
 refine tT (tri_block ?_)
 unfold R9.half at hr
 refine tri_perm (A := ?a2_0 :: ?a2_1 :: ?a2_2 :: ?a2_3 :: ?a2_4 :: ?a2_5 :: ?a2_6 :: ?T2) (B := ?a2_1 :: ?a2_2 :: ?a2_3 :: ?a2_4 :: ?a2_5 :: ?a2_0 :: ?a2_6 :: ?T2) (by exact permL [1, 2, 3, 4, 5, 0, 6] [?a2_0, ?a2_1, ?a2_2, ?a2_3, ?a2_4, ?a2_5, ?a2_6] ?T2 (by decide) rfl) ?_
 by_cases e0 : (R8.all s.ns room n).2.2 = 0
 ·rw [if_neg (by simpa using e0)] at hr
  obtain ⟨rfl, hq9, hi1⟩ := hq e0
  obtain ⟨ra, pa, la, ia⟩ := R9.all_gd h.right hn e0
  rw [hq9] at hr ia
  rw [e0]
  have hs0 : R9.Lk room ⟨(R8.all s.ns room n).1, s.mm⟩ := ⟨ra, h.mem.pre pa⟩
  rw [show ([.int .i64 q0, .int .i64 q1, .int .i64 q2, .int .i64 q3, .int .i64 q4, .int .i64 q5, .int .i64 q6, .int .i64 q7, .int .i64 q8] : List Value) = ints [q0, q1, q2, q3, q4, q5, q6, q7, q8] from rfl]
  generalize (R8.all s.ns room n).1 = n1 at *
  generalize hqs : ([q0, q1, q2, q3, q4, q5, q6, q7, q8] : List Int) = qs at *
  have hl9 : qs.length = 9 := by rw [← hqs]; rfl
  refine tri_sub (F' := [(0, pt bl 0), (2, .int .i64 j), (3, .bool full), (8, pt b8 0), (10, pt b10 0), (11, .int .i64 (0 : Int)), (12, .int .i64 (0 : Nat))]) ⟨rfl, rfl, rfl, rfl, rfl, rfl, rfl, trivial⟩ ?_
  refine loop_ind (G := Nat × R9.LS × List Int × Option Addr × Nat × KVs × KVs × List Node × Int) (fun g => 9 - g.1) (fun g => g.1 ≤ 9 ∧ (g.2.2.2.2.2.2.2.2 = 0 → g.2.2.1.length = g.1 ∧ r = ((R9.mapS (R9.halfF (R9.leap room k) room full j) g.2.1 (qs.drop g.1)).1, g.2.2.1 ++ (R9.mapS (R9.halfF (R9.leap room k) room full j) g.2.1 (qs.drop g.1)).2.1, (R9.mapS (R9.halfF (R9.leap room k) room full j) g.2.1 (qs.drop g.1)).2.2) ∧ g.2.2.2.2.2.2.2.1 = g.2.1.ns ∧ R9.Lk room g.2.1 ∧ n1 <+: g.2.1.ns ∧ Idx g.2.1.ns g.2.2.2.2.2.1 ∧ MemIx g.2.1.mm g.2.2.2.2.2.2.1) ∧ (g.2.2.2.2.2.2.2.2 ≠ 0 → r.2.2 = g.2.2.2.2.2.2.2.2) ∧ g.2.2.1.length ≤ 9) (fun g => [(0, pt bl 0), (2, .int .i64 j), (3, .bool full), (8, pt b8 0), (10, pt b10 0), (11, .int .i64 g.2.2.2.2.2.2.2.2), (12, .int .i64 (g.1 : Nat))]) (fun g => LxA bl bx mb db g.2.2.2.1 g.2.2.2.2.1 g.2.2.2.2.2.2.2.1 room g.2.2.2.2.2.1 g.2.2.2.2.2.2.1 (Box b10 (ints (midL g.2.2.1 qs)) 117 :: Box b8 [.int .i64 0, .int .i64 0, .int .i64 0, .int .i64 0, .int .i64 0, .int .i64 0, .int .i64 0, .int .i64 0, .int .i64 0] 117 :: A)) (fun _ => I) ?_ (0, ⟨n1, s.mm⟩, [], a1, c1, es1, ds, n1, 0) ⟨by omega, fun _ => ⟨rfl, by rw [List.drop_zero]; exact hr.symm, rfl, hs0, List.prefix_refl _, hi1, hmx⟩, fun hf => absurd rfl hf, by simp⟩
  rintro ⟨i, t, res, a2, c2, es2, ds2, ns2, er⟩ ⟨hi, ho, hne, hrl⟩ K hK
  simp only at hi ho hne hrl hK ⊢
  have hml := midL_len (res := res) (qs := qs) (by omega)
  skip
  refine tS (tS (tR (tM rfl rfl ?_)))
  refine tri_v (opv_lss rfl rfl) rfl ?_
  refine tM rfl rfl ?_
  refine tri_split rfl rfl (fun h9 => ?_) (fun h9 => ?_)
  ·refine tri_guard_run rfl rfl rfl (tM rfl rfl (tri_guard_run rfl rfl rfl ?_))
   refine tri_v (opv_eql rfl rfl) rfl ?_
   refine tri_v (opv_pick_t rfl rfl) rfl ?_
   refine tN (tT ?_)
   refine tri_cond_dec rfl (fun he => ?_) (fun he => ?_)
   ·have hi9 : i < 9 := by omega
    obtain ⟨hlen, hrr, rfl, hlk, hpre, hix2, hmx2⟩ := ho he
    have ei : 0 + ((i : Nat) : Int).toNat * 1 = i := by omega
    have eq : (midL res qs).getD (0 + ((i : Nat) : Int).toNat * 1) default = qs.getD i default := by rw [ei, ← hlen]; exact midL_at (res := res) (qs := qs) (by omega)
    have hqn : R7.IsN t.ns (k + 2) ((midL res qs).getD (0 + ((i : Nat) : Int).toNat * 1) default) := by
     rw [eq]
     exact (ia _ (by simp [show i < qs.length by omega])).pre hpre
    have eset : ∀ v, (midL res qs).set (0 + ((i : Nat) : Int).toNat * 1) v = midL (res ++ [v]) qs := fun v => by rw [ei, ← hlen]; exact midL_set (res := res) (qs := qs) (by omega) v
    refine tri_skip (tT (tS (tri_block (tS (tR (tM rfl rfl (tN ?_)))))))
    refine tT ?_
    refine tri_cond rfl (fun hf => ?_) (fun hf => ?_)
    ·have hf1 : full = true := by simpa using hf
     have hj1 := hfull hf1
     obtain ⟨R, hR⟩ : ∃ R, R9.leap room k t ((midL res qs).getD (0 + ((i : Nat) : Int).toNat * 1) default) (j - 1) = R := ⟨_, rfl⟩
     refine tR (tM rfl rfl (tM rfl rfl (tM rfl rfl ?_)))
     refine tri_v (opv_indexAddrA rfl rfl (by omega) (by omega)) rfl ?_
     refine tri_v (opv_loadIX rfl rfl (by omega)) rfl ?_
     refine tM rfl rfl ?_
     refine tri_v (opv_sub rfl rfl (w64 (by omega) (by omega))) rfl ?_
     refine tri_g (opg_call (xs := [_, _, _]) rfl (ih _ _ t _ _ _ _ _ _ _ _ (j - 1) _ _ R hlk hqn hix2 hmx2 (by omega) hR)) rfl ?_
     rintro _ _ _ ⟨a3, c3, es3, ds3, ns3, m3, rfl, rfl, h3, rfl⟩
     refine tM rfl rfl ?_
     refine tri_v (opv_extract rfl rfl) rfl ?_
     refine tri_v (opv_extract rfl rfl) rfl ?_
     refine tri_v (opv_indexAddrA rfl rfl (by omega) (by omega)) rfl ?_
     refine tri_g (opg_storeIX rfl rfl (by omega)) rfl ?_
     rintro _ _ _ ⟨rfl, rfl⟩
     rw [eset]
     refine tA rfl rfl (tN ?_)
     refine tri_inBlock ?_
     refine tT (tR (tM rfl rfl ?_))
     refine tU rfl rfl (by omega) (by omega) rfl ?_
     refine tA rfl rfl (tN (tT ?_))
     have hnx := mapS_next (R := R) hlen (by omega) hrr (by unfold R9.halfF; rw [if_pos hf1, ← eq]; exact hR)
     have hgd := fun e => R9.leap_gd k t _ (j - 1) hlk hqn (by rw [hR]; exact e)
     rw [hR] at hgd
     refine tri_sub ?_ (hK (i + 1, R.1, res ++ [m3], a3, c3, es3, ds3, ns3, R.2.2) ⟨by simp only; omega, fun e => ?_, fun e => hnx.2 e, by simp only [List.length_append, List.length_singleton]; omega⟩ (by simp only; omega))
     ·exact ⟨rfl, rfl, rfl, rfl, rfl, rfl, rfl, trivial⟩
     ·obtain ⟨rfl, rfl, hi3, hm3⟩ := h3 e
      exact ⟨(hnx.1 e).1, (hnx.1 e).2, rfl, (hgd e).lk, hpre.trans (hgd e).pre, hi3, hm3⟩
    ·have hf1 : ¬ full = true := by simpa using hf
     skip
     refine tri_perm (A := ?a3_0 :: ?a3_1 :: ?a3_2 :: ?a3_3 :: ?a3_4 :: ?a3_5 :: ?a3_6 :: ?T3) (B := ?a3_0 :: ?a3_1 :: ?a3_2 :: ?a3_5 :: ?a3_3 :: ?a3_4 :: ?a3_6 :: ?T3) (by exact permL [0, 1, 2, 5, 3, 4, 6] [?a3_0, ?a3_1, ?a3_2, ?a3_3, ?a3_4, ?a3_5, ?a3_6] ?T3 (by decide) rfl) ?_
     skip
     refine tri_draw [0, 1, 2, 3, 4, 5, 6, 7, 8, 9, 10, 11, 12, 13, 14] rfl [_, _, _, _] rfl mixed ?_
     refine th_take rfl rfl (by kernel_rfl)  (opv_move rfl) ?_
     refine th_take rfl rfl (by kernel_rfl)  (opv_move rfl) ?_
     refine th_take rfl rfl (by kernel_rfl)  (opv_nilCheck rfl) ?_
     refine th_take rfl rfl (by kernel_rfl)  (opv_fieldAddr rfl rfl) ?_
     refine th_take rfl rfl (by kernel_rfl)  (opv_loadA rfl rfl rfl) ?_
     refine th_take rfl rfl (by kernel_rfl)  (opv_move rfl) ?_
     refine th_take rfl rfl (by kernel_rfl)  (opv_indexAddrA rfl rfl (by omega) (by omega)) ?_
     refine th_one (by kernel_rfl) (step_m rfl rfl (OpV.toG (opv_loadIX rfl rfl (by omega))) ?_)
     rintro _ _ _ ⟨rfl, rfl, rfl⟩
     refine ⟨Suf.h, (fun _ h => h), ?_⟩
     refine th_one (by kernel_rfl) (step_m rfl rfl (opg_call (xs := [_, _]) rfl (maker_centre hlk.good hlk.len2 hix2 (hlk.kid hqn))) ?_)
     rintro _ _ _ ⟨a3, c3, es3, rfl, rfl, hi3, rfl⟩
     refine ⟨Suf.h, (fun _ h => h), ?_⟩
     obtain ⟨R, hR⟩ : ∃ R, R9.midS room t ((midL res qs).getD (0 + ((i : Nat) : Int).toNat * 1) default) = R := ⟨_, rfl⟩
     have er1 : (R8.putSq t.ns room (R8.s16 t.ns ((midL res qs).getD (0 + ((i : Nat) : Int).toNat * 1) default)) 1 1).1 = R.1.ns := by rw [← hR]; rfl
     have er2 : (R8.putSq t.ns room (R8.s16 t.ns ((midL res qs).getD (0 + ((i : Nat) : Int).toNat * 1) default)) 1 1).2.1 = R.2.1 := by rw [← hR]; rfl
     have er3 : (R8.putSq t.ns room (R8.s16 t.ns ((midL res qs).getD (0 + ((i : Nat) : Int).toNat * 1) default)) 1 1).2.2 = R.2.2 := by rw [← hR]; rfl
     have er4 : R.1.mm = t.mm := by rw [← hR]; rfl
     rw [er1] at hi3
     rw [er1, er2, er3]
     refine th_take rfl rfl (by kernel_rfl)  (opv_move rfl) ?_
     refine th_take rfl rfl (by kernel_rfl)  (opv_extract rfl rfl) ?_
     refine th_take rfl rfl (by kernel_rfl)  (opv_extract rfl rfl) ?_
     refine th_take rfl rfl (by kernel_rfl)  (opv_indexAddrA rfl rfl (by omega) (by omega)) ?_
     refine th_one (by kernel_rfl) (step_m rfl rfl (opg_storeIX rfl rfl (by omega)) ?_)
     rintro _ _ _ ⟨rfl, rfl⟩
     refine ⟨Suf.h, (fun _ h => h), ?_⟩
     rw [eset]
     refine th_take rfl rfl (by kernel_rfl)  (opv_assign rfl) ?_
     refine th_done (by kernel_rfl) ?_
     refine tri_inBlock ?_
     refine tT (tR (tM rfl rfl ?_))
     refine tU rfl rfl (by omega) (by omega) rfl ?_
     refine tA rfl rfl (tN (tT ?_))
     refine tri_perm (A := ?a4_0 :: ?a4_1 :: ?a4_2 :: ?a4_3 :: ?a4_4 :: ?a4_5 :: ?a4_6 :: ?T4) (B := ?a4_0 :: ?a4_1 :: ?a4_2 :: ?a4_4 :: ?a4_5 :: ?a4_3 :: ?a4_6 :: ?T4) (by exact permL [0, 1, 2, 4, 5, 3, 6] [?a4_0, ?a4_1, ?a4_2, ?a4_3, ?a4_4, ?a4_5, ?a4_6] ?T4 (by decide) rfl) ?_
     have hnx := mapS_next (R := R) hlen (by omega) hrr (by unfold R9.halfF; rw [if_neg hf1, ← eq]; exact hR)
     have hgd := fun e => R9.midS_gd (lv := k) hlk hqn (by rw [hR]; exact e)
     rw [hR] at hgd
     refine tri_sub ?_ (hK (i + 1, R.1, res ++ [R.2.1], a3, c3, es3, ds2, R.1.ns, R.2.2) ⟨by simp only; omega, fun e => ?_, fun e => hnx.2 e, by simp only [List.length_append, List.length_singleton]; omega⟩ (by simp only; omega))
     ·exact ⟨rfl, rfl, rfl, rfl, rfl, rfl, rfl, trivial⟩
     ·exact ⟨(hnx.1 e).1, (hnx.1 e).2, rfl, (hgd e).lk, hpre.trans (hgd e).pre, hi3, by rw [er4]; exact hmx2⟩
   ·obtain ⟨p0, p1, p2, p3, p4, p5, p6, p7, p8, hp⟩ := nine_len (l := midL res qs) (by omega)
    have fin : r.2.2 = er ∧ (er = 0 → ns2 = r.1.ns ∧ r.2.1 = midL res qs ∧ Idx r.1.ns es2 ∧ MemIx r.1.mm ds2) := ⟨hne he, fun e => absurd e he⟩
    rw [hp] at fin ⊢
    refine tri_exit ?_
    refine tri_then_exit ?_
    refine tri_then_exit ?_
    refine tri_inBlock_hit rfl ?_
    refine tT (tS (tR ?_))
    refine tri_v (opv_loadA rfl rfl rfl) rfl ?_
    refine tM rfl rfl ?_
    refine tri_g (opg_store rfl rfl rfl rfl rfl rfl) rfl ?_
    rintro _ _ _ ⟨rfl, rfl⟩
    refine tA rfl rfl (tN (tT (tri_ret ?_)))
    refine tri_perm (A := ?a5_0 :: ?a5_1 :: ?a5_2 :: ?a5_3 :: ?a5_4 :: ?a5_5 :: ?a5_6 :: ?T5) (B := ?a5_5 :: ?a5_6 :: ?a5_0 :: ?a5_1 :: ?a5_2 :: ?a5_3 :: ?a5_4 :: ?T5) (by exact permL [5, 6, 0, 1, 2, 3, 4] [?a5_0, ?a5_1, ?a5_2, ?a5_3, ?a5_4, ?a5_5, ?a5_6] ?T5 (by decide) rfl) ?_
    refine tri_end (LxA bl bx mb db a2 c2 ns2 room es2 ds2 A) Suf.h rfl (.cons (rv_cellA rfl rfl rfl) (.cons (rv_tmp rfl) .nil)) ⟨a2, c2, es2, ds2, ns2, p0, p1, p2, p3, p4, p5, p6, p7, p8, by rw [fin.1]; rfl, rfl, fun e => fin.2 (fin.1.symm.trans e), rfl⟩
  ·obtain ⟨p0, p1, p2, p3, p4, p5, p6, p7, p8, hp⟩ := nine_len (l := midL res qs) (by omega)
   have fin : r.2.2 = er ∧ (er = 0 → ns2 = r.1.ns ∧ r.2.1 = midL res qs ∧ Idx r.1.ns es2 ∧ MemIx r.1.mm ds2) := by
    by_cases he : er = 0
    ·obtain ⟨hlen, hrr, rfl, hlk, hpre, hix2, hmx2⟩ := ho he
     rw [List.drop_of_length_le (by omega)] at hrr
     have hr3 : r = (t, res, 0) := by rw [hrr]; simp [R9.mapS]
     rw [hr3, he, midL_done (by omega)]
     exact ⟨rfl, fun _ => ⟨rfl, rfl, hix2, hmx2⟩⟩
    ·exact ⟨hne he, fun e => absurd e he⟩
   rw [hp] at fin ⊢
   refine tri_guard_skip rfl rfl rfl rfl (tri_guard_skip rfl rfl rfl rfl ?_)
   refine tri_v (opv_pick_f rfl rfl) rfl ?_
   refine tN (tT ?_)
   refine tri_cond_false rfl ?_
   refine tri_exit ?_
   refine tri_then_exit ?_
   refine tri_then_exit ?_
   refine tri_inBlock_hit rfl ?_
   refine tT (tS (tR ?_))
   refine tri_v (opv_loadA rfl rfl rfl) rfl ?_
   refine tM rfl rfl ?_
   refine tri_g (opg_store rfl rfl rfl rfl rfl rfl) rfl ?_
   rintro _ _ _ ⟨rfl, rfl⟩
   refine tA rfl rfl (tN (tT (tri_ret ?_)))
   refine tri_perm (A := ?a6_0 :: ?a6_1 :: ?a6_2 :: ?a6_3 :: ?a6_4 :: ?a6_5 :: ?a6_6 :: ?T6) (B := ?a6_5 :: ?a6_6 :: ?a6_0 :: ?a6_1 :: ?a6_2 :: ?a6_3 :: ?a6_4 :: ?T6) (by exact permL [5, 6, 0, 1, 2, 3, 4] [?a6_0, ?a6_1, ?a6_2, ?a6_3, ?a6_4, ?a6_5, ?a6_6] ?T6 (by decide) rfl) ?_
   refine tri_end (LxA bl bx mb db a2 c2 ns2 room es2 ds2 A) Suf.h rfl (.cons (rv_cellA rfl rfl rfl) (.cons (rv_tmp rfl) .nil)) ⟨a2, c2, es2, ds2, ns2, p0, p1, p2, p3, p4, p5, p6, p7, p8, by rw [fin.1]; rfl, rfl, fun e => fin.2 (fin.1.symm.trans e), rfl⟩
 ·rw [if_pos e0] at hr
  subst hr
  refine tri_rounds 1 ?_
  refine tri_round ?_
  refine tS (tS (tR (tM rfl rfl ?_)))
  refine tri_v (opv_lss rfl rfl) rfl ?_
  refine tM rfl rfl ?_
  refine tri_true rfl rfl (by decide) ?_
  refine tri_guard_run rfl rfl rfl (tM rfl rfl (tri_guard_run rfl rfl rfl ?_))
  refine tri_v (opv_eql rfl rfl) rfl ?_
  refine tri_v (opv_pick_t rfl rfl) rfl ?_
  refine tN (tT ?_)
  refine tri_cond_not rfl (e0) ?_
  refine tri_exit ?_
  refine tri_then_exit ?_
  refine tri_then_exit ?_
  refine tri_inBlock_hit rfl ?_
  refine tT (tS (tR ?_))
  refine tri_v (opv_loadA rfl rfl rfl) rfl ?_
  refine tM rfl rfl ?_
  refine tri_g (opg_store rfl rfl rfl rfl rfl rfl) rfl ?_
  rintro _ _ _ ⟨rfl, rfl⟩
  refine tA rfl rfl (tN (tT (tri_ret ?_)))
  refine tri_perm (A := ?a7_0 :: ?a7_1 :: ?a7_2 :: ?a7_3 :: ?a7_4 :: ?a7_5 :: ?a7_6 :: ?T7) (B := ?a7_5 :: ?a7_6 :: ?a7_0 :: ?a7_1 :: ?a7_2 :: ?a7_3 :: ?a7_4 :: ?T7) (by exact permL [5, 6, 0, 1, 2, 3, 4] [?a7_0, ?a7_1, ?a7_2, ?a7_3, ?a7_4, ?a7_5, ?a7_6] ?T7 (by decide) rfl) ?_
  refine tri_end (LxA bl bx mb db a1 c1 ns1 room es1 ds A) Suf.h rfl (.cons (rv_cellA rfl rfl rfl) (.cons (rv_tmp rfl) .nil)) ⟨a1, c1, es1, ds, ns1, q0, q1, q2, q3, q4, q5, q6, q7, q8, rfl, rfl, fun e => absurd e e0, rfl⟩
end Go.GL
