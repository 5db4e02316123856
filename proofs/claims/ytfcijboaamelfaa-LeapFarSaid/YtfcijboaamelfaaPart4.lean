/- Part 4: contracts of the functions that the law reaches: each answers as its model does. No condition beyond those that each theorem states. -/
import Derived.Test.YtfcijboaamelfaaPart3
set_option linter.unusedVariables false
namespace Go.GL
namespace RL
def glider : List Cell := [⟨0, 0⟩, ⟨1, 1⟩, ⟨-1, 2⟩, ⟨0, 2⟩, ⟨1, 2⟩]
def awM9 : List Node × Int × Int := R7.make [R6.n0, R6.n1] 9000 glider 4
def awA9 : List Node × Int × Int := R9.runT awM9.1 9000 awM9.2.1 4
def awB9 : List Node × Int × Int := R9.leapT awM9.1 9000 awM9.2.1 2
def awT9 : List Node × Int × Int := R9.trimT awM9.1 9000 awM9.2.1
set_option maxRecDepth 100000 in
theorem aw9_ok : (R6.right awM9.1 9000 ∧ R6.inS awM9.1 awM9.2.1)
  ∧ (0 ≤ awA9.2.1 ∧ awA9.2.1 < awA9.1.length ∧ awA9.2.2 = 0 ∧ 2 ≤ (awA9.1.getD awA9.2.1.toNat default).lv ∧ R6.right awA9.1 9000 ∧ (R7.of awA9.1 awA9.2.1).length = 5)
  ∧ (0 ≤ awB9.2.1 ∧ awB9.2.1 < awB9.1.length ∧ 3 ≤ awB9.1.length ∧ awB9.2.2 = 0 ∧ (awB9.1.getD awB9.2.1.toNat default).lv = 3 ∧ (awB9.1.getD awB9.2.1.toNat default).pop = 5)
  ∧ (0 ≤ awT9.2.1 ∧ awT9.2.1 < awT9.1.length ∧ awT9.2.2 = 0 ∧ (awT9.1.getD awT9.2.1.toNat default).lv = 3)
  ∧ (R9.leapT awM9.1 9000 awM9.2.1 3).2.2 = 1 ∧ (R9.runT awM9.1 9000 awM9.2.1 2305843009213693952).2.2 = 2 := by
 refine ⟨by decide +kernel, by decide +kernel, by decide +kernel, by decide +kernel, by decide +kernel, by decide +kernel⟩
end RL
end Go.GL


namespace Go.GL
open Go.Proofs
attribute [local irreducible] wpList Code.wp Exit.then Exit.inBlock Ends Tri TriH OpV OpG FnC epf wpAnyH
variable {A : List Asrt} {I : List Chunk}
set_option maxRecDepth 100000 in
theorem law09_glider : FnC Try.prog 32 #[] A I (fun v A' I' => ∃ a' cap', v = .slice a' RL.glider.length cap' ∧ SlAt I' a' RL.glider ∧ A = A' ∧ I ⊆ I') := by
 skip
 refine fn_enter0 Try.func32 rfl Try.ntmps32 rfl fun w0 => ?_
 refine tS (tR (tA rfl rfl (tN (tT (tS (tR ?_))))))
 refine tri_v (opv_buildS rfl rfl) rfl ?_
 refine tri_v (opv_buildS rfl rfl) rfl ?_
 refine tri_v (opv_buildS rfl rfl) rfl ?_
 refine tri_v (opv_buildS rfl rfl) rfl ?_
 refine tri_v (opv_buildS rfl rfl) rfl ?_
 refine tri_g (opg_buildSlice rfl rfl rfl rfl) rfl ?_
 rintro _ _ _ ⟨b6, rfl, rfl, rfl⟩
 refine tA rfl rfl (tN (tT (tri_ret ?_)))
 refine tri_freezeBoxS RL.glider rfl fun I1 hI1 hs1 => ?_
 refine tri_end A Suf.h rfl (.cons (rv_tmp rfl) .nil) ⟨_, _, rfl, hs1, rfl, hI1⟩
theorem ref06_newR {room : Int} {p : List Node × Int} (h : R6.new room = p) : FnC Try.prog 31 [.int .i64 room].toArray A I (fun v A' I' => ∃ a' cap', v = storeV a' p.1.length cap' p.2 ∧ StA I' a' cap' p.1 ∧ A = A' ∧ I ⊆ I') := by
 subst h
 exact ref06_new
theorem ref07_makeR {ns : List Node} {a bb : Option Addr} {cap cap2 : Nat} {room lv : Int} {l : List Cell} {p : List Node × Int × Int} (hs : StA I a cap ns) (hn : ns.length ≤ 1000000000) (hr : R6.Rng ns) (hsl : SlAt I bb l) (hnl : l.length ≤ 1000000000) (h : R7.make ns room l lv = p) :
  FnC Try.prog 30 [storeV a ns.length cap room, .slice bb l.length cap2, .int .i64 lv].toArray A I (StoreR p room A I) := by
 subst h
 exact ref07_make hs hn hr hsl hnl
theorem leap_leapR {ns : List Node} {a : Option Addr} {cap : Nat} {room n j : Int} {p : List Node × Int × Int} (hs : StA I a cap ns) (hn : ns.length ≤ 1000000000) (h : R9.leapT ns room n j = p) :
  FnC Try.prog 15 [storeV a ns.length cap room, .int .i64 n, .int .i64 j].toArray A I (StoreR p room A I) := by
 subst h
 exact leap_leap hs hn
theorem leap_runR {ns : List Node} {a : Option Addr} {cap : Nat} {room n j : Int} {p : List Node × Int × Int} (hs : StA I a cap ns) (hn : ns.length ≤ 1000000000) (h : R9.runT ns room n j = p) :
  FnC Try.prog 20 [storeV a ns.length cap room, .int .i64 n, .int .i64 j].toArray A I (StoreR p room A I) := by
 subst h
 exact leap_run hs hn
theorem leap_trimR {ns : List Node} {a : Option Addr} {cap : Nat} {room n : Int} {p : List Node × Int × Int} (hs : StA I a cap ns) (hn : ns.length ≤ 1000000000) (h : R9.trimT ns room n = p) :
  FnC Try.prog 18 [storeV a ns.length cap room, .int .i64 n].toArray A I (StoreR p room A I) := by
 subst h
 exact leap_trim hs hn
set_option maxHeartbeats 2000000 in
set_option maxRecDepth 100000 in
theorem law09_awake : FnC Try.prog 12 #[] A I (fun v A' I' => v = .bool true ∧ A = A' ∧ I ⊆ I') := by
 obtain ⟨⟨hmr, hmi⟩, ⟨a1, a2, a3, a4, a5, a6⟩, ⟨g1, g2, g3, g4, g5, g6⟩, ⟨t1, t2, t3, t4⟩, e1, e2⟩ := RL.aw9_ok
 have eN : R6.new 9000 = ([R6.n0, R6.n1], 9000) := by decide
 obtain ⟨M, eM⟩ : ∃ M, RL.awM9 = M := ⟨_, rfl⟩
 obtain ⟨rA, eA⟩ : ∃ M, RL.awA9 = M := ⟨_, rfl⟩
 obtain ⟨rB, eB⟩ : ∃ M, RL.awB9 = M := ⟨_, rfl⟩
 obtain ⟨rT, eT⟩ : ∃ M, RL.awT9 = M := ⟨_, rfl⟩
 have eM' : R7.make [R6.n0, R6.n1] 9000 RL.glider 4 = M := eM
 have eA' : R9.runT M.1 9000 M.2.1 4 = rA := by rw [← eM]; exact eA
 have eB' : R9.leapT M.1 9000 M.2.1 2 = rB := by rw [← eM]; exact eB
 have eT' : R9.trimT M.1 9000 M.2.1 = rT := by rw [← eM]; exact eT
 rw [eM] at hmr hmi e1 e2
 rw [eA] at a1 a2 a3 a4 a5 a6
 rw [eB] at g1 g2 g3 g4 g5 g6
 rw [eT] at t1 t2 t3 t4
 obtain ⟨rC, eC⟩ : ∃ r, R9.leapT M.1 9000 M.2.1 3 = r := ⟨_, rfl⟩
 obtain ⟨rD, eD⟩ : ∃ r, R9.runT M.1 9000 M.2.1 2305843009213693952 = r := ⟨_, rfl⟩
 rw [eC] at e1
 rw [eD] at e2
 have hml : M.1.length ≤ 1000000000 := by have := hmr.1; omega
 skip
 refine fn_enter0 Try.func12 rfl Try.ntmps12 rfl fun w0 => ?_
 refine tS (tR (tA rfl rfl (tN (tT (tS (tR ?_))))))
 refine tri_g (opg_call (xs := [_]) rfl (ref06_newR eN)) rfl ?_
 rintro _ _ I0 ⟨x0, y0, rfl, hs0, rfl, hI0⟩
 skip
 refine tri_g (opg_call (xs := []) rfl (law09_glider)) rfl ?_
 rintro _ _ I1 ⟨x1, y1, rfl, hs1, rfl, hI1⟩
 skip
 refine tri_g (opg_call (xs := [_, _, _]) rfl (ref07_makeR (hs0.mono hI1) (by decide) (by unfold R6.Rng; decide) hs1 (by decide) eM')) rfl ?_
 rintro _ _ I2 ⟨x2, y2, rfl, hs2, rfl, hI2⟩
 refine tM rfl rfl ?_
 refine tri_v (opv_extract rfl rfl) rfl ?_
 refine tri_v (opv_extract rfl rfl) rfl ?_
 refine tri_v (opv_extract rfl rfl) rfl ?_
 refine tri_g opg_alloc rfl ?_
 rintro _ _ _ ⟨b1, rfl, rfl, rfl⟩
 refine yG rfl rfl rfl rfl rfl rfl ?_
 rintro _ _ _ ⟨rfl, rfl⟩
 refine tA rfl rfl (tA rfl rfl (tN (tT (tS (tR ?_)))))
 refine yB rfl rfl ?_
 refine tM rfl rfl ?_
 refine tri_g (opg_call (xs := [_, _, _]) rfl (leap_runR hs2 hml eA')) rfl ?_
 rintro _ _ I3 ⟨x3, y3, rfl, hs3, rfl, hI3⟩
 refine tM rfl rfl ?_
 refine tri_v (opv_extract rfl rfl) rfl ?_
 refine tri_v (opv_extract rfl rfl) rfl ?_
 refine tri_v (opv_extract rfl rfl) rfl ?_
 refine tri_g opg_alloc rfl ?_
 rintro _ _ _ ⟨b4, rfl, rfl, rfl⟩
 refine yG rfl rfl rfl rfl rfl rfl ?_
 rintro _ _ _ ⟨rfl, rfl⟩
 refine tA rfl rfl (tA rfl rfl (tN (tT (tS (tR ?_)))))
 refine yB rfl rfl ?_
 refine tM rfl rfl ?_
 refine tri_g (opg_call (xs := [_, _, _]) rfl (leap_leapR (hs2.mono hI3) hml eB')) rfl ?_
 rintro _ _ I4 ⟨x4, y4, rfl, hs4, rfl, hI4⟩
 refine tM rfl rfl ?_
 refine tri_v (opv_extract rfl rfl) rfl ?_
 refine tri_v (opv_extract rfl rfl) rfl ?_
 refine tri_v (opv_extract rfl rfl) rfl ?_
 refine tri_g opg_alloc rfl ?_
 rintro _ _ _ ⟨b7, rfl, rfl, rfl⟩
 refine yG rfl rfl rfl rfl rfl rfl ?_
 rintro _ _ _ ⟨rfl, rfl⟩
 refine tA rfl rfl (tA rfl rfl (tN (tT (tS (tR ?_)))))
 refine yB rfl rfl ?_
 refine tM rfl rfl ?_
 refine tri_g (opg_call (xs := [_, _]) rfl (leap_trimR ((hs2.mono hI3).mono hI4) hml eT')) rfl ?_
 rintro _ _ I5 ⟨x5, y5, rfl, hs5, rfl, hI5⟩
 refine tM rfl rfl ?_
 refine tri_v (opv_extract rfl rfl) rfl ?_
 refine tri_v (opv_extract rfl rfl) rfl ?_
 refine tri_v (opv_extract rfl rfl) rfl ?_
 refine tri_g opg_alloc rfl ?_
 rintro _ _ _ ⟨b10, rfl, rfl, rfl⟩
 refine yG rfl rfl rfl rfl rfl rfl ?_
 rintro _ _ _ ⟨rfl, rfl⟩
 refine tA rfl rfl (tA rfl rfl (tN (tT (tS (tR ?_)))))
 refine yB rfl rfl ?_
 refine tM rfl rfl ?_
 refine tri_g (opg_call (xs := [_, _, _]) rfl (leap_leapR (((hs2.mono hI3).mono hI4).mono hI5) hml eC)) rfl ?_
 rintro _ _ I6 ⟨x6, y6, rfl, hs6, rfl, hI6⟩
 refine tM rfl rfl ?_
 refine tri_v (opv_extract rfl rfl) rfl ?_
 refine tri_v (opv_extract rfl rfl) rfl ?_
 refine tri_v (opv_extract rfl rfl) rfl ?_
 refine tri_g opg_alloc rfl ?_
 rintro _ _ _ ⟨b13, rfl, rfl, rfl⟩
 refine yG rfl rfl rfl rfl rfl rfl ?_
 rintro _ _ _ ⟨rfl, rfl⟩
 refine tA rfl rfl (tA rfl rfl (tN (tT (tS (tR ?_)))))
 refine yB rfl rfl ?_
 refine tM rfl rfl ?_
 refine tri_g (opg_call (xs := [_, _, _]) rfl (leap_runR ((((hs2.mono hI3).mono hI4).mono hI5).mono hI6) hml eD)) rfl ?_
 rintro _ _ I7 ⟨x7, y7, rfl, hs7, rfl, hI7⟩
 have sA : SlAt I7 x3 rA.1 := ((((hs3.mono hI4).mono hI5).mono hI6).mono hI7).sl
 have sB : SlAt I7 x4 rB.1 := (((hs4.mono hI5).mono hI6).mono hI7).sl
 have sT : SlAt I7 x5 rT.1 := ((hs5.mono hI6).mono hI7).sl
 refine tM rfl rfl ?_
 refine tri_v (opv_extract rfl rfl) rfl ?_
 refine tri_v (opv_extract rfl rfl) rfl ?_
 refine tri_v (opv_extract rfl rfl) rfl ?_
 refine tri_g opg_alloc rfl ?_
 rintro _ _ _ ⟨b16, rfl, rfl, rfl⟩
 refine yG rfl rfl rfl rfl rfl rfl ?_
 rintro _ _ _ ⟨rfl, rfl⟩
 refine tA rfl rfl (tA rfl rfl (tN (tT (tS (tS (tR (tM rfl rfl ?_)))))))
 refine yF rfl ?_
 refine yL rfl rfl ?_
 refine tri_v (opv_len rfl) rfl ?_
 refine tri_v (opv_geq rfl rfl) rfl ?_
 refine tM rfl rfl ?_
 refine tri_false rfl rfl (by omega) ?_
 refine yR rfl rfl (tM rfl rfl (yR rfl rfl (yF rfl (yR rfl rfl ?_))))
 refine yL rfl rfl ?_
 refine yR rfl rfl ?_
 refine tri_v (opv_len rfl) rfl ?_
 refine yR rfl rfl ?_
 refine tri_v (opv_geq rfl rfl) rfl ?_
 refine tri_v (opv_pick_f rfl rfl) rfl ?_
 refine tM rfl rfl ?_
 refine tri_false rfl rfl (by omega) ?_
 refine yR rfl rfl (tM rfl rfl (yR rfl rfl (yF rfl (yR rfl rfl ?_))))
 refine yL rfl rfl ?_
 refine yR rfl rfl ?_
 refine tri_v (opv_len rfl) rfl ?_
 refine yR rfl rfl ?_
 refine tri_v (opv_geq rfl rfl) rfl ?_
 refine tri_v (opv_pick_f rfl rfl) rfl ?_
 refine tM rfl rfl ?_
 refine tri_false rfl rfl (by omega) ?_
 refine yR rfl rfl (yF rfl (yR rfl rfl ?_))
 refine yL rfl rfl ?_
 refine yR rfl rfl ?_
 refine tri_v (opv_len rfl) rfl ?_
 refine yR rfl rfl (yC rfl rfl ?_)
 refine tri_v (opv_pick_f rfl rfl) rfl ?_
 refine tM rfl rfl ?_
 refine tri_false rfl rfl (by omega) ?_
 refine yR rfl rfl (yF rfl (yR rfl rfl ?_))
 refine yL rfl rfl ?_
 refine yR rfl rfl (tM rfl rfl (yR rfl rfl ?_))
 refine tri_v (opv_indexAddrS rfl rfl (by omega) (by omega) (by assumption) rfl) rfl ?_
 refine yR rfl rfl ?_
 refine tri_v (opv_fieldAddrE rfl (by assumption) (by omega) rfl) rfl ?_
 refine yR rfl rfl ?_
 refine tri_v (opv_loadE1 rfl (by assumption) rfl (by omega) rfl rfl) rfl ?_
 refine yR rfl rfl (yC rfl rfl ?_)
 refine tri_v (opv_pick_f rfl rfl) rfl ?_
 refine tN (tT ?_)
 refine tri_cond_not rfl (by omega) ?_
 refine tri_skip (tT (tS (tR ?_)))
 refine yB rfl rfl ?_
 refine tM rfl rfl ?_
 refine tri_g (opg_call (xs := [_, _]) rfl (ref07_of a5 sA ⟨a1, a2⟩ (show 1 ≤ (R6.nd rA.1 rA.2.1).lv by unfold R6.nd; omega) (by omega))) rfl ?_
 rintro _ _ I8 ⟨x8, y8, rfl, hs8, rfl, hI8⟩
 have sB' := sB.mono hI8
 have sT' := sT.mono hI8
 rw [a6]
 refine tA rfl rfl (tN (tT (tS (tR (tM rfl rfl ?_)))))
 refine tri_v (opv_eql rfl rfl) rfl ?_
 refine tM rfl rfl ?_
 refine tri_true rfl rfl (a3) ?_
 refine yR rfl rfl (tM rfl rfl (yR rfl rfl ?_))
 refine tri_v (opv_len rfl) rfl ?_
 refine yR rfl rfl ?_
 refine tri_v (opv_eql rfl rfl) rfl ?_
 refine tri_v (opv_pick_t rfl rfl) rfl ?_
 refine tM rfl rfl ?_
 refine tri_true rfl rfl (by decide) ?_
 refine yR rfl rfl (tM rfl rfl (yR rfl rfl ?_))
 refine tri_v (opv_eql rfl rfl) rfl ?_
 refine tri_v (opv_pick_t rfl rfl) rfl ?_
 refine tM rfl rfl ?_
 refine tri_true rfl rfl (g4) ?_
 refine yR rfl rfl (yF rfl (yR rfl rfl ?_))
 refine yL rfl rfl ?_
 refine yR rfl rfl (tM rfl rfl (yR rfl rfl ?_))
 refine tri_v (opv_indexAddrS rfl rfl (by omega) (by omega) (by assumption) rfl) rfl ?_
 refine yR rfl rfl ?_
 refine tri_v (opv_fieldAddrE rfl (by assumption) (by omega) rfl) rfl ?_
 refine yR rfl rfl ?_
 refine tri_v (opv_loadE1 rfl (by assumption) rfl (by omega) rfl rfl) rfl ?_
 refine yR rfl rfl ?_
 refine tri_v (opv_eql rfl rfl) rfl ?_
 refine tri_v (opv_pick_t rfl rfl) rfl ?_
 refine tM rfl rfl ?_
 refine tri_true rfl rfl (g5) ?_
 refine yR rfl rfl (yF rfl (yR rfl rfl ?_))
 refine yL rfl rfl ?_
 refine yR rfl rfl (tM rfl rfl (yR rfl rfl ?_))
 refine tri_v (opv_indexAddrS rfl rfl (by omega) (by omega) (by assumption) rfl) rfl ?_
 refine yR rfl rfl ?_
 refine tri_v (opv_fieldAddrE rfl (by assumption) (by omega) rfl) rfl ?_
 refine yR rfl rfl ?_
 refine tri_v (opv_loadE1 rfl (by assumption) rfl (by omega) rfl rfl) rfl ?_
 refine yR rfl rfl ?_
 refine tri_v (opv_eql rfl rfl) rfl ?_
 refine tri_v (opv_pick_t rfl rfl) rfl ?_
 refine tM rfl rfl ?_
 refine tri_true rfl rfl (g6) ?_
 refine yR rfl rfl (tM rfl rfl (yR rfl rfl ?_))
 refine tri_v (opv_eql rfl rfl) rfl ?_
 refine tri_v (opv_pick_t rfl rfl) rfl ?_
 refine tM rfl rfl ?_
 refine tri_true rfl rfl (t3) ?_
 refine yR rfl rfl (yF rfl (yR rfl rfl ?_))
 refine yL rfl rfl ?_
 refine yR rfl rfl (tM rfl rfl (yR rfl rfl ?_))
 refine tri_v (opv_indexAddrS rfl rfl (by omega) (by omega) (by assumption) rfl) rfl ?_
 refine yR rfl rfl ?_
 refine tri_v (opv_fieldAddrE rfl (by assumption) (by omega) rfl) rfl ?_
 refine yR rfl rfl ?_
 refine tri_v (opv_loadE1 rfl (by assumption) rfl (by omega) rfl rfl) rfl ?_
 refine yR rfl rfl ?_
 refine tri_v (opv_eql rfl rfl) rfl ?_
 refine tri_v (opv_pick_t rfl rfl) rfl ?_
 refine tM rfl rfl ?_
 refine tri_true rfl rfl (t4) ?_
 refine yR rfl rfl (tM rfl rfl (yR rfl rfl ?_))
 refine tri_v (opv_eql rfl rfl) rfl ?_
 refine tri_v (opv_pick_t rfl rfl) rfl ?_
 refine tM rfl rfl ?_
 refine tri_true rfl rfl (e1) ?_
 refine yR rfl rfl (tM rfl rfl (yR rfl rfl ?_))
 refine tri_v (opv_eql rfl rfl) rfl ?_
 refine tri_v (opv_pick_t rfl rfl) rfl ?_
 refine tA rfl rfl (tN (tT (tri_ret ?_)))
 refine tri_end A Suf.h rfl (.cons (rv_tmp rfl) .nil) ⟨congrArg Value.bool (decide_eq_true e2), rfl, fun _ h => hI8 (hI7 (hI6 (hI5 (hI4 (hI3 (hI2 (hI1 (hI0 h)))))))) ⟩
end Go.GL


namespace Go.GL
/-! ### A sorted list without what stands twice -/
namespace R1
def cmpI (x y : Int) : Int := if x < y then -1 else if y < x then 1 else 0
def cmpC (a b : Cell) : Int := if cmpI a.y b.y ≠ 0 then cmpI a.y b.y else cmpI a.x b.x
def compact : List Cell → List Cell
 | [] => []
 | [a] => [a]
 | a :: b :: l => if a = b then compact (b :: l) else a :: compact (b :: l)
end R1
end Go.GL


namespace Go.GL
/-! ### What is made of cells -/
namespace R7
open R6
def deadB (ns : List Node) (j : Nat) : Bool := ns.any fun x => decide (x.lv = (j : Int) ∧ x.pop = 0)
/-- Of how many levels there is no node yet in which all is dead. -/
def E (ns : List Node) : Nat → Nat
 | 0 => 0
 | L + 1 => E ns L + if deadB ns (L + 1) = true then 0 else 1
theorem deadB_iff {ns : List Node} {j : Nat} : deadB ns j = true ↔ ∃ n, IsN ns j n ∧ (nd ns n).pop = 0 := by
 unfold deadB
 rw [List.any_eq_true]
 constructor
 ·rintro ⟨x, hx, h⟩
  obtain ⟨i, hi, rfl⟩ := List.getElem_of_mem hx
  have h' := of_decide_eq_true h
  have e : nd ns (i : Int) = ns[i] := by simp [nd, hi]
  exact ⟨i, ⟨⟨by omega, by omega⟩, by rw [e]; exact h'.1⟩, by rw [e]; exact h'.2⟩
 ·rintro ⟨n, ⟨⟨h0, h1⟩, h2⟩, h3⟩
  have hlt : n.toNat < ns.length := by omega
  have e : nd ns n = ns[n.toNat] := by simp [nd, hlt]
  rw [e] at h2 h3
  exact ⟨_, List.getElem_mem hlt, by simp [h2, h3]⟩
theorem deadB_pre {ns ms : List Node} (h : ns <+: ms) {j : Nat} (hd : deadB ns j = true) : deadB ms j = true := by
 obtain ⟨t, rfl⟩ := h
 unfold deadB at *
 rw [List.any_append, hd]; rfl
theorem E_pre {ns ms : List Node} (h : ns <+: ms) : ∀ L, E ms L ≤ E ns L
 | 0 => Nat.le_refl _
 | L + 1 => by
  have := E_pre h L
  simp only [E]
  by_cases hd : deadB ns (L + 1) = true
  ·rw [if_pos hd, if_pos (deadB_pre h hd)]; omega
  ·rw [if_neg hd]; split <;> omega
theorem E_new {ns ms : List Node} (h : ns <+: ms) {j : Nat} (h0 : ¬ deadB ns (j + 1) = true) (h1 : deadB ms (j + 1) = true) : ∀ L, j < L → E ms L + 1 ≤ E ns L
 | 0, hj => absurd hj (by omega)
 | L + 1, hj => by
  simp only [E]
  by_cases e : j = L
  ·subst e
   have := E_pre h j
   rw [if_neg h0, if_pos h1]; omega
  ·have := E_new h h0 h1 L (by omega)
   by_cases hd : deadB ns (L + 1) = true
   ·rw [if_pos hd, if_pos (deadB_pre h hd)]; omega
   ·rw [if_neg hd]; split <;> omega
theorem E_le (ns : List Node) : ∀ L, E ns L ≤ L
 | 0 => Nat.le_refl _
 | L + 1 => by have := E_le ns L; simp only [E]; split <;> omega
theorem E_pos {ns : List Node} {j L : Nat} (hj : j < L) (h0 : ¬ deadB ns (j + 1) = true) : 1 ≤ E ns L := by
 induction L with
 | zero => omega
 | succ L ih =>
  simp only [E]
  by_cases e : j = L
  ·subst e; rw [if_neg h0]; omega
  ·have := ih (by omega); omega
/-- A node of a level is made; it cost so many nodes, and what was dead of the levels to L. -/
structure Mk (ns : List Node) (L cost lv : Nat) (ms : List Node) (m : Int) : Prop where
 wf : Wf ms
 pre : ns <+: ms
 is : IsN ms lv m
 len : ms.length + E ms L ≤ ns.length + E ns L + cost
theorem fit4_of {ns : List Node} {lv : Nat} (hl : lv + 1 ≤ 42) {a b c d : Int} (ha : IsN ns lv a) (hb : IsN ns lv b) (hc : IsN ns lv c) (hd : IsN ns lv d) : fit4 ns a b c d := by
 refine ⟨ha.1, ⟨hb.1, ?_⟩, ⟨hc.1, ?_⟩, ⟨hd.1, ?_⟩, ?_⟩
 ·rw [hb.2, ha.2]
 ·rw [hc.2, ha.2]
 ·rw [hd.2, ha.2]
 ·rw [ha.2]; omega
theorem dead_found {ns : List Node} (h : Wf ns) {j : Nat} {n d : Int} (hn : IsN ns j n) (hp : (nd ns n).pop = 0) (hd : IsN ns (j + 1) d) (hdp : (nd ns d).pop = 0) : R6.at_ ns [n, n, n, n] = d := by
 obtain ⟨a, b, c, e⟩ := kids4 h hd
 obtain ⟨a', b', c', e'⟩ := (dead_kids h hd).1 hdp
 have := h.at_ hd.1 (by rw [hd.2]; omega)
 unfold Node.kids at this
 rwa [dead_uniq h a hn a' hp, dead_uniq h b hn b' hp, dead_uniq h c hn c' hp, dead_uniq h e hn e' hp] at this
theorem emptyF_ok {room : Int} {L : Nat} (hL : L ≤ 42) : ∀ (k : Nat) (ns : List Node) (n : Int) (j : Nat), Wf ns → IsN ns j n → (nd ns n).pop = 0 → j + k ≤ L → ((ns.length + E ns L : Nat) : Int) ≤ room →
  ∃ ms m, emptyF room k ns n = (ms, m, 0) ∧ Mk ns L 0 (j + k) ms m ∧ (nd ms m).pop = 0
 | 0, ns, n, j, h, hn, hp, hj, hr => ⟨ns, n, rfl, ⟨h, List.prefix_refl _, hn, Nat.le_refl _⟩, hp⟩
 | k + 1, ns, n, j, h, hn, hp, hj, hr => by
  have hf := fit4_of (by omega) hn hn hn hn
  have hroom : 0 ≤ R6.at_ ns [n, n, n, n] ∨ (ns.length : Int) < room := by
   by_cases hd : deadB ns (j + 1) = true
   ·obtain ⟨d, hd1, hd2⟩ := deadB_iff.1 hd
    rw [dead_found h hn hp hd1 hd2]; exact .inl hd1.1.1
   ·have := E_pos (L := L) (by omega) hd
    exact .inr (by omega)
  obtain ⟨ms, m, e, ok⟩ := put_ok h hf hroom
  have him : IsN ms (j + 1) m := ⟨ok.mem, by rw [ok.lv, hn.2]; omega⟩
  have hpm : (nd ms m).pop = 0 := by rw [ok.nd]; exact (pop4_zero (by omega) (by omega) (by omega) (by omega)).2 ⟨hp, hp, hp, hp⟩
  have hlen : ms.length + E ms L ≤ ns.length + E ns L := by
   by_cases hd : deadB ns (j + 1) = true
   ·obtain ⟨d, hd1, hd2⟩ := deadB_iff.1 hd
    have hat := dead_found h hn hp hd1 hd2
    have : put ns room n n n n = (ns, d, 0) := put_again h hf hd1.1 (by rw [hd1.2]; omega) (by rw [← hat]; exact (at_found (by rw [hat]; exact hd1.1.1)).2.2)
    rw [this] at e
    cases e
    exact Nat.le_refl _
   ·have := E_new ok.pre hd (deadB_iff.2 ⟨m, him, hpm⟩) L (by omega)
    have := ok.len
    omega
  obtain ⟨ms2, m2, e2, ok2, hp2⟩ := emptyF_ok (room := room) hL k ms m (j + 1) ok.wf him hpm (by omega) (by omega)
  refine ⟨ms2, m2, ?_, ⟨ok2.wf, ok.pre.trans ok2.pre, by rw [show j + (k + 1) = j + 1 + k by omega]; exact ok2.is, by have := ok2.len; omega⟩, hp2⟩
  simp only [emptyF, e]
  rw [if_neg (by omega)]
  exact e2
theorem empty_ok {room : Int} {L : Nat} (hL : L ≤ 42) {ns : List Node} {lv : Nat} (h : Wf ns) (hlv : lv ≤ L) (hr : ((ns.length + E ns L : Nat) : Int) ≤ room) : ∃ ms m, empty ns room lv = (ms, m, 0) ∧ Mk ns L 0 lv ms m ∧ (nd ms m).pop = 0 := by
 have := emptyF_ok (room := room) hL lv ns 0 0 h ⟨h.in0, by rw [h.nd0]; rfl⟩ (by rw [h.nd0]; rfl) (by omega) hr
 unfold empty
 simpa using this
/-! #### the quarters of a list of cells -/
def qx' (h : Int) (c : Cell) : Nat := qx h c
theorem part_sum (h : Int) (l : List Cell) : (part h 0 l).length + (part h 1 l).length + (part h 2 l).length + (part h 3 l).length = l.length := by
 induction l with
 | nil => rfl
 | cons c l ih =>
  unfold part at *
  simp only [List.length_map] at *
  have hk : qx h c = 0 ∨ qx h c = 1 ∨ qx h c = 2 ∨ qx h c = 3 := by unfold qx; split <;> split <;> simp
  rcases hk with e | e | e | e <;> simp only [List.filter_cons, e] <;> simp <;> omega
theorem part_in {lv : Nat} {l : List Cell} (hb : ∀ c ∈ l, inQ (lv + 1) c.x c.y) (k : Nat) : ∀ c ∈ part (2 ^ lv) k l, inQ lv c.x c.y := by
 intro c hc
 obtain ⟨d, hd, rfl⟩ := List.mem_map.1 hc
 have := hb d (List.mem_filter.1 hd).1
 unfold inQ at *
 rw [p2s] at this
 have := p2pos lv
 unfold qc
 simp only
 split <;> split <;> omega
theorem mem_part {lv : Nat} {l : List Cell} (hb : ∀ c ∈ l, inQ (lv + 1) c.x c.y) {x y : Int} (hq : inQ lv x y) :
  ((⟨x, y⟩ : Cell) ∈ part (2 ^ lv) 0 l ↔ (⟨x, y⟩ : Cell) ∈ l) ∧ ((⟨x, y⟩ : Cell) ∈ part (2 ^ lv) 1 l ↔ (⟨x + 2 ^ lv, y⟩ : Cell) ∈ l) ∧ ((⟨x, y⟩ : Cell) ∈ part (2 ^ lv) 2 l ↔ (⟨x, y + 2 ^ lv⟩ : Cell) ∈ l) ∧ ((⟨x, y⟩ : Cell) ∈ part (2 ^ lv) 3 l ↔ (⟨x + 2 ^ lv, y + 2 ^ lv⟩ : Cell) ∈ l) := by
 have hp := p2pos lv
 unfold inQ at hq
 have key : ∀ k (X Y : Int), qx (2 ^ lv) ⟨X, Y⟩ = k → qc (2 ^ lv) ⟨X, Y⟩ = ⟨x, y⟩ → (∀ c ∈ l, qx (2 ^ lv) c = k → qc (2 ^ lv) c = ⟨x, y⟩ → c = ⟨X, Y⟩) → ((⟨x, y⟩ : Cell) ∈ part (2 ^ lv) k l ↔ (⟨X, Y⟩ : Cell) ∈ l) := by
  intro k X Y h1 h2 h3
  unfold part
  rw [List.mem_map]
  constructor
  ·rintro ⟨c, hc, e⟩
   obtain ⟨hc1, hc2⟩ := List.mem_filter.1 hc
   have := h3 c hc1 (by simpa using hc2) e
   rwa [this] at hc1
  ·intro hm
   exact ⟨_, List.mem_filter.2 ⟨hm, by simp [h1]⟩, h2⟩
 refine ⟨key 0 x y ?_ ?_ ?_, key 1 _ _ ?_ ?_ ?_, key 2 _ _ ?_ ?_ ?_, key 3 _ _ ?_ ?_ ?_⟩
 all_goals simp only [qx, qc]
 all_goals first
  | (rintro ⟨cx, cy⟩ hc; have := hb _ hc; unfold inQ at this; simp only [Cell.mk.injEq] at *; intro h1 h2; revert h1 h2; split <;> split <;> intro h1 h2 <;> omega)
  | (split <;> split <;> omega)
  | (simp only [Cell.mk.injEq]; constructor <;> split <;> omega)
end R7
end Go.GL


namespace Go.GL
namespace R7
open R6
theorem build_nl (room : Int) (lv : Nat) (ns : List Node) : build room lv ns [] = empty ns room lv := by cases lv <;> rfl
theorem build_sc (room : Int) (lv : Nat) (ns : List Node) {l : List Cell} (h : l ≠ []) {a0 a1 a2 a3 : List Node} {m0 m1 m2 m3 : Int} (h0 : build room lv ns (part (2 ^ lv) 0 l) = (a0, m0, 0)) (h1 : build room lv a0 (part (2 ^ lv) 1 l) = (a1, m1, 0)) (h2 : build room lv a1 (part (2 ^ lv) 2 l) = (a2, m2, 0)) (h3 : build room lv a2 (part (2 ^ lv) 3 l) = (a3, m3, 0)) :
  build room (lv + 1) ns l = R6.put a3 room m0 m1 m2 m3 := by
 cases l with
 | nil => exact absurd rfl h
 | cons c l =>
  simp only [build, h0, h1, h2, h3]
  rfl
theorem al_put {ns ms : List Node} {lv : Nat} {a b c d m : Int} (h : Wf ns) (ha : IsN ns lv a) (hb : IsN ns lv b) (hc : IsN ns lv c) (hd : IsN ns lv d) (ok : PutOk ns a b c d ms m) (x y : Int) :
  al ms (lv + 1) m x y = if y < 2 ^ lv then (if x < 2 ^ lv then al ns lv a x y else al ns lv b (x - 2 ^ lv) y) else (if x < 2 ^ lv then al ns lv c x (y - 2 ^ lv) else al ns lv d (x - 2 ^ lv) (y - 2 ^ lv)) := by
 simp only [al, ok.nd, mk4]
 rw [al_pre h ok.pre _ _ _ _ ha, al_pre h ok.pre _ _ _ _ hb, al_pre h ok.pre _ _ _ _ hc, al_pre h ok.pre _ _ _ _ hd]
theorem build_ok {room : Int} {L : Nat} (hL : L ≤ 42) : ∀ (lv : Nat) (ns : List Node) (l : List Cell), lv ≤ L → Wf ns → (∀ c ∈ l, inQ lv c.x c.y) → ((ns.length + E ns L + l.length * lv : Nat) : Int) ≤ room →
  ∃ ms m, build room lv ns l = (ms, m, 0) ∧ Mk ns L (l.length * lv) lv ms m ∧ ∀ x y, inQ lv x y → al ms lv m x y = decide ((⟨x, y⟩ : Cell) ∈ l)
 | lv, ns, [], hlv, h, hb, hr => by
  obtain ⟨ms, m, e, ok, hp⟩ := empty_ok (room := room) hL h hlv (by simpa using hr)
  refine ⟨ms, m, by rw [build_nl]; exact e, ?_, fun x y _ => ?_⟩
  ·simpa using ok
  ·rw [al_dead ok.wf lv m x y ok.is hp]; simp
 | 0, ns, c :: l, hlv, h, hb, hr => by
  refine ⟨ns, 1, rfl, ⟨h, List.prefix_refl _, ⟨h.in1, by rw [h.nd1]; rfl⟩, by omega⟩, fun x y hq => ?_⟩
  have hc := hb c List.mem_cons_self
  unfold inQ at hq hc
  simp only [Int.pow_zero] at hq hc
  have e : (⟨x, y⟩ : Cell) = c := by cases c; simp only [Cell.mk.injEq] at *; omega
  rw [e]
  simp [al]
 | lv + 1, ns, c :: l, hlv, h, hb, hr => by
  have hne : c :: l ≠ [] := by simp
  generalize hls : c :: l = ls at *
  have hpl := part_sum (2 ^ lv) ls
  have hlpos : 1 ≤ ls.length := by rw [← hls]; simp
  have hpb := part_in hb
  have hmul : (part (2 ^ lv) 0 ls).length * lv + (part (2 ^ lv) 1 ls).length * lv + (part (2 ^ lv) 2 ls).length * lv + (part (2 ^ lv) 3 ls).length * lv = ls.length * lv := by rw [← Nat.add_mul, ← Nat.add_mul, ← Nat.add_mul, hpl]
  have hmul2 : ls.length * (lv + 1) = ls.length * lv + ls.length := Nat.mul_succ _ _
  rw [hmul2] at hr
  obtain ⟨a0, m0, e0, k0, s0⟩ := build_ok (room := room) hL lv ns (part (2 ^ lv) 0 ls) (by omega) h (hpb 0) (by omega)
  have l0 := k0.len
  obtain ⟨a1, m1, e1, k1, s1⟩ := build_ok (room := room) hL lv a0 (part (2 ^ lv) 1 ls) (by omega) k0.wf (hpb 1) (by omega)
  have l1 := k1.len
  obtain ⟨a2, m2, e2, k2, s2⟩ := build_ok (room := room) hL lv a1 (part (2 ^ lv) 2 ls) (by omega) k1.wf (hpb 2) (by omega)
  have l2 := k2.len
  obtain ⟨a3, m3, e3, k3, s3⟩ := build_ok (room := room) hL lv a2 (part (2 ^ lv) 3 ls) (by omega) k2.wf (hpb 3) (by omega)
  have l3 := k3.len
  have i0 : IsN a3 lv m0 := ((k0.is.pre k1.pre).pre k2.pre).pre k3.pre
  have i1 : IsN a3 lv m1 := (k1.is.pre k2.pre).pre k3.pre
  have i2 : IsN a3 lv m2 := k2.is.pre k3.pre
  have i3 : IsN a3 lv m3 := k3.is
  obtain ⟨ms, m, e, ok⟩ := put_ok k3.wf (room := room) (fit4_of (by omega) i0 i1 i2 i3) (.inr (by omega))
  refine ⟨ms, m, by rw [build_sc room lv ns hne e0 e1 e2 e3]; exact e, ⟨ok.wf, ((((k0.pre.trans k1.pre).trans k2.pre).trans k3.pre).trans ok.pre), ⟨ok.mem, by rw [ok.lv, i0.2]; omega⟩, ?_⟩, fun x y hq => ?_⟩
  ·have := E_pre ok.pre L
   have := ok.len
   omega
  ·rw [al_put k3.wf i0 i1 i2 i3 ok]
   obtain ⟨q0, q1, q2, q3⟩ := inQ_succ hq
   by_cases hy : y < 2 ^ lv
   ·rw [if_pos hy]
    by_cases hx : x < 2 ^ lv
    ·rw [if_pos hx, al_pre k2.wf k3.pre _ _ _ _ ((k0.is.pre k1.pre).pre k2.pre), al_pre k1.wf k2.pre _ _ _ _ (k0.is.pre k1.pre), al_pre k0.wf k1.pre _ _ _ _ k0.is, s0 _ _ (q0 hy hx)]
     exact decide_eq_decide.2 (mem_part hb (q0 hy hx)).1
    ·rw [if_neg hx, al_pre k2.wf k3.pre _ _ _ _ (k1.is.pre k2.pre), al_pre k1.wf k2.pre _ _ _ _ k1.is, s1 _ _ (q1 hy hx)]
     have := (mem_part hb (q1 hy hx)).2.1
     rw [show x - 2 ^ lv + 2 ^ lv = x by omega] at this
     exact decide_eq_decide.2 this
   ·rw [if_neg hy]
    by_cases hx : x < 2 ^ lv
    ·rw [if_pos hx, al_pre k2.wf k3.pre _ _ _ _ k2.is, s2 _ _ (q2 hy hx)]
     have := (mem_part hb (q2 hy hx)).2.2.1
     rw [show y - 2 ^ lv + 2 ^ lv = y by omega] at this
     exact decide_eq_decide.2 this
    ·rw [if_neg hx, s3 _ _ (q3 hy hx)]
     have := (mem_part hb (q3 hy hx)).2.2.2
     rw [show y - 2 ^ lv + 2 ^ lv = y by omega, show x - 2 ^ lv + 2 ^ lv = x by omega] at this
     exact decide_eq_decide.2 this
theorem side_succ (lv : Nat) : side ((lv + 1 : Nat) : Int) = 2 ^ lv := by
 unfold side
 have : (((lv + 1 : Nat) : Int) - 1).toNat = lv := by omega
 rw [this]
/-- What 'make' comes to. -/
theorem make_ok {ns : List Node} {room : Int} {l : List Cell} {lv : Nat} {L : Nat} (hL : L ≤ 42) (hlv : lv + 1 ≤ L) (h : R6.right ns room) (hl : R1.right l) (hb : ∀ c ∈ l, inL ((lv + 1 : Nat) : Int) c) (hr : ((ns.length + E ns L + l.length * (lv + 1) : Nat) : Int) ≤ room) :
  ∃ ms m, make ns room l ((lv + 1 : Nat) : Int) = (ms, m, 0) ∧ Mk ns L (l.length * (lv + 1)) (lv + 1) ms m ∧ ∀ c : Cell, inL ((lv + 1 : Nat) : Int) c → al ms (lv + 1) m (c.x + 2 ^ lv) (c.y + 2 ^ lv) = decide (c ∈ l) := by
 have hw := (right_iff.1 h).2
 have hs := side_succ lv
 have hp := p2pos lv
 have hcb : ∀ c ∈ corner (side ((lv + 1 : Nat) : Int)) l, inQ (lv + 1) c.x c.y := fun c hc => by
  obtain ⟨d, hd, rfl⟩ := List.mem_map.1 hc
  have := hb d hd
  unfold inL at this
  rw [hs] at this
  unfold inQ
  rw [p2s, hs]
  simp only
  omega
 obtain ⟨ms, m, e, ok, sem⟩ := build_ok (room := room) hL (lv + 1) ns (corner (side ((lv + 1 : Nat) : Int)) l) hlv hw hcb (by unfold corner; rw [List.length_map]; exact hr)
 have hlen : (corner (side ((lv + 1 : Nat) : Int)) l).length = l.length := by unfold corner; rw [List.length_map]
 rw [hlen] at ok
 refine ⟨ms, m, ?_, ok, fun c hc => ?_⟩
 ·unfold make
  rw [if_pos ⟨h, by omega, by omega, hl⟩, if_pos (fun i hi => ?_)]
  ·have e3 : ((lv + 1 : Nat) : Int).toNat = lv + 1 := by omega
   rw [e3, e]
   simp
  ·have e4 : R1.g l i = l[i] := by simp [R1.g, hi]
   rw [e4]; exact hb _ (List.getElem_mem hi)
 ·unfold inL at hc
  rw [hs] at hc
  rw [sem _ _ (by unfold inQ; rw [p2s]; omega)]
  refine decide_eq_decide.2 ?_
  unfold corner
  rw [List.mem_map, hs]
  constructor
  ·rintro ⟨d, hd, e⟩
   have : d = c := by cases d; cases c; simp only [Cell.mk.injEq] at *; omega
   rwa [this] at hd
  ·intro hc
   exact ⟨c, hc, rfl⟩
/-- What 'of' tells. -/
theorem mem_of {ns : List Node} (h : Wf ns) {lv : Nat} {n : Int} (hn : IsN ns (lv + 1) n) (c : Cell) : c ∈ of ns n ↔ inL ((lv + 1 : Nat) : Int) c ∧ al ns (lv + 1) n (c.x + 2 ^ lv) (c.y + 2 ^ lv) = true := by
 unfold of
 have hs := side_succ lv
 have e3 : ((lv + 1 : Nat) : Int).toNat = lv + 1 := by omega
 rw [hn.2, e3, mem_flat h _ _ _ _ hn, hs]
 simp only
 rw [show c.x - -2 ^ lv = c.x + 2 ^ lv by omega, show c.y - -2 ^ lv = c.y + 2 ^ lv by omega]
 unfold inQ inL
 rw [hs, p2s]
 constructor
 ·rintro ⟨q, k⟩; exact ⟨by omega, k⟩
 ·rintro ⟨q, k⟩; exact ⟨by omega, k⟩
end R7
end Go.GL


namespace Go.GL
open R6 R7
/-! ### What the laws' squares are -/
namespace RL
theorem new_wf : Wf [n0, n1] := ⟨by decide, rfl, rfl, fun i hi h2 => absurd hi (by simp; omega)⟩
theorem cell16_bd (r : Cell) : -8 ≤ (cell16 r).x ∧ (cell16 r).x < 8 ∧ -8 ≤ (cell16 r).y ∧ (cell16 r).y < 8 := by
 have a := pk_bd (c := r.x) (n := 16) (by omega)
 have b := pk_bd (c := r.y) (n := 16) (by omega)
 unfold cell16
 simp only
 omega
theorem mem_set {raw : List Cell} {c : Cell} (h : c ∈ set raw) : -8 ≤ c.x ∧ c.x < 8 ∧ -8 ≤ c.y ∧ c.y < 8 := by
 unfold set at h
 rw [R1.mem_puts] at h
 obtain ⟨r, _, rfl⟩ := List.mem_map.1 h
 exact cell16_bd r
theorem p8 {lv : Nat} (h : 3 ≤ lv) : (8:Int) ≤ 2 ^ lv := by
 have h2 : (2:Nat) ^ 3 ≤ 2 ^ lv := Nat.pow_le_pow_right (by omega) h
 have h3 : (2:Int) ^ lv = ((2 ^ lv : Nat) : Int) := by simp
 rw [h3]; omega
/-- The raw square: a node of the set's cells. -/
structure Sq (c : Int) (nodes : List Five) (raw : List Cell) (level : Int) (lv : Nat) (ms : List Node) (m : Int) : Prop where
 lv3 : 3 ≤ lv ∧ lv ≤ 6
 lve : ((lv + 1 : Nat) : Int) = 4 + pk level 4
 eq : square c nodes raw level = (ms, m, 0)
 wf : Wf ms
 is : IsN ms (lv + 1) m
 len : (ms.length : Int) ≤ room c + 427
 pre : store (room c) nodes <+: ms
 sem : ∀ d : Cell, inL ((lv + 1 : Nat) : Int) d → al ms (lv + 1) m (d.x + 2 ^ lv) (d.y + 2 ^ lv) = decide (d ∈ set raw)
end RL
/-! ### Sixteen and nine -/
namespace R8
theorem s16_is {ns : List Node} (h : Wf ns) {lv : Nat} {n : Int} (hn : IsN ns (lv + 2) n) : ∀ i : Int, 0 ≤ i → i < 16 → IsN ns lv (g (s16 ns n) i) := by
 obtain ⟨a, b, c, d⟩ := kids4 h hn
 obtain ⟨a0, a1, a2, a3⟩ := kids4 h a
 obtain ⟨b0, b1, b2, b3⟩ := kids4 h b
 obtain ⟨c0, c1, c2, c3⟩ := kids4 h c
 obtain ⟨d0, d1, d2, d3⟩ := kids4 h d
 intro i h0 h16
 obtain ⟨k, rfl⟩ : ∃ k : Nat, i = k := ⟨i.toNat, by omega⟩
 have hk : k < 16 := by omega
 unfold g s16
 rw [Int.toNat_natCast]
 match k, hk with
 | 0, _ => exact a0
 | 1, _ => exact a1
 | 2, _ => exact b0
 | 3, _ => exact b1
 | 4, _ => exact a2
 | 5, _ => exact a3
 | 6, _ => exact b2
 | 7, _ => exact b3
 | 8, _ => exact c0
 | 9, _ => exact c1
 | 10, _ => exact d0
 | 11, _ => exact d1
 | 12, _ => exact c2
 | 13, _ => exact c3
 | 14, _ => exact d2
 | 15, _ => exact d3
/-- A square of the sixteen. -/
def sqK (l : List Int) (y x : Int) : List Int := [g l (4 * y + x), g l (4 * y + x + 1), g l (4 * y + x + 4), g l (4 * y + x + 5)]
/-- A node that is a square of the sixteen. -/
structure IsSq (ms : List Node) (lv : Nat) (l : List Int) (y x m : Int) : Prop where
 is : IsN ms (lv + 1) m
 kids : (nd ms m).kids = sqK l y x
theorem IsSq.pre {ns ms : List Node} (hp : ns <+: ms) {lv : Nat} {l : List Int} {y x m : Int} (h : IsSq ns lv l y x m) : IsSq ms lv l y x m := ⟨h.is.pre hp, by rw [nd_pre hp h.is.1]; exact h.kids⟩
/-- Nine squares. -/
structure Nine9 (ns : List Node) (room : Int) (lv : Nat) (l : List Int) (ms : List Node) (q0 q1 q2 q3 q4 q5 q6 q7 q8 : Int) : Prop where
 wf : Wf ms
 pre : ns <+: ms
 len : ms.length ≤ ns.length + 9
 s0 : IsSq ms lv l 0 0 q0
 s1 : IsSq ms lv l 0 1 q1
 s2 : IsSq ms lv l 0 2 q2
 s3 : IsSq ms lv l 1 0 q3
 s4 : IsSq ms lv l 1 1 q4
 s5 : IsSq ms lv l 1 2 q5
 s6 : IsSq ms lv l 2 0 q6
 s7 : IsSq ms lv l 2 1 q7
 s8 : IsSq ms lv l 2 2 q8
end R8
end Go.GL


namespace Go.GL
open R6 R7
namespace R8
theorem IsSq.k {ms : List Node} {lv : Nat} {l : List Int} {y x m : Int} (h : IsSq ms lv l y x m) : (nd ms m).k0 = g l (4 * y + x) ∧ (nd ms m).k1 = g l (4 * y + x + 1) ∧ (nd ms m).k2 = g l (4 * y + x + 4) ∧ (nd ms m).k3 = g l (4 * y + x + 5) := by
 have := h.kids
 unfold Node.kids sqK at this
 simpa using this
end R8
namespace RL
open R8
end RL
end Go.GL


namespace Go.GL
open R6 R7
namespace R8
def b2i (b : Bool) : Int := if b = true then 1 else 0
/-- How many of the eight about a place are alive. -/
def cnt (f : Int → Int → Bool) (y x : Int) : Int := b2i (f (x - 1) (y - 1)) + b2i (f x (y - 1)) + b2i (f (x + 1) (y - 1)) + b2i (f (x - 1) y) + b2i (f (x + 1) y) + b2i (f (x - 1) (y + 1)) + b2i (f x (y + 1)) + b2i (f (x + 1) (y + 1))
/-- A place behind a generation. -/
def nx (f : Int → Int → Bool) (y x : Int) : Bool := R2.lives (f x y) (cnt f y x)
theorem g16_al {ns : List Node} (h : Wf ns) {n : Int} (hn : IsN ns 2 n) {x y : Int} (hx : 0 ≤ x ∧ x ≤ 3) (hy : 0 ≤ y ∧ y ≤ 3) : g (s16 ns n) (4 * y + x) = b2i (al ns 2 n x y) := by
 have hz := fun i a b => isN0 h (s16_is (lv := 0) h hn i a b)
 have key : ∀ k : Int, (k = 0 ∨ k = 1) → k = b2i (decide (k = 1)) := by rintro k (rfl | rfl) <;> rfl
 have e := key _ (hz (4 * y + x) (by omega) (by omega))
 rw [e]
 congr 1
 simp only [al]
 rcases (by omega : x = 0 ∨ x = 1 ∨ x = 2 ∨ x = 3) with rfl | rfl | rfl | rfl <;> rcases (by omega : y = 0 ∨ y = 1 ∨ y = 2 ∨ y = 3) with rfl | rfl | rfl | rfl <;> rfl
theorem b2i_one (b : Bool) : decide (b2i b = 1) = b := by cases b <;> rfl
theorem bit_nx {ns : List Node} (h : Wf ns) {n : Int} (hn : IsN ns 2 n) {x y : Int} (hx : 1 ≤ x ∧ x ≤ 2) (hy : 1 ≤ y ∧ y ≤ 2) : bit (s16 ns n) y x = b2i (nx (al ns 2 n) y x) := by
 unfold bit nx
 rw [g16_al h hn (by omega) (by omega), b2i_one]
 have e : about (s16 ns n) y x 9 = cnt (al ns 2 n) y x := by
  have gg : ∀ i : Int, ∀ X Y : Int, 0 ≤ X ∧ X ≤ 3 → 0 ≤ Y ∧ Y ≤ 3 → i = 4 * Y + X → g (s16 ns n) i = b2i (al ns 2 n X Y) := fun i X Y a b e => by rw [e]; exact g16_al h hn a b
  have hab : about (s16 ns n) y x 9 = (((((((((0 + g (s16 ns n) (4 * (y + ((0 : Nat) : Int) / 3 - 1) + x + ((0 : Nat) : Int) % 3 - 1)) + g (s16 ns n) (4 * (y + ((1 : Nat) : Int) / 3 - 1) + x + ((1 : Nat) : Int) % 3 - 1)) + g (s16 ns n) (4 * (y + ((2 : Nat) : Int) / 3 - 1) + x + ((2 : Nat) : Int) % 3 - 1)) + g (s16 ns n) (4 * (y + ((3 : Nat) : Int) / 3 - 1) + x + ((3 : Nat) : Int) % 3 - 1)) + 0) + g (s16 ns n) (4 * (y + ((5 : Nat) : Int) / 3 - 1) + x + ((5 : Nat) : Int) % 3 - 1)) + g (s16 ns n) (4 * (y + ((6 : Nat) : Int) / 3 - 1) + x + ((6 : Nat) : Int) % 3 - 1)) + g (s16 ns n) (4 * (y + ((7 : Nat) : Int) / 3 - 1) + x + ((7 : Nat) : Int) % 3 - 1)) + g (s16 ns n) (4 * (y + ((8 : Nat) : Int) / 3 - 1) + x + ((8 : Nat) : Int) % 3 - 1)) := rfl
  rw [hab, gg (4 * (y + ((0 : Nat) : Int) / 3 - 1) + x + ((0 : Nat) : Int) % 3 - 1) (x - 1) (y - 1) (by omega) (by omega) (by omega), gg (4 * (y + ((1 : Nat) : Int) / 3 - 1) + x + ((1 : Nat) : Int) % 3 - 1) x (y - 1) (by omega) (by omega) (by omega), gg (4 * (y + ((2 : Nat) : Int) / 3 - 1) + x + ((2 : Nat) : Int) % 3 - 1) (x + 1) (y - 1) (by omega) (by omega) (by omega), gg (4 * (y + ((3 : Nat) : Int) / 3 - 1) + x + ((3 : Nat) : Int) % 3 - 1) (x - 1) y (by omega) (by omega) (by omega), gg (4 * (y + ((5 : Nat) : Int) / 3 - 1) + x + ((5 : Nat) : Int) % 3 - 1) (x + 1) y (by omega) (by omega) (by omega), gg (4 * (y + ((6 : Nat) : Int) / 3 - 1) + x + ((6 : Nat) : Int) % 3 - 1) (x - 1) (y + 1) (by omega) (by omega) (by omega), gg (4 * (y + ((7 : Nat) : Int) / 3 - 1) + x + ((7 : Nat) : Int) % 3 - 1) x (y + 1) (by omega) (by omega) (by omega), gg (4 * (y + ((8 : Nat) : Int) / 3 - 1) + x + ((8 : Nat) : Int) % 3 - 1) (x + 1) (y + 1) (by omega) (by omega) (by omega)]
  unfold cnt
  omega
 rw [e]
 rfl
theorem isN_b2i {ns : List Node} (h : Wf ns) (b : Bool) : IsN ns 0 (b2i b) := by
 cases b
 ·exact ⟨h.in0, by rw [show b2i false = 0 from rfl, h.nd0]; rfl⟩
 ·exact ⟨h.in1, by rw [show b2i true = 1 from rfl, h.nd1]; rfl⟩
/-- What a step's node is. -/
structure Stp (ms : List Node) (f : Int → Int → Bool) (m : Int) : Prop where
 is : IsN ms 1 m
 kids : (nd ms m).kids = [b2i (nx f 1 1), b2i (nx f 1 2), b2i (nx f 2 1), b2i (nx f 2 2)]
theorem Stp.pre {ns ms : List Node} (hp : ns <+: ms) {f : Int → Int → Bool} {m : Int} (h : Stp ns f m) : Stp ms f m := ⟨h.is.pre hp, by rw [nd_pre hp h.is.1]; exact h.kids⟩
theorem Stp.uniq {ns : List Node} (h : Wf ns) {f f' : Int → Int → Bool} {m m' : Int} (a : Stp ns f m) (b : Stp ns f' m') (e : ∀ y x, nx f y x = nx f' y x) : m = m' := by
 refine h.uniq a.is.1 b.is.1 (by rw [a.is.2]; decide) (by rw [b.is.2]; decide) ?_
 rw [a.kids, b.kids, e, e, e, e]
/-- Only what is of the sixteen counts. -/
theorem nx_congr {f f' : Int → Int → Bool} (h : ∀ x y, 0 ≤ x ∧ x ≤ 3 → 0 ≤ y ∧ y ≤ 3 → f x y = f' x y) {y x : Int} (hx : 1 ≤ x ∧ x ≤ 2) (hy : 1 ≤ y ∧ y ≤ 2) : nx f y x = nx f' y x := by
 unfold nx cnt
 rw [h x y (by omega) (by omega), h (x - 1) (y - 1) (by omega) (by omega), h x (y - 1) (by omega) (by omega), h (x + 1) (y - 1) (by omega) (by omega), h (x - 1) y (by omega) (by omega), h (x + 1) y (by omega) (by omega), h (x - 1) (y + 1) (by omega) (by omega), h x (y + 1) (by omega) (by omega), h (x + 1) (y + 1) (by omega) (by omega)]
end R8
namespace RL
def cell4 (r : Cell) : Cell := ⟨pk r.x 4 - 2, pk r.y 4 - 2⟩
def turn (c : Cell) : Cell := ⟨-1 - c.x, -1 - c.y⟩
def small (raw : List Cell) : List Cell := R1.puts ((raw.take 16).map cell4)
def smallT (raw : List Cell) : List Cell := R1.puts ((raw.take 16).map fun r => turn (cell4 r))
theorem puts_le (l : List Cell) : (R1.puts l).length ≤ l.length := by
 have key : ∀ (l acc : List Cell), (l.foldl R1.put acc).length ≤ acc.length + l.length := by
  intro l
  induction l with
  | nil => intro acc; simp
  | cons c l ih =>
   intro acc
   have h1 := ih (R1.put acc c)
   have h2 := R1.put_len acc c
   simp only [List.foldl_cons, List.length_cons]
   omega
 simpa [R1.puts] using key l []
end RL
end Go.GL


namespace Go.GL
open R6 R7
namespace R8
theorem s16_pre {ns ms : List Node} (h : Wf ns) (hp : ns <+: ms) {lv : Nat} {n : Int} (hn : IsN ns (lv + 2) n) : s16 ms n = s16 ns n := by
 obtain ⟨a, b, c, d⟩ := kids4 h hn
 unfold s16
 rw [nd_pre hp hn.1, nd_pre hp a.1, nd_pre hp b.1, nd_pre hp c.1, nd_pre hp d.1]
end R8
namespace RL
open R8
end RL
end Go.GL


namespace Go.GL
open R6 R7
namespace R7
def kid (ns : List Node) (n j : Int) : Int := (nd ns n).kids.getD j.toNat default
theorem al_kid (ns : List Node) {lv : Nat} {n x y : Int} (hq : inQ lv x y) {a b : Int} (ha : a = 0 ∨ a = 1) (hb : b = 0 ∨ b = 1) : al ns (lv + 1) n (x + a * 2 ^ lv) (y + b * 2 ^ lv) = al ns lv (kid ns n (2 * b + a)) x y := by
 unfold inQ at hq
 simp only [al]
 rcases ha with rfl | rfl <;> rcases hb with rfl | rfl <;> simp only [Int.zero_mul, Int.one_mul, Int.add_zero]
 ·rw [if_pos (by omega), if_pos (by omega)]; rfl
 ·rw [if_neg (by omega), if_pos (by omega), show y + 2 ^ lv - 2 ^ lv = y by omega]; rfl
 ·rw [if_pos (by omega), if_neg (by omega), show x + 2 ^ lv - 2 ^ lv = x by omega]; rfl
 ·rw [if_neg (by omega), if_neg (by omega), show x + 2 ^ lv - 2 ^ lv = x by omega, show y + 2 ^ lv - 2 ^ lv = y by omega]; rfl
end R7
namespace R8
theorem g_kid (ns : List Node) (n : Int) {a b c d : Int} (ha : a = 0 ∨ a = 1) (hb : b = 0 ∨ b = 1) (hc : c = 0 ∨ c = 1) (hd : d = 0 ∨ d = 1) : g (s16 ns n) (4 * (2 * b + d) + (2 * a + c)) = kid ns (kid ns n (2 * b + a)) (2 * d + c) := by
 rcases ha with rfl | rfl <;> rcases hb with rfl | rfl <;> rcases hc with rfl | rfl <;> rcases hd with rfl | rfl <;> rfl
theorem al16 (ns : List Node) {lv : Nat} {n x y : Int} (hq : inQ lv x y) {X Y : Int} (hX : 0 ≤ X ∧ X ≤ 3) (hY : 0 ≤ Y ∧ Y ≤ 3) : al ns (lv + 2) n (x + X * 2 ^ lv) (y + Y * 2 ^ lv) = al ns lv (g (s16 ns n) (4 * Y + X)) x y := by
 obtain ⟨a, c, ha, hc, rfl⟩ : ∃ a c : Int, (a = 0 ∨ a = 1) ∧ (c = 0 ∨ c = 1) ∧ X = 2 * a + c := ⟨X / 2, X % 2, by omega, by omega, by omega⟩
 obtain ⟨b, d, hb, hd, rfl⟩ : ∃ b d : Int, (b = 0 ∨ b = 1) ∧ (d = 0 ∨ d = 1) ∧ Y = 2 * b + d := ⟨Y / 2, Y % 2, by omega, by omega, by omega⟩
 rw [g_kid ns n ha hb hc hd, ← al_kid ns hq hc hd]
 have hq2 : inQ (lv + 1) (x + c * 2 ^ lv) (y + d * 2 ^ lv) := by
  unfold inQ at *
  rw [p2s]
  rcases hc with rfl | rfl <;> rcases hd with rfl | rfl <;> omega
 rw [← al_kid ns hq2 ha hb, p2s]
 congr 1
 ·rcases ha with rfl | rfl <;> rcases hc with rfl | rfl <;> omega
 ·rcases hb with rfl | rfl <;> rcases hd with rfl | rfl <;> omega
theorem IsSq.kid {ms : List Node} {lv : Nat} {l : List Int} {y x m : Int} (h : IsSq ms lv l y x m) {a b : Int} (ha : a = 0 ∨ a = 1) (hb : b = 0 ∨ b = 1) : R7.kid ms m (2 * b + a) = g l (4 * (y + b) + (x + a)) := by
 unfold R7.kid
 rw [h.kids]
 unfold sqK
 rcases ha with rfl | rfl <;> rcases hb with rfl | rfl
 ·show g l (4 * y + x) = _; congr 1; omega
 ·show g l (4 * y + x + 4) = _; congr 1; omega
 ·show g l (4 * y + x + 1) = _; congr 1; omega
 ·show g l (4 * y + x + 5) = _; congr 1; omega
end R8
namespace RL
open R8
/-- The square's cells are the raw set. -/
theorem Sq.mem {c : Int} {nodes : List Five} {raw : List Cell} {level : Int} {lv : Nat} {ms : List Node} {m : Int} (h : Sq c nodes raw level lv ms m) (d : Cell) : d ∈ R7.of ms m ↔ d ∈ set raw := by
 rw [mem_of h.wf h.is]
 constructor
 ·rintro ⟨h1, h2⟩
  rw [h.sem d h1] at h2
  simpa using h2
 ·intro hd
  have h8 := p8 (lv := lv) h.lv3.1
  have hb := mem_set hd
  have hin : inL ((lv + 1 : Nat) : Int) d := by unfold inL; rw [side_succ]; omega
  exact ⟨hin, by rw [h.sem d hin]; simpa using hd⟩
end RL
end Go.GL


namespace Go.GL
open R6 R7
namespace R2
open R8 (b2i)
def at8 (c : Cell) (i j : Int) : Cell := ⟨c.x + i, c.y + j⟩
/-- How many of the eight about a cell are in a list. -/
def cntL (l : List Cell) (c : Cell) : Int := b2i (decide (at8 c (-1) (-1) ∈ l)) + b2i (decide (at8 c 0 (-1) ∈ l)) + b2i (decide (at8 c 1 (-1) ∈ l)) + b2i (decide (at8 c (-1) 0 ∈ l)) + b2i (decide (at8 c 1 0 ∈ l)) + b2i (decide (at8 c (-1) 1 ∈ l)) + b2i (decide (at8 c 0 1 ∈ l)) + b2i (decide (at8 c 1 1 ∈ l))
theorem b2i_cons {n a : Cell} {l : List Cell} (h : a ∉ l) : b2i (decide (n ∈ a :: l)) = b2i (decide (n = a)) + b2i (decide (n ∈ l)) := by
 by_cases e : n = a
 ·subst e
  simp [h, b2i]
 ·simp [e, b2i]
theorem around_cnt (c : Cell) : ∀ {l : List Cell}, l.Nodup → around l c = cntL l c
 | [], _ => by simp [around, cntL, b2i]
 | a :: l, hnd => by
  obtain ⟨h1, h2⟩ := List.nodup_cons.1 hnd
  have ih := around_cnt c h2
  unfold cntL at ih ⊢
  rw [b2i_cons h1, b2i_cons h1, b2i_cons h1, b2i_cons h1, b2i_cons h1, b2i_cons h1, b2i_cons h1, b2i_cons h1]
  obtain ⟨u, hu⟩ : ∃ u, a.x = c.x + u := ⟨a.x - c.x, by omega⟩
  obtain ⟨v, hv⟩ : ∃ v, a.y = c.y + v := ⟨a.y - c.y, by omega⟩
  have key : ∀ i j : Int, b2i (decide (at8 c i j = a)) = if u = i ∧ v = j then 1 else 0 := fun i j => by
   have e : (at8 c i j = a) ↔ (u = i ∧ v = j) := by
    cases a
    simp only [at8, Cell.mk.injEq] at *
    omega
   simp only [e, b2i, decide_eq_true_eq]
  rw [key, key, key, key, key, key, key, key]
  have hn : near c a ↔ (-1 ≤ u ∧ u ≤ 1) ∧ (-1 ≤ v ∧ v ≤ 1) ∧ ¬ (u = 0 ∧ v = 0) := by
   unfold near
   have e : a = c ↔ u = 0 ∧ v = 0 := by
    cases a; cases c
    simp only [Cell.mk.injEq] at *
    omega
   rw [Ne, e]
   omega
  have hs : around (a :: l) c = (if near c a then 1 else 0) + around l c := by
   unfold around
   by_cases h : near c a
   ·rw [List.filter_cons_of_pos (by simpa using h), List.length_cons, if_pos h]; omega
   ·rw [List.filter_cons_of_neg (by simpa using h), if_neg h]; omega
  rw [hs, ih]
  by_cases h : near c a
  ·rw [if_pos h]
   obtain ⟨hu1, hv1, hz⟩ := hn.1 h
   rcases (by omega : u = -1 ∨ u = 0 ∨ u = 1) with rfl | rfl | rfl <;> rcases (by omega : v = -1 ∨ v = 0 ∨ v = 1) with rfl | rfl | rfl <;> simp at hz ⊢ <;> omega
  ·rw [if_neg h]
   have hh := mt hn.2 h
   rw [if_neg (by omega), if_neg (by omega), if_neg (by omega), if_neg (by omega), if_neg (by omega), if_neg (by omega), if_neg (by omega), if_neg (by omega)]
   omega
theorem nb_of_near {c d : Cell} (h : near c d) : ∃ k, k < 9 ∧ nb d k = c := by
 obtain ⟨h1, h2, h3, h4, _⟩ := h
 have e : ∀ k : Nat, (k : Int) % 3 - 1 = c.x - d.x → (k : Int) / 3 - 1 = c.y - d.y → nb d k = c := fun k a b => by
  cases c; cases d
  simp only [nb, Cell.mk.injEq] at *
  omega
 refine ⟨((c.x - d.x + 1) + 3 * (c.y - d.y + 1)).toNat, by omega, e _ ?_ ?_⟩ <;> omega
theorem mem_cands {l : List Cell} {d : Cell} : d ∈ cands l ↔ livesAt l d = true ∧ ∃ b ∈ l, ∃ k, k < 9 ∧ nb b k = d := by
 unfold cands about
 rw [List.mem_flatMap]
 constructor
 ·rintro ⟨b, hb, h⟩
  obtain ⟨h1, h2⟩ := List.mem_filter.1 h
  obtain ⟨k, hk, e⟩ := List.mem_map.1 h1
  exact ⟨h2, b, hb, k, List.mem_range.1 hk, e⟩
 ·rintro ⟨h, b, hb, k, hk, e⟩
  exact ⟨b, hb, List.mem_filter.2 ⟨List.mem_map.2 ⟨k, List.mem_range.2 hk, e⟩, h⟩⟩
theorem lives_mem {l : List Cell} {d : Cell} (h : livesAt l d = true) : d ∈ cands l := by
 refine mem_cands.2 ⟨h, ?_⟩
 have hpos : 0 < around l d := by
  unfold livesAt lives at h
  simp only [Bool.or_eq_true, Bool.and_eq_true, decide_eq_true_eq] at h
  omega
 unfold around at hpos
 have : 0 < (l.filter fun e => decide (near d e)).length := by omega
 obtain ⟨e, he⟩ := List.exists_mem_of_length_pos this
 obtain ⟨h1, h2⟩ := List.mem_filter.1 he
 obtain ⟨k, hk, ek⟩ := nb_of_near (by simpa using h2 : near d e)
 exact ⟨e, h1, k, hk, ek⟩
/-- What 'next' tells. -/
theorem next_ok {l : List Cell} (h : R1.right l) (hb : ∀ c ∈ l, -1000000 ≤ c.x ∧ c.x ≤ 1000000 ∧ -1000000 ≤ c.y ∧ c.y ≤ 1000000) (hl : l.length ≤ 200) : next l = (R1.puts (cands l), 0) := by
 unfold next
 rw [if_pos h]
 refine R1.of_ok (fun d hd => ?_) ?_
 ·obtain ⟨_, b, hbm, k, hk, rfl⟩ := mem_cands.1 hd
  have := hb b hbm
  unfold R1.inB nb
  simp only
  omega
 ·have h1 := RL.puts_le (cands l)
  have h2 := cands_len l l
  have : cands l = l.flatMap (about l) := rfl
  rw [this] at h1
  rw [this]
  omega
end R2
namespace RL
open R8
def outside (c : Cell) : Prop := ((c.x < -2 ∨ 1 < c.x) ∨ c.y < -2) ∨ 1 < c.y
instance (c : Cell) : Decidable (outside c) := inferInstanceAs (Decidable (_ ∨ _))
def withOthers (l more : List Cell) : List Cell := (more.filter fun c => decide (outside c)).foldl R1.put l
end RL
end Go.GL


namespace Go.GL
open R6 R7
/-! ### A leap stands for what stands in the middle behind so many generations -/
namespace R9
/-- One generation of all cells. -/
def gen (f : Int → Int → Bool) : Int → Int → Bool := fun x y => R8.nx f y x
def gens : Nat → (Int → Int → Bool) → Int → Int → Bool
 | 0, f => f
 | m + 1, f => gens m (gen f)
theorem gens_add : ∀ (a b : Nat) (f : Int → Int → Bool), gens (a + b) f = gens b (gens a f)
 | 0, b, f => by rw [Nat.zero_add]; rfl
 | a + 1, b, f => by
  rw [show a + 1 + b = (a + b) + 1 by omega]
  show gens (a + b) (gen f) = gens b (gens a (gen f))
  exact gens_add a b (gen f)
/-- A node stands for a part of the plane. -/
def Std (ns : List Node) (lv : Nat) (n : Int) (f : Int → Int → Bool) (ox oy : Int) : Prop := IsN ns lv n ∧ ∀ x y, inQ lv x y → al ns lv n x y = f (x + ox) (y + oy)
theorem Std.pre {ns ms : List Node} (h : Wf ns) (hp : ns <+: ms) {lv : Nat} {n : Int} {f : Int → Int → Bool} {ox oy : Int} (hs : Std ns lv n f ox oy) : Std ms lv n f ox oy :=
 ⟨hs.1.pre hp, fun x y hq => by rw [al_pre h hp lv n x y hs.1]; exact hs.2 x y hq⟩
theorem Std.back {ns ms : List Node} (h : Wf ns) (hp : ns <+: ms) {lv : Nat} {n : Int} {f : Int → Int → Bool} {ox oy : Int} (hn : IsN ns lv n) (hs : Std ms lv n f ox oy) : Std ns lv n f ox oy :=
 ⟨hn, fun x y hq => by rw [← al_pre h hp lv n x y hn]; exact hs.2 x y hq⟩
theorem Std.self {ns : List Node} {lv : Nat} {n : Int} (hn : IsN ns lv n) : Std ns lv n (al ns lv n) 0 0 := ⟨hn, fun x y _ => by rw [Int.add_zero, Int.add_zero]⟩
theorem Std.at {ns : List Node} {lv : Nat} {n : Int} {f : Int → Int → Bool} {ox oy ox' oy' : Int} (h : Std ns lv n f ox oy) (hx : ox = ox') (hy : oy = oy') : Std ns lv n f ox' oy' := by
 subst hx
 subst hy
 exact h
/-- Four that stand side by side. -/
theorem std_put {ns : List Node} (h : Wf ns) {room q0 q1 q2 q3 : Int} {lv : Nat} {f : Int → Int → Bool} {ox oy : Int} (h0 : Std ns lv q0 f ox oy) (h1 : Std ns lv q1 f (ox + 2 ^ lv) oy) (h2 : Std ns lv q2 f ox (oy + 2 ^ lv)) (h3 : Std ns lv q3 f (ox + 2 ^ lv) (oy + 2 ^ lv)) (he : (put ns room q0 q1 q2 q3).2.2 = 0) :
  Std (put ns room q0 q1 q2 q3).1 (lv + 1) (put ns room q0 q1 q2 q3).2.1 f ox oy := by
 have hf : fit4 ns q0 q1 q2 q3 := Decidable.byContradiction fun hf => by
  unfold put at he; rw [if_neg hf] at he; cases he
 have hr : 0 ≤ R6.at_ ns [q0, q1, q2, q3] ∨ (ns.length : Int) < room := Decidable.byContradiction fun hr => by
  unfold put at he
  rw [if_pos hf, if_neg (by omega), if_pos (by omega)] at he
  cases he
 obtain ⟨ms, m, e, ok⟩ := put_ok h hf hr
 rw [e]
 refine ⟨⟨ok.mem, by rw [ok.lv, h0.1.2]; omega⟩, fun x y hq => ?_⟩
 have hk := ok.nd
 show al ms (lv + 1) m x y = _
 simp only [al]
 rw [hk]
 show (if y < 2 ^ lv then (if x < 2 ^ lv then al ms lv q0 x y else al ms lv q1 (x - 2 ^ lv) y) else (if x < 2 ^ lv then al ms lv q2 x (y - 2 ^ lv) else al ms lv q3 (x - 2 ^ lv) (y - 2 ^ lv))) = _
 obtain ⟨a, b, c, d⟩ := inQ_succ hq
 by_cases hy : y < 2 ^ lv
 ·rw [if_pos hy]
  by_cases hx : x < 2 ^ lv
  ·rw [if_pos hx, al_pre h ok.pre lv _ _ _ h0.1, h0.2 _ _ (a hy hx)]
  ·rw [if_neg hx, al_pre h ok.pre lv _ _ _ h1.1, h1.2 _ _ (b hy hx)]
   congr 1
   omega
 ·rw [if_neg hy]
  by_cases hx : x < 2 ^ lv
  ·rw [if_pos hx, al_pre h ok.pre lv _ _ _ h2.1, h2.2 _ _ (c hy hx)]
   congr 1
   omega
  ·rw [if_neg hx, al_pre h ok.pre lv _ _ _ h3.1, h3.2 _ _ (d hy hx)]
   congr 1 <;> omega
/-- The sixteen. -/
theorem std_s16 {ns : List Node} (h : Wf ns) {lv : Nat} {n : Int} {f : Int → Int → Bool} {ox oy : Int} (hs : Std ns (lv + 2) n f ox oy) {X Y : Int} (hX : 0 ≤ X ∧ X ≤ 3) (hY : 0 ≤ Y ∧ Y ≤ 3) : Std ns lv (R8.g (R8.s16 ns n) (4 * Y + X)) f (ox + X * 2 ^ lv) (oy + Y * 2 ^ lv) := by
 refine ⟨s16_isN h hs.1 _ (by omega) (by omega), fun x y hq => ?_⟩
 rw [← R8.al16 ns hq hX hY, hs.2 _ _ ?_]
 ·congr 1 <;> omega
 ·unfold inQ at *
  have hpos := p2pos lv
  rw [p2s, p2s]
  have e0 : X = 0 ∨ X = 1 ∨ X = 2 ∨ X = 3 := by omega
  have e1 : Y = 0 ∨ Y = 1 ∨ Y = 2 ∨ Y = 3 := by omega
  rcases e0 with rfl | rfl | rfl | rfl <;> rcases e1 with rfl | rfl | rfl | rfl <;> omega
/-- A square of the sixteen. -/
theorem std_sq {ns ms : List Node} (h : Wf ns) (hm : Wf ms) (hp : ns <+: ms) {room : Int} {lv : Nat} {n : Int} {f : Int → Int → Bool} {ox oy : Int} (hs : Std ns (lv + 2) n f ox oy) {y x : Int} (hy : 0 ≤ y ∧ y ≤ 2) (hx : 0 ≤ x ∧ x ≤ 2) (he : (R8.putSq ms room (R8.s16 ns n) y x).2.2 = 0) :
  Std (R8.putSq ms room (R8.s16 ns n) y x).1 (lv + 1) (R8.putSq ms room (R8.s16 ns n) y x).2.1 f (ox + x * 2 ^ lv) (oy + y * 2 ^ lv) := by
 have k := fun {X Y : Int} (hX : 0 ≤ X ∧ X ≤ 3) (hY : 0 ≤ Y ∧ Y ≤ 3) => (std_s16 h hs hX hY).pre h hp
 unfold R8.putSq at he ⊢
 have k1 := k (X := x + 1) (Y := y) (by omega) (by omega)
 have k2 := k (X := x) (Y := y + 1) (by omega) (by omega)
 have k3 := k (X := x + 1) (Y := y + 1) (by omega) (by omega)
 rw [show 4 * y + (x + 1) = 4 * y + x + 1 by omega] at k1
 rw [show 4 * (y + 1) + x = 4 * y + x + 4 by omega] at k2
 rw [show 4 * (y + 1) + (x + 1) = 4 * y + x + 5 by omega] at k3
 rw [Int.add_mul, Int.one_mul, ← Int.add_assoc] at k1 k2 k3
 refine std_put hm (k (by omega) (by omega)) k1 k2 ?_ he
 rw [Int.add_mul, Int.one_mul, ← Int.add_assoc] at k3
 exact k3
theorem midS_std {room : Int} {s : LS} (h : Lk room s) {lv : Nat} {n : Int} {f : Int → Int → Bool} {ox oy : Int} (hs : Std s.ns (lv + 2) n f ox oy) (he : (midS room s n).2.2 = 0) : Std (midS room s n).1.ns (lv + 1) (midS room s n).2.1 f (ox + 2 ^ lv) (oy + 2 ^ lv) := by
 have := std_sq (room := room) h.wf h.wf (List.prefix_refl _) hs (y := 1) (x := 1) (by omega) (by omega) he
 rw [Int.one_mul] at this
 exact this
theorem gen_at (f : Int → Int → Bool) (ox oy x y : Int) : R8.nx (fun a b => f (a + ox) (b + oy)) y x = gen f (x + ox) (y + oy) := by
 unfold gen R8.nx R8.cnt
 dsimp only
 rw [show x - 1 + ox = x + ox - 1 by omega, show y - 1 + oy = y + oy - 1 by omega, show x + 1 + ox = x + ox + 1 by omega, show y + 1 + oy = y + oy + 1 by omega]
theorem std_b2i {ns : List Node} (h : Wf ns) {b : Bool} {f : Int → Int → Bool} {ox oy : Int} (he : f ox oy = b) : Std ns 0 (R8.b2i b) f ox oy := by
 refine ⟨R8.isN_b2i h b, fun x y hq => ?_⟩
 unfold inQ at hq
 have e1 : x = 0 := by have := hq.2.1; simp at this; omega
 have e2 : y = 0 := by have := hq.2.2.2; simp at this; omega
 subst e1
 subst e2
 rw [Int.zero_add, Int.zero_add, he]
 exact R8.b2i_one b
theorem oneS_std {room : Int} {s : LS} (h : Lk room s) {n : Int} {f : Int → Int → Bool} {ox oy : Int} (hs : Std s.ns 2 n f ox oy) (he : (oneS room s n).2.2 = 0) : Std (oneS room s n).1.ns 1 (oneS room s n).2.1 (gen f) (ox + 1) (oy + 1) := by
 have key : ∀ x y : Int, 1 ≤ x ∧ x ≤ 2 → 1 ≤ y ∧ y ≤ 2 → R8.bit (R8.s16 s.ns n) y x = R8.b2i (gen f (x + ox) (y + oy)) := fun x y hx hy => by
  rw [R8.bit_nx h.wf hs.1 hx hy, ← gen_at]
  congr 1
  refine R8.nx_congr (fun a b ha hb => hs.2 a b ?_) hx hy
  unfold inQ
  have : (2 : Int) ^ 2 = 4 := rfl
  omega
 have he2 : (R6.put s.ns room (R8.bit (R8.s16 s.ns n) 1 1) (R8.bit (R8.s16 s.ns n) 1 2) (R8.bit (R8.s16 s.ns n) 2 1) (R8.bit (R8.s16 s.ns n) 2 2)).2.2 = 0 := he
 show Std (R6.put s.ns room (R8.bit (R8.s16 s.ns n) 1 1) (R8.bit (R8.s16 s.ns n) 1 2) (R8.bit (R8.s16 s.ns n) 2 1) (R8.bit (R8.s16 s.ns n) 2 2)).1 1 (R6.put s.ns room (R8.bit (R8.s16 s.ns n) 1 1) (R8.bit (R8.s16 s.ns n) 1 2) (R8.bit (R8.s16 s.ns n) 2 1) (R8.bit (R8.s16 s.ns n) 2 2)).2.1 _ _ _
 rw [key 1 1 (by omega) (by omega), key 2 1 (by omega) (by omega), key 1 2 (by omega) (by omega), key 2 2 (by omega) (by omega)] at he2 ⊢
 have p0 : (2 : Int) ^ 0 = 1 := rfl
 refine std_put h.wf (lv := 0) (std_b2i h.wf ?_) (std_b2i h.wf ?_) (std_b2i h.wf ?_) (std_b2i h.wf ?_) he2
 ·congr 1 <;> omega
 ·rw [p0]; congr 1 <;> omega
 ·rw [p0]; congr 1 <;> omega
 ·rw [p0]; congr 1 <;> omega
end R9
end Go.GL


namespace Go.GL
open R6 R7
namespace R9
/-- The nine. -/
theorem all_std {ns : List Node} {room : Int} (h : R6.right ns room) {lv : Nat} {n : Int} {f : Int → Int → Bool} {ox oy : Int} (hs : Std ns (lv + 2) n f ox oy) (he : (R8.all ns room n).2.2 = 0) :
  ∀ i : Nat, i < 9 → Std (R8.all ns room n).1 (lv + 1) ((R8.all ns room n).2.1.getD i default) f (ox + ((i % 3 : Nat) : Int) * 2 ^ lv) (oy + ((i / 3 : Nat) : Int) * 2 ^ lv) := by
 have hw := (right_iff.1 h).2
 unfold R8.all at he ⊢
 dsimp only at he ⊢
 have key := fun {ms : List Node} (hr : R6.right ms room) (hp : ns <+: ms) {y x : Int} (hy : 0 ≤ y ∧ y ≤ 2) (hx : 0 ≤ x ∧ x ≤ 2) (he : (R8.putSq ms room (R8.s16 ns n) y x).2.2 = 0) => std_sq (room := room) hw (right_iff.1 hr).2 hp hs hy hx he
 have kr := fun {ms : List Node} (hr : R6.right ms room) (y x : Int) => right_put hr (R8.g (R8.s16 ns n) (4 * y + x)) (R8.g (R8.s16 ns n) (4 * y + x + 1)) (R8.g (R8.s16 ns n) (4 * y + x + 4)) (R8.g (R8.s16 ns n) (4 * y + x + 5))
 have kr : ∀ {ms : List Node}, R6.right ms room → ∀ y x : Int, R6.right (R8.putSq ms room (R8.s16 ns n) y x).1 room ∧ ms <+: (R8.putSq ms room (R8.s16 ns n) y x).1 := fun hr y x => kr hr y x
 generalize R8.s16 ns n = l at *
 by_cases e0 : (R8.putSq ns room l 0 0).2.2 = 0
 case neg => rw [if_pos e0] at he; exact absurd he e0
 rw [if_neg (by simpa using e0)] at he ⊢
 have i0 := key h (List.prefix_refl _) (by omega) (by omega) e0
 obtain ⟨r0, p0⟩ := kr h 0 0
 generalize R8.putSq ns room l 0 0 = P0 at *
 by_cases e1 : (R8.putSq P0.1 room l 0 1).2.2 = 0
 case neg => rw [if_pos e1] at he; exact absurd he e1
 rw [if_neg (by simpa using e1)] at he ⊢
 have i1 := key r0 p0 (by omega) (by omega) e1
 obtain ⟨r1, p1⟩ := kr r0 0 1
 generalize R8.putSq P0.1 room l 0 1 = P1 at *
 have t1 := p0.trans p1
 by_cases e2 : (R8.putSq P1.1 room l 0 2).2.2 = 0
 case neg => rw [if_pos e2] at he; exact absurd he e2
 rw [if_neg (by simpa using e2)] at he ⊢
 have i2 := key r1 t1 (by omega) (by omega) e2
 obtain ⟨r2, p2⟩ := kr r1 0 2
 generalize R8.putSq P1.1 room l 0 2 = P2 at *
 have t2 := t1.trans p2
 by_cases e3 : (R8.putSq P2.1 room l 1 0).2.2 = 0
 case neg => rw [if_pos e3] at he; exact absurd he e3
 rw [if_neg (by simpa using e3)] at he ⊢
 have i3 := key r2 t2 (by omega) (by omega) e3
 obtain ⟨r3, p3⟩ := kr r2 1 0
 generalize R8.putSq P2.1 room l 1 0 = P3 at *
 have t3 := t2.trans p3
 by_cases e4 : (R8.putSq P3.1 room l 1 1).2.2 = 0
 case neg => rw [if_pos e4] at he; exact absurd he e4
 rw [if_neg (by simpa using e4)] at he ⊢
 have i4 := key r3 t3 (by omega) (by omega) e4
 obtain ⟨r4, p4⟩ := kr r3 1 1
 generalize R8.putSq P3.1 room l 1 1 = P4 at *
 have t4 := t3.trans p4
 by_cases e5 : (R8.putSq P4.1 room l 1 2).2.2 = 0
 case neg => rw [if_pos e5] at he; exact absurd he e5
 rw [if_neg (by simpa using e5)] at he ⊢
 have i5 := key r4 t4 (by omega) (by omega) e5
 obtain ⟨r5, p5⟩ := kr r4 1 2
 generalize R8.putSq P4.1 room l 1 2 = P5 at *
 have t5 := t4.trans p5
 by_cases e6 : (R8.putSq P5.1 room l 2 0).2.2 = 0
 case neg => rw [if_pos e6] at he; exact absurd he e6
 rw [if_neg (by simpa using e6)] at he ⊢
 have i6 := key r5 t5 (by omega) (by omega) e6
 obtain ⟨r6, p6⟩ := kr r5 2 0
 generalize R8.putSq P5.1 room l 2 0 = P6 at *
 have t6 := t5.trans p6
 by_cases e7 : (R8.putSq P6.1 room l 2 1).2.2 = 0
 case neg => rw [if_pos e7] at he; exact absurd he e7
 rw [if_neg (by simpa using e7)] at he ⊢
 have i7 := key r6 t6 (by omega) (by omega) e7
 obtain ⟨r7, p7⟩ := kr r6 2 1
 generalize R8.putSq P6.1 room l 2 1 = P7 at *
 have t7 := t6.trans p7
 by_cases e8 : (R8.putSq P7.1 room l 2 2).2.2 = 0
 case neg => rw [if_pos e8] at he; exact absurd he e8
 rw [if_neg (by simpa using e8)] at he ⊢
 have i8 := key r7 t7 (by omega) (by omega) e8
 obtain ⟨r8, p8⟩ := kr r7 2 2
 generalize R8.putSq P7.1 room l 2 2 = P8 at *
 have w0 := (right_iff.1 r0).2
 have w1 := (right_iff.1 r1).2
 have w2 := (right_iff.1 r2).2
 have w3 := (right_iff.1 r3).2
 have w4 := (right_iff.1 r4).2
 have w5 := (right_iff.1 r5).2
 have w6 := (right_iff.1 r6).2
 have w7 := (right_iff.1 r7).2
 intro i hi
 match i, hi with
 | 0, _ => exact i0.pre w0 (((((((p1.trans p2).trans p3).trans p4).trans p5).trans p6).trans p7).trans p8)
 | 1, _ => exact i1.pre w1 ((((((p2.trans p3).trans p4).trans p5).trans p6).trans p7).trans p8)
 | 2, _ => exact i2.pre w2 (((((p3.trans p4).trans p5).trans p6).trans p7).trans p8)
 | 3, _ => exact i3.pre w3 ((((p4.trans p5).trans p6).trans p7).trans p8)
 | 4, _ => exact i4.pre w4 (((p5.trans p6).trans p7).trans p8)
 | 5, _ => exact i5.pre w5 ((p6.trans p7).trans p8)
 | 6, _ => exact i6.pre w6 (p7.trans p8)
 | 7, _ => exact i7.pre w7 p8
 | 8, _ => exact i8
/-- What is kept is true. -/
def MS (s : LS) : Prop := ∀ p ∈ s.mm, ∃ k : Nat, (0 ≤ p.2.1 ∧ p.2.1 ≤ k) ∧ IsN s.ns (k + 2) p.1 ∧ IsN s.ns (k + 1) p.2.2 ∧ ∀ f ox oy, Std s.ns (k + 2) p.1 f ox oy → Std s.ns (k + 1) p.2.2 (gens (2 ^ p.2.1.toNat) f) (ox + 2 ^ k) (oy + 2 ^ k)
theorem MS.pre {s : LS} {ms : List Node} (hw : Wf s.ns) (h : MS s) (hp : s.ns <+: ms) : MS ⟨ms, s.mm⟩ := fun p hm => by
 obtain ⟨k, h1, h2, h3, h4⟩ := h p hm
 exact ⟨k, h1, h2.pre hp, h3.pre hp, fun f ox oy hs => (h4 f ox oy (hs.back hw hp h2)).pre hw hp⟩
theorem mapS_std {room : Int} {f : LS → Int → L9} (C D : Nat → List Node → Int → Prop) (hC : ∀ i ns ms q, Wf ns → ns <+: ms → C i ns q → C i ms q) (hD : ∀ i ns ms q, Wf ns → ns <+: ms → D i ns q → D i ms q)
  (hf : ∀ i s q, Lk room s → MS s → C i s.ns q → (f s q).2.2 = 0 → Lk room (f s q).1 ∧ s.ns <+: (f s q).1.ns ∧ MS (f s q).1 ∧ D i (f s q).1.ns (f s q).2.1) : ∀ (qs : List Int) (b : Nat) (s : LS), Lk room s → MS s → (∀ i, i < qs.length → C (b + i) s.ns (qs.getD i default)) → (mapS f s qs).2.2 = 0 →
  Lk room (mapS f s qs).1 ∧ s.ns <+: (mapS f s qs).1.ns ∧ MS (mapS f s qs).1 ∧ (mapS f s qs).2.1.length = qs.length ∧ ∀ i, i < qs.length → D (b + i) (mapS f s qs).1.ns ((mapS f s qs).2.1.getD i default)
 | [], b, s, h, hm, _, _ => ⟨h, List.prefix_refl _, hm, rfl, fun i hi => absurd hi (Nat.not_lt_zero _)⟩
 | q :: qs, b, s, h, hm, hq, he => by
  unfold mapS at he ⊢
  by_cases h0 : (f s q).2.2 = 0
  ·rw [if_neg (by simpa using h0)] at he ⊢
   obtain ⟨g1, g2, g3, g4⟩ := hf b s q h hm (hq 0 (by simp)) h0
   obtain ⟨a1, a2, a3, a4, a5⟩ := mapS_std C D hC hD hf qs (b + 1) (f s q).1 g1 g3 (fun i hi => hC _ _ _ _ h.wf g2 (by
    have := hq (i + 1) (by simp only [List.length_cons]; omega)
    rw [show b + 1 + i = b + (i + 1) by omega]
    exact this)) he
   refine ⟨a1, g2.trans a2, a3, by simp [a4], fun i hi => ?_⟩
   cases i with
   | zero => exact hD _ _ _ _ g1.wf a2 g4
   | succ i =>
    have := a5 i (by simp only [List.length_cons] at hi; omega)
    rw [show b + (i + 1) = b + 1 + i by omega]
    exact this
  ·rw [if_pos h0] at he
   exact absurd he h0
/-- What a leap that is right does. -/
def LpOk (room : Int) (k : Nat) (lp : LS → Int → Int → L9) : Prop := ∀ s q j, Lk room s → MS s → IsN s.ns (k + 2) q → 0 ≤ j ∧ j ≤ (k : Int) → (lp s q j).2.2 = 0 →
 Lk room (lp s q j).1 ∧ s.ns <+: (lp s q j).1.ns ∧ MS (lp s q j).1 ∧ ∀ f ox oy, Std s.ns (k + 2) q f ox oy → Std (lp s q j).1.ns (k + 1) (lp s q j).2.1 (gens (2 ^ j.toNat) f) (ox + 2 ^ k) (oy + 2 ^ k)
theorem p2s' (k : Nat) : (2 : Int) ^ (k + 1) = 2 * 2 ^ k := by rw [p2s]; omega
theorem half_std {room : Int} {k : Nat} {lp : LS → Int → Int → L9} (hlp : LpOk room k lp) {full : Bool} {s : LS} {n j : Int} {f : Int → Int → Bool} {ox oy : Int} (h : Lk room s) (hm : MS s) (hs : Std s.ns (k + 3) n f ox oy) (hj : full = true → j = k + 1) (he : (half lp room full s n j).2.2 = 0) :
  Lk room (half lp room full s n j).1 ∧ s.ns <+: (half lp room full s n j).1.ns ∧ MS (half lp room full s n j).1 ∧ (half lp room full s n j).2.1.length = 9 ∧ ∀ i : Nat, i < 9 → Std (half lp room full s n j).1.ns (k + 1) ((half lp room full s n j).2.1.getD i default) (if full = true then gens (2 ^ k) f else f) (ox + ((i % 3 : Nat) : Int) * 2 ^ (k + 1) + 2 ^ k) (oy + ((i / 3 : Nat) : Int) * 2 ^ (k + 1) + 2 ^ k) := by
 unfold half at he ⊢
 by_cases e0 : (R8.all s.ns room n).2.2 = 0
 case neg => rw [if_pos e0] at he; exact absurd he e0
 rw [if_neg (by simpa using e0)] at he ⊢
 obtain ⟨r0, p0, l0, _⟩ := all_gd h.right hs.1 e0
 have hall := all_std h.right hs e0
 obtain ⟨m1, m2, m3, m4, m5⟩ := mapS_std (room := room) (f := halfF lp room full j) (fun i ns q => Std ns (k + 2) q f (ox + ((i % 3 : Nat) : Int) * 2 ^ (k + 1)) (oy + ((i / 3 : Nat) : Int) * 2 ^ (k + 1)))
  (fun i ns q => Std ns (k + 1) q (if full = true then gens (2 ^ k) f else f) (ox + ((i % 3 : Nat) : Int) * 2 ^ (k + 1) + 2 ^ k) (oy + ((i / 3 : Nat) : Int) * 2 ^ (k + 1) + 2 ^ k))
  (fun i ns ms q hw hp hq => hq.pre hw hp) (fun i ns ms q hw hp hq => hq.pre hw hp) (fun i t q ht hmt hq he => by
   unfold halfF at he ⊢
   cases full
   ·have he : (midS room t q).2.2 = 0 := he
    show Lk room (midS room t q).1 ∧ t.ns <+: (midS room t q).1.ns ∧ MS (midS room t q).1 ∧ Std (midS room t q).1.ns (k + 1) (midS room t q).2.1 f _ _
    have g := midS_gd ht hq.1 he
    exact ⟨g.lk, g.pre, hmt.pre ht.wf g.pre, midS_std ht hq he⟩
   ·have hj1 : j - 1 = (k : Int) := by have := hj rfl; omega
    have he : (lp t q (j - 1)).2.2 = 0 := he
    show Lk room (lp t q (j - 1)).1 ∧ t.ns <+: (lp t q (j - 1)).1.ns ∧ MS (lp t q (j - 1)).1 ∧ Std (lp t q (j - 1)).1.ns (k + 1) (lp t q (j - 1)).2.1 (gens (2 ^ k) f) _ _
    rw [hj1] at he ⊢
    obtain ⟨g1, g2, g3, g4⟩ := hlp t q k ht hmt hq.1 ⟨by omega, by omega⟩ he
    exact ⟨g1, g2, g3, g4 _ _ _ hq⟩) (R8.all s.ns room n).2.1 0 ⟨(R8.all s.ns room n).1, s.mm⟩ ⟨r0, h.mem.pre p0⟩ (hm.pre h.wf p0) (fun i hi => by rw [Nat.zero_add]; exact hall i (by omega)) he
 exact ⟨m1, p0.trans m2, m3, by rw [m4, l0], fun i hi => by have := m5 i (by omega); rwa [Nat.zero_add] at this⟩
theorem far_std {room : Int} {k : Nat} {lp : LS → Int → Int → L9} (hlp : LpOk room k lp) {s : LS} {n j : Int} {f : Int → Int → Bool} {ox oy : Int} (h : Lk room s) (hm : MS s) (hs : Std s.ns (k + 3) n f ox oy) (hj : 0 ≤ j ∧ j ≤ (k : Int) + 1) (he : (far lp room (decide (j = k + 1)) s n j).2.2 = 0) :
  MS (far lp room (decide (j = k + 1)) s n j).1 ∧ Std (far lp room (decide (j = k + 1)) s n j).1.ns (k + 2) (far lp room (decide (j = k + 1)) s n j).2.1 (gens (2 ^ j.toNat) f) (ox + 2 ^ (k + 1)) (oy + 2 ^ (k + 1)) := by
 obtain ⟨full, hfull⟩ : ∃ full, decide (j = (k : Int) + 1) = full := ⟨_, rfl⟩
 have hf1 : full = true → j = k + 1 := fun e => by rw [e] at hfull; exact of_decide_eq_true hfull
 have hf2 : ¬ full = true → j ≤ k := fun e => by
  have : full = false := by simpa using e
  rw [this] at hfull
  have := of_decide_eq_false hfull
  omega
 rw [hfull] at he ⊢
 unfold far at he ⊢
 have hpk := p2s' k
 refine bindM_gd (P := fun r => MS r.1 ∧ Std r.1.ns (k + 2) r.2.1 _ _ _) he fun e1 he => ?_
 obtain ⟨r1, p1, n1, l1, i1⟩ := half_std (full := full) hlp h hm hs hf1 e1
 generalize half lp room full s n j = R1 at *
 generalize hF1 : (if full = true then gens (2 ^ k) f else f) = f1 at *
 refine bindM_gd (P := fun r => MS r.1 ∧ Std r.1.ns (k + 2) r.2.1 _ _ _) he fun e2 he => ?_
 obtain ⟨r2, p2, n2, l2, i2⟩ := mapS_std (room := room) (f := fourP room R1.2.1) (fun i ns q => q = ((3 * (i / 2) + i % 2 : Nat) : Int) ∧ i < 4 ∧ ∀ i' : Nat, i' < 9 → Std ns (k + 1) (R1.2.1.getD i' default) f1 (ox + ((i' % 3 : Nat) : Int) * 2 ^ (k + 1) + 2 ^ k) (oy + ((i' / 3 : Nat) : Int) * 2 ^ (k + 1) + 2 ^ k))
  (fun i ns q => Std ns (k + 2) q f1 (ox + ((i % 2 : Nat) : Int) * 2 ^ (k + 1) + 2 ^ k) (oy + ((i / 2 : Nat) : Int) * 2 ^ (k + 1) + 2 ^ k))
  (fun i ns ms q hw hp hq => ⟨hq.1, hq.2.1, fun i' hi' => (hq.2.2 i' hi').pre hw hp⟩) (fun i ns ms q hw hp hq => hq.pre hw hp) (fun i t q ht hmt hq he => by
   obtain ⟨rfl, hi4, hst⟩ := hq
   have he2 : (put t.ns room (R8.g R1.2.1 ((3 * (i / 2) + i % 2 : Nat) : Int)) (R8.g R1.2.1 (((3 * (i / 2) + i % 2 : Nat) : Int) + 1)) (R8.g R1.2.1 (((3 * (i / 2) + i % 2 : Nat) : Int) + 3)) (R8.g R1.2.1 (((3 * (i / 2) + i % 2 : Nat) : Int) + 4))).2.2 = 0 := he
   have g := putS_gd ht (hst (3 * (i / 2) + i % 2) (by omega)).1 he
   refine ⟨g.lk, g.pre, hmt.pre ht.wf g.pre, ?_⟩
   have h0 := hst (3 * (i / 2) + i % 2) (by omega)
   have h1 := hst (3 * (i / 2) + i % 2 + 1) (by omega)
   have h2 := hst (3 * (i / 2) + i % 2 + 3) (by omega)
   have h3 := hst (3 * (i / 2) + i % 2 + 4) (by omega)
   refine std_put ht.wf (h0.at ?_ ?_) (h1.at ?_ ?_) (h2.at ?_ ?_) (h3.at ?_ ?_) he2
   all_goals
    match i, hi4 with
    | 0, _ => simp only [Nat.reduceDiv, Nat.reduceMod, Nat.reduceMul, Nat.reduceAdd] <;> omega
    | 1, _ => simp only [Nat.reduceDiv, Nat.reduceMod, Nat.reduceMul, Nat.reduceAdd] <;> omega
    | 2, _ => simp only [Nat.reduceDiv, Nat.reduceMod, Nat.reduceMul, Nat.reduceAdd] <;> omega
    | 3, _ => simp only [Nat.reduceDiv, Nat.reduceMod, Nat.reduceMul, Nat.reduceAdd] <;> omega) fourE 0 R1.1 r1 n1 (fun i hi => by
   have hi4 : i < 4 := hi
   rw [Nat.zero_add]
   refine ⟨?_, hi4, i1⟩
   match i, hi4 with
   | 0, _ => rfl
   | 1, _ => rfl
   | 2, _ => rfl
   | 3, _ => rfl) e2
 have l2 : (mapS (fourP room R1.2.1) R1.1 fourE).2.1.length = 4 := l2
 generalize mapS (fourP room R1.2.1) R1.1 fourE = R2 at *
 refine bindM_gd (P := fun r => MS r.1 ∧ Std r.1.ns (k + 2) r.2.1 _ _ _) he fun e3 he => ?_
 obtain ⟨j', hj'⟩ : ∃ j', (if full = true then j - 1 else j) = j' := ⟨_, rfl⟩
 have hjb : 0 ≤ j' ∧ j' ≤ (k : Int) := by
  rw [← hj']
  by_cases e : full = true
  ·have := hf1 e
   rw [if_pos e]
   omega
  ·have := hf2 e
   rw [if_neg e]
   omega
 have hgen : gens (2 ^ j'.toNat) f1 = gens (2 ^ j.toNat) f := by
  rw [← hj', ← hF1]
  by_cases e : full = true
  ·have hjk := hf1 e
   rw [if_pos e, if_pos e, ← gens_add, show (j - 1).toNat = k by omega, show j.toNat = k + 1 by omega, Nat.pow_succ]
   congr 1
   omega
  ·rw [if_neg e, if_neg e]
 rw [hj'] at e3 he ⊢
 obtain ⟨r3, p3, n3, l3, i3⟩ := mapS_std (room := room) (f := lastF lp j') (fun i ns q => Std ns (k + 2) q f1 (ox + ((i % 2 : Nat) : Int) * 2 ^ (k + 1) + 2 ^ k) (oy + ((i / 2 : Nat) : Int) * 2 ^ (k + 1) + 2 ^ k))
  (fun i ns q => Std ns (k + 1) q (gens (2 ^ j.toNat) f) (ox + ((i % 2 : Nat) : Int) * 2 ^ (k + 1) + 2 ^ (k + 1)) (oy + ((i / 2 : Nat) : Int) * 2 ^ (k + 1) + 2 ^ (k + 1)))
  (fun i ns ms q hw hp hq => hq.pre hw hp) (fun i ns ms q hw hp hq => hq.pre hw hp) (fun i t q ht hmt hq he => by
   have he : (lp t q j').2.2 = 0 := he
   show Lk room (lp t q j').1 ∧ t.ns <+: (lp t q j').1.ns ∧ MS (lp t q j').1 ∧ Std (lp t q j').1.ns (k + 1) (lp t q j').2.1 _ _ _
   obtain ⟨g1, g2, g3, g4⟩ := hlp t q j' ht hmt hq.1 hjb he
   have := g4 _ _ _ hq
   rw [hgen] at this
   exact ⟨g1, g2, g3, this.at (by omega) (by omega)⟩) R2.2.1 0 R2.1 r2 n2 (fun i hi => by
   rw [Nat.zero_add]
   have := i2 i (by rw [l2] at hi; exact hi)
   rwa [Nat.zero_add] at this) e3
 rw [l2] at l3 i3
 generalize mapS (lastF lp j') R2.1 R2.2.1 = R3 at *
 have he2 : (put R3.1.ns room (R8.g R3.2.1 ((0 : Nat) : Int)) (R8.g R3.2.1 ((1 : Nat) : Int)) (R8.g R3.2.1 ((2 : Nat) : Int)) (R8.g R3.2.1 ((3 : Nat) : Int))).2.2 = 0 := he
 have h0 := i3 0 (by omega)
 have h1 := i3 1 (by omega)
 have h2 := i3 2 (by omega)
 have h3 := i3 3 (by omega)
 have g := putS_gd r3 (lv := k + 1) h0.1 he
 refine ⟨n3.pre r3.wf g.pre, ?_⟩
 refine std_put r3.wf (h0.at ?_ ?_) (h1.at ?_ ?_) (h2.at ?_ ?_) (h3.at ?_ ?_) he2
 all_goals (simp only [Nat.reduceDiv, Nat.reduceMod, Nat.zero_add]; omega)
theorem keep_std {room : Int} {s : LS} {n j : Int} {r : L9} {k : Nat} (h : Lk room s) (hj : 0 ≤ j ∧ j ≤ (k : Int)) (hn : IsN s.ns (k + 2) n) (he : (keep n j r).2.2 = 0) (hg : r.2.2 = 0 → Gd room s r (k + 1)) (hm : r.2.2 = 0 → MS r.1) (hf : r.2.2 = 0 → ∀ f ox oy, Std s.ns (k + 2) n f ox oy → Std r.1.ns (k + 1) r.2.1 (gens (2 ^ j.toNat) f) (ox + 2 ^ k) (oy + 2 ^ k)) :
  MS (keep n j r).1 ∧ ∀ f ox oy, Std s.ns (k + 2) n f ox oy → Std (keep n j r).1.ns (k + 1) (keep n j r).2.1 (gens (2 ^ j.toNat) f) (ox + 2 ^ k) (oy + 2 ^ k) := by
 unfold keep at he ⊢
 by_cases e : r.2.2 = 0
 case neg => rw [if_pos e] at he; exact absurd he e
 rw [if_neg (by simpa using e)]
 obtain ⟨a, b, c⟩ := hg e
 refine ⟨fun p hp => ?_, hf e⟩
 rcases List.mem_append.1 hp with hp | hp
 ·exact hm e p hp
 ·rw [List.mem_singleton.1 hp]
  exact ⟨k, hj, hn.pre b, c, fun f ox oy hs => hf e f ox oy (hs.back h.wf b hn)⟩
theorem leap_ok {room : Int} : ∀ k, LpOk room k (leap room k)
 | 0, s, n, j, h, hm, hn, hj, he => by
  have g := leap_gd 0 s n j h hn he
  refine ⟨g.lk, g.pre, ?_⟩
  unfold leap at he ⊢
  cases hl : look9 s.mm n j with
  | some to =>
   refine ⟨hm, fun f ox oy hs => ?_⟩
   obtain ⟨k', h1, h2, h3, h4⟩ := hm _ (look9_mem hl)
   have e : k' = 0 := by
    have a := h2.2
    have b := hn.2
    simp only at a
    omega
   subst e
   exact h4 f ox oy hs
  | none =>
   rw [hl] at he
   refine keep_std h hj hn he (fun e => oneS_gd h e) (fun e => hm.pre h.wf (oneS_gd h e).pre) fun e f ox oy hs => ?_
   obtain rfl : j = 0 := by omega
   exact oneS_std h hs e
 | k + 1, s, n, j, h, hm, hn, hj, he => by
  have g := leap_gd (k + 1) s n j h hn he
  refine ⟨g.lk, g.pre, ?_⟩
  unfold leap at he ⊢
  cases hl : look9 s.mm n j with
  | some to =>
   refine ⟨hm, fun f ox oy hs => ?_⟩
   obtain ⟨k', h1, h2, h3, h4⟩ := hm _ (look9_mem hl)
   have e : k' = k + 1 := by
    have a := h2.2
    have b := hn.2
    simp only at a
    omega
   subst e
   exact h4 f ox oy hs
  | none =>
   rw [hl] at he
   have hjk : 0 ≤ j ∧ j ≤ (k : Int) + 1 := by omega
   exact keep_std h hj hn he (fun e => far_gd (fun s q j hs hq he => leap_gd k s q j hs hq he) h hn e) (fun e => (far_std (leap_ok k) h hm (Std.self hn) hjk e).1) fun e f ox oy hs => (far_std (leap_ok k) h hm hs hjk e).2
end R9
end Go.GL


namespace Go.GL
open R6 R7
/-! ### What errors a leap may tell -/
namespace R9
def Er (e : Int) : Prop := e = 0 ∨ e = 40
theorem put_er {ns : List Node} (h : Wf ns) {room q0 q1 q2 q3 : Int} {lv : Nat} (hl : lv + 1 ≤ 42) (h0 : IsN ns lv q0) (h1 : IsN ns lv q1) (h2 : IsN ns lv q2) (h3 : IsN ns lv q3) : Er (put ns room q0 q1 q2 q3).2.2 := by
 have hf : fit4 ns q0 q1 q2 q3 := fit4_of hl h0 h1 h2 h3
 unfold put
 rw [if_pos hf]
 split
 ·exact .inl rfl
 ·split
  ·exact .inr rfl
  ·exact .inl rfl
theorem putSq_er {ns : List Node} {room : Int} (h : R6.right ns room) {lv : Nat} (hl : lv + 1 ≤ 42) {l : List Int} (hi : ∀ i : Int, 0 ≤ i → i < 16 → IsN ns lv (R8.g l i)) {y x : Int} (hy : 0 ≤ y ∧ y ≤ 2) (hx : 0 ≤ x ∧ x ≤ 2) : Er (R8.putSq ns room l y x).2.2 :=
 put_er (right_iff.1 h).2 hl (hi _ (by omega) (by omega)) (hi _ (by omega) (by omega)) (hi _ (by omega) (by omega)) (hi _ (by omega) (by omega))
theorem mapS_er {room : Int} {f : LS → Int → L9} {C : List Node → Int → Prop} {lv : Nat} (hC : ∀ ns ms q, ns <+: ms → C ns q → C ms q) (hf : ∀ s q, Lk room s → C s.ns q → Er (f s q).2.2 ∧ ((f s q).2.2 = 0 → Gd room s (f s q) lv)) : ∀ (qs : List Int) (s : LS), Lk room s → (∀ q ∈ qs, C s.ns q) → Er (mapS f s qs).2.2
 | [], s, h, _ => .inl rfl
 | q :: qs, s, h, hq => by
  obtain ⟨e1, e2⟩ := hf s q h (hq q List.mem_cons_self)
  unfold mapS
  by_cases h0 : (f s q).2.2 = 0
  ·rw [if_neg (by simpa using h0)]
   have g := e2 h0
   exact mapS_er hC hf qs (f s q).1 g.lk (fun x hx => hC _ _ _ g.pre (hq x (List.mem_cons_of_mem _ hx)))
  ·rw [if_pos h0]
   exact e1
end R9
end Go.GL


namespace Go.GL
open R6 R7
namespace R9
theorem lk_nil {ns : List Node} {room : Int} (h : R6.right ns room) : Lk room (⟨ns, []⟩ : LS) := ⟨h, fun p hp => by cases hp⟩
theorem ms_nil (ns : List Node) : MS (⟨ns, []⟩ : LS) := fun p hp => by cases hp
/-- What a leap tells. -/
structure LeapR (ns : List Node) (room : Int) (k : Nat) (n j : Int) (p : List Node × Int × Int) : Prop where
 er : Er p.2.2
 right : R6.right p.1 room
 pre : ns <+: p.1
 is : p.2.2 = 0 → IsN p.1 (k + 1) p.2.1
 std : p.2.2 = 0 → ∀ f ox oy, Std ns (k + 2) n f ox oy → Std p.1 (k + 1) p.2.1 (gens (2 ^ j.toNat) f) (ox + 2 ^ k) (oy + 2 ^ k)
/-- The cells that a node in the middle stands for. -/
theorem mem_std {ns : List Node} (h : Wf ns) {lv : Nat} {n : Int} {f : Int → Int → Bool} (hs : Std ns (lv + 1) n f (-2 ^ lv) (-2 ^ lv)) (c : Cell) : c ∈ R7.of ns n ↔ inL ((lv + 1 : Nat) : Int) c ∧ f c.x c.y = true := by
 rw [mem_of h hs.1]
 constructor
 ·rintro ⟨h1, h2⟩
  refine ⟨h1, ?_⟩
  rw [hs.2 _ _ ?_] at h2
  ·rwa [show c.x + 2 ^ lv + -2 ^ lv = c.x by omega, show c.y + 2 ^ lv + -2 ^ lv = c.y by omega] at h2
  ·unfold inL at h1
   rw [side_succ] at h1
   unfold inQ
   rw [p2s]
   omega
 ·rintro ⟨h1, h2⟩
  refine ⟨h1, ?_⟩
  rw [hs.2 _ _ ?_]
  ·rwa [show c.x + 2 ^ lv + -2 ^ lv = c.x by omega, show c.y + 2 ^ lv + -2 ^ lv = c.y by omega]
  ·unfold inL at h1
   rw [side_succ] at h1
   unfold inQ
   rw [p2s]
   omega
/-- A set, as a part of the plane. -/
def pl (l : List Cell) : Int → Int → Bool := fun x y => decide ((⟨x, y⟩ : Cell) ∈ l)
theorem std_make {ns : List Node} {lv : Nat} {m : Int} {l : List Cell} (hn : IsN ns (lv + 1) m) (h : ∀ c : Cell, inL ((lv + 1 : Nat) : Int) c → al ns (lv + 1) m (c.x + 2 ^ lv) (c.y + 2 ^ lv) = decide (c ∈ l)) : Std ns (lv + 1) m (pl l) (-2 ^ lv) (-2 ^ lv) := by
 refine ⟨hn, fun x y hq => ?_⟩
 have := h ⟨x - 2 ^ lv, y - 2 ^ lv⟩ (by
  unfold inQ at hq
  rw [p2s] at hq
  unfold inL
  rw [side_succ]
  simp only
  omega)
 simp only at this
 rw [show x - 2 ^ lv + 2 ^ lv = x by omega, show y - 2 ^ lv + 2 ^ lv = y by omega] at this
 rw [this]
 unfold pl
 rw [show x + -2 ^ lv = x - 2 ^ lv by omega, show y + -2 ^ lv = y - 2 ^ lv by omega]
end R9
namespace RL
def cropF (l : List Cell) (half : Int) : List Cell := l.filter fun c => decide (((-half ≤ c.x ∧ c.x < half) ∧ -half ≤ c.y) ∧ c.y < half)
def hset (raw : List Cell) : List Cell := R1.puts ((raw.take 40).map cell16)
theorem new9_right {room : Int} (h2 : 2 ≤ room) (h3 : room ≤ 100000) : R6.right [n0, n1] room := R6.right_iff.2 ⟨⟨h2, h3, by simpa using h2⟩, new_wf⟩
/-- Made of a set, about the middle. -/
theorem make9 {room : Int} (h2 : 1000 ≤ room) (h3 : room ≤ 100000) {l : List Cell} {lv : Nat} (hlv : lv + 1 ≤ 5) (hl : R1.right l) (hn : l.length ≤ 60) (hb : ∀ c ∈ l, R7.inL ((lv + 1 : Nat) : Int) c) {ns : List Node} (hr : R6.right ns room) (hlen : ns.length ≤ 500) :
  ∃ ms m, R7.make ns room l ((lv + 1 : Nat) : Int) = (ms, m, 0) ∧ R6.right ms room ∧ ns <+: ms ∧ ms.length ≤ ns.length + 400 ∧ R9.Std ms (lv + 1) m (R9.pl l) (-2 ^ lv) (-2 ^ lv) := by
 have hE := R7.E_le ns 6
 have hmul : l.length * (lv + 1) ≤ 60 * 5 := Nat.mul_le_mul hn hlv
 obtain ⟨ms, m, e, ok, sem⟩ := R7.make_ok (room := room) (L := 6) (lv := lv) (by omega) (by omega) hr hl hb (by omega)
 have hlen2 := ok.len
 refine ⟨ms, m, e, R6.right_iff.2 ⟨⟨by omega, by omega, by omega⟩, ok.wf⟩, ok.pre, by omega, R9.std_make ok.is sem⟩
end RL
end Go.GL


namespace Go.GL
open R6 R7
/-! ### A run stands for what is there behind so many generations -/
namespace R9
/-- All that is alive is so near. -/
def Supp (f : Int → Int → Bool) (a : Int) : Prop := ∀ x y, f x y = true → -a ≤ x ∧ x < a ∧ -a ≤ y ∧ y < a
theorem Supp.le {f : Int → Int → Bool} {a b : Int} (h : Supp f a) (hab : a ≤ b) : Supp f b := fun x y hf => by
 have := h x y hf
 omega
theorem gen_live {f : Int → Int → Bool} {x y : Int} (h : gen f x y = true) : ∃ i j : Int, (-1 ≤ i ∧ i ≤ 1) ∧ (-1 ≤ j ∧ j ≤ 1) ∧ f (x + i) (y + j) = true := by
 apply Classical.byContradiction
 intro hc
 have key : ∀ i j : Int, -1 ≤ i ∧ i ≤ 1 → -1 ≤ j ∧ j ≤ 1 → f (x + i) (y + j) = false := fun i j hi hj => by
  cases e : f (x + i) (y + j)
  ·rfl
  ·exact absurd ⟨i, j, hi, hj, e⟩ hc
 have a1 := key (-1) (-1) (by omega) (by omega)
 have a2 := key 0 (-1) (by omega) (by omega)
 have a3 := key 1 (-1) (by omega) (by omega)
 have a4 := key (-1) 0 (by omega) (by omega)
 have a5 := key 0 0 (by omega) (by omega)
 have a6 := key 1 0 (by omega) (by omega)
 have a7 := key (-1) 1 (by omega) (by omega)
 have a8 := key 0 1 (by omega) (by omega)
 have a9 := key 1 1 (by omega) (by omega)
 rw [Int.add_zero] at a2 a4 a5 a6 a8
 rw [Int.add_zero] at a5
 unfold gen R8.nx R8.cnt at h
 rw [show x - 1 = x + -1 by omega, show y - 1 = y + -1 by omega, a1, a2, a3, a4, a5, a6, a7, a8, a9] at h
 exact absurd h (by decide)
theorem gen_supp {f : Int → Int → Bool} {a : Int} (h : Supp f a) : Supp (gen f) (a + 1) := fun x y hg => by
 obtain ⟨i, j, hi, hj, hf⟩ := gen_live hg
 have := h _ _ hf
 omega
theorem gens_supp : ∀ (m : Nat) {f : Int → Int → Bool} {a : Int}, Supp f a → Supp (gens m f) (a + m)
 | 0, f, a, h => by rw [show a + ((0 : Nat) : Int) = a by omega]; exact h
 | m + 1, f, a, h => by
  have := gens_supp m (gen_supp h)
  rw [show a + ((m + 1 : Nat) : Int) = a + 1 + (m : Int) by omega]
  exact this
/-- A node of the level k + 2 in the middle, and nothing outside. -/
def Ctr (ns : List Node) (k : Nat) (n : Int) (f : Int → Int → Bool) : Prop := Std ns (k + 2) n f (-2 ^ (k + 1)) (-2 ^ (k + 1)) ∧ Supp f (2 ^ (k + 1))
theorem Ctr.pre {ns ms : List Node} (h : Wf ns) (hp : ns <+: ms) {k : Nat} {n : Int} {f : Int → Int → Bool} (hs : Ctr ns k n f) : Ctr ms k n f := ⟨hs.1.pre h hp, hs.2⟩
/-- The edge is dead: all is nearer. -/
theorem unedged {ns : List Node} (h : Wf ns) {k : Nat} {n : Int} {f : Int → Int → Bool} (hs : Ctr ns (k + 1) n f) (he : ¬ edged ns n = true) : Supp f (2 ^ (k + 1)) := by
 obtain ⟨h1, h2⟩ := hs
 intro x y hf
 have hb := h2 x y hf
 have hpos := p2pos (k + 1)
 have hp2 : (2 : Int) ^ (k + 1 + 1) = 2 * 2 ^ (k + 1) := p2s' (k + 1)
 rw [hp2] at hb h1
 generalize hh : (2 : Int) ^ (k + 1) = H at *
 have key : ∀ X Y : Int, (0 ≤ X ∧ X ≤ 3) → (0 ≤ Y ∧ Y ≤ 3) → (4 * Y + X) ∈ ([0, 1, 2, 3, 4, 7, 8, 11, 12, 13, 14, 15] : List Int) → (-(2 * H) + X * H ≤ x ∧ x < -(2 * H) + X * H + H) → (-(2 * H) + Y * H ≤ y ∧ y < -(2 * H) + Y * H + H) → False := by
  intro X Y hX hY hm hx hy
  have hst := std_s16 (lv := k + 1) h h1 hX hY
  rw [hh] at hst
  have hpop : (nd ns (R8.g (R8.s16 ns n) (4 * Y + X))).pop = 0 := by
   apply Decidable.byContradiction
   intro hp
   exact he (List.any_eq_true.2 ⟨_, hm, decide_eq_true hp⟩)
  have ha := al_dead h (k + 1) _ (x - (-(2 * H) + X * H)) (y - (-(2 * H) + Y * H)) hst.1 hpop
  rw [hst.2 _ _ (by unfold inQ; rw [hh]; omega)] at ha
  rw [show x - (-(2 * H) + X * H) + (-(2 * H) + X * H) = x by omega, show y - (-(2 * H) + Y * H) + (-(2 * H) + Y * H) = y by omega, hf] at ha
  exact nomatch ha
 have ix : (-(2 * H) ≤ x ∧ x < -H) ∨ (-H ≤ x ∧ x < 0) ∨ (0 ≤ x ∧ x < H) ∨ (H ≤ x ∧ x < 2 * H) := by omega
 have iy : (-(2 * H) ≤ y ∧ y < -H) ∨ (-H ≤ y ∧ y < 0) ∨ (0 ≤ y ∧ y < H) ∨ (H ≤ y ∧ y < 2 * H) := by omega
 rcases ix with ix | ix | ix | ix <;> rcases iy with iy | iy | iy | iy
 ·exact (key 0 0 (by omega) (by omega) (by decide) (by omega) (by omega)).elim
 ·exact (key 0 1 (by omega) (by omega) (by decide) (by omega) (by omega)).elim
 ·exact (key 0 2 (by omega) (by omega) (by decide) (by omega) (by omega)).elim
 ·exact (key 0 3 (by omega) (by omega) (by decide) (by omega) (by omega)).elim
 ·exact (key 1 0 (by omega) (by omega) (by decide) (by omega) (by omega)).elim
 ·omega
 ·omega
 ·exact (key 1 3 (by omega) (by omega) (by decide) (by omega) (by omega)).elim
 ·exact (key 2 0 (by omega) (by omega) (by decide) (by omega) (by omega)).elim
 ·omega
 ·omega
 ·exact (key 2 3 (by omega) (by omega) (by decide) (by omega) (by omega)).elim
 ·exact (key 3 0 (by omega) (by omega) (by decide) (by omega) (by omega)).elim
 ·exact (key 3 1 (by omega) (by omega) (by decide) (by omega) (by omega)).elim
 ·exact (key 3 2 (by omega) (by omega) (by decide) (by omega) (by omega)).elim
 ·exact (key 3 3 (by omega) (by omega) (by decide) (by omega) (by omega)).elim
theorem putS_ms {room : Int} {s : LS} (h : Lk room s) (hm : MS s) {q0 q1 q2 q3 : Int} : MS (putS room s q0 q1 q2 q3).1 := hm.pre h.wf (right_put h.right q0 q1 q2 q3).2
theorem mid_ctr {room : Int} {s : LS} (h : Lk room s) {k : Nat} {n : Int} {f : Int → Int → Bool} (hs : Ctr s.ns (k + 1) n f) (he : ¬ edged s.ns n = true) (h0 : (midS room s n).2.2 = 0) : Ctr (midS room s n).1.ns k (midS room s n).2.1 f := by
 refine ⟨(midS_std h hs.1 h0).at ?_ ?_, unedged h.wf hs he⟩ <;> (rw [p2s' (k + 1)]; omega)
/-- Trimmed. -/
theorem trim_ctr {room : Int} : ∀ (k : Nat) (s : LS) (n : Int) (f : Int → Int → Bool), k + 2 ≤ 42 → Lk room s → MS s → Ctr s.ns k n f →
  Er (trim room k s n).2.2 ∧ ((trim room k s n).2.2 = 0 → Lk room (trim room k s n).1 ∧ s.ns <+: (trim room k s n).1.ns ∧ MS (trim room k s n).1 ∧ ∃ k', k' ≤ k ∧ Ctr (trim room k s n).1.ns k' (trim room k s n).2.1 f ∧ (k' = 0 ∨ edged (trim room k s n).1.ns (trim room k s n).2.1 = true))
 | 0, s, n, f, _, h, hm, hs => ⟨.inl rfl, fun _ => ⟨h, List.prefix_refl _, hm, 0, Nat.le_refl _, hs, .inl rfl⟩⟩
 | k + 1, s, n, f, hk, h, hm, hs => by
  unfold trim
  by_cases e : edged s.ns n = true
  ·rw [if_pos e]
   exact ⟨.inl rfl, fun _ => ⟨h, List.prefix_refl _, hm, k + 1, Nat.le_refl _, hs, .inr e⟩⟩
  rw [if_neg e]
  by_cases e1 : (midS room s n).2.2 = 0
  ·rw [if_neg (by simpa using e1)]
   have g := midS_gd (lv := k + 1) h hs.1.1 e1
   obtain ⟨a1, a2⟩ := trim_ctr k (midS room s n).1 (midS room s n).2.1 f (by omega) g.lk (putS_ms h hm) (mid_ctr h hs e e1)
   refine ⟨a1, fun h0 => ?_⟩
   obtain ⟨b1, b2, b3, k', b4, b5, b6⟩ := a2 h0
   exact ⟨b1, g.pre.trans b2, b3, k', by omega, b5, b6⟩
  ·rw [if_pos e1]
   exact ⟨putSq_er (lv := k + 1) h.right (by omega) (s16_isN h.wf hs.1.1) (y := 1) (x := 1) (by omega) (by omega), fun h0 => absurd h0 e1⟩
/-! #### grown -/
def nil2 : Int → Int → Bool := fun _ _ => false
theorem std_dead {ns : List Node} {lv : Nat} {d : Int} {f : Int → Int → Bool} {ox oy : Int} (hd : Std ns lv d nil2 0 0) (hf : ∀ x y, inQ lv x y → f (x + ox) (y + oy) = false) : Std ns lv d f ox oy :=
 ⟨hd.1, fun x y hq => by rw [hd.2 x y hq, hf x y hq]; rfl⟩
theorem nil2_at {ns : List Node} {lv : Nat} {d : Int} (hd : Std ns lv d nil2 0 0) (ox oy : Int) : Std ns lv d nil2 ox oy := ⟨hd.1, fun x y hq => by rw [hd.2 x y hq]; rfl⟩
theorem emptyF_std {room : Int} : ∀ (k : Nat) (ns : List Node) (n : Int) (j : Nat), j + k ≤ 42 → R6.right ns room → Std ns j n nil2 0 0 → Er (emptyF room k ns n).2.2 ∧ ((emptyF room k ns n).2.2 = 0 → Std (emptyF room k ns n).1 (j + k) (emptyF room k ns n).2.1 nil2 0 0)
 | 0, ns, n, j, _, h, hn => ⟨.inl rfl, fun _ => hn⟩
 | k + 1, ns, n, j, hj, h, hn => by
  have hw := (right_iff.1 h).2
  have her := put_er (room := room) hw (lv := j) (by omega) hn.1 hn.1 hn.1 hn.1
  unfold emptyF
  by_cases e : (put ns room n n n n).2.2 = 0
  ·rw [if_neg (by simpa using e)]
   obtain ⟨a, b⟩ := right_put h n n n n
   have c := std_put hw hn (nil2_at hn _ _) (nil2_at hn _ _) (nil2_at hn _ _) e
   have := emptyF_std k _ _ (j + 1) (by omega) a c
   rw [show j + (k + 1) = j + 1 + k by omega]
   exact this
  ·rw [if_pos e]
   exact ⟨her, fun h0 => absurd h0 e⟩
theorem empty_std {room : Int} {ns : List Node} (h : R6.right ns room) {lv : Nat} (hl : lv ≤ 42) : Er (R7.empty ns room lv).2.2 ∧ ((R7.empty ns room lv).2.2 = 0 → Std (R7.empty ns room lv).1 lv (R7.empty ns room lv).2.1 nil2 0 0) := by
 have hw := (right_iff.1 h).2
 have := emptyF_std lv ns 0 0 (by omega) h ⟨⟨hw.in0, by rw [hw.nd0]; rfl⟩, fun x y _ => rfl⟩
 rw [Nat.zero_add] at this
 exact this
theorem std_kids {ns : List Node} (h : Wf ns) {lv : Nat} {n : Int} {f : Int → Int → Bool} {ox oy : Int} (hs : Std ns (lv + 1) n f ox oy) {q : Nat} (hq : q < 4) : Std ns lv ((nd ns n).kids.getD q default) f (ox + ((q % 2 : Nat) : Int) * 2 ^ lv) (oy + ((q / 2 : Nat) : Int) * 2 ^ lv) := by
 refine ⟨kids_getD h hs.1 hq, fun x y hxy => ?_⟩
 have hpos := p2pos lv
 have hk : ∀ a b : Int, (a = 0 ∨ a = 1) → (b = 0 ∨ b = 1) → al ns lv (R7.kid ns n (2 * b + a)) x y = f (x + (ox + a * 2 ^ lv)) (y + (oy + b * 2 ^ lv)) := fun a b ha hb => by
  rw [← al_kid ns hxy ha hb, hs.2 _ _ ?_]
  ·congr 1 <;> omega
  ·unfold inQ at hxy ⊢
   rw [p2s]
   rcases ha with rfl | rfl <;> rcases hb with rfl | rfl <;> omega
 match q, hq with
 | 0, _ => exact hk 0 0 (.inl rfl) (.inl rfl)
 | 1, _ => exact hk 1 0 (.inr rfl) (.inl rfl)
 | 2, _ => exact hk 0 1 (.inl rfl) (.inr rfl)
 | 3, _ => exact hk 1 1 (.inr rfl) (.inr rfl)
theorem bigK_std {ns : List Node} {lv : Nat} {d : Int} {kd : Nat → Int} {f : Int → Int → Bool} {H : Int} (hH : (2 : Int) ^ lv = H) (hd : Std ns lv d nil2 0 0) (hs : Supp f H) (hk : ∀ q : Nat, q < 4 → Std ns lv (kd q) f (-H + ((q % 2 : Nat) : Int) * H) (-H + ((q / 2 : Nat) : Int) * H)) {q i : Nat} (hq : q < 4) (hi : i < 4) :
  Std ns lv (bigK d q (kd q) i) f (-(2 * H) + ((q % 2 : Nat) : Int) * (2 * H) + ((i % 2 : Nat) : Int) * H) (-(2 * H) + ((q / 2 : Nat) : Int) * (2 * H) + ((i / 2 : Nat) : Int) * H) := by
 have hpos := p2pos lv
 rw [hH] at hpos
 unfold bigK
 split
 ·rename_i e
  refine (hk q hq).at ?_ ?_
  all_goals
   rcases (by omega : (q = 0 ∧ i = 3) ∨ (q = 1 ∧ i = 2) ∨ (q = 2 ∧ i = 1) ∨ (q = 3 ∧ i = 0)) with ⟨rfl, rfl⟩ | ⟨rfl, rfl⟩ | ⟨rfl, rfl⟩ | ⟨rfl, rfl⟩ <;> simp only [Nat.reduceDiv, Nat.reduceMod] <;> omega
 ·rename_i e
  refine std_dead hd fun x y hxy => ?_
  unfold inQ at hxy
  rw [hH] at hxy
  apply Decidable.byContradiction
  intro hne
  have hb := hs _ _ (Bool.of_not_eq_false hne)
  rcases (by omega : q = 0 ∨ q = 1 ∨ q = 2 ∨ q = 3) with rfl | rfl | rfl | rfl <;> rcases (by omega : i = 0 ∨ i = 1 ∨ i = 2 ∨ i = 3) with rfl | rfl | rfl | rfl <;> simp only [Nat.reduceDiv, Nat.reduceMod] at hb <;> omega
theorem grow_ctr {room : Int} {s : LS} (h : Lk room s) (hm : MS s) {k : Nat} {n : Int} {f : Int → Int → Bool} (hk : k + 3 ≤ 42) (hs : Ctr s.ns k n f) :
  Er (grow room s n).2.2 ∧ ((grow room s n).2.2 = 0 → Lk room (grow room s n).1 ∧ s.ns <+: (grow room s n).1.ns ∧ MS (grow room s n).1 ∧ Std (grow room s n).1.ns (k + 3) (grow room s n).2.1 f (-2 ^ (k + 2)) (-2 ^ (k + 2))) := by
 have hn := hs.1.1
 have hlv : (nd s.ns n).lv = k + 2 := by rw [hn.2]; omega
 have hp1 := p2s' (k + 1)
 rw [grow_eq, show ((nd s.ns n).lv - 1).toNat = k + 1 by omega, if_neg (by omega)]
 obtain ⟨er1, st1⟩ := empty_std h.right (lv := k + 1) (by omega)
 by_cases e1 : (R7.empty s.ns room (k + 1)).2.2 = 0
 case neg => rw [if_pos e1]; exact ⟨er1, fun h0 => absurd h0 e1⟩
 rw [if_neg (by simpa using e1)]
 obtain ⟨r1, p1, i1⟩ := empty_gd h.right e1
 have st1 := st1 e1
 have l1 : Lk room (⟨(R7.empty s.ns room (k + 1)).1, s.mm⟩ : LS) := ⟨r1, h.mem.pre p1⟩
 have m1 : MS (⟨(R7.empty s.ns room (k + 1)).1, s.mm⟩ : LS) := hm.pre h.wf p1
 have hkd : ∀ q : Nat, q < 4 → Std (R7.empty s.ns room (k + 1)).1 (k + 1) ((nd s.ns n).kids.getD q default) f (-2 ^ (k + 1) + ((q % 2 : Nat) : Int) * 2 ^ (k + 1)) (-2 ^ (k + 1) + ((q / 2 : Nat) : Int) * 2 ^ (k + 1)) := fun q hq => (std_kids h.wf hs.1 hq).pre h.wf p1
 generalize hD : (R7.empty s.ns room (k + 1)).2.1 = d at *
 generalize hT : (⟨(R7.empty s.ns room (k + 1)).1, s.mm⟩ : LS) = T at *
 have hTn : T.ns = (R7.empty s.ns room (k + 1)).1 := by rw [← hT]
 rw [← hTn] at st1 hkd p1 i1
 generalize hks : (nd s.ns n).kids = ks at *
 have hsup := hs.2
 generalize hH : (2 : Int) ^ (k + 1) = H at *
 have hMer : Er (mapS (growF room d ks) T k4).2.2 := mapS_er (room := room) (f := growF room d ks) (C := fun ns k' => IsN ns (k + 1) d ∧ IsN ns (k + 1) (ks.getD k'.toNat default)) (lv := k + 2) (fun _ _ _ hp hq => ⟨hq.1.pre hp, hq.2.pre hp⟩) (fun s q hs hq => ⟨put_er hs.wf (lv := k + 1) (by omega) (bigK_isN hq.1 hq.2 _ _) (bigK_isN hq.1 hq.2 _ _) (bigK_isN hq.1 hq.2 _ _) (bigK_isN hq.1 hq.2 _ _), fun he => growF_gd hs hq he⟩) k4 T l1 (fun q hq => by
  simp only [k4, List.mem_cons, List.not_mem_nil, or_false] at hq
  exact ⟨i1, (hkd q.toNat (by omega)).1⟩)
 by_cases e2 : (mapS (growF room d ks) T k4).2.2 = 0
 case neg => rw [bindM_err e2]; exact ⟨hMer, fun h0 => absurd h0 e2⟩
 rw [bindM_ok e2]
 obtain ⟨l2, p2, m2, n2, i2⟩ := mapS_std (room := room) (f := growF room d ks) (fun i ns q => q = (i : Int) ∧ i < 4 ∧ Std ns (k + 1) d nil2 0 0 ∧ ∀ q : Nat, q < 4 → Std ns (k + 1) (ks.getD q default) f (-H + ((q % 2 : Nat) : Int) * H) (-H + ((q / 2 : Nat) : Int) * H))
  (fun i ns q => Std ns (k + 2) q f (-(2 * H) + ((i % 2 : Nat) : Int) * (2 * H)) (-(2 * H) + ((i / 2 : Nat) : Int) * (2 * H)))
  (fun i ns ms q hw hp hq => ⟨hq.1, hq.2.1, hq.2.2.1.pre hw hp, fun q h => (hq.2.2.2 q h).pre hw hp⟩) (fun i ns ms q hw hp hq => hq.pre hw hp) (fun i t q ht hmt hq he => by
   obtain ⟨rfl, hi4, hd, hkk⟩ := hq
   have g := growF_gd ht ⟨hd.1, (hkk i hi4).1⟩ he
   have hb := fun {i' : Nat} (h' : i' < 4) => bigK_std (kd := fun q => ks.getD q default) hH hd hsup hkk hi4 h'
   refine ⟨g.lk, g.pre, putS_ms ht hmt, ?_⟩
   have b0 := hb (i' := 0) (by omega)
   have b1 := hb (i' := 1) (by omega)
   have b2 := hb (i' := 2) (by omega)
   have b3 := hb (i' := 3) (by omega)
   refine std_put (lv := k + 1) ht.wf (b0.at ?_ ?_) (b1.at ?_ ?_) (b2.at ?_ ?_) (b3.at ?_ ?_) he
   all_goals (simp only [Nat.reduceDiv, Nat.reduceMod]; omega)) k4 0 T l1 m1 (fun i hi => by
   have hi4 : i < 4 := hi
   rw [Nat.zero_add]
   refine ⟨?_, hi4, st1, hkd⟩
   match i, hi4 with
   | 0, _ => rfl
   | 1, _ => rfl
   | 2, _ => rfl
   | 3, _ => rfl) e2
 have n2 : (mapS (growF room d ks) T k4).2.1.length = 4 := n2
 generalize mapS (growF room d ks) T k4 = R2 at *
 have h0 := i2 0 (by decide)
 have h1 := i2 1 (by decide)
 have h2 := i2 2 (by decide)
 have h3 := i2 3 (by decide)
 simp only [Nat.zero_add, Nat.reduceDiv, Nat.reduceMod] at h0 h1 h2 h3
 have her := put_er (room := room) l2.wf (lv := k + 2) (by omega) h0.1 h1.1 h2.1 h3.1
 refine ⟨her, fun he => ?_⟩
 have he : (putS room R2.1 (R8.g R2.2.1 0) (R8.g R2.2.1 1) (R8.g R2.2.1 2) (R8.g R2.2.1 3)).2.2 = 0 := he
 have g := putS_gd l2 (lv := k + 2) h0.1 he
 refine ⟨g.lk, (p1.trans p2).trans g.pre, putS_ms l2 m2, ?_⟩
 have hp2 : (2 : Int) ^ (k + 2) = 2 * H := hp1
 refine std_put (lv := k + 2) l2.wf (h0.at ?_ ?_) (h1.at ?_ ?_) (h2.at ?_ ?_) (h3.at ?_ ?_) he
 all_goals (rw [hp2]; omega)
theorem grow_ctr' {room : Int} {s : LS} (h : Lk room s) (hm : MS s) {k : Nat} {n : Int} {f : Int → Int → Bool} (hk : k + 3 ≤ 42) (hs : Ctr s.ns k n f) :
  Er (grow room s n).2.2 ∧ ((grow room s n).2.2 = 0 → Lk room (grow room s n).1 ∧ s.ns <+: (grow room s n).1.ns ∧ MS (grow room s n).1 ∧ Ctr (grow room s n).1.ns (k + 1) (grow room s n).2.1 f) := by
 obtain ⟨h1, h2⟩ := grow_ctr h hm hk hs
 refine ⟨h1, fun h0 => ?_⟩
 obtain ⟨a, b, c, d⟩ := h2 h0
 have hp := p2s' (k + 1)
 have hpos := p2pos (k + 1)
 exact ⟨a, b, c, d, hs.2.le (by show (2 : Int) ^ (k + 1) ≤ 2 ^ (k + 1 + 1); omega)⟩
end R9
end Go.GL


namespace Go.GL
open R6 R7
namespace R9
/-- An answer without an error. -/
def OkS (room : Int) (s : LS) (r : L9) : Prop := Lk room r.1 ∧ s.ns <+: r.1.ns ∧ MS r.1
theorem OkS.trans {room : Int} {s t : LS} {r : L9} (h : OkS room t r) (hp : s.ns <+: t.ns) : OkS room s r := ⟨h.1, hp.trans h.2.1, h.2.2⟩
theorem pow_le2 {a b : Nat} (h : a ≤ b) : (2 : Int) ^ a ≤ 2 ^ b := by
 induction b with
 | zero =>
  obtain rfl : a = 0 := by omega
  exact Int.le_refl _
 | succ b ih =>
  by_cases e : a = b + 1
  ·rw [e]; exact Int.le_refl _
  ·have := ih (by omega)
   have h2 := p2pos b
   rw [p2s' b]
   omega
/-- How many generations. -/
def total : List Nat → Nat
 | [] => 0
 | j :: js => 2 ^ j + total js
/-! #### the bits -/
def bitsN (c : Int) (m : Nat) : List Nat := (List.range m).filter fun i => decide (c / 2 ^ i % 2 = 1)
end R9
end Go.GL


namespace Go.GL
open R6 R7
namespace R9
/-- Trimmed. -/
def Trd (ns : List Node) (k : Nat) (n : Int) : Prop := k = 0 ∨ edged ns n = true
theorem edged_pre {ns ms : List Node} (h : Wf ns) (hp : ns <+: ms) {k : Nat} {n : Int} (hn : IsN ns (k + 2) n) : edged ms n = edged ns n := by
 unfold edged
 rw [R8.s16_pre h hp hn]
 have hi := s16_isN h hn
 have key : ∀ i : Int, 0 ≤ i → i < 16 → nd ms (R8.g (R8.s16 ns n) i) = nd ns (R8.g (R8.s16 ns n) i) := fun i a b => nd_pre hp (hi i a b).1
 simp only [List.any_cons, List.any_nil]
 rw [key 0 (by omega) (by omega), key 1 (by omega) (by omega), key 2 (by omega) (by omega), key 3 (by omega) (by omega), key 4 (by omega) (by omega), key 7 (by omega) (by omega), key 8 (by omega) (by omega), key 11 (by omega) (by omega), key 12 (by omega) (by omega), key 13 (by omega) (by omega), key 14 (by omega) (by omega), key 15 (by omega) (by omega)]
theorem Trd.pre {ns ms : List Node} (h : Wf ns) (hp : ns <+: ms) {k : Nat} {n : Int} (hn : IsN ns (k + 2) n) (ht : Trd ns k n) : Trd ms k n := ht.imp id fun e => by rw [edged_pre h hp hn]; exact e
theorem alive {ns : List Node} (h : Wf ns) : ∀ (lv : Nat) (n : Int), IsN ns lv n → (nd ns n).pop ≠ 0 → ∃ x y, inQ lv x y ∧ al ns lv n x y = true
 | 0, n, hn, hp => by
  rcases isN0 h hn with rfl | rfl
  ·exact absurd (by rw [h.nd0]; rfl) hp
  ·exact ⟨0, 0, ⟨by omega, by decide, by omega, by decide⟩, rfl⟩
 | lv + 1, n, hn, hp => by
  obtain ⟨a, b, c, d⟩ := kids4 h hn
  have hpos := p2pos lv
  have hk : ∀ (q : Int) (a b : Int), (a = 0 ∨ a = 1) → (b = 0 ∨ b = 1) → R7.kid ns n (2 * b + a) = q → (∃ x y, inQ lv x y ∧ al ns lv q x y = true) → ∃ x y, inQ (lv + 1) x y ∧ al ns (lv + 1) n x y = true := by
   rintro q a b ha hb hq ⟨x, y, h1, h2⟩
   refine ⟨x + a * 2 ^ lv, y + b * 2 ^ lv, ?_, ?_⟩
   ·unfold inQ at h1 ⊢
    rw [p2s]
    rcases ha with rfl | rfl <;> rcases hb with rfl | rfl <;> omega
   ·rw [al_kid ns h1 ha hb, hq]
    exact h2
  have hd := fun hc => hp ((dead_kids h hn).2 hc)
  by_cases e0 : (nd ns (nd ns n).k0).pop = 0
  ·by_cases e1 : (nd ns (nd ns n).k1).pop = 0
   ·by_cases e2 : (nd ns (nd ns n).k2).pop = 0
    ·exact hk _ 1 1 (.inr rfl) (.inr rfl) rfl (alive h lv _ d fun e3 => hd ⟨e0, e1, e2, e3⟩)
    ·exact hk _ 0 1 (.inl rfl) (.inr rfl) rfl (alive h lv _ c e2)
   ·exact hk _ 1 0 (.inr rfl) (.inl rfl) rfl (alive h lv _ b e1)
  ·exact hk _ 0 0 (.inl rfl) (.inl rfl) rfl (alive h lv _ a e0)
/-- The edge is not dead: some is so far. -/
theorem edged_far {ns : List Node} (h : Wf ns) {k : Nat} {n : Int} {f : Int → Int → Bool} (hs : Ctr ns (k + 1) n f) (he : edged ns n = true) : ¬ Supp f (2 ^ (k + 1)) := by
 intro hsup
 obtain ⟨h1, h2⟩ := hs
 have hp2 : (2 : Int) ^ (k + 1 + 1) = 2 * 2 ^ (k + 1) := p2s' (k + 1)
 have hpos := p2pos (k + 1)
 rw [hp2] at h1
 generalize hh : (2 : Int) ^ (k + 1) = H at *
 obtain ⟨i, hi, hp⟩ := List.any_eq_true.1 he
 have hp := of_decide_eq_true hp
 obtain ⟨X, Y, hX, hY, rfl, hout⟩ : ∃ X Y : Int, (0 ≤ X ∧ X ≤ 3) ∧ (0 ≤ Y ∧ Y ≤ 3) ∧ i = 4 * Y + X ∧ (X = 0 ∨ X = 3 ∨ Y = 0 ∨ Y = 3) := by
  simp only [List.mem_cons, List.not_mem_nil, or_false] at hi
  exact ⟨i % 4, i / 4, by omega, by omega, by omega, by omega⟩
 have hst := std_s16 (lv := k + 1) h h1 hX hY
 rw [hh] at hst
 obtain ⟨x, y, hq, ha⟩ := alive h (k + 1) _ hst.1 hp
 rw [hst.2 x y hq] at ha
 have hb := hsup _ _ ha
 unfold inQ at hq
 rw [hh] at hq
 rcases (by omega : X = 0 ∨ X = 1 ∨ X = 2 ∨ X = 3) with rfl | rfl | rfl | rfl <;> rcases (by omega : Y = 0 ∨ Y = 1 ∨ Y = 2 ∨ Y = 3) with rfl | rfl | rfl | rfl <;> omega
/-- What a run tells. -/
structure RunR (ns : List Node) (room : Int) (K : Nat) (n c : Int) (f : Int → Int → Bool) (p : List Node × Int × Int) : Prop where
 er : Er p.2.2
 right : R6.right p.1 room
 pre : ns <+: p.1
 ok : p.2.2 = 0 → ∃ k', k' ≤ K ∧ Ctr p.1 k' p.2.1 (gens c.toNat f) ∧ Trd p.1 k' p.2.1
 trim : p.2.2 = 0 → (trimS room ⟨ns, []⟩ n).2.2 = 0 ∧ (trimS room ⟨ns, []⟩ n).1.ns <+: p.1
/-! #### turned by half -/
def refl (f : Int → Int → Bool) : Int → Int → Bool := fun x y => f (-x) (-y)
end R9
end Go.GL


namespace Go.GL
/-! ### Generations of sets that lie in a box -/
namespace R2
open R9 (gen gens pl)
theorem pl_mem {l : List Cell} {x y : Int} : pl l x y = true ↔ (⟨x, y⟩ : Cell) ∈ l := decide_eq_true_iff
theorem live_gen {l : List Cell} (hs : l.Nodup) (d : Cell) : livesAt l d = gen (pl l) d.x d.y := by
 unfold livesAt gen R8.nx
 rw [around_cnt d hs]
 unfold cntL R8.cnt pl at8
 rw [show d.x + -1 = d.x - 1 by omega, show d.y + -1 = d.y - 1 by omega, Int.add_zero, Int.add_zero]
/-- Within a box. -/
def Bx (l : List Cell) (a b c d : Int) : Prop := ∀ e ∈ l, a ≤ e.x ∧ e.x ≤ b ∧ c ≤ e.y ∧ e.y ≤ d
theorem Bx.le {l : List Cell} {a b c d a' b' c' d' : Int} (h : Bx l a b c d) (h1 : a' ≤ a) (h2 : b ≤ b') (h3 : c' ≤ c) (h4 : d ≤ d') : Bx l a' b' c' d' := fun e he => by
 have := h e he
 omega
/-- So many generations. -/
def iter : Nat → List Cell → List Cell × Int
 | 0, l => (l, 0)
 | n + 1, l => if (next l).2 ≠ 0 then ([], (next l).2) else iter n (next l).1
def run (l : List Cell) (n : Int) : List Cell × Int := if R1.right l ∧ 0 ≤ n ∧ n ≤ 1000 then iter n.toNat l else ([], 1)
end R2
end Go.GL


namespace Go.GL
/-! ### Layer 19, as the document has it -/
namespace R19
/-- The i-th task's parent is one. -/
def okAt (l : List Int) (i : Nat) : Prop := (i = 0 → l.getD i default = -1) ∧ (0 < i → 0 ≤ l.getD i default ∧ l.getD i default < i)
instance (l : List Int) (i : Nat) : Decidable (okAt l i) := inferInstanceAs (Decidable (_ ∧ _))
def right (l : List Int) : Prop := (1 ≤ l.length ∧ l.length ≤ 300) ∧ ∀ i, i < l.length → okAt l i
instance (l : List Int) : Decidable (right l) := inferInstanceAs (Decidable (_ ∧ _))
end R19
end Go.GL
namespace Go.GL
namespace R19
/-! ### What the laws make of raw numbers -/
def treeF (raw : List Int) (i : Nat) : List Int := -1 :: (List.range i).map fun j => pk (raw.getD j default) ((j : Int) + 1)
def tree (raw : List Int) : List Int := treeF raw (if raw.length < 39 then raw.length else 39)
def valAt (raw : List Int) (j : Nat) : Int := if j < raw.length then pk (raw.getD j default) 1000 - 300 else j
def vals (raw : List Int) (n : Nat) : List Int := (List.range n).map (valAt raw)
end R19
end Go.GL
namespace Go.GL
/-- How far a task is. -/
structure Frame where
 par : Int
 a : Option Addr
 len : Nat
 cap : Nat
 sum : Int
 left : Int
 deriving Inhabited
instance : Enc Frame := ⟨fun s => [.int .i64 s.par, .slice s.a s.len s.cap, .int .i64 s.sum, .int .i64 s.left], 4, fun _ => rfl, fun _ => rfl⟩
namespace R19
/-- The kids of t among the first i tasks. -/
def kidsTo (p : List Int) (i : Nat) (t : Nat) : List Int := ((List.range i).filter fun j => decide (p.getD j default = (t : Int))).map fun (j : Nat) => (j : Int)
def kids (p : List Int) (t : Nat) : List Int := kidsTo p p.length t
end R19
end Go.GL
namespace Go.GL
namespace R19
def add1 (fs : List Frame) (p t : Nat) : List Frame := fs.set p { fs.getD p default with sum := IntKind.i64.wrap ((fs.getD p default).sum + (fs.getD t default).sum) }
def less1 (fs : List Frame) (p : Nat) : List Frame := fs.set p { fs.getD p default with left := IntKind.i64.wrap ((fs.getD p default).left - 1) }
/-- A task is done: its parent is told; is the first one done? -/
def joinM : Nat → List Frame → Nat → List Frame × Bool
 | 0, fs, _ => (fs, false)
 | f + 1, fs, t =>
  if (fs.getD t default).par < 0 then (fs, true) else
  if ((less1 (add1 fs (fs.getD t default).par.toNat t) (fs.getD t default).par.toNat).getD (fs.getD t default).par.toNat default).left = 0 then joinM f (less1 (add1 fs (fs.getD t default).par.toNat t) (fs.getD t default).par.toNat) (fs.getD t default).par.toNat
  else (less1 (add1 fs (fs.getD t default).par.toNat t) (fs.getD t default).par.toNat, false)
end R19
end Go.GL
namespace Go.GL
namespace R19
/-! ### Deques -/
/-- Where the first deque is that is not empty, from the j-th one behind w on. -/
def findF (D : List (List Int)) (w : Nat) : Nat → Nat → Option Nat
 | 0, _ => none
 | f + 1, j => if (D.getD ((w + j) % D.length) default).length = 0 then findF D w f (j + 1) else some ((w + j) % D.length)
/-- The task that a worker takes, and what is left. -/
def takeM (D : List (List Int)) (w : Nat) : Int × List (List Int) :=
 if 0 < (D.getD w default).length then ((D.getD w default).getD ((D.getD w default).length - 1) default, D.set w ((D.getD w default).take ((D.getD w default).length - 1)))
 else match findF D w D.length 0 with
  | some k => ((D.getD k default).getD 0 default, D.set k ((D.getD k default).drop 1))
  | none => (-1, D)
end R19
end Go.GL


namespace Go.GL
/-! ### Layer 11, as the document has it -/
namespace R11
/-- Those that are left, from the i-th one on. -/
def allF : Nat → List Int → List Int
 | _, [] => []
 | i, n :: l => if 0 < n then (i : Int) :: allF (i + 1) l else allF (i + 1) l
def all (left : List Int) : List Int := allF 0 left
/-- Where the first one is of which p is true. -/
def idx (p : Int → Bool) (l : List Int) : Int := if l.findIdx p < l.length then (l.findIdx p : Int) else -1
def round (a : List Int) (last : Int) : Int := if 0 ≤ idx (fun i => decide (last < i)) a ∧ 0 ≤ last then a.getD (idx (fun i => decide (last < i)) a).toNat default else a.getD 0 default
def next (picks : List Int) (step : Int) (left : List Int) (last : Int) : Int :=
 if (all left).length = 0 then -1 else
 if 0 ≤ step ∧ step < picks.length then (all left).getD (pk (picks.getD step.toNat default) (all left).length).toNat default
 else round (all left) last
def dec (left : List Int) (i : Int) : List Int := left.set i.toNat (left.getD i.toNat default - 1)
def turnsF (picks : List Int) : Nat → Nat → List Int → Int → List Int
 | 0, _, _, _ => []
 | f + 1, s, left, last => if next picks s left last < 0 then [] else next picks s left last :: turnsF picks f (s + 1) (dec left (next picks s left last)) (next picks s left last)
def turns (picks left : List Int) : List Int := turnsF picks 100000 0 left (-1)
theorem allF_mem : ∀ {l : List Int} {i : Nat} {q : Int}, q ∈ allF i l ↔ ∃ j : Nat, j < l.length ∧ q = ((i + j : Nat) : Int) ∧ 0 < l.getD j default
 | [], i, q => by simp [allF]
 | n :: l, i, q => by
  have ih := allF_mem (l := l) (i := i + 1) (q := q)
  have key : (∃ j : Nat, j < (n :: l).length ∧ q = ((i + j : Nat) : Int) ∧ 0 < (n :: l).getD j default) ↔ (q = (i : Int) ∧ 0 < n) ∨ ∃ j : Nat, j < l.length ∧ q = ((i + 1 + j : Nat) : Int) ∧ 0 < l.getD j default := by
   constructor
   ·rintro ⟨j, h1, h2, h3⟩
    cases j with
    | zero => exact .inl ⟨by simpa using h2, by simpa using h3⟩
    | succ j => exact .inr ⟨j, by simpa using h1, by rw [h2]; omega, by simpa using h3⟩
   ·rintro (⟨h1, h2⟩ | ⟨j, h1, h2, h3⟩)
    ·exact ⟨0, by simp, by simpa using h1, by simpa using h2⟩
    ·exact ⟨j + 1, by simpa using h1, by rw [h2]; omega, by simpa using h3⟩
  rw [key, ← ih]
  simp only [allF]
  split
  ·rename_i h
   simp [h]
  ·rename_i h
   simp [h]
theorem mem_all {l : List Int} {q : Int} : q ∈ all l ↔ 0 ≤ q ∧ q < l.length ∧ 0 < l.getD q.toNat default := by
 unfold all
 rw [allF_mem]
 constructor
 ·rintro ⟨j, h1, rfl, h3⟩
  refine ⟨by omega, by omega, ?_⟩
  simpa using h3
 ·rintro ⟨h1, h2, h3⟩
  exact ⟨q.toNat, by omega, by omega, h3⟩
theorem allF_srt : ∀ (l : List Int) (i : Nat), (allF i l).Pairwise (· < ·) ∧ ∀ q ∈ allF i l, (i : Int) ≤ q
 | [], i => by simp [allF]
 | n :: l, i => by
  have ih := allF_srt l (i + 1)
  simp only [allF]
  split
  ·refine ⟨List.pairwise_cons.2 ⟨fun q hq => ?_, ih.1⟩, fun q hq => ?_⟩
   ·have := ih.2 q hq
    omega
   ·rcases List.mem_cons.1 hq with rfl | hq
    ·exact Int.le_refl _
    ·have := ih.2 q hq
     omega
  ·exact ⟨ih.1, fun q hq => by have := ih.2 q hq; omega⟩
theorem all_srt (l : List Int) : (all l).Pairwise (· < ·) := (allF_srt l 0).1
theorem dec_len (l : List Int) (i : Int) : (dec l i).length = l.length := by simp [dec]
theorem idx_some {p : Int → Bool} {l : List Int} (h : 0 ≤ idx p l) : (idx p l).toNat < l.length ∧ p (l.getD (idx p l).toNat default) = true ∧ ∀ j, j < (idx p l).toNat → p (l.getD j default) = false := by
 unfold idx at *
 split at h
 ·rename_i hl
  rw [if_pos hl]
  refine ⟨by simpa using hl, ?_, ?_⟩
  ·have := List.findIdx_getElem (w := hl)
   simpa [hl] using this
  ·intro j hj
   have hj' : j < l.findIdx p := by simpa using hj
   have := List.not_of_lt_findIdx hj'
   simpa [Nat.lt_trans hj' hl] using this
 ·omega
theorem idx_none {p : Int → Bool} {l : List Int} (h : ¬ 0 ≤ idx p l) : ∀ x ∈ l, p x = false := by
 unfold idx at h
 split at h
 ·omega
 ·rename_i hl
  intro x hx
  have := List.findIdx_eq_length.1 (Nat.le_antisymm List.findIdx_le_length (Nat.not_lt.1 hl)) x hx
  simpa using this
/-- The next one round. -/
theorem round_ok {a : List Int} {last : Int} (hs : a.Pairwise (· < ·)) (h0 : ∀ q ∈ a, 0 ≤ q) (hn : a ≠ []) (hl : -1 ≤ last) : round a last ∈ a ∧ ((last < round a last ∧ ∀ j ∈ a, last < j → round a last ≤ j) ∨ ((∀ j ∈ a, j ≤ last) ∧ ∀ j ∈ a, round a last ≤ j)) := by
 have hpos : 0 < a.length := List.length_pos_iff.2 hn
 have hle : ∀ i j, (hij : i ≤ j) → (hj : j < a.length) → a[i]'(by omega) ≤ a[j] := fun i j hij hj => by
  rcases Nat.lt_or_eq_of_le hij with h | rfl
  ·have := List.pairwise_iff_getElem.1 hs i j (by omega) hj h
   omega
  ·exact Int.le_refl _
 have first : ∀ j ∈ a, a.getD 0 default ≤ j := fun j hj => by
  obtain ⟨i, hi, rfl⟩ := List.getElem_of_mem hj
  have := hle 0 i (by omega) hi
  simpa [hpos] using this
 have m0 : a.getD 0 default ∈ a := by simp [hpos]
 unfold round
 split
 ·rename_i h
  obtain ⟨h1, h2, h3⟩ := idx_some h.1
  generalize (idx (fun i => decide (last < i)) a).toNat = k at *
  refine ⟨by simp [h1], .inl ⟨by simpa using h2, fun j hj hlt => ?_⟩⟩
  obtain ⟨i, hi, rfl⟩ := List.getElem_of_mem hj
  by_cases e : i < k
  ·have := h3 i e
   simp [hi] at this
   omega
  ·have := hle k i (by omega) hi
   simpa [h1] using this
 ·rename_i h
  refine ⟨m0, ?_⟩
  by_cases hlast : 0 ≤ last
  ·have hx := idx_none (fun x => h ⟨x, hlast⟩)
   exact .inr ⟨fun j hj => by have := hx j hj; simpa using this, first⟩
  ·exact .inl ⟨by have := h0 _ m0; omega, fun j hj _ => first j hj⟩
theorem getD_mem {l : List Int} {i : Nat} (h : i < l.length) : l.getD i default ∈ l := by
 rw [List.getD_eq_getElem?_getD, List.getElem?_eq_getElem h]
 exact List.getElem_mem h
theorem next_none {picks left : List Int} {step last : Int} (h : next picks step left last < 0) : all left = [] := by
 unfold next at h
 split at h
 ·rename_i hl; exact List.length_eq_zero_iff.1 hl
 ·rename_i hl
  exfalso
  have hmem : ∀ q ∈ all left, 0 ≤ q := fun q hq => (mem_all.1 hq).1
  have hpos : 0 < (all left).length := by omega
  split at h
  ·have := pk_bd (c := picks.getD step.toNat default) (n := (all left).length) (by omega)
   have hi : (pk (picks.getD step.toNat default) (all left).length).toNat < (all left).length := by omega
   have := hmem _ (getD_mem hi)
   omega
  ·unfold round at h
   split at h
   ·rename_i hk
    have hi := (idx_some hk.1).1
    have := hmem _ (getD_mem hi)
    omega
   ·have := hmem _ (getD_mem hpos)
    omega
theorem next_mem {picks left : List Int} {step last : Int} (h : ¬ next picks step left last < 0) : next picks step left last ∈ all left := by
 unfold next at *
 split at h
 ·exact absurd (by omega) h
 ·rename_i hl
  rw [if_neg hl]
  have hpos : 0 < (all left).length := by omega
  split
  ·have := pk_bd (c := picks.getD step.toNat default) (n := (all left).length) (by omega)
   have hi : (pk (picks.getD step.toNat default) (all left).length).toNat < (all left).length := by omega
   exact getD_mem hi
  ·unfold round
   split
   ·rename_i hk
    exact getD_mem (idx_some hk.1).1
   ·exact getD_mem hpos
theorem next_ok {picks left : List Int} {step last : Int} (h : ¬ next picks step left last < 0) : 0 ≤ next picks step left last ∧ next picks step left last < left.length ∧ 0 < left.getD (next picks step left last).toNat default := mem_all.1 (next_mem h)
end R11
end Go.GL


namespace Go.GL
/-! ### Turns: who is next, one behind the other -/
namespace R11
def tot (l : List Int) : Nat := (l.map Int.toNat).sum
def Nn (l : List Int) : Prop := ∀ x ∈ l, 0 ≤ x
theorem Nn.at {l : List Int} (h : Nn l) (i : Nat) : 0 ≤ l.getD i default := by
 by_cases hi : i < l.length
 ·exact h _ (getD_mem hi)
 ·rw [List.getD_eq_getElem?_getD, List.getElem?_eq_none (by omega)]; exact Int.le_refl _
theorem tot_set : ∀ (l : List Int) (i : Nat), i < l.length → 0 < l.getD i default → tot (l.set i (l.getD i default - 1)) + 1 = tot l
 | [], i, h, _ => absurd h (by simp)
 | x :: l, 0, _, h => by
  simp only [List.getD_cons_zero] at h
  simp only [List.set_cons_zero, List.getD_cons_zero, tot, List.map_cons, List.sum_cons]
  omega
 | x :: l, i + 1, h, h2 => by
  have := tot_set l i (by simpa using h) (by simpa using h2)
  simp only [List.set_cons_succ, List.getD_cons_succ, tot, List.map_cons, List.sum_cons] at this ⊢
  omega
theorem dec_tot {l : List Int} {i : Int} (h : 0 ≤ i ∧ i < l.length ∧ 0 < l.getD i.toNat default) : tot (dec l i) + 1 = tot l := tot_set l i.toNat (by omega) h.2.2
theorem dec_nn {l : List Int} (hl : Nn l) {i : Int} (h : 0 ≤ i ∧ i < l.length ∧ 0 < l.getD i.toNat default) : Nn (dec l i) := by
 intro x hx
 unfold dec at hx
 rcases List.mem_or_eq_of_mem_set hx with hx | rfl
 ·exact hl x hx
 ·omega
theorem dec_get {l : List Int} {i : Int} (h : 0 ≤ i ∧ i < l.length) (w : Nat) : (dec l i).getD w default = if (w : Int) = i then l.getD w default - 1 else l.getD w default := by
 unfold dec
 rw [List.getD_eq_getElem?_getD, List.getElem?_set, List.getD_eq_getElem?_getD]
 by_cases e : i.toNat = w
 ·subst e
  rw [if_pos rfl, if_pos (by omega), if_pos (by omega)]
  rfl
 ·rw [if_neg e, if_neg (by omega), List.getD_eq_getElem?_getD]
/-- The turns go on from the i-th one, with so much left, behind the last one. -/
structure Go (picks l : List Int) (i : Nat) (now : List Int) (last : Int) : Prop where
 run : l.drop i = turnsF picks (100000 - i) i now last
 nn : Nn now
 lim : tot now + i < 100000
theorem Go.start {picks left : List Int} (h : Nn left) (ht : tot left < 100000) : Go picks (turns picks left) 0 left (-1) := ⟨rfl, h, by omega⟩
theorem drop_getD {l : List Int} {i : Nat} (h : i < l.length) : l.drop i = l.getD i default :: l.drop (i + 1) := by
 rw [List.drop_eq_getElem_cons h]; simp [h]
theorem Go.step {picks l now : List Int} {i : Nat} {last : Int} (h : Go picks l i now last) (hi : i < l.length) :
  next picks i now last = l.getD i default ∧ (0 ≤ l.getD i default ∧ l.getD i default < now.length ∧ 0 < now.getD (l.getD i default).toNat default) ∧ Go picks l (i + 1) (dec now (l.getD i default)) (l.getD i default) := by
 have hr := h.run
 have hl := h.lim
 obtain ⟨f, hf⟩ : ∃ f, 100000 - i = f + 1 := ⟨100000 - i - 1, by omega⟩
 rw [hf, drop_getD hi] at hr
 unfold turnsF at hr
 split at hr
 ·cases hr
 ·rename_i hn
  injection hr with h1 h2
  have hok := next_ok hn
  rw [h1]
  refine ⟨rfl, hok, ?_, dec_nn h.nn hok, ?_⟩
  ·rw [h2, show 100000 - (i + 1) = f by omega]
  ·have := dec_tot hok
   omega
/-- How often a worker has had its turn. -/
def cnt (l : List Int) (i : Nat) (w : Int) : Nat := ((l.take i).filter fun x => decide (x = w)).length
theorem cnt_zero (l : List Int) (w : Int) : cnt l 0 w = 0 := rfl
theorem cnt_succ {l : List Int} {i : Nat} (hi : i < l.length) (w : Int) : cnt l (i + 1) w = cnt l i w + if l.getD i default = w then 1 else 0 := by
 unfold cnt
 rw [List.take_succ_eq_append_getElem hi, List.filter_append, List.length_append, show l.getD i default = l[i] by simp [hi]]
 by_cases e : l[i] = w <;> simp [e]
/-- What is left of each. -/
structure Had (left l : List Int) (i : Nat) (now : List Int) : Prop where
 len : now.length = left.length
 had : ∀ w : Nat, now.getD w default + cnt l i w = left.getD w default
theorem Had.start (left l : List Int) : Had left l 0 left := ⟨rfl, fun w => by rw [cnt_zero]; omega⟩
theorem Had.step {left l now : List Int} {i : Nat} (h : Had left l i now) (hi : i < l.length) (hk : 0 ≤ l.getD i default ∧ l.getD i default < now.length) : Had left l (i + 1) (dec now (l.getD i default)) := by
 refine ⟨by rw [dec_len, h.len], fun w => ?_⟩
 have := h.had w
 rw [dec_get hk, cnt_succ hi]
 by_cases e : (w : Int) = l.getD i default
 ·rw [if_pos e, if_pos e.symm]; omega
 ·rw [if_neg e, if_neg (Ne.symm e)]; omega
/-! #### none waits long -/
/-- How far it is from the last one on to another, round. -/
def far (n : Nat) (last w : Int) : Int := if last < w then w - last else w - last + n
theorem far_bd {n : Nat} {last w : Int} (h1 : -1 ≤ last) (h2 : last < n) (h3 : 0 ≤ w) (h4 : w < n) : 1 ≤ far n last w ∧ far n last w ≤ n := by unfold far; split <;> omega
theorem far_next {now : List Int} {last w : Int} (h1 : -1 ≤ last) (h2 : last < now.length) (hw : w ∈ all now) (hne : round (all now) last ≠ w) : far now.length (round (all now) last) w + 1 ≤ far now.length last w := by
 have hb := mem_all.1 hw
 have hne' : all now ≠ [] := fun e => by rw [e] at hw; cases hw
 obtain ⟨hm, h | h⟩ := round_ok (all_srt now) (fun q hq => (mem_all.1 hq).1) hne' h1
 ·have hmb := mem_all.1 hm
  have := h.2 w hw
  unfold far
  split <;> split <;> omega
 ·have hmb := mem_all.1 hm
  have := h.1 w hw
  have := h.2 w hw
  unfold far
  split <;> split <;> omega
theorem next_round {picks now : List Int} {i : Nat} {last : Int} (hi : picks.length ≤ i) (hn : ¬ next picks i now last < 0) : next picks i now last = round (all now) last := by
 unfold next at *
 split at hn
 ·exact absurd (by omega) hn
 ·rename_i h
  rw [if_neg h, if_neg (by omega)]
/-! #### workers go round -/
/-- All that are left have had as many turns, but that those behind the last one have had one less. -/
structure Rnd (l now : List Int) (i : Nat) (last : Int) (r : Nat) : Prop where
 le : ∀ w : Nat, cnt l i w ≤ r
 hi : ∀ w : Nat, 0 < now.getD w default → (w : Int) ≤ last → cnt l i w = r
 lo : ∀ w : Nat, 0 < now.getD w default → last < (w : Int) → cnt l i w + 1 = r
 lb : -1 ≤ last
theorem Rnd.step {l now : List Int} {i r : Nat} {last : Int} (h : Rnd l now i last r) (hi : i < l.length) (hk : l.getD i default = round (all now) last) (hne : all now ≠ []) : ∃ r', Rnd l (dec now (l.getD i default)) (i + 1) (l.getD i default) r' := by
 have hr := round_ok (all_srt now) (fun q hq => (mem_all.1 hq).1) hne h.lb
 rw [← hk] at hr
 obtain ⟨hm, hr⟩ := hr
 have hmb := mem_all.1 hm
 have hk2 : 0 ≤ l.getD i default ∧ l.getD i default < now.length := ⟨hmb.1, hmb.2.1⟩
 have live : ∀ w : Nat, 0 < (dec now (l.getD i default)).getD w default → 0 < now.getD w default := fun w hw => by
  rw [dec_get hk2] at hw
  split at hw <;> omega
 have mem : ∀ w : Nat, 0 < now.getD w default → (w : Int) ∈ all now := fun w hw => by
  have hlt : w < now.length := by
   apply Decidable.byContradiction
   intro hx
   rw [List.getD_eq_getElem?_getD, List.getElem?_eq_none (by omega)] at hw
   exact absurd hw (by decide)
  exact mem_all.2 ⟨by omega, by omega, by simpa using hw⟩
 generalize hkk : l.getD i default = k at *
 have hkn : ((k.toNat : Nat) : Int) = k := by omega
 have hkc : 0 < now.getD k.toNat default := hmb.2.2
 have ck := cnt_succ hi
 rw [hkk] at ck
 rcases hr with hr | hr
 ·refine ⟨r, ⟨fun w => ?_, fun w hw hle => ?_, fun w hw hlt => ?_, by omega⟩⟩
  ·rw [ck]
   have := h.le w
   split
   ·rename_i e
    have h1 := h.lo w (by rw [show w = k.toNat by omega]; exact hkc) (by omega)
    omega
   ·omega
  ·rw [ck]
   have hl := live w hw
   split
   ·rename_i e
    have h1 := h.lo w hl (by omega)
    omega
   ·rename_i e
    by_cases hlast : (w : Int) ≤ last
    ·exact h.hi w hl hlast
    ·have := hr.2 w (mem w hl) (by omega)
     omega
  ·rw [ck]
   have hl := live w hw
   rw [if_neg (by omega)]
   exact h.lo w hl (by omega)
 ·refine ⟨r + 1, ⟨fun w => ?_, fun w hw hle => ?_, fun w hw hlt => ?_, by omega⟩⟩
  ·rw [ck]
   have := h.le w
   split <;> omega
  ·rw [ck]
   have hl := live w hw
   have h1 := hr.1 w (mem w hl)
   have h2 := hr.2 w (mem w hl)
   have h3 := h.hi w hl h1
   rw [if_pos (by omega)]
   omega
  ·rw [ck]
   have hl := live w hw
   have h1 := hr.1 w (mem w hl)
   have h3 := h.hi w hl h1
   rw [if_neg (by omega)]
   omega
theorem Rnd.start (l left : List Int) : Rnd l left 0 (-1) 1 := ⟨fun w => by rw [cnt_zero]; omega, fun w _ h => by omega, fun w _ _ => by rw [cnt_zero], by omega⟩
end R11
end Go.GL


namespace Go.GL
namespace R11
/-! #### none waits longer than for as many turns as there are workers -/
structure Wt (picks left l : List Int) (w : Nat) (i : Nat) (now : List Int) (last waits : Int) : Prop where
 go : Go picks l i now last
 hd : Had left l i now
 lb : -1 ≤ last
 ub : last < left.length
 w0 : 0 ≤ waits
 wn : waits ≤ left.length
 fr : 0 < now.getD w default → waits + far left.length last w ≤ left.length
 zr : i ≤ picks.length → waits = 0
theorem getD_pos {l : List Int} {w : Nat} (h : 0 < l.getD w default) : w < l.length := by
 apply Decidable.byContradiction
 intro hx
 rw [List.getD_eq_getElem?_getD, List.getElem?_eq_none (by omega)] at h
 exact absurd h (by decide)
theorem Wt.start {picks left : List Int} (h : Nn left) (ht : tot left < 100000) (w : Nat) : Wt picks left (turns picks left) w 0 left (-1) 0 :=
 ⟨Go.start h ht, Had.start _ _, by omega, by omega, by omega, by omega, fun hw => by
  have := getD_pos hw
  unfold far
  split <;> omega, fun _ => rfl⟩
theorem Wt.step {picks left l now : List Int} {w i : Nat} {last waits : Int} (h : Wt picks left l w i now last waits) (hi : i < l.length) :
  ∃ now' last', (l.getD i default = w → Wt picks left l w (i + 1) now' last' 0) ∧
   (l.getD i default ≠ w → picks.length ≤ i → (cnt l i w : Int) < left.getD w default → Wt picks left l w (i + 1) now' last' (waits + 1)) ∧
   (l.getD i default ≠ w → ¬ (picks.length ≤ i ∧ (cnt l i w : Int) < left.getD w default) → Wt picks left l w (i + 1) now' last' waits) := by
 obtain ⟨hnx, hok, hg⟩ := h.go.step hi
 have hh := h.hd.step hi ⟨hok.1, hok.2.1⟩
 have hlen := h.hd.len
 have hlast : last < now.length := by rw [hlen]; exact h.ub
 have hw0 := h.w0
 have hdec : ∀ hne : l.getD i default ≠ w, (dec now (l.getD i default)).getD w default = now.getD w default := fun hne => by
  rw [dec_get ⟨hok.1, hok.2.1⟩, if_neg (fun e => hne e.symm)]
 have hnow : ∀ hc : 0 < now.getD w default, (cnt l i w : Int) < left.getD w default := fun hc => by
  have := h.hd.had w
  omega
 refine ⟨dec now (l.getD i default), l.getD i default, fun e => ?_, fun hne hp hc => ?_, fun hne hc => ?_⟩
 ·refine ⟨hg, hh, by omega, by omega, by omega, by omega, fun hw => ?_, fun _ => rfl⟩
  rw [e]
  unfold far
  split <;> omega
 ·have hpos : 0 < now.getD w default := by
   have := h.hd.had w
   omega
  have hf := h.fr hpos
  have hwl := getD_pos hpos
  have hm : (w : Int) ∈ all now := mem_all.2 ⟨by omega, by omega, by simpa using hpos⟩
  have hr := next_round (picks := picks) (now := now) (last := last) hp (by rw [hnx]; omega)
  rw [hnx] at hr
  have hfar := far_next h.lb hlast hm (by rw [← hr]; exact hne)
  rw [← hr, hlen] at hfar
  have hb := far_bd (n := left.length) (last := l.getD i default) (w := w) (by omega) (by omega) (by omega) (by omega)
  refine ⟨hg, hh, by omega, by omega, by omega, by omega, fun _ => by omega, fun hp2 => by omega⟩
 ·refine ⟨hg, hh, by omega, by omega, h.w0, h.wn, fun hw => ?_, fun hp2 => h.zr (by omega)⟩
  rw [hdec hne] at hw
  have h1 := hnow hw
  have h2 := h.zr (by omega)
  have hwl := getD_pos hw
  have hb := far_bd (n := left.length) (last := l.getD i default) (w := w) (by omega) (by omega) (by omega) (by omega)
  omega
/-! #### workers go round -/
/-! #### each order is told by some picks -/
def rank : List Int → Nat → Nat
 | [], _ => 0
 | _ :: _, 0 => 0
 | n :: l, t + 1 => (if 0 < n then 1 else 0) + rank l t
/-- How many turns each of n workers has from the i-th one on. -/
def nowAt (n : Nat) (T : List Int) (i : Nat) : List Int := (List.range n).map fun (k : Nat) => (((T.drop i).filter fun x => decide (x = (k : Int))).length : Int)
def picksAt (n : Nat) (T : List Int) (i : Nat) : List Int := (List.range i).map fun j => (rank (nowAt n T j) (T.getD j default).toNat : Int)
/-! #### a worker without steps -/
def ins (l : List Int) (k : Nat) : List Int := l.take k ++ 0 :: l.drop k
def sh (k : Nat) (x : Int) : Int := if (k : Int) ≤ x then x + 1 else x
end R11
end Go.GL


namespace Go.GL
theorem nodup_le {α : Type} [DecidableEq α] : ∀ (a b : List α), a.Nodup → (∀ x ∈ a, x ∈ b) → a.length ≤ b.length
 | [], _, _, _ => Nat.zero_le _
 | x :: a, b, hn, hs => by
  obtain ⟨h1, h2⟩ := List.nodup_cons.1 hn
  have hx := hs x List.mem_cons_self
  have h3 := nodup_le a (b.erase x) h2 fun y hy => by
   have : y ≠ x := fun e => h1 (e ▸ hy)
   exact (List.mem_erase_of_ne this).2 (hs y (List.mem_cons_of_mem _ hy))
  have h4 := List.length_erase_of_mem hx
  have h5 : 0 < b.length := List.length_pos_of_mem hx
  rw [List.length_cons]
  omega
/-- The numbers below n. -/
def upto (n : Nat) : List Int := (List.range n).map fun (i : Nat) => (i : Int)
theorem mem_upto {n : Nat} {x : Int} : x ∈ upto n ↔ 0 ≤ x ∧ x < n := by
 unfold upto
 rw [List.mem_map]
 constructor
 ·rintro ⟨i, hi, rfl⟩
  have := List.mem_range.1 hi
  omega
 ·intro h
  exact ⟨x.toNat, List.mem_range.2 (by omega), by omega⟩
theorem upto_nd (n : Nat) : (upto n).Nodup := by
 unfold upto
 rw [List.Nodup, List.pairwise_map]
 exact (List.nodup_range (n := n)).imp fun h e => h (by omega)
theorem upto_len (n : Nat) : (upto n).length = n := by simp [upto]
namespace R19
variable {p v : List Int}
/-! ### Kids -/
theorem mem_kids {t : Nat} {x : Int} : x ∈ kids p t ↔ 0 ≤ x ∧ x < p.length ∧ p.getD x.toNat default = (t : Int) := by
 unfold kids kidsTo
 rw [List.mem_map]
 constructor
 ·rintro ⟨i, hi, rfl⟩
  obtain ⟨h1, h2⟩ := List.mem_filter.1 hi
  have := List.mem_range.1 h1
  exact ⟨by omega, by omega, of_decide_eq_true h2⟩
 ·rintro ⟨h0, h1, h2⟩
  exact ⟨x.toNat, List.mem_filter.2 ⟨List.mem_range.2 (by omega), decide_eq_true h2⟩, by omega⟩
theorem kids_nd (p : List Int) (t : Nat) : (kids p t).Nodup := by
 unfold kids kidsTo
 rw [List.Nodup, List.pairwise_map]
 exact ((List.nodup_range (n := p.length)).filter _).imp fun h e => h (by omega)
theorem kid_gt (hr : right p) {t : Nat} {x : Int} (h : x ∈ kids p t) : (t : Int) < x := by
 obtain ⟨h0, h1, h2⟩ := mem_kids.1 h
 obtain ⟨h3, h4⟩ := hr.2 x.toNat (by omega)
 by_cases e : x.toNat = 0
 ·have := h3 e
  omega
 ·have := h4 (by omega)
  omega
theorem par_lt (hr : right p) {x : Nat} (h : x < p.length) : p.getD x default < (x : Int) ∧ -1 ≤ p.getD x default ∧ (p.getD x default < 0 ↔ x = 0) := by
 obtain ⟨h3, h4⟩ := hr.2 x h
 by_cases e : x = 0
 ·have := h3 e
  omega
 ·have := h4 (by omega)
  omega
/-! ### Deques -/
theorem flat_set {D : List (List Int)} {k : Nat} (h : k < D.length) : ∃ r, D.flatten.Perm (D.getD k default ++ r) ∧ ∀ l, (D.set k l).flatten.Perm (l ++ r) := by
 refine ⟨(D.take k).flatten ++ (D.drop (k + 1)).flatten, ?_, fun l => ?_⟩
 ·have e : D = D.take k ++ D.getD k default :: D.drop (k + 1) := by
   have e1 : D.getD k default = D[k] := by simp [h]
   rw [e1, ← List.drop_eq_getElem_cons h, List.take_append_drop]
  have e2 : D.flatten = (D.take k).flatten ++ (D.getD k default ++ (D.drop (k + 1)).flatten) := by
   conv => lhs; rw [e]
   rw [List.flatten_append, List.flatten_cons]
  rw [e2, ← List.append_assoc, ← List.append_assoc]
  exact List.Perm.append_right _ List.perm_append_comm
 ·rw [List.set_eq_take_append_cons_drop, if_pos h, List.flatten_append, List.flatten_cons, ← List.append_assoc, ← List.append_assoc]
  exact List.Perm.append_right _ List.perm_append_comm
theorem findF_none {D : List (List Int)} {w : Nat} : ∀ (f j : Nat), findF D w f j = none → ∀ i, j ≤ i → i < j + f → (D.getD ((w + i) % D.length) default).length = 0
 | 0, j, _, i, h1, h2 => by omega
 | f + 1, j, h, i, h1, h2 => by
  unfold findF at h
  split at h
  ·rename_i h0
   by_cases e : i = j
   ·rw [e]; exact h0
   ·exact findF_none f (j + 1) h i (by omega) (by omega)
  ·exact nomatch h
theorem findF_lt' {D : List (List Int)} {w : Nat} (h0 : 0 < D.length) : ∀ (f j : Nat) {k : Nat}, findF D w f j = some k → k < D.length ∧ 0 < (D.getD k default).length
 | 0, _, _, h => nomatch h
 | f + 1, j, k, h => by
  unfold findF at h
  split at h
  ·exact findF_lt' h0 f (j + 1) h
  ·rename_i h1
   injection h with h
   subst h
   exact ⟨Nat.mod_lt _ h0, by omega⟩
/-- What is taken, and what is left: all that there was. -/
theorem takeM_perm {D : List (List Int)} {w : Nat} (hw : w < D.length) (hn : D.flatten ≠ []) : D.flatten.Perm ((takeM D w).1 :: (takeM D w).2.flatten) ∧ (takeM D w).2.length = D.length := by
 unfold takeM
 split
 ·rename_i h
  obtain ⟨r, h1, h2⟩ := flat_set hw
  refine ⟨?_, by rw [List.length_set]⟩
  refine h1.trans (List.Perm.trans ?_ ((h2 _).symm.cons _))
  generalize D.getD w default = l at *
  have e : l.take (l.length - 1) ++ [l.getD (l.length - 1) default] = l := by
   have e1 : l.getD (l.length - 1) default = l[l.length - 1]'(by omega) := by rw [List.getD_eq_getElem?_getD, List.getElem?_eq_getElem (by omega)]; rfl
   rw [e1]
   have e2 := List.take_append_getElem (l := l) (i := l.length - 1) (by omega)
   rw [e2, List.take_of_length_le (by omega)]
  show (l ++ r).Perm (l.getD (l.length - 1) default :: (l.take (l.length - 1) ++ r))
  conv => lhs; rw [← e]
  rw [List.append_assoc]
  exact List.perm_middle
 ·split
  ·rename_i k hk
   obtain ⟨h3, h4⟩ := findF_lt' (by omega) _ _ hk
   obtain ⟨r, h1, h2⟩ := flat_set h3
   refine ⟨?_, by rw [List.length_set]⟩
   refine h1.trans (List.Perm.trans ?_ ((h2 _).symm.cons _))
   generalize D.getD k default = l at *
   match l, h4 with
   | x :: l, _ => exact List.Perm.refl _
  ·rename_i h hk
   exfalso
   apply hn
   rw [List.flatten_eq_nil_iff]
   intro l hl
   obtain ⟨i, hi, rfl⟩ := List.getElem_of_mem hl
   apply List.eq_nil_of_length_eq_zero
   by_cases hiw : w ≤ i
   ·have := findF_none _ _ hk (i - w) (by omega) (by omega)
    rw [show w + (i - w) = i by omega, Nat.mod_eq_of_lt hi] at this
    simpa [hi] using this
   ·have := findF_none _ _ hk (i + D.length - w) (by omega) (by omega)
    rw [show w + (i + D.length - w) = i + D.length by omega, Nat.add_mod_right, Nat.mod_eq_of_lt hi] at this
    simpa [hi] using this
/-! ### The machine of deques -/
/-- Who is next. -/
def nxt (picks : List Int) (nw n : Nat) (last : Int) : Int := R11.next picks n (List.replicate nw 1) last
theorem nxt_ok {picks : List Int} {nw n : Nat} {last : Int} (h : 1 ≤ nw) : 0 ≤ nxt picks nw n last ∧ nxt picks nw n last < nw := by
 have hne : ¬ R11.next picks n (List.replicate nw 1) last < 0 := fun h1 => by
  have h2 := R11.next_none h1
  have : (0 : Int) ∈ R11.all (List.replicate nw 1) := R11.mem_all.2 ⟨by omega, by rw [List.length_replicate]; omega, by
   rw [List.getD_eq_getElem?_getD, List.getElem?_replicate, if_pos (by exact h)]; decide⟩
  rw [h2] at this
  exact nomatch this
 obtain ⟨h1, h2, _⟩ := R11.next_ok hne
 rw [List.length_replicate] at h2
 exact ⟨h1, h2⟩
structure Mc where
 D : List (List Int)
 order : List Int
 who : List Int
 last : Int
def mstep (p picks : List Int) (nw : Nat) (m : Mc) : Mc :=
 { D := (takeM m.D (nxt picks nw m.order.length m.last).toNat).2.set (nxt picks nw m.order.length m.last).toNat ((takeM m.D (nxt picks nw m.order.length m.last).toNat).2.getD (nxt picks nw m.order.length m.last).toNat default ++ kids p (takeM m.D (nxt picks nw m.order.length m.last).toNat).1.toNat), order := m.order ++ [(takeM m.D (nxt picks nw m.order.length m.last).toNat).1], who := m.who ++ [nxt picks nw m.order.length m.last], last := nxt picks nw m.order.length m.last }
def mst (p picks : List Int) (nw : Nat) : Nat → Mc
 | 0 => ⟨[0] :: List.replicate (nw - 1) [], [], [], -1⟩
 | n + 1 => mstep p picks nw (mst p picks nw n)
/-- What is known of the machine. -/
structure MOk (p : List Int) (nw n : Nat) (m : Mc) : Prop where
 dl : m.D.length = nw
 ol : m.order.length = n
 wl : m.who.length = n
 nd : (m.order ++ m.D.flatten).Nodup
 mem : ∀ t : Int, t ∈ m.order ++ m.D.flatten ↔ (0 ≤ t ∧ t < p.length ∧ (t = 0 ∨ p.getD t.toNat default ∈ m.order))
 who : ∀ w ∈ m.who, 0 ≤ w ∧ w < nw
theorem MOk.all_le {nw n : Nat} {m : Mc} (h : MOk p nw n m) : (m.order ++ m.D.flatten).length ≤ p.length := by
 have := nodup_le _ (upto p.length) h.nd fun x hx => mem_upto.2 ⟨((h.mem x).1 hx).1, ((h.mem x).1 hx).2.1⟩
 rwa [upto_len] at this
/-- No deque has a task: all are run. -/
theorem MOk.full {nw n : Nat} {m : Mc} (hr : right p) (h : MOk p nw n m) (e : m.D.flatten = []) : ∀ t : Nat, t < p.length → (t : Int) ∈ m.order := by
 have hm := h.mem
 rw [e, List.append_nil] at hm
 intro t
 induction t using Nat.strongRecOn with
 | _ t ih =>
  intro ht
  refine (hm t).2 ⟨by omega, by omega, ?_⟩
  obtain ⟨h1, h2, h3⟩ := par_lt hr ht
  by_cases e0 : t = 0
  ·exact .inl (by omega)
  ·right
   have := ih (p.getD t default).toNat (by omega) (by omega)
   rw [Int.toNat_natCast]
   rwa [Int.toNat_of_nonneg (by omega)] at this
/-- All tasks are run behind so many steps. -/
theorem MOk.done {nw : Nat} {m : Mc} (hr : right p) (h : MOk p nw p.length m) : ∀ t : Nat, t < p.length → (t : Int) ∈ m.order := by
 have h1 := h.all_le
 rw [List.length_append, h.ol] at h1
 exact h.full hr (List.eq_nil_of_length_eq_zero (by omega))
/-- While a task is not run, some deque is not empty. -/
theorem MOk.busy {nw n : Nat} {m : Mc} (hr : right p) (h : MOk p nw n m) (hn : n < p.length) : m.D.flatten ≠ [] := by
 intro e
 have hall := h.full hr e
 have := nodup_le (upto p.length) m.order (upto_nd _) fun x hx => by
  obtain ⟨h1, h2⟩ := mem_upto.1 hx
  have := hall x.toNat (by omega)
  rwa [Int.toNat_of_nonneg h1] at this
 rw [upto_len, h.ol] at this
 omega
theorem MOk.start (hr : right p) {picks : List Int} {nw : Nat} (h : 1 ≤ nw) : MOk p nw 0 (mst p picks nw 0) := by
 have e : (mst p picks nw 0).D.flatten = [0] := by
  show ([0] :: List.replicate (nw - 1) ([] : List Int)).flatten = [0]
  rw [List.flatten_cons, List.flatten_replicate_nil]
  rfl
 have hn := hr.1.1
 refine ⟨?_, rfl, rfl, ?_, fun t => ?_, fun w hw => nomatch hw⟩
 ·show ([0] :: List.replicate (nw - 1) ([] : List Int)).length = nw
  rw [List.length_cons, List.length_replicate]
  omega
 ·rw [e]; exact List.pairwise_singleton _ _
 ·rw [e]
  show t ∈ [(0 : Int)] ↔ _ ∧ _ ∧ (_ ∨ _ ∈ ([] : List Int))
  simp only [List.mem_singleton, List.not_mem_nil, or_false]
  omega
/-- What a step takes. -/
theorem MOk.take {nw n : Nat} {m : Mc} (hr : right p) (h : MOk p nw n m) (hn : n < p.length) {w : Nat} (hw : w < nw) :
  ∃ T : Nat, (takeM m.D w).1 = (T : Int) ∧ T < p.length ∧ (T : Int) ∉ m.order ∧ (T = 0 ∨ p.getD T default ∈ m.order) ∧ m.D.flatten.Perm ((T : Int) :: (takeM m.D w).2.flatten) ∧ (takeM m.D w).2.length = nw := by
 obtain ⟨h1, h2⟩ := takeM_perm (D := m.D) (w := w) (by rw [h.dl]; exact hw) (h.busy hr hn)
 have h3 : (takeM m.D w).1 ∈ m.D.flatten := h1.mem_iff.2 List.mem_cons_self
 obtain ⟨h4, h5, h6⟩ := (h.mem _).1 (List.mem_append_right _ h3)
 have h7 : (takeM m.D w).1 ∉ m.order := fun hc => (List.nodup_append.1 h.nd).2.2 _ hc _ h3 rfl
 obtain ⟨T, hT⟩ : ∃ T : Nat, (takeM m.D w).1 = (T : Int) := ⟨(takeM m.D w).1.toNat, by omega⟩
 rw [hT] at h4 h5 h6 h7 h1
 exact ⟨T, hT, by omega, h7, h6.imp (by omega) fun h => by rwa [Int.toNat_natCast] at h, h1, by rw [h2, h.dl]⟩
theorem MOk.step {nw n : Nat} {m : Mc} (hr : right p) (h : MOk p nw n m) (hn : n < p.length) (hw : 1 ≤ nw) (picks : List Int) : MOk p nw (n + 1) (mstep p picks nw m) := by
 unfold mstep
 obtain ⟨hx0, hx1⟩ := nxt_ok (picks := picks) (nw := nw) (n := m.order.length) (last := m.last) hw
 obtain ⟨w, ew⟩ : ∃ w : Nat, nxt picks nw m.order.length m.last = (w : Int) := ⟨(nxt picks nw m.order.length m.last).toNat, by omega⟩
 rw [ew] at hx0 hx1 ⊢
 rw [Int.toNat_natCast]
 obtain ⟨T, hT, hTl, hTo, hTp, hp, hl⟩ := h.take hr hn (w := w) (by omega)
 rw [hT, Int.toNat_natCast]
 obtain ⟨r, hr1, hr2⟩ := flat_set (D := (takeM m.D w).2) (k := w) (by omega)
 have hper : (m.order ++ [(T : Int)] ++ ((takeM m.D w).2.set w ((takeM m.D w).2.getD w default ++ kids p T)).flatten).Perm (kids p T ++ (m.order ++ m.D.flatten)) := by
  have e1 : ((takeM m.D w).2.set w ((takeM m.D w).2.getD w default ++ kids p T)).flatten.Perm (kids p T ++ (takeM m.D w).2.flatten) := by
   refine (hr2 _).trans ?_
   rw [List.append_assoc]
   refine List.Perm.trans ?_ (hr1.symm.append_left _)
   rw [← List.append_assoc, ← List.append_assoc]
   exact List.perm_append_comm.append_right _
  refine (e1.append_left _).trans ?_
  rw [List.append_assoc]
  refine List.Perm.trans ?_ ((hp.symm.append_left m.order).append_left (kids p T))
  show (m.order ++ (T : Int) :: (kids p T ++ (takeM m.D w).2.flatten)).Perm (kids p T ++ (m.order ++ ([(T : Int)] ++ (takeM m.D w).2.flatten)))
  have a1 : (m.order ++ (T : Int) :: (kids p T ++ (takeM m.D w).2.flatten)) = (m.order ++ [(T : Int)] ++ kids p T) ++ (takeM m.D w).2.flatten := by simp
  have a2 : (kids p T ++ (m.order ++ ([(T : Int)] ++ (takeM m.D w).2.flatten))) = (kids p T ++ (m.order ++ [(T : Int)])) ++ (takeM m.D w).2.flatten := by simp
  rw [a1, a2]
  exact List.perm_append_comm.append_right _
 have hk0 : ∀ x ∈ kids p T, x ∉ m.order ++ m.D.flatten := fun x hx hc => by
  have hgt := kid_gt hr hx
  obtain ⟨_, _, h3⟩ := mem_kids.1 hx
  obtain ⟨_, _, h6⟩ := (h.mem x).1 hc
  rcases h6 with h6 | h6
  ·omega
  ·rw [h3] at h6
   exact hTo h6
 refine ⟨by rw [List.length_set, hl], by simp [h.ol], by simp [h.wl], ?_, fun t => ?_, fun x hx => ?_⟩
 ·rw [hper.nodup_iff, List.nodup_append]
  exact ⟨kids_nd p T, h.nd, fun a ha b hb e => hk0 a ha (e ▸ hb)⟩
 ·rw [hper.mem_iff, List.mem_append, h.mem t, mem_kids, List.mem_append, List.mem_singleton]
  constructor
  ·rintro (⟨h1, h2, h3⟩ | ⟨h1, h2, h3⟩)
   ·exact ⟨h1, h2, .inr (.inr h3)⟩
   ·exact ⟨h1, h2, h3.imp id .inl⟩
  ·rintro ⟨h1, h2, h3 | h3 | h3⟩
   ·exact .inr ⟨h1, h2, .inl h3⟩
   ·exact .inr ⟨h1, h2, .inr h3⟩
   ·exact .inl ⟨h1, h2, h3⟩
 ·rcases List.mem_append.1 hx with hx | hx
  ·exact h.who x hx
  ·rw [List.mem_singleton] at hx
   omega
theorem MOk.run (hr : right p) {picks : List Int} {nw : Nat} (h : 1 ≤ nw) : ∀ n, n ≤ p.length → MOk p nw n (mst p picks nw n)
 | 0, _ => .start hr h
 | n + 1, hn => (MOk.run hr h n (by omega)).step hr (by omega) h picks
end R19
end Go.GL


namespace Go.GL
/-! ### Shift and Box, as the document has them -/
namespace R1
def mv (dx dy : Int) (c : Cell) : Cell := ⟨c.x + dx, c.y + dy⟩
def shift (l : List Cell) (dx dy : Int) : List Cell × Int :=
 if right l then (if ∀ i, i < l.length → inB (mv dx dy (g l i)) then (l.map (mv dx dy), 0) else ([], 2)) else ([], 1)
def mnC (a b : Cell) : Cell := ⟨if b.x < a.x then b.x else a.x, if b.y < a.y then b.y else a.y⟩
def mxC (a b : Cell) : Cell := ⟨if a.x < b.x then b.x else a.x, if a.y < b.y then b.y else a.y⟩
def lo (l : List Cell) (c : Cell) : Cell := l.foldl mnC c
def hi (l : List Cell) (c : Cell) : Cell := l.foldl mxC c
structure Rect where
 x : Int
 y : Int
 w : Int
 h : Int
 deriving DecidableEq, Inhabited
def box (l : List Cell) : Rect × Bool :=
 if l.length = 0 ∨ ¬ right l then (⟨0, 0, 0, 0⟩, false)
 else (⟨(lo l (g l 0)).x, (lo l (g l 0)).y, (hi l (g l 0)).x - (lo l (g l 0)).x + 1, (hi l (g l 0)).y - (lo l (g l 0)).y + 1⟩, true)
/-- Where the least and greatest are. -/
def bdC (c : Cell) : Prop := -1099511627776 ≤ c.x ∧ c.x ≤ 1099511627776 ∧ -1099511627776 ≤ c.y ∧ c.y ≤ 1099511627776
end R1
end Go.GL


namespace Go.GL
/-! ### What chapter 2's laws do with sets -/
namespace R2
def rot (c : Cell) : Cell := ⟨-c.y, c.x⟩
def rotN : Nat → Cell → Cell
 | 0, c => c
 | n + 1, c => rot (rotN n c)
def flipC (k : Int) (c : Cell) : Cell := if 4 ≤ k then ⟨-c.x, c.y⟩ else c
def turnC (way : Int) (c : Cell) : Cell := rotN ((pk way 8).toNat % 4) (flipC (pk way 8) c)
def turned (way : Int) (l : List Cell) : List Cell := R1.puts (l.map (turnC way))
end R2
end Go.GL


namespace Go.GL
/-! ### Generations of planes: where they stand, how they are turned, what is far apart, how fast they grow -/
namespace R2
open R9 (gen gens pl)
open R8 (b2i)
def shF (p q : Int) (f : Int → Int → Bool) : Int → Int → Bool := fun x y => f (x - p) (y - q)
def rotF (f : Int → Int → Bool) : Int → Int → Bool := fun x y => f y (-x)
def flipF (f : Int → Int → Bool) : Int → Int → Bool := fun x y => f (-x) y
def orF (f g : Int → Int → Bool) : Int → Int → Bool := fun x y => f x y || g x y
def noF : Int → Int → Bool := fun _ _ => false
theorem gen_at (f : Int → Int → Bool) (x y : Int) : gen f x y = lives (f x y) (b2i (f (x - 1) (y - 1)) + b2i (f x (y - 1)) + b2i (f (x + 1) (y - 1)) + b2i (f (x - 1) y) + b2i (f (x + 1) y) + b2i (f (x - 1) (y + 1)) + b2i (f x (y + 1)) + b2i (f (x + 1) (y + 1))) := rfl
theorem gen_sh (p q : Int) (f : Int → Int → Bool) : gen (shF p q f) = shF p q (gen f) := by
 funext x y
 unfold shF
 simp only [gen_at]
 rw [show x - 1 - p = x - p - 1 by omega, show x + 1 - p = x - p + 1 by omega, show y - 1 - q = y - q - 1 by omega, show y + 1 - q = y - q + 1 by omega]
theorem gens_sh (p q : Int) : ∀ (n : Nat) (f : Int → Int → Bool), gens n (shF p q f) = shF p q (gens n f)
 | 0, f => rfl
 | n + 1, f => by
  show gens n (gen (shF p q f)) = _
  rw [gen_sh]
  exact gens_sh p q n (gen f)
def rotFN : Nat → (Int → Int → Bool) → Int → Int → Bool
 | 0, f => f
 | k + 1, f => rotF (rotFN k f)
def turnF (way : Int) (f : Int → Int → Bool) : Int → Int → Bool := rotFN ((pk way 8).toNat % 4) (if 4 ≤ pk way 8 then flipF f else f)
theorem pl_map {l : List Cell} {g h : Cell → Cell} (h1 : ∀ c, h (g c) = c) (h2 : ∀ c, g (h c) = c) (x y : Int) : pl (l.map g) x y = pl l (h ⟨x, y⟩).x (h ⟨x, y⟩).y := by
 unfold pl
 refine decide_eq_decide.2 ?_
 rw [List.mem_map]
 constructor
 ·rintro ⟨c, hc, e⟩
  rw [← e, h1]
  exact hc
 ·intro hc
  exact ⟨h ⟨x, y⟩, hc, h2 _⟩
theorem pl_mv (l : List Cell) (p q : Int) : pl (l.map (R1.mv p q)) = shF p q (pl l) := by
 funext x y
 rw [pl_map (h := fun c => ⟨c.x - p, c.y - q⟩) (fun c => by cases c; simp [R1.mv]) (fun c => by cases c; simp [R1.mv])]
 rfl
end R2
end Go.GL


namespace Go.GL
/-! ### What runs of sets answer -/
namespace R2
open R9 (gen gens pl)
theorem pl_cands {l : List Cell} (h : R1.right l) : pl (R1.puts (cands l)) = gen (pl l) := by
 funext x y
 rw [← live_gen (R1.srt_nodup (R1.right_srt h)) ⟨x, y⟩]
 apply Bool.eq_iff_iff.2
 rw [pl_mem, R1.mem_puts]
 exact ⟨fun hm => (mem_cands.1 hm).1, lives_mem⟩
theorem srt_map {l : List Cell} (h : R1.Srt l) (p q : Int) : R1.Srt (l.map (R1.mv p q)) := by
 unfold R1.Srt at *
 rw [List.pairwise_map]
 refine h.imp fun {a b} hab => ?_
 unfold R1.less R1.mv at *
 simp only
 omega
theorem shift_ok {l : List Cell} {p q : Int} (h : R1.right l) (hb : ∀ c ∈ l, R1.inB (R1.mv p q c)) : R1.shift l p q = (l.map (R1.mv p q), 0) ∧ R1.right (l.map (R1.mv p q)) := by
 refine ⟨?_, R1.right_of (srt_map (R1.right_srt h) p q) (fun c hc => ?_) (by rw [List.length_map]; exact h.2)⟩
 ·unfold R1.shift
  rw [if_pos h, if_pos]
  intro i hi
  refine hb _ ?_
  unfold R1.g
  simp [hi]
 ·obtain ⟨d, hd, rfl⟩ := List.mem_map.1 hc
  exact hb d hd
/-! #### Sixteen by sixteen, behind at most twelve generations: at most 816 cells -/
def octP (x y : Int) : Prop := 2 * x + y ≤ 33 ∧ 2 * x - y ≤ 34 ∧ -2 * x + y ≤ 35 ∧ -2 * x - y ≤ 36 ∧ x + 2 * y ≤ 33 ∧ x - 2 * y ≤ 35 ∧ -x + 2 * y ≤ 34 ∧ -x - 2 * y ≤ 36
instance (x y : Int) : Decidable (octP x y) := inferInstanceAs (Decidable (_ ∧ _))
def octL : List Cell := ((List.range 60).flatMap fun i : Nat => (List.range 60).map fun j : Nat => (⟨(i : Int) - 30, (j : Int) - 30⟩ : Cell)).filter fun c => decide (octP c.x c.y)
end R2
end Go.GL


set_option linter.unusedSimpArgs false
namespace Go.GL
/-! ### 'm[k] += d': an entry is made or found, and written through its stamp -/
/-- As MapA; hh is the stamp of the entry that ks has. -/
def MapE (P : Program) (kt : TypeId) (b : Nat) (es : KVs) (ks : List Int) (hh : Int) : Asrt := fun c => ∃ ents clock, c = [(b, .map ents clock)] ∧ ents.toList.map (fun e => (e.key, e.val)) = es.map (fun p => (mkv P kt p.1, p.2)) ∧ (∀ p ∈ es, ∃ k, intAt P 9 kt = some k ∧ p.1.length = k) ∧ Stm ents clock ∧ ∃ i e v, ents[i]? = some e ∧ (e.born : Int) = hh ∧ mpos es ks 0 = some (i, v)
theorem MapE.a {P : Program} {kt : TypeId} {b : Nat} {es : KVs} {ks : List Int} {hh : Int} {c : List Chunk} (h : MapE P kt b es ks hh c) : MapA P kt b es c := by
 obtain ⟨ents, clock, h1, h2, h3, h4, _⟩ := h
 exact ⟨ents, clock, h1, h2, h3, h4⟩
section
variable {w0 : World} {n : Nat} {F : Frm} {A : List Asrt} {I : List Chunk} {P : Program}
variable {dst : Option Tmp} {ty : TypeId} {pos : String} {af : Array Edge} {gd : Option (Nat × Bool)}
variable {t e kt : TypeId} {d d' : TypeDesc} {s by_ s' by' : Nat} {z z' : List Value} {x y ix : Operand} {b : Nat} {es : KVs} {u : KVs → List Asrt} {k : Nat}
end
end Go.GL


namespace Go.GL
/-! ### How many neighbours cells have, as a map; a cell itself counts ten -/
abbrev NM := List (Cell × Int)
namespace R2
def keyOf (c : Cell) : List Int := [c.x, c.y]
def kvs (nm : NM) : KVs := nm.map fun p => (keyOf p.1, .int .i64 p.2)
def get : NM → Cell → Int
 | [], _ => 0
 | p :: nm, c => if p.1 = c then p.2 else get nm c
def bump : NM → Cell → Int → NM
 | [], c, d => [(c, d)]
 | p :: nm, c, d => if p.1 = c then (c, p.2 + d) :: nm else p :: bump nm c d
/-- The first k of the nine about a cell count one each. -/
def nines (c : Cell) : Nat → NM → NM
 | 0, nm => nm
 | k + 1, nm => bump (nines c k nm) (nb c k) 1
def one (c : Cell) (nm : NM) : NM := bump (nines c 9 nm) c 9
def counts (l : List Cell) : NM := l.foldl (fun nm c => one c nm) []
/-- What lives on of a map of counts. -/
def outOf (p : List Int × Value) : Option Cell :=
 match p with
 | ([x, y], .int .i64 n) => if lives (decide (10 ≤ n)) (n % 10) then some ⟨x, y⟩ else none
 | _ => none
end R2
end Go.GL


namespace Go.GL
namespace R2
open R9 (gen gens pl)
/-! #### Boxes -/
/-- No more than this. -/
structure RBd (r : R1.Rect) : Prop where
 x1 : -1099511627776 ≤ r.x
 x2 : r.x ≤ 1099511627776
 y1 : -1099511627776 ≤ r.y
 y2 : r.y ≤ 1099511627776
 w1 : 0 ≤ r.w
 w2 : r.w ≤ 2199023255553
 h1 : 0 ≤ r.h
 h2 : r.h ≤ 2199023255553
/-! #### Few cells, and how many more there may be -/
def nine (l : List Cell) (c : Cell) : Nat := (l.filter fun d => decide (near c d ∨ d = c)).length
end R2
end Go.GL


namespace Go.GL
namespace R2
open R9 (gen gens pl)
/-! #### Sets put together -/
/-! #### A block and a line -/
def block0 : List Cell := [⟨0, 0⟩, ⟨1, 0⟩, ⟨0, 1⟩, ⟨1, 1⟩]
def line0 : List Cell := [⟨0, 0⟩, ⟨1, 0⟩, ⟨2, 0⟩]
def blk (p q : Int) : List Cell := [⟨p, q⟩, ⟨p + 1, q⟩, ⟨p, q + 1⟩, ⟨p + 1, q + 1⟩]
def lin (p q : Int) : List Cell := [⟨p, q⟩, ⟨p + 1, q⟩, ⟨p + 2, q⟩]
theorem pl_next {l : List Cell} (h : R1.right l) (h2 : (next l).2 = 0) : pl (next l).1 = gen (pl l) := by
 rw [← pl_cands h]
 unfold next R1.of at *
 rw [if_pos h] at *
 split at h2
 ·next hb =>
  rw [if_pos hb]
  split at h2
  ·cases h2
  ·next hc => rw [if_neg hc]
 ·cases h2
/-! #### All cells about a set -/
def cntK (l : List Cell) (c : Cell) : Nat → Int
 | 0 => 0
 | k + 1 => cntK l c k + if k ≠ 4 ∧ nb c k ∈ l then 1 else 0
def nBelow (a : List Cell) (c : Cell) : Int := ((a.filter fun d => decide (R1.less d c)).length : Nat)
end R2
end Go.GL


namespace Go.GL
open R6 R7
/-! ### Where there is room nothing fails -/
namespace R9
theorem put_room' {ns : List Node} (h : Wf ns) {room q0 q1 q2 q3 : Int} {lv : Nat} (hl : lv + 1 ≤ 42) (h0 : IsN ns lv q0) (h1 : IsN ns lv q1) (h2 : IsN ns lv q2) (h3 : IsN ns lv q3) (hr : (ns.length : Int) < room) : (put ns room q0 q1 q2 q3).2.2 = 0 ∧ (put ns room q0 q1 q2 q3).1.length ≤ ns.length + 1 := by
 obtain ⟨ms, m, e, ok⟩ := put_ok h (room := room) (fit4_of hl h0 h1 h2 h3) (.inr hr)
 rw [e]
 exact ⟨rfl, ok.len⟩
theorem emptyF_room {room : Int} : ∀ (k : Nat) (ns : List Node) (n : Int) (j : Nat), j + k ≤ 42 → R6.right ns room → IsN ns j n → (ns.length : Int) + k ≤ room → (emptyF room k ns n).2.2 = 0 ∧ (emptyF room k ns n).1.length ≤ ns.length + k
 | 0, ns, n, j, _, _, _, _ => ⟨rfl, Nat.le_refl _⟩
 | k + 1, ns, n, j, hj, h, hn, hr => by
  have hw := (right_iff.1 h).2
  obtain ⟨e, l⟩ := put_room' (room := room) hw (lv := j) (by omega) hn hn hn hn (by omega)
  unfold emptyF
  rw [if_neg (by simpa using e)]
  obtain ⟨a, b⟩ := emptyF_room k _ _ (j + 1) (by omega) (right_put h n n n n).1 (put_gd hw hn e) (by omega)
  exact ⟨a, by omega⟩
theorem mapS_room {room : Int} {f : LS → Int → L9} {C : List Node → Int → Prop} {lv : Nat} (hC : ∀ ns ms q, ns <+: ms → C ns q → C ms q) (hf : ∀ s q, Lk room s → C s.ns q → (s.ns.length : Int) < room → (f s q).2.2 = 0 ∧ (f s q).1.ns.length ≤ s.ns.length + 1 ∧ Gd room s (f s q) lv) : ∀ (qs : List Int) (s : LS), Lk room s → (∀ q ∈ qs, C s.ns q) → (s.ns.length : Int) + qs.length ≤ room → (mapS f s qs).2.2 = 0 ∧ (mapS f s qs).1.ns.length ≤ s.ns.length + qs.length
 | [], s, h, _, _ => ⟨rfl, Nat.le_refl _⟩
 | q :: qs, s, h, hq, hr => by
  simp only [List.length_cons] at hr ⊢
  obtain ⟨e1, l1, g⟩ := hf s q h (hq q List.mem_cons_self) (by omega)
  unfold mapS
  rw [if_neg (by simpa using e1)]
  obtain ⟨a, b⟩ := mapS_room hC hf qs (f s q).1 g.lk (fun x hx => hC _ _ _ g.pre (hq x (List.mem_cons_of_mem _ hx))) (by omega)
  exact ⟨a, by show (mapS f (f s q).1 qs).1.ns.length ≤ _; omega⟩
theorem grow_room {room : Int} {s : LS} (h : Lk room s) {k : Nat} {n : Int} (hk : k + 3 ≤ 42) (hn : IsN s.ns (k + 2) n) (hr : (s.ns.length : Int) + k + 6 ≤ room) : (grow room s n).2.2 = 0 ∧ (grow room s n).1.ns.length ≤ s.ns.length + k + 6 := by
 have hlv : (nd s.ns n).lv = k + 2 := by rw [hn.2]; omega
 have hw := h.wf
 obtain ⟨e1, l1⟩ := emptyF_room (room := room) (k + 1) s.ns 0 0 (by omega) h.right ⟨hw.in0, by rw [hw.nd0]; rfl⟩ (by omega)
 have e1 : (R7.empty s.ns room (k + 1)).2.2 = 0 := e1
 have l1 : (R7.empty s.ns room (k + 1)).1.length ≤ s.ns.length + (k + 1) := l1
 rw [grow_eq, show ((nd s.ns n).lv - 1).toNat = k + 1 by omega, if_neg (by omega), if_neg (by simpa using e1)]
 obtain ⟨r1, p1, i1⟩ := empty_gd h.right e1
 have lk1 : Lk room (⟨(R7.empty s.ns room (k + 1)).1, s.mm⟩ : LS) := ⟨r1, h.mem.pre p1⟩
 obtain ⟨e2, l2⟩ := mapS_room (room := room) (f := growF room (R7.empty s.ns room (k + 1)).2.1 (nd s.ns n).kids) (C := fun ns k' => IsN ns (k + 1) (R7.empty s.ns room (k + 1)).2.1 ∧ IsN ns (k + 1) ((nd s.ns n).kids.getD k'.toNat default)) (lv := k + 2) (fun _ _ _ hp hq => ⟨hq.1.pre hp, hq.2.pre hp⟩) (fun t q ht hq hlt => by
  obtain ⟨a, b⟩ := put_room' (room := room) ht.wf (lv := k + 1) (by omega) (bigK_isN hq.1 hq.2 q.toNat 0) (bigK_isN hq.1 hq.2 q.toNat 1) (bigK_isN hq.1 hq.2 q.toNat 2) (bigK_isN hq.1 hq.2 q.toNat 3) hlt
  exact ⟨a, b, growF_gd ht hq a⟩) k4 _ lk1 (fun q hq => by
  simp only [k4, List.mem_cons, List.not_mem_nil, or_false] at hq
  exact ⟨i1, (kids_getD h.wf hn (by omega)).pre p1⟩) (by
  show ((R7.empty s.ns room (k + 1)).1.length : Int) + (4 : Nat) ≤ room
  omega)
 have l2 : (mapS (growF room (R7.empty s.ns room (k + 1)).2.1 (nd s.ns n).kids) ⟨(R7.empty s.ns room (k + 1)).1, s.mm⟩ k4).1.ns.length ≤ (R7.empty s.ns room (k + 1)).1.length + 4 := l2
 obtain ⟨g1, g2, g3, g4⟩ := growM_gd lk1 i1 (fun q hq => (kids_getD h.wf hn hq).pre p1) e2
 rw [bindM_ok e2]
 have hm := fun (i : Int) (a : 0 ≤ i) (b : i ≤ 3) => g4 _ (g_mem (i := i) a (by rw [g3]; omega))
 obtain ⟨e3, l3⟩ := put_room' (room := room) g1.wf (lv := k + 2) (by omega) (hm 0 (by omega) (by omega)) (hm 1 (by omega) (by omega)) (hm 2 (by omega) (by omega)) (hm 3 (by omega) (by omega)) (by omega)
 exact ⟨e3, by
  show (put _ room _ _ _ _).1.length ≤ _
  omega⟩
theorem trim_room {room : Int} : ∀ (k : Nat) (s : LS) (n : Int), k + 2 ≤ 42 → Lk room s → IsN s.ns (k + 2) n → (s.ns.length : Int) + k ≤ room → (trim room k s n).2.2 = 0 ∧ (trim room k s n).1.ns.length ≤ s.ns.length + k
 | 0, s, n, _, _, _, _ => ⟨rfl, Nat.le_refl _⟩
 | k + 1, s, n, hk, h, hn, hr => by
  unfold trim
  by_cases e : edged s.ns n = true
  ·rw [if_pos e]
   exact ⟨rfl, by show s.ns.length ≤ _; omega⟩
  rw [if_neg e]
  have hi := s16_isN h.wf hn
  obtain ⟨e1, l1⟩ := put_room' (room := room) h.wf (lv := k + 1) (by omega) (hi 5 (by omega) (by omega)) (hi 6 (by omega) (by omega)) (hi 9 (by omega) (by omega)) (hi 10 (by omega) (by omega)) (by omega)
  have e1 : (midS room s n).2.2 = 0 := e1
  have l1 : (midS room s n).1.ns.length ≤ s.ns.length + 1 := l1
  rw [if_neg (by simpa using e1)]
  have g := midS_gd (lv := k + 1) h hn e1
  obtain ⟨a, b⟩ := trim_room k (midS room s n).1 (midS room s n).2.1 (by omega) g.lk g.is (by omega)
  exact ⟨a, by omega⟩
/-- Grown, where there is room. -/
structure GrR (ns : List Node) (room : Int) (k : Nat) (f : Int → Int → Bool) (p : List Node × Int × Int) : Prop where
 e : p.2.2 = 0
 right : R6.right p.1 room
 pre : ns <+: p.1
 len : p.1.length ≤ ns.length + k + 6
 ctr : Ctr p.1 (k + 1) p.2.1 f
/-- Trimmed, where there is room. -/
structure TrR (ns : List Node) (room : Int) (k : Nat) (f : Int → Int → Bool) (p : List Node × Int × Int) : Prop where
 e : p.2.2 = 0
 right : R6.right p.1 room
 pre : ns <+: p.1
 len : p.1.length ≤ ns.length + k
 ctr : ∃ k', k' ≤ k ∧ Ctr p.1 k' p.2.1 f ∧ Trd p.1 k' p.2.1
/-- The least level. -/
theorem trd_far {ns : List Node} (h : Wf ns) {k : Nat} {n : Int} {f : Int → Int → Bool} (hs : Ctr ns k n f) (ht : Trd ns k n) {a : Nat} (ha : a < k) : ¬ Supp f (2 ^ (a + 1)) := by
 obtain ⟨b, rfl⟩ : ∃ b, k = b + 1 := ⟨k - 1, by omega⟩
 rcases ht with ht | ht
 ·omega
 ·exact fun hc => edged_far h hs ht (hc.le (pow_le2 (by omega)))
end R9
namespace RL
end RL
end Go.GL


namespace Go.GL
open R6 R7
/-! ### A glider's squares: so few stand for different things -/
namespace R9
open R2 (shF gens_sh)
def gl0 : List Cell := [⟨0, 0⟩, ⟨1, 1⟩, ⟨-1, 2⟩, ⟨0, 2⟩, ⟨1, 2⟩]
def gl1 : List Cell := [⟨-1, 1⟩, ⟨1, 1⟩, ⟨0, 2⟩, ⟨1, 2⟩, ⟨0, 3⟩]
def gl2 : List Cell := [⟨1, 1⟩, ⟨-1, 2⟩, ⟨1, 2⟩, ⟨0, 3⟩, ⟨1, 3⟩]
def gl3 : List Cell := [⟨0, 1⟩, ⟨1, 2⟩, ⟨2, 2⟩, ⟨0, 3⟩, ⟨1, 3⟩]
def gl4 : List Cell := [⟨1, 1⟩, ⟨2, 2⟩, ⟨0, 3⟩, ⟨1, 3⟩, ⟨2, 3⟩]
/-- The glider. -/
def G : Int → Int → Bool := pl gl0
theorem gl_step : gens 4 G = shF 1 1 G := by
 have h0 : R2.next gl0 = (gl1, 0) := by decide +kernel
 have h1 : R2.next gl1 = (gl2, 0) := by decide +kernel
 have h2 : R2.next gl2 = (gl3, 0) := by decide +kernel
 have h3 : R2.next gl3 = (gl4, 0) := by decide +kernel
 have r0 : R1.right gl0 := by decide +kernel
 have r1 : R1.right gl1 := by decide +kernel
 have r2 : R1.right gl2 := by decide +kernel
 have r3 : R1.right gl3 := by decide +kernel
 have e0 := R2.pl_next r0 (by rw [h0])
 have e1 := R2.pl_next r1 (by rw [h1])
 have e2 := R2.pl_next r2 (by rw [h2])
 have e3 := R2.pl_next r3 (by rw [h3])
 rw [h0] at e0
 rw [h1] at e1
 rw [h2] at e2
 rw [h3] at e3
 show gen (gen (gen (gen (pl gl0)))) = _
 rw [← e0]
 show gen (gen (gen (pl gl1))) = _
 rw [← e1]
 show gen (gen (pl gl2)) = _
 rw [← e2]
 show gen (pl gl3) = _
 rw [← e3]
 show pl gl4 = shF 1 1 (pl gl0)
 rw [← R2.pl_mv]
 rfl
theorem shF_shF (p q r s : Int) (f : Int → Int → Bool) : shF p q (shF r s f) = shF (p + r) (q + s) f := by
 funext x y
 unfold shF
 rw [show x - p - r = x - (p + r) by omega, show y - q - s = y - (q + s) by omega]
theorem gl_four : ∀ q : Nat, gens (4 * q) G = shF q q G
 | 0 => by
  funext x y
  show G x y = G (x - ((0 : Nat) : Int)) (y - ((0 : Nat) : Int))
  rw [show x - ((0 : Nat) : Int) = x by omega, show y - ((0 : Nat) : Int) = y by omega]
 | q + 1 => by
  rw [show 4 * (q + 1) = 4 * q + 4 by omega, gens_add, gl_four q, gens_sh, gl_step, shF_shF]
  rfl
theorem gl_at (t : Nat) : gens t G = shF (t / 4 : Nat) (t / 4 : Nat) (gens (t % 4) G) := by
 have e : t = 4 * (t / 4) + t % 4 := by omega
 rw [← gens_sh, ← gl_four, ← gens_add, ← e]
theorem G_supp : Supp G 3 := fun x y h => by
 have h : (⟨x, y⟩ : Cell) ∈ gl0 := of_decide_eq_true h
 unfold gl0 at h
 simp only [List.mem_cons, Cell.mk.injEq, List.not_mem_nil, or_false] at h
 omega
theorem gens_supp6 {r : Nat} (h : r < 4) : Supp (gens r G) 6 := (gens_supp r G_supp).le (by omega)
/-- A phase of the glider, at a place. -/
def Cn (r : Nat) (u v : Int) : Int → Int → Bool := fun x y => gens r G (x - u) (y - v)
/-- What may be allowed of a square: where it stands and when. -/
def Al (c l t : Nat) (ox oy : Int) : Prop := (2 : Int) ^ (l - 2) ∣ ox ∧ (2 : Int) ^ (l - 2) ∣ oy ∧ (t % 2 ^ (l - 2) = c % 2 ^ (l - 2) ∨ ∃ i, i ≤ 40 ∧ l ≤ i + 5 ∧ t = c % 2 ^ i)
def InF (c : Nat) (ns : List Node) (n : Int) : Prop := ∃ l, l ≤ 42 ∧ (Std ns l n nil2 0 0 ∨ ∃ t ox oy, Al c l t ox oy ∧ Std ns l n (gens t G) ox oy)
theorem InF.pre {c : Nat} {ns ms : List Node} (hw : Wf ns) (hp : ns <+: ms) {n : Int} (h : InF c ns n) : InF c ms n := by
 obtain ⟨l, hl, h⟩ := h
 refine ⟨l, hl, ?_⟩
 rcases h with h | ⟨t, ox, oy, a, b⟩
 ·exact .inl (h.pre hw hp)
 ·exact .inr ⟨t, ox, oy, a, b.pre hw hp⟩
def U0 (t : Nat) : Nat × (Int → Int → Bool) := (t, nil2)
def U1 (t : Nat) : Nat × (Int → Int → Bool) := (t / 1444, Cn (t / 361 % 4) ((t / 19 % 19 : Nat) - 5) ((t % 19 : Nat) - 5))
def U2 (c t : Nat) : Nat × (Int → Int → Bool) := (t / 784 + 4, Cn 0 ((c / 4 % 2 ^ (t / 784) : Nat) + (2 : Int) ^ (t / 784) * ((t / 28 % 28 : Nat) - 6)) ((c / 4 % 2 ^ (t / 784) : Nat) + (2 : Int) ^ (t / 784) * ((t % 28 : Nat) - 6)))
def U3 (c t : Nat) : Nat × (Int → Int → Bool) := (t / 300 + t / 100 % 3 + 3, Cn 0 ((c % 2 ^ (t / 300) / 4 : Nat) + (2 : Int) ^ (t / 300 + t / 100 % 3 + 1) * ((t / 10 % 10 : Nat) - 3)) ((c % 2 ^ (t / 300) / 4 : Nat) + (2 : Int) ^ (t / 300 + t / 100 % 3 + 1) * ((t % 10 : Nat) - 3)))
/-- All that nodes of the family stand for. -/
def U (c : Nat) (t : Nat) : Nat × (Int → Int → Bool) := if t < 43 then U0 t else if t < 5819 then U1 (t - 43) else if t < 36395 then U2 c (t - 5819) else U3 c (t - 36395)
theorem U_0 {c t : Nat} (h : t < 43) : U c t = U0 t := if_pos h
theorem U_1 {c t : Nat} (h : t < 5776) : U c (t + 43) = U1 t := by
 unfold U
 rw [if_neg (by omega), if_pos (by omega), Nat.add_sub_cancel]
theorem U_2 {c t : Nat} (h : t < 30576) : U c (t + 5819) = U2 c t := by
 unfold U
 rw [if_neg (by omega), if_neg (by omega), if_pos (by omega), Nat.add_sub_cancel]
theorem U_3 {c t : Nat} (h : t < 12300) : U c (t + 36395) = U3 c t := by
 unfold U
 rw [if_neg (by omega), if_neg (by omega), if_neg (by omega), Nat.add_sub_cancel]
/-- A square in which a phase of the glider is alive: where the glider stands. -/
theorem meets {ns : List Node} {l : Nat} {n : Int} {r : Nat} (hr : r < 4) {u v : Int} (hs : Std ns l n (Cn r u v) 0 0) (hd : ¬ Std ns l n nil2 0 0) : (-5 ≤ u ∧ u ≤ 2 ^ l + 5) ∧ (-5 ≤ v ∧ v ≤ 2 ^ l + 5) := by
 apply Decidable.byContradiction
 intro hc
 refine hd ⟨hs.1, fun x y hq => ?_⟩
 rw [hs.2 x y hq]
 show gens r G (x + 0 - u) (y + 0 - v) = false
 apply Decidable.byContradiction
 intro hne
 have := gens_supp6 hr _ _ (Bool.of_not_eq_false hne)
 unfold inQ at hq
 omega
/-- A number in a class, of so many. -/
theorem cls {M p u A B : Int} (hM : 0 < M) (hp : 0 ≤ p ∧ p < M) {k : Int} (hu : u = p + M * k) (h1 : M * A ≤ u) (h2 : u < M * (B + 1)) : A ≤ k ∧ k ≤ B := by
 constructor
 ·apply Decidable.byContradiction
  intro hc
  have := Int.mul_le_mul_of_nonneg_left (show k + 1 ≤ A by omega) (show 0 ≤ M by omega)
  rw [Int.mul_add] at this
  omega
 ·apply Decidable.byContradiction
  intro hc
  have := Int.mul_le_mul_of_nonneg_left (show B + 1 ≤ k by omega) (show 0 ≤ M by omega)
  omega
theorem pow_split {a b : Nat} (h : b ≤ a) : (2 : Int) ^ a = 2 ^ b * 2 ^ (a - b) := by
 rw [← Int.pow_add]
 congr 1
 omega
theorem pow_nat (a : Nat) : ((2 ^ a : Nat) : Int) = (2 : Int) ^ a := by rw [Int.natCast_pow]; rfl
theorem std_cn {ns : List Node} {l : Nat} {n : Int} {t : Nat} {ox oy : Int} (hs : Std ns l n (gens t G) ox oy) : Std ns l n (Cn (t % 4) ((t / 4 : Nat) - ox) ((t / 4 : Nat) - oy)) 0 0 := by
 refine ⟨hs.1, fun x y hq => ?_⟩
 rw [hs.2 x y hq, gl_at]
 unfold Cn shF
 congr 1 <;> omega
theorem mod_div {a c b : Nat} (h : a % 2 ^ (b + 2) = c % 2 ^ (b + 2)) : a / 4 % 2 ^ b = c / 4 % 2 ^ b := by
 have e : 2 ^ (b + 2) = 4 * 2 ^ b := by rw [Nat.pow_add]; omega
 rw [e] at h
 have h1 := Nat.mod_mul_right_div_self a 4 (2 ^ b)
 have h2 := Nat.mod_mul_right_div_self c 4 (2 ^ b)
 rw [← h1, ← h2, h]
theorem mod_four {a c b : Nat} (h : a % 2 ^ (b + 2) = c % 2 ^ (b + 2)) : a % 4 = c % 4 := by
 have e : 2 ^ (b + 2) = 4 * 2 ^ b := by rw [Nat.pow_add]; omega
 rw [e] at h
 have h1 := Nat.mod_mul_right_mod a 4 (2 ^ b)
 have h2 := Nat.mod_mul_right_mod c 4 (2 ^ b)
 rw [← h1, ← h2, h]
theorem dec1 {l r a b : Nat} (hr : r < 4) (ha : a < 19) (hb : b < 19) : (l * 1444 + r * 361 + a * 19 + b) / 1444 = l ∧ (l * 1444 + r * 361 + a * 19 + b) / 361 % 4 = r ∧ (l * 1444 + r * 361 + a * 19 + b) / 19 % 19 = a ∧ (l * 1444 + r * 361 + a * 19 + b) % 19 = b := by
 have h1 : (l * 1444 + r * 361 + a * 19 + b) / 19 = l * 76 + r * 19 + a := by omega
 have h2 : (l * 1444 + r * 361 + a * 19 + b) / 361 = l * 4 + r := by omega
 rw [h1, h2]
 omega
theorem dec2 {e a b : Nat} (ha : a < 28) (hb : b < 28) : (e * 784 + a * 28 + b) / 784 = e ∧ (e * 784 + a * 28 + b) / 28 % 28 = a ∧ (e * 784 + a * 28 + b) % 28 = b := by
 have h1 : (e * 784 + a * 28 + b) / 28 = e * 28 + a := by omega
 rw [h1]
 omega
theorem dec3 {i d a b : Nat} (hd : d < 3) (ha : a < 10) (hb : b < 10) : (i * 300 + d * 100 + a * 10 + b) / 300 = i ∧ (i * 300 + d * 100 + a * 10 + b) / 100 % 3 = d ∧ (i * 300 + d * 100 + a * 10 + b) / 10 % 10 = a ∧ (i * 300 + d * 100 + a * 10 + b) % 10 = b := by
 have h1 : (i * 300 + d * 100 + a * 10 + b) / 10 = i * 30 + d * 10 + a := by omega
 have h2 : (i * 300 + d * 100 + a * 10 + b) / 100 = i * 3 + d := by omega
 rw [h1, h2]
 omega
/-- Each node of the family stands for one of those. -/
theorem InF.code {c : Nat} (hc : c % 4 = 0) {ns : List Node} {n : Int} (h : InF c ns n) : ∃ t, t < 48695 ∧ Std ns (U c t).1 n (U c t).2 0 0 := by
 obtain ⟨l, hl, h⟩ := h
 by_cases hd : Std ns l n nil2 0 0
 ·exact ⟨l, by omega, by rw [U_0 (by omega)]; exact hd⟩
 obtain ⟨t, ox, oy, ⟨⟨kx, ex⟩, ⟨ky, ey⟩, ht⟩, hs⟩ := h.resolve_left hd
 have hcn := std_cn hs
 have hr4 : t % 4 < 4 := Nat.mod_lt _ (by decide)
 obtain ⟨⟨u1, u2⟩, v1, v2⟩ := meets hr4 hcn hd
 by_cases hl4 : l < 4
 ·have hp : (2 : Int) ^ l ≤ 8 := by
   have := pow_le2 (a := l) (b := 3) (by omega)
   have e : (2 : Int) ^ 3 = 8 := rfl
   omega
  obtain ⟨a, ha⟩ : ∃ a : Nat, ((t / 4 : Nat) : Int) - ox = (a : Int) - 5 := ⟨(((t / 4 : Nat) : Int) - ox + 5).toNat, by omega⟩
  obtain ⟨b, hb⟩ : ∃ b : Nat, ((t / 4 : Nat) : Int) - oy = (b : Int) - 5 := ⟨(((t / 4 : Nat) : Int) - oy + 5).toNat, by omega⟩
  rw [ha, hb] at hcn
  rw [ha] at u1 u2
  rw [hb] at v1 v2
  refine ⟨l * 1444 + (t % 4) * 361 + a * 19 + b + 43, by omega, ?_⟩
  rw [U_1 (by omega)]
  unfold U1
  obtain ⟨d1, d2, d3, d4⟩ := dec1 (l := l) (r := t % 4) (a := a) (b := b) hr4 (by omega) (by omega)
  rw [d1, d2, d3, d4]
  exact hcn
 obtain ⟨e, rfl⟩ : ∃ e, l = e + 4 := ⟨l - 4, by omega⟩
 have hM2 : (2 : Int) ^ (e + 4 - 2) = 4 * 2 ^ e := by
  rw [show e + 4 - 2 = e + 2 by omega, Int.pow_add]
  omega
 have hM4 : (2 : Int) ^ (e + 4) = 16 * 2 ^ e := by
  rw [Int.pow_add]
  omega
 have hMp := p2pos e
 rw [show e + 4 - 2 = e + 2 by omega] at ht
 rw [hM2] at ex ey
 rw [hM4] at u2 v2
 by_cases h1 : t % 2 ^ (e + 2) = c % 2 ^ (e + 2)
 ·have hq := mod_div h1
  have hr := mod_four h1
  have hd4 := Nat.mod_add_div (t / 4) (2 ^ e)
  rw [hq] at hd4
  obtain ⟨g, hg⟩ : ∃ g, t / 4 / 2 ^ e = g := ⟨_, rfl⟩
  rw [hg] at hd4
  obtain ⟨p, hp⟩ : ∃ p, c / 4 % 2 ^ e = p := ⟨_, rfl⟩
  have hpl : p < 2 ^ e := by rw [← hp]; exact Nat.mod_lt _ (Nat.two_pow_pos e)
  rw [hp] at hd4
  have hpn := pow_nat e
  have hd4' : ((t / 4 : Nat) : Int) = (p : Int) + 2 ^ e * (g : Int) := by
   rw [← hd4, Int.natCast_add, Int.natCast_mul, hpn]
  generalize hM : (2 : Int) ^ e = M at *
  have ux : ((t / 4 : Nat) : Int) - ox = (p : Int) + M * ((g : Int) - 4 * kx) := by
   rw [hd4', ex, Int.mul_sub, Int.mul_comm 4 M, Int.mul_assoc]
   omega
  have uy : ((t / 4 : Nat) : Int) - oy = (p : Int) + M * ((g : Int) - 4 * ky) := by
   rw [hd4', ey, Int.mul_sub, Int.mul_comm 4 M, Int.mul_assoc]
   omega
  have hpM : (0 : Int) ≤ p ∧ (p : Int) < M := by omega
  obtain ⟨a1, a2⟩ := cls (A := -5) (B := 21) hMp hpM ux (by omega) (by omega)
  obtain ⟨b1, b2⟩ := cls (A := -5) (B := 21) hMp hpM uy (by omega) (by omega)
  rw [hr, hc, ux, uy] at hcn
  obtain ⟨a, ha⟩ : ∃ a : Nat, (g : Int) - 4 * kx = (a : Int) - 6 := ⟨((g : Int) - 4 * kx + 6).toNat, by omega⟩
  obtain ⟨b, hb⟩ : ∃ b : Nat, (g : Int) - 4 * ky = (b : Int) - 6 := ⟨((g : Int) - 4 * ky + 6).toNat, by omega⟩
  rw [ha, hb] at hcn
  refine ⟨e * 784 + a * 28 + b + 5819, by omega, ?_⟩
  rw [U_2 (by omega)]
  unfold U2
  obtain ⟨d1, d2, d3⟩ := dec2 (e := e) (a := a) (b := b) (by omega) (by omega)
  rw [d1, d2, d3, hp, hM]
  exact hcn
 ·obtain ⟨i, hi, hli, rfl⟩ := ht.resolve_left h1
  have hie : i < e + 2 := by
   apply Decidable.byContradiction
   intro hc'
   apply h1
   rw [Nat.mod_mod_of_dvd]
   exact Nat.pow_dvd_pow 2 (by omega)
  have hr0 : c % 2 ^ i % 4 = 0 := by
   by_cases h2 : i < 2
   ·have : c % 2 ^ i = 0 := by
     rcases (by omega : i = 0 ∨ i = 1) with rfl | rfl <;> omega
    rw [this]
   ·obtain ⟨i', rfl⟩ : ∃ i', i = i' + 2 := ⟨i - 2, by omega⟩
    rw [mod_four (a := c % 2 ^ (i' + 2)) (c := c) (b := i') (Nat.mod_mod _ _)]
    exact hc
  have hlt : c % 2 ^ i < 2 ^ i := Nat.mod_lt _ (Nat.two_pow_pos i)
  have hle : 2 ^ i ≤ 2 ^ (e + 2) := Nat.pow_le_pow_right (by decide) (by omega)
  have he4 : 2 ^ (e + 2) = 4 * 2 ^ e := by rw [Nat.pow_add]; omega
  have hpn := pow_nat e
  obtain ⟨q, hq⟩ : ∃ q, c % 2 ^ i / 4 = q := ⟨_, rfl⟩
  have hql : q < 2 ^ e := by omega
  rw [hq] at hcn u1 u2 v1 v2
  generalize hM : (2 : Int) ^ e = M at *
  have hM1 : 1 ≤ M := hMp
  have ux : (q : Int) - ox = (q : Int) + 4 * M * (-kx) := by rw [ex, Int.mul_neg]; omega
  have uy : (q : Int) - oy = (q : Int) + 4 * M * (-ky) := by rw [ey, Int.mul_neg]; omega
  have hpM : (0 : Int) ≤ q ∧ (q : Int) < 4 * M := by omega
  obtain ⟨a1, a2⟩ := cls (A := -2) (B := 5) (by omega) hpM ux (by omega) (by omega)
  obtain ⟨b1, b2⟩ := cls (A := -2) (B := 5) (by omega) hpM uy (by omega) (by omega)
  rw [hr0, ux, uy] at hcn
  obtain ⟨a, ha⟩ : ∃ a : Nat, -kx = (a : Int) - 3 := ⟨(-kx + 3).toNat, by omega⟩
  obtain ⟨b, hb⟩ : ∃ b : Nat, -ky = (b : Int) - 3 := ⟨(-ky + 3).toNat, by omega⟩
  rw [ha, hb] at hcn
  obtain ⟨d, hd3⟩ : ∃ d, e + 4 = i + d + 3 := ⟨e + 1 - i, by omega⟩
  refine ⟨i * 300 + d * 100 + a * 10 + b + 36395, by omega, ?_⟩
  rw [U_3 (by omega)]
  unfold U3
  obtain ⟨d1, d2, d3, d4⟩ := dec3 (i := i) (d := d) (a := a) (b := b) (by omega) (by omega) (by omega)
  rw [d1, d2, d3, d4, hq]
  rw [show i + d + 1 = e + 4 - 2 by omega, hM2, show i + d + 3 = e + 4 by omega]
  exact hcn
/-- All nodes but so many are of the family. -/
def Qf (c b : Nat) (ns : List Node) : Prop := ∃ l : List Int, l.length ≤ b ∧ ∀ n, inS ns n → n ∈ l ∨ InF c ns n
theorem Qf.len {c b : Nat} (hc : c % 4 = 0) {ns : List Node} (hw : Wf ns) (h : Qf c b ns) : ns.length ≤ 48695 + b := by
 obtain ⟨l, hl, hn⟩ := h
 have key : ∀ i : Nat, ∃ s : Nat ⊕ Int, i < ns.length → (s = .inr (i : Int) ∧ (i : Int) ∈ l) ∨ ∃ t, s = .inl t ∧ t < 48695 ∧ Std ns (U c t).1 (i : Int) (U c t).2 0 0 := fun i => by
  by_cases hi : i < ns.length
  ·rcases hn i ⟨by omega, by omega⟩ with h | h
   ·exact ⟨.inr i, fun _ => .inl ⟨rfl, h⟩⟩
   ·obtain ⟨t, h1, h2⟩ := h.code hc
    exact ⟨.inl t, fun _ => .inr ⟨t, rfl, h1, h2⟩⟩
  ·exact ⟨.inl 0, fun h => absurd h hi⟩
 have hf : ∃ f : Nat → Nat ⊕ Int, ∀ i, i < ns.length → (f i = .inr (i : Int) ∧ (i : Int) ∈ l) ∨ ∃ t, f i = .inl t ∧ t < 48695 ∧ Std ns (U c t).1 (i : Int) (U c t).2 0 0 := ⟨fun i => Classical.choose (key i), fun i => Classical.choose_spec (key i)⟩
 obtain ⟨f, hf⟩ := hf
 have nd : ((List.range ns.length).map f).Nodup := by
  rw [List.Nodup, List.pairwise_map]
  refine List.Pairwise.imp_of_mem ?_ (List.nodup_range (n := ns.length))
  intro a b ha hb hne e
  rcases hf a (List.mem_range.1 ha) with ⟨a1, _⟩ | ⟨t, a1, _, a2⟩ <;> rcases hf b (List.mem_range.1 hb) with ⟨b1, _⟩ | ⟨t', b1, _, b2⟩
  ·rw [a1, b1] at e
   injection e with e
   omega
  ·rw [a1, b1] at e
   cases e
  ·rw [a1, b1] at e
   cases e
  ·rw [a1, b1] at e
   injection e with e
   subst e
   have := al_inj hw _ _ _ a2.1 b2.1 fun x y hq => by rw [a2.2 x y hq, b2.2 x y hq]
   omega
 have := nodup_le ((List.range ns.length).map f) ((List.range 48695).map Sum.inl ++ l.map Sum.inr) nd fun s hs => by
  obtain ⟨i, hi, rfl⟩ := List.mem_map.1 hs
  rcases hf i (List.mem_range.1 hi) with ⟨a1, a2⟩ | ⟨t, a1, a2, _⟩
  ·rw [a1]
   exact List.mem_append_right _ (List.mem_map.2 ⟨_, a2, rfl⟩)
  ·rw [a1]
   exact List.mem_append_left _ (List.mem_map.2 ⟨_, List.mem_range.2 a2, rfl⟩)
 simp only [List.length_map, List.length_append, List.length_range] at this
 omega
end R9
end Go.GL


namespace Go.GL
open R6 R7
/-! ### A glider's leap: all that it makes is of the family -/
namespace R9
/-- A state in which all nodes but b are of the family. -/
structure Gs (room : Int) (c b : Nat) (s : LS) : Prop where
 lk : Lk room s
 ms : MS s
 q : Qf c b s.ns
variable {room : Int} {c b : Nat}
/-- What there is room for. -/
structure Rm (room : Int) (c b : Nat) : Prop where
 c4 : c % 4 = 0
 room : (48695 : Int) + b + 20 ≤ room
theorem Gs.len (hR : Rm room c b) {s : LS} (h : Gs room c b s) : (s.ns.length : Int) + 20 ≤ room := by
 have := h.q.len hR.c4 h.lk.wf
 have := hR.room
 omega
theorem Qf.put {ns ms : List Node} {q0 q1 q2 q3 m : Int} (hw : Wf ns) (hq : Qf c b ns) (hf : fit4 ns q0 q1 q2 q3) (e : put ns room q0 q1 q2 q3 = (ms, m, 0)) (hm : InF c ms m) : Qf c b ms := by
 obtain ⟨l, hl, hn⟩ := hq
 have hp := put_wf hw room q0 q1 q2 q3
 rw [e] at hp
 refine ⟨l, hl, fun n hin => ?_⟩
 by_cases ho : inS ns n
 ·rcases hn n ho with h | h
  ·exact .inl h
  ·exact .inr (h.pre hw hp.2)
 ·have : n = m := by
   unfold R6.put at e
   rw [if_pos hf] at e
   split at e
   ·simp only [Prod.mk.injEq, and_true] at e
    rw [← e.1] at hin
    exact absurd hin ho
   ·split at e
    ·simp only [Prod.mk.injEq] at e
     exact absurd e.2.2 (by decide)
    ·simp only [Prod.mk.injEq, and_true] at e
     obtain ⟨e1, e2⟩ := e
     rw [← e1] at hin
     have a := hin.1
     have b := hin.2
     simp only [List.length_append, List.length_singleton] at b
     unfold inS at ho
     omega
  rw [this]
  exact .inr hm
def Rf {α : Type} (room : Int) (c b : Nat) (s : LS) (r : LS × α × Int) (Q : List Node → α → Prop) : Prop :=
 ∃ s' x, r = (s', x, 0) ∧ Gs room c b s' ∧ s.ns <+: s'.ns ∧ Q s'.ns x
theorem Rf.mono {α : Type} {s : LS} {r : LS × α × Int} {Q Q' : List Node → α → Prop} (h : Rf room c b s r Q) (hq : ∀ (s' : LS) x, Wf s'.ns → s.ns <+: s'.ns → Q s'.ns x → Q' s'.ns x) : Rf room c b s r Q' := by
 obtain ⟨s', x, e, a, p, d⟩ := h
 exact ⟨s', x, e, a, p, hq _ _ a.lk.wf p d⟩
theorem Rf.from {α : Type} {s s0 : LS} {r : LS × α × Int} {Q : List Node → α → Prop} (h : Rf room c b s r Q) (hp : s0.ns <+: s.ns) : Rf room c b s0 r Q := by
 obtain ⟨s', x, e, a, p, d⟩ := h
 exact ⟨s', x, e, a, hp.trans p, d⟩
theorem bindM_rf {s : LS} {r : LS × List Int × Int} {f : LS → List Int → L9} {Q : List Node → List Int → Prop} {Q' : List Node → Int → Prop} (h : Rf room c b s r Q) (hf : ∀ s' x, Gs room c b s' → s.ns <+: s'.ns → Q s'.ns x → Rf room c b s' (f s' x) Q') : Rf room c b s (bindM r f) Q' := by
 obtain ⟨s', x, e, a, p, d⟩ := h
 rw [bindM_ok (by rw [e]), e]
 exact (hf s' x a p d).from p
theorem bindS_rf {s : LS} {r : L9} {f : LS → Int → L9} {Q Q' : List Node → Int → Prop} {b' : Nat} (h : Rf room c b s r Q) (hf : ∀ s' x, Gs room c b s' → s.ns <+: s'.ns → Q s'.ns x → Rf room c b' s' (f s' x) Q') : Rf room c b' s (bindS r f) Q' := by
 obtain ⟨s', x, e, a, p, d⟩ := h
 rw [bindS_ok (by rw [e]), e]
 exact (hf s' x a p d).from p
theorem mapS_rf {f : LS → Int → L9} (A D : Nat → List Node → Int → Prop) (hA : ∀ i ns ms q, Wf ns → ns <+: ms → A i ns q → A i ms q) (hD : ∀ i ns ms q, Wf ns → ns <+: ms → D i ns q → D i ms q)
  (hf : ∀ i s q, Gs room c b s → A i s.ns q → Rf room c b s (f s q) (D i)) : ∀ (qs : List Int) (k : Nat) (s : LS), Gs room c b s → (∀ i, i < qs.length → A (k + i) s.ns (qs.getD i default)) →
  Rf room c b s (mapS f s qs) fun ns rs => rs.length = qs.length ∧ ∀ i, i < qs.length → D (k + i) ns (rs.getD i default)
 | [], k, s, h, _ => ⟨s, [], rfl, h, List.prefix_refl _, rfl, fun i hi => absurd hi (Nat.not_lt_zero _)⟩
 | q :: qs, k, s, h, hq => by
  unfold mapS
  obtain ⟨s', x, e, g1, p1, d1⟩ := hf k s q h (hq 0 (by simp))
  rw [e]
  dsimp only
  rw [if_neg (by simp)]
  obtain ⟨s2, rs, e2, g2, p2, l2, d2⟩ := mapS_rf A D hA hD hf qs (k + 1) s' g1 (fun i hi => hA _ _ _ _ h.lk.wf p1 (by
   have := hq (i + 1) (by simp only [List.length_cons]; omega)
   rw [show k + 1 + i = k + (i + 1) by omega]
   exact this))
  rw [e2]
  refine ⟨s2, x :: rs, rfl, g2, p1.trans p2, by simp [l2], fun i hi => ?_⟩
  cases i with
  | zero => exact hD _ _ _ _ g1.lk.wf p2 d1
  | succ i =>
   have := d2 i (by simp only [List.length_cons] at hi; omega)
   rw [show k + (i + 1) = k + 1 + i by omega]
   exact this
/-- Four parts of the plane are put. -/
theorem putS_rf (hR : Rm room c b) {s : LS} (h : Gs room c b s) {lv : Nat} (hl : lv + 1 ≤ 42) {q0 q1 q2 q3 : Int} {t : Nat} {ox oy : Int} (h0 : Std s.ns lv q0 (gens t G) ox oy) (h1 : Std s.ns lv q1 (gens t G) (ox + 2 ^ lv) oy) (h2 : Std s.ns lv q2 (gens t G) ox (oy + 2 ^ lv)) (h3 : Std s.ns lv q3 (gens t G) (ox + 2 ^ lv) (oy + 2 ^ lv)) (ha : Al c (lv + 1) t ox oy) :
  Rf room c b s (putS room s q0 q1 q2 q3) fun ns m => Std ns (lv + 1) m (gens t G) ox oy := by
 have hlen := h.len hR
 have hw := h.lk.wf
 have e := (put_room' (room := room) hw hl h0.1 h1.1 h2.1 h3.1 (by omega)).1
 have st := std_put hw h0 h1 h2 h3 e
 have g := putS_gd (room := room) h.lk h0.1 e
 have m := putS_ms (room := room) (q0 := q0) (q1 := q1) (q2 := q2) (q3 := q3) h.lk h.ms
 have hp : put s.ns room q0 q1 q2 q3 = ((put s.ns room q0 q1 q2 q3).1, (put s.ns room q0 q1 q2 q3).2.1, 0) := by rw [← e]
 have qf := Qf.put hw h.q (fit4_of hl h0.1 h1.1 h2.1 h3.1) hp ⟨lv + 1, hl, .inr ⟨t, ox, oy, ha, st⟩⟩
 exact ⟨(putS room s q0 q1 q2 q3).1, (putS room s q0 q1 q2 q3).2.1, by unfold putS; rw [e], ⟨g.lk, m, qf⟩, g.pre, st⟩
theorem Al.at_ {l t : Nat} {ox oy ox' oy' : Int} (h : Al c l t ox oy) (h1 : (2 : Int) ^ (l - 2) ∣ ox') (h2 : (2 : Int) ^ (l - 2) ∣ oy') : Al c l t ox' oy' := ⟨h1, h2, h.2.2⟩
theorem dvd_pow {a b : Nat} (h : b ≤ a) : (2 : Int) ^ b ∣ 2 ^ a := ⟨2 ^ (a - b), pow_split h⟩
theorem dvd_at {k e : Nat} {ox x : Int} (h : (2 : Int) ^ k ∣ ox) (he : k ≤ e) : (2 : Int) ^ k ∣ ox + x * 2 ^ e := Int.dvd_add h (Int.dvd_trans (dvd_pow he) (Int.dvd_mul_left x (2 ^ e)))
theorem dvd_at1 {k e : Nat} {ox : Int} (h : (2 : Int) ^ k ∣ ox) (he : k ≤ e) : (2 : Int) ^ k ∣ ox + 2 ^ e := Int.dvd_add h (dvd_pow he)
theorem mid_rf (hR : Rm room c b) {s : LS} (h : Gs room c b s) {lv : Nat} {n : Int} {t : Nat} {ox oy : Int} (hs : Std s.ns (lv + 2) n (gens t G) ox oy) (ha : Al c (lv + 1) t (ox + 2 ^ lv) (oy + 2 ^ lv)) : Rf room c b s (midS room s n) fun ns m => Std ns (lv + 1) m (gens t G) (ox + 2 ^ lv) (oy + 2 ^ lv) := by
 have hlb := (h.lk.wf.lvb hs.1.1).2
 rw [hs.1.2] at hlb
 have k := fun {X Y : Int} (hX : 0 ≤ X ∧ X ≤ 3) (hY : 0 ≤ Y ∧ Y ≤ 3) => std_s16 h.lk.wf hs hX hY
 have k0 := k (X := 1) (Y := 1) (by omega) (by omega)
 have k1 := k (X := 2) (Y := 1) (by omega) (by omega)
 have k2 := k (X := 1) (Y := 2) (by omega) (by omega)
 have k3 := k (X := 2) (Y := 2) (by omega) (by omega)
 refine putS_rf hR h (lv := lv) (by omega) (k0.at ?_ ?_) (k1.at ?_ ?_) (k2.at ?_ ?_) (k3.at ?_ ?_) ha
 all_goals omega
theorem putSq_rf (hR : Rm room c b) {s0 s : LS} (h0 : Wf s0.ns) (h : Gs room c b s) (hp : s0.ns <+: s.ns) {lv : Nat} {n : Int} {t : Nat} {ox oy : Int} (hs : Std s0.ns (lv + 2) n (gens t G) ox oy) {y x : Int} (hy : 0 ≤ y ∧ y ≤ 2) (hx : 0 ≤ x ∧ x ≤ 2) (ha : Al c (lv + 1) t (ox + x * 2 ^ lv) (oy + y * 2 ^ lv)) :
  ∃ ms m, R8.putSq s.ns room (R8.s16 s0.ns n) y x = (ms, m, 0) ∧ Gs room c b ⟨ms, s.mm⟩ ∧ s.ns <+: ms ∧ Std ms (lv + 1) m (gens t G) (ox + x * 2 ^ lv) (oy + y * 2 ^ lv) := by
 have hlb := (h0.lvb hs.1.1).2
 rw [hs.1.2] at hlb
 have k := fun {X Y : Int} (hX : 0 ≤ X ∧ X ≤ 3) (hY : 0 ≤ Y ∧ Y ≤ 3) => (std_s16 h0 hs hX hY).pre h0 hp
 have k0 := k (X := x) (Y := y) (by omega) (by omega)
 have k1 := k (X := x + 1) (Y := y) (by omega) (by omega)
 have k2 := k (X := x) (Y := y + 1) (by omega) (by omega)
 have k3 := k (X := x + 1) (Y := y + 1) (by omega) (by omega)
 rw [show 4 * y + (x + 1) = 4 * y + x + 1 by omega] at k1
 rw [show 4 * (y + 1) + x = 4 * y + x + 4 by omega] at k2
 rw [show 4 * (y + 1) + (x + 1) = 4 * y + x + 5 by omega] at k3
 rw [Int.add_mul, Int.one_mul, ← Int.add_assoc] at k1 k2
 rw [Int.add_mul, Int.one_mul, ← Int.add_assoc, Int.add_mul, Int.one_mul, ← Int.add_assoc] at k3
 obtain ⟨s', m, e, g, p, st⟩ := putS_rf hR h (lv := lv) (by omega) k0 k1 k2 k3 ha
 unfold putS at e
 simp only [Prod.mk.injEq] at e
 obtain ⟨rfl, e2, e3⟩ := e
 refine ⟨(put s.ns room (R8.g (R8.s16 s0.ns n) (4 * y + x)) (R8.g (R8.s16 s0.ns n) (4 * y + x + 1)) (R8.g (R8.s16 s0.ns n) (4 * y + x + 4)) (R8.g (R8.s16 s0.ns n) (4 * y + x + 5))).1, m, ?_, g, p, st⟩
 unfold R8.putSq
 rw [← e2, ← e3]
end R9
end Go.GL


namespace Go.GL
open R6 R7
namespace R9
variable {room : Int} {c b : Nat}
/-- What may be allowed of a time. -/
abbrev Tm (c l t : Nat) : Prop := t % 2 ^ (l - 2) = c % 2 ^ (l - 2) ∨ ∃ i, i ≤ 40 ∧ l ≤ i + 5 ∧ t = c % 2 ^ i
theorem all_rf (hR : Rm room c b) {s : LS} (h : Gs room c b s) {k : Nat} {n : Int} {t : Nat} {ox oy : Int} (hs : Std s.ns (k + 3) n (gens t G) ox oy) (hx : (2 : Int) ^ k ∣ ox) (hy : (2 : Int) ^ k ∣ oy) (ht : Tm c (k + 2) t) :
  ∃ ms qs, R8.all s.ns room n = (ms, qs, 0) ∧ Gs room c b ⟨ms, s.mm⟩ ∧ s.ns <+: ms ∧ qs.length = 9 ∧ ∀ p : Nat, p < 9 → Std ms (k + 2) (qs.getD p default) (gens t G) (ox + ((p % 3 : Nat) : Int) * 2 ^ (k + 1)) (oy + ((p / 3 : Nat) : Int) * 2 ^ (k + 1)) := by
 have hw := h.lk.wf
 have ha : ∀ x y : Int, Al c (k + 2) t (ox + x * 2 ^ (k + 1)) (oy + y * 2 ^ (k + 1)) := fun x y => ⟨dvd_at hx (by omega), dvd_at hy (by omega), ht⟩
 unfold R8.all
 dsimp only
 obtain ⟨m0, q0, e0, g0, p0, s0⟩ := putSq_rf hR hw h (List.prefix_refl _) hs (y := 0) (x := 0) (by omega) (by omega) (ha 0 0)
 have t0 : s.ns <+: m0 := p0
 rw [show R8.putSq s.ns room (R8.s16 s.ns n) 0 0 = (m0, q0, 0) from e0]
 dsimp only
 rw [if_neg (by simp)]
 obtain ⟨m1, q1, e1, g1, p1, s1⟩ := putSq_rf hR hw g0 t0 hs (y := 0) (x := 1) (by omega) (by omega) (ha 1 0)
 have t1 : s.ns <+: m1 := t0.trans p1
 rw [show R8.putSq m0 room (R8.s16 s.ns n) 0 1 = (m1, q1, 0) from e1]
 dsimp only
 rw [if_neg (by simp)]
 obtain ⟨m2, q2, e2, g2, p2, s2⟩ := putSq_rf hR hw g1 t1 hs (y := 0) (x := 2) (by omega) (by omega) (ha 2 0)
 have t2 : s.ns <+: m2 := t1.trans p2
 rw [show R8.putSq m1 room (R8.s16 s.ns n) 0 2 = (m2, q2, 0) from e2]
 dsimp only
 rw [if_neg (by simp)]
 obtain ⟨m3, q3, e3, g3, p3, s3⟩ := putSq_rf hR hw g2 t2 hs (y := 1) (x := 0) (by omega) (by omega) (ha 0 1)
 have t3 : s.ns <+: m3 := t2.trans p3
 rw [show R8.putSq m2 room (R8.s16 s.ns n) 1 0 = (m3, q3, 0) from e3]
 dsimp only
 rw [if_neg (by simp)]
 obtain ⟨m4, q4, e4, g4, p4, s4⟩ := putSq_rf hR hw g3 t3 hs (y := 1) (x := 1) (by omega) (by omega) (ha 1 1)
 have t4 : s.ns <+: m4 := t3.trans p4
 rw [show R8.putSq m3 room (R8.s16 s.ns n) 1 1 = (m4, q4, 0) from e4]
 dsimp only
 rw [if_neg (by simp)]
 obtain ⟨m5, q5, e5, g5, p5, s5⟩ := putSq_rf hR hw g4 t4 hs (y := 1) (x := 2) (by omega) (by omega) (ha 2 1)
 have t5 : s.ns <+: m5 := t4.trans p5
 rw [show R8.putSq m4 room (R8.s16 s.ns n) 1 2 = (m5, q5, 0) from e5]
 dsimp only
 rw [if_neg (by simp)]
 obtain ⟨m6, q6, e6, g6, p6, s6⟩ := putSq_rf hR hw g5 t5 hs (y := 2) (x := 0) (by omega) (by omega) (ha 0 2)
 have t6 : s.ns <+: m6 := t5.trans p6
 rw [show R8.putSq m5 room (R8.s16 s.ns n) 2 0 = (m6, q6, 0) from e6]
 dsimp only
 rw [if_neg (by simp)]
 obtain ⟨m7, q7, e7, g7, p7, s7⟩ := putSq_rf hR hw g6 t6 hs (y := 2) (x := 1) (by omega) (by omega) (ha 1 2)
 have t7 : s.ns <+: m7 := t6.trans p7
 rw [show R8.putSq m6 room (R8.s16 s.ns n) 2 1 = (m7, q7, 0) from e7]
 dsimp only
 rw [if_neg (by simp)]
 obtain ⟨m8, q8, e8, g8, p8, s8⟩ := putSq_rf hR hw g7 t7 hs (y := 2) (x := 2) (by omega) (by omega) (ha 2 2)
 have t8 : s.ns <+: m8 := t7.trans p8
 rw [show R8.putSq m7 room (R8.s16 s.ns n) 2 2 = (m8, q8, 0) from e8]
 dsimp only
 rw [if_neg (by simp)]
 refine ⟨m8, [q0, q1, q2, q3, q4, q5, q6, q7, q8], rfl, g8, t8, rfl, fun p hp => ?_⟩
 have u7 : m7 <+: m8 := p8
 have u6 : m6 <+: m8 := List.IsPrefix.trans p7 u7
 have u5 : m5 <+: m8 := List.IsPrefix.trans p6 u6
 have u4 : m4 <+: m8 := List.IsPrefix.trans p5 u5
 have u3 : m3 <+: m8 := List.IsPrefix.trans p4 u4
 have u2 : m2 <+: m8 := List.IsPrefix.trans p3 u3
 have u1 : m1 <+: m8 := List.IsPrefix.trans p2 u2
 have u0 : m0 <+: m8 := List.IsPrefix.trans p1 u1
 rcases (by omega : p = 0 ∨ p = 1 ∨ p = 2 ∨ p = 3 ∨ p = 4 ∨ p = 5 ∨ p = 6 ∨ p = 7 ∨ p = 8) with rfl | rfl | rfl | rfl | rfl | rfl | rfl | rfl | rfl
 ·exact s0.pre g0.lk.wf u0
 ·exact s1.pre g1.lk.wf u1
 ·exact s2.pre g2.lk.wf u2
 ·exact s3.pre g3.lk.wf u3
 ·exact s4.pre g4.lk.wf u4
 ·exact s5.pre g5.lk.wf u5
 ·exact s6.pre g6.lk.wf u6
 ·exact s7.pre g7.lk.wf u7
 ·exact s8
/-- What is asked of a leap: at the level of a full one any of the times; else just one. -/
def Pre (c k j t : Nat) (ox oy : Int) : Prop := (2 : Int) ^ k ∣ ox ∧ (2 : Int) ^ k ∣ oy ∧ ((j = k ∧ t % 2 ^ k = c % 2 ^ k) ∨ (j < k ∧ t = c % 2 ^ j ∧ c / 2 ^ j % 2 = 1 ∧ k ≤ j + 3 ∧ j + 1 ≤ 40))
def LpG (room : Int) (c b k : Nat) (lp : LS → Int → Int → L9) : Prop := ∀ s n (j t : Nat) ox oy, Gs room c b s → Std s.ns (k + 2) n (gens t G) ox oy → Pre c k j t ox oy →
 Rf room c b s (lp s n (j : Int)) fun ns m => Std ns (k + 1) m (gens (t + 2 ^ j) G) (ox + 2 ^ k) (oy + 2 ^ k)
theorem mod_le {t c a e : Nat} (h : t % 2 ^ a = c % 2 ^ a) (he : e ≤ a) : t % 2 ^ e = c % 2 ^ e := by
 have hd : 2 ^ e ∣ 2 ^ a := Nat.pow_dvd_pow 2 he
 rw [← Nat.mod_mod_of_dvd t hd, h, Nat.mod_mod_of_dvd c hd]
theorem mod_add {t c a e : Nat} (h : t % 2 ^ a = c % 2 ^ a) (he : e ≤ a) (x : Nat) (hx : e ≤ x) : (t + 2 ^ x) % 2 ^ e = c % 2 ^ e := by
 have hd : 2 ^ x % 2 ^ e = 0 := Nat.mod_eq_zero_of_dvd (Nat.pow_dvd_pow 2 hx)
 rw [Nat.add_mod, hd, Nat.add_zero, Nat.mod_mod, mod_le h he]
theorem bit_add {c j : Nat} (h : c / 2 ^ j % 2 = 1) : c % 2 ^ j + 2 ^ j = c % 2 ^ (j + 1) := by
 have e := Nat.mod_mul (x := c) (a := 2 ^ j) (b := 2)
 rw [Nat.pow_succ, e, h, Nat.mul_one]
theorem far_rf (hR : Rm room c b) {k : Nat} {lp : LS → Int → Int → L9} (hlp : LpG room c b k lp) {s : LS} {n : Int} {j t : Nat} {ox oy : Int} (h : Gs room c b s) (hs : Std s.ns (k + 3) n (gens t G) ox oy) (hp : Pre c (k + 1) j t ox oy) :
  Rf room c b s (far lp room (decide ((j : Int) = (k : Int) + 1)) s n (j : Int)) fun ns m => Std ns (k + 2) m (gens (t + 2 ^ j) G) (ox + 2 ^ (k + 1)) (oy + 2 ^ (k + 1)) := by
 obtain ⟨hx, hy, hj⟩ := hp
 have hlb := (h.lk.wf.lvb hs.1.1).2
 rw [hs.1.2] at hlb
 have hx' : (2 : Int) ^ k ∣ ox := Int.dvd_trans (dvd_pow (by omega)) hx
 have hy' : (2 : Int) ^ k ∣ oy := Int.dvd_trans (dvd_pow (by omega)) hy
 have hx1 : ∀ x : Int, (2 : Int) ^ k ∣ ox + x * 2 ^ (k + 1) := fun x => dvd_at hx' (by omega)
 have hy1 : ∀ x : Int, (2 : Int) ^ k ∣ oy + x * 2 ^ (k + 1) := fun x => dvd_at hy' (by omega)
 have hx2 : ∀ x : Int, (2 : Int) ^ k ∣ ox + x * 2 ^ (k + 1) + 2 ^ k := fun x => dvd_at1 (hx1 x) (Nat.le_refl _)
 have hy2 : ∀ x : Int, (2 : Int) ^ k ∣ oy + x * 2 ^ (k + 1) + 2 ^ k := fun x => dvd_at1 (hy1 x) (Nat.le_refl _)
 have low : ∀ {z : Int}, (2 : Int) ^ k ∣ z → (2 : Int) ^ (k + 1 - 2) ∣ z := fun {z} hz => Int.dvd_trans (dvd_pow (by omega)) hz
 have hpk := p2s' k
 have ht2 : Tm c (k + 2) t := by
  rcases hj with ⟨_, h1⟩ | ⟨_, h1, h2, h3, h4⟩
  ·exact .inl (mod_le h1 (by omega))
  ·exact .inr ⟨j, by omega, by omega, h1⟩
 obtain ⟨full, hfull⟩ : ∃ full, decide ((j : Int) = (k : Int) + 1) = full := ⟨_, rfl⟩
 rw [hfull]
 -- the time of the half
 obtain ⟨t', ht'⟩ : ∃ t', (if full = true then t + 2 ^ k else t) = t' := ⟨_, rfl⟩
 have half1 : Rf room c b s (half lp room full s n (j : Int)) fun ns rs => rs.length = 9 ∧ ∀ p : Nat, p < 9 → Std ns (k + 1) (rs.getD p default) (gens t' G) (ox + ((p % 3 : Nat) : Int) * 2 ^ (k + 1) + 2 ^ k) (oy + ((p / 3 : Nat) : Int) * 2 ^ (k + 1) + 2 ^ k) := by
  obtain ⟨ms, qs, e, g1, p1, hl9, hq⟩ := all_rf hR h hs hx' hy' ht2
  unfold half
  rw [e]
  simp only [ne_eq, not_true_eq_false, if_false]
  refine Rf.from (s := ⟨ms, s.mm⟩) ?_ p1
  refine Rf.mono (mapS_rf (fun i ns q => Std ns (k + 2) q (gens t G) (ox + ((i % 3 : Nat) : Int) * 2 ^ (k + 1)) (oy + ((i / 3 : Nat) : Int) * 2 ^ (k + 1))) (fun i ns r => Std ns (k + 1) r (gens t' G) (ox + ((i % 3 : Nat) : Int) * 2 ^ (k + 1) + 2 ^ k) (oy + ((i / 3 : Nat) : Int) * 2 ^ (k + 1) + 2 ^ k)) (fun i ns ns' q hw hp h => h.pre hw hp) (fun i ns ns' q hw hp h => h.pre hw hp) (fun i t1 q hg hq => ?_) qs 0 ⟨ms, s.mm⟩ g1 (fun i hi => ?_)) (fun s' rs _ _ h => ?_)
  ·unfold halfF
   cases full
   ·rw [if_neg (by decide)]
    rw [if_neg (by decide)] at ht'
    subst ht'
    refine mid_rf hR hg hq ⟨low (hx2 _), low (hy2 _), ?_⟩
    have hne := of_decide_eq_false hfull
    rcases hj with ⟨h0, h1⟩ | ⟨_, h1, h2, h3, h4⟩
    ·omega
    ·exact .inr ⟨j, by omega, by omega, h1⟩
   ·rw [if_pos rfl]
    rw [if_pos rfl] at ht'
    subst ht'
    have hje := of_decide_eq_true hfull
    rw [show (j : Int) - 1 = (k : Int) by omega]
    refine hlp t1 q k t _ _ hg hq ⟨hx1 _, hy1 _, .inl ⟨rfl, ?_⟩⟩
    rcases hj with ⟨h0, h1⟩ | ⟨h0, _⟩
    ·exact mod_le h1 (by omega)
    ·omega
  ·rw [Nat.zero_add]
   exact hq i (by omega)
  ·refine ⟨by rw [h.1, hl9], fun p hp => ?_⟩
   have := h.2 p (by omega)
   rwa [Nat.zero_add] at this
 have ht2' : Tm c (k + 2) t' := by
  rw [← ht']
  cases full
  ·rw [if_neg (by decide)]
   exact ht2
  ·rw [if_pos rfl]
   have hje := of_decide_eq_true hfull
   rcases hj with ⟨h0, h1⟩ | ⟨h0, _⟩
   ·exact .inl (mod_add h1 (by omega) k (Nat.le_refl _))
   ·omega
 unfold far
 refine bindM_rf half1 fun s1 rs g1 p1 ⟨hl9, hrs⟩ => ?_
 refine bindM_rf (Q := fun ns ls => ls.length = 4 ∧ ∀ i : Nat, i < 4 → Std ns (k + 2) (ls.getD i default) (gens t' G) (ox + ((i % 2 : Nat) : Int) * 2 ^ (k + 1) + 2 ^ k) (oy + ((i / 2 : Nat) : Int) * 2 ^ (k + 1) + 2 ^ k)) ?_ fun s2 ls g2 p2 ⟨hl4, hls⟩ => ?_
 ·refine Rf.mono (mapS_rf (fun i ns q => q = ((3 * (i / 2) + i % 2 : Nat) : Int) ∧ i < 4 ∧ ∀ i' : Nat, i' < 9 → Std ns (k + 1) (rs.getD i' default) (gens t' G) (ox + ((i' % 3 : Nat) : Int) * 2 ^ (k + 1) + 2 ^ k) (oy + ((i' / 3 : Nat) : Int) * 2 ^ (k + 1) + 2 ^ k)) (fun i ns r => Std ns (k + 2) r (gens t' G) (ox + ((i % 2 : Nat) : Int) * 2 ^ (k + 1) + 2 ^ k) (oy + ((i / 2 : Nat) : Int) * 2 ^ (k + 1) + 2 ^ k)) (fun i ns ns' q hw hp h => ⟨h.1, h.2.1, fun i' hi' => (h.2.2 i' hi').pre hw hp⟩) (fun i ns ns' q hw hp h => h.pre hw hp) (fun i t1 q hg hq => ?_) fourE 0 s1 g1 (fun i hi => ?_)) (fun s' l _ _ h => ?_)
  ·obtain ⟨rfl, hi4, hst⟩ := hq
   have h0 := hst (3 * (i / 2) + i % 2) (by omega)
   have h1 := hst (3 * (i / 2) + i % 2 + 1) (by omega)
   have h2 := hst (3 * (i / 2) + i % 2 + 3) (by omega)
   have h3 := hst (3 * (i / 2) + i % 2 + 4) (by omega)
   refine putS_rf hR hg (lv := k + 1) (by omega) (h0.at ?_ ?_) (h1.at ?_ ?_) (h2.at ?_ ?_) (h3.at ?_ ?_) ⟨hx2 _, hy2 _, ht2'⟩
   all_goals
    match i, hi4 with
    | 0, _ => simp only [Nat.reduceDiv, Nat.reduceMod, Nat.reduceMul, Nat.reduceAdd] <;> omega
    | 1, _ => simp only [Nat.reduceDiv, Nat.reduceMod, Nat.reduceMul, Nat.reduceAdd] <;> omega
    | 2, _ => simp only [Nat.reduceDiv, Nat.reduceMod, Nat.reduceMul, Nat.reduceAdd] <;> omega
    | 3, _ => simp only [Nat.reduceDiv, Nat.reduceMod, Nat.reduceMul, Nat.reduceAdd] <;> omega
  ·have hi4 : i < 4 := hi
   rw [Nat.zero_add]
   refine ⟨?_, hi4, hrs⟩
   match i, hi4 with
   | 0, _ => rfl
   | 1, _ => rfl
   | 2, _ => rfl
   | 3, _ => rfl
  ·refine ⟨h.1, fun i hi => ?_⟩
   have := h.2 i hi
   rwa [Nat.zero_add] at this
 obtain ⟨j', hj', hpre, hsum⟩ : ∃ j' : Nat, (if full = true then (j : Int) - 1 else (j : Int)) = (j' : Int) ∧ (∀ x y : Int, Pre c k j' t' (ox + x * 2 ^ (k + 1) + 2 ^ k) (oy + y * 2 ^ (k + 1) + 2 ^ k)) ∧ t' + 2 ^ j' = t + 2 ^ j := by
  cases full
  ·rw [if_neg (by decide)] at ht' ⊢
   subst ht'
   have hne := of_decide_eq_false hfull
   refine ⟨j, rfl, fun x y => ⟨hx2 x, hy2 y, ?_⟩, rfl⟩
   rcases hj with ⟨h0, h1⟩ | ⟨h0, h1, h2, h3, h4⟩
   ·omega
   ·by_cases hjk : j = k
    ·refine .inl ⟨hjk, ?_⟩
     rw [h1, hjk, Nat.mod_mod]
    ·exact .inr ⟨by omega, h1, h2, by omega, h4⟩
  ·rw [if_pos rfl] at ht' ⊢
   subst ht'
   have hje := of_decide_eq_true hfull
   have hjk : j = k + 1 := by omega
   refine ⟨k, by omega, fun x y => ⟨hx2 x, hy2 y, .inl ⟨rfl, ?_⟩⟩, ?_⟩
   ·rcases hj with ⟨h0, h1⟩ | ⟨h0, _⟩
    ·exact mod_add h1 (by omega) k (Nat.le_refl _)
    ·omega
   ·rw [hjk, Nat.pow_succ]
    omega
 rw [hj']
 refine bindM_rf (Q := fun ns ss => ss.length = 4 ∧ ∀ i : Nat, i < 4 → Std ns (k + 1) (ss.getD i default) (gens (t + 2 ^ j) G) (ox + ((i % 2 : Nat) : Int) * 2 ^ (k + 1) + 2 ^ k + 2 ^ k) (oy + ((i / 2 : Nat) : Int) * 2 ^ (k + 1) + 2 ^ k + 2 ^ k)) ?_ fun s3 ss g3 p3 ⟨hs4, hss⟩ => ?_
 ·refine Rf.mono (mapS_rf (fun i ns q => Std ns (k + 2) q (gens t' G) (ox + ((i % 2 : Nat) : Int) * 2 ^ (k + 1) + 2 ^ k) (oy + ((i / 2 : Nat) : Int) * 2 ^ (k + 1) + 2 ^ k)) (fun i ns r => Std ns (k + 1) r (gens (t + 2 ^ j) G) (ox + ((i % 2 : Nat) : Int) * 2 ^ (k + 1) + 2 ^ k + 2 ^ k) (oy + ((i / 2 : Nat) : Int) * 2 ^ (k + 1) + 2 ^ k + 2 ^ k)) (fun i ns ns' q hw hp h => h.pre hw hp) (fun i ns ns' q hw hp h => h.pre hw hp) (fun i t1 q hg hq => ?_) ls 0 s2 g2 (fun i hi => ?_)) (fun s' l _ _ h => ?_)
  ·have := hlp t1 q j' t' _ _ hg hq (hpre _ _)
   rw [hsum] at this
   exact this
  ·rw [Nat.zero_add]
   exact hls i (by omega)
  ·refine ⟨by rw [h.1, hl4], fun i hi => ?_⟩
   have := h.2 i (by omega)
   rwa [Nat.zero_add] at this
 have h0 := hss 0 (by omega)
 have h1 := hss 1 (by omega)
 have h2 := hss 2 (by omega)
 have h3 := hss 3 (by omega)
 have ht3 : Tm c (k + 2) (t + 2 ^ j) := by
  rcases hj with ⟨h0, h1⟩ | ⟨_, h1, h2, h3, h4⟩
  ·exact .inl (mod_add h1 (by omega) j (by omega))
  ·exact .inr ⟨j + 1, by omega, by omega, by rw [h1]; exact bit_add h2⟩
 unfold put4
 refine putS_rf hR g3 (lv := k + 1) (by omega) (h0.at ?_ ?_) (h1.at ?_ ?_) (h2.at ?_ ?_) (h3.at ?_ ?_) ⟨dvd_at1 hx' (by omega), dvd_at1 hy' (by omega), ht3⟩
 all_goals (simp only [Nat.reduceDiv, Nat.reduceMod]; omega)
theorem keep_rf {s : LS} {n : Int} {j t k : Nat} {ox oy : Int} {r : L9} (hg : Gs room c b s) (hj : j ≤ k) (hn : IsN s.ns (k + 2) n) (h : Rf room c b s r fun ns m => Std ns (k + 1) m (gens (t + 2 ^ j) G) (ox + 2 ^ k) (oy + 2 ^ k)) (he : Lk room (keep n (j : Int) r).1 ∧ MS (keep n (j : Int) r).1) :
  Rf room c b s (keep n (j : Int) r) fun ns m => Std ns (k + 1) m (gens (t + 2 ^ j) G) (ox + 2 ^ k) (oy + 2 ^ k) := by
 obtain ⟨s', x, e, g, p, d⟩ := h
 unfold keep at he ⊢
 rw [e] at he ⊢
 exact ⟨⟨s'.ns, s'.mm ++ [(n, (j : Int), x)]⟩, x, rfl, ⟨he.1, he.2, g.q⟩, p, d⟩
theorem leap_rf (hR : Rm room c b) : ∀ k, LpG room c b k (leap room k)
 | 0, s, n, j, t, ox, oy, h, hs, hp => by
  obtain ⟨hx, hy, hj⟩ := hp
  obtain rfl : j = 0 := by omega
  have hlk := h.lk
  have key : (leap room 0 s n ((0 : Nat) : Int)).2.2 = 0 → Rf room c b s (leap room 0 s n ((0 : Nat) : Int)) fun ns m => Std ns (0 + 1) m (gens (t + 2 ^ 0) G) (ox + 2 ^ 0) (oy + 2 ^ 0) := fun he => by
   obtain ⟨l1, l2, l3, l4⟩ := leap_ok (room := room) 0 s n ((0 : Nat) : Int) hlk h.ms hs.1 ⟨by omega, by omega⟩ he
   have l5 := l4 _ _ _ hs
   have ee : gens (2 ^ ((0 : Nat) : Int).toNat) (gens t G) = gens (t + 2 ^ 0) G := (gens_add t (2 ^ 0) G).symm
   rw [ee] at l5
   refine ⟨(leap room 0 s n ((0 : Nat) : Int)).1, (leap room 0 s n ((0 : Nat) : Int)).2.1, by rw [← he], ⟨l1, l3, ?_⟩, l2, l5⟩
   have hin : InF c (leap room 0 s n ((0 : Nat) : Int)).1.ns (leap room 0 s n ((0 : Nat) : Int)).2.1 := ⟨1, by omega, .inr ⟨t + 2 ^ 0, ox + 2 ^ 0, oy + 2 ^ 0, ⟨⟨ox + 2 ^ 0, by simp⟩, ⟨oy + 2 ^ 0, by simp⟩, .inl (by simp [Nat.mod_one])⟩, l5⟩⟩
   unfold leap at hin he ⊢
   cases ho : look9 s.mm n ((0 : Nat) : Int) with
   | some x =>
    exact h.q
   | none =>
    rw [ho] at hin he
    have hw := hlk.wf
    have h0 : ∀ q, q = 0 ∨ q = 1 → IsN s.ns 0 q := fun q hq => by
     rcases hq with e | e <;> rw [e]
     ·exact ⟨hw.in0, by rw [hw.nd0]; rfl⟩
     ·exact ⟨hw.in1, by rw [hw.nd1]; rfl⟩
    have hb01 := fun y x => bit_01 (R8.s16 s.ns n) y x
    have hlen := h.len hR
    have e1 := (put_room' (room := room) hw (lv := 0) (by decide) (h0 _ (hb01 1 1)) (h0 _ (hb01 1 2)) (h0 _ (hb01 2 1)) (h0 _ (hb01 2 2)) (by omega)).1
    have e2 : (oneS room s n).2.2 = 0 := e1
    unfold keep at hin ⊢
    rw [if_neg (by simpa using e2)] at hin ⊢
    exact Qf.put hw h.q (fit4_of (lv := 0) (by decide) (h0 _ (hb01 1 1)) (h0 _ (hb01 1 2)) (h0 _ (hb01 2 1)) (h0 _ (hb01 2 2))) (show R8.one s.ns room n = (_, _, 0) from by rw [← e2]; rfl) hin
  refine key ?_
  unfold leap
  cases ho : look9 s.mm n ((0 : Nat) : Int) with
  | some x => rfl
  | none =>
   have hw := hlk.wf
   have h0 : ∀ q, q = 0 ∨ q = 1 → IsN s.ns 0 q := fun q hq => by
    rcases hq with e | e <;> rw [e]
    ·exact ⟨hw.in0, by rw [hw.nd0]; rfl⟩
    ·exact ⟨hw.in1, by rw [hw.nd1]; rfl⟩
   have hb01 := fun y x => bit_01 (R8.s16 s.ns n) y x
   have hlen := h.len hR
   have e1 := (put_room' (room := room) hw (lv := 0) (by decide) (h0 _ (hb01 1 1)) (h0 _ (hb01 1 2)) (h0 _ (hb01 2 1)) (h0 _ (hb01 2 2)) (by omega)).1
   have e2 : (oneS room s n).2.2 = 0 := e1
   unfold keep
   rw [if_neg (by simpa using e2)]
 | k + 1, s, n, j, t, ox, oy, h, hs, hp => by
  have hjk : j ≤ k + 1 := by
   rcases hp.2.2 with ⟨h0, _⟩ | ⟨h0, _⟩ <;> omega
  have hlk := h.lk
  unfold leap
  cases ho : look9 s.mm n (j : Int) with
  | some x =>
   have l4 : (leap room (k + 1) s n (j : Int)) = (s, x, 0) := by
    unfold leap
    rw [ho]
   obtain ⟨_, _, _, l5⟩ := leap_ok (room := room) (k + 1) s n (j : Int) hlk h.ms hs.1 ⟨by omega, by omega⟩ (by rw [l4])
   rw [l4] at l5
   have l6 := l5 _ _ _ hs
   rw [Int.toNat_natCast, ← gens_add] at l6
   exact ⟨s, x, rfl, h, List.prefix_refl _, l6⟩
  | none =>
   have hfar := far_rf hR (leap_rf hR k) h hs hp
   have l4 : leap room (k + 1) s n (j : Int) = keep n (j : Int) (far (leap room k) room (decide ((j : Int) = (k : Int) + 1)) s n (j : Int)) := by
    rw [leap, ho]
   have he : (leap room (k + 1) s n (j : Int)).2.2 = 0 := by
    rw [l4]
    obtain ⟨s', x, e, _⟩ := hfar
    unfold keep
    rw [e]
    rfl
   obtain ⟨l1, _, l3, _⟩ := leap_ok (room := room) (k + 1) s n (j : Int) hlk h.ms hs.1 ⟨by omega, by omega⟩ he
   rw [l4] at l1 l3
   exact keep_rf (k := k + 1) h hjk hs.1 hfar ⟨l1, l3⟩
end R9
end Go.GL


namespace Go.GL
open R6 R7
namespace R9
variable {room : Int} {c b : Nat}
theorem Qf.more {ns ms : List Node} (hw : Wf ns) (hp : ns <+: ms) (h : Qf c b ns) {d : Nat} (hd : ms.length ≤ ns.length + d) : Qf c (b + d) ms := by
 obtain ⟨l, hl, hn⟩ := h
 refine ⟨l ++ (List.range d).map fun i => ((ns.length + i : Nat) : Int), by simp only [List.length_append, List.length_map, List.length_range]; omega, fun n hin => ?_⟩
 by_cases ho : inS ns n
 ·rcases hn n ho with h | h
  ·exact .inl (List.mem_append_left _ h)
  ·exact .inr (h.pre hw hp)
 ·left
  refine List.mem_append_right _ (List.mem_map.2 ⟨(n - ns.length).toNat, List.mem_range.2 ?_, ?_⟩)
  ·have := hin.1
   have := hin.2
   unfold inS at ho
   omega
  ·have := hin.1
   have := hin.2
   unfold inS at ho
   omega
theorem emptyF_q : ∀ (k : Nat) (ns : List Node) (n : Int) (j : Nat), j + k ≤ 42 → R6.right ns room → Std ns j n nil2 0 0 → (ns.length : Int) + k ≤ room → Qf c b ns → Qf c b (emptyF room k ns n).1
 | 0, ns, n, j, _, _, _, _, hq => hq
 | k + 1, ns, n, j, hj, h, hn, hr, hq => by
  have hw := (right_iff.1 h).2
  obtain ⟨e, l⟩ := put_room' (room := room) hw (lv := j) (by omega) hn.1 hn.1 hn.1 hn.1 (by omega)
  have st := std_put hw hn (nil2_at hn _ _) (nil2_at hn _ _) (nil2_at hn _ _) e
  have q1 : Qf c b (put ns room n n n n).1 := Qf.put hw hq (fit4_of (by omega) hn.1 hn.1 hn.1 hn.1) (show put ns room n n n n = (_, _, 0) from by rw [← e]) ⟨j + 1, by omega, .inl st⟩
  unfold emptyF
  rw [if_neg (by simpa using e)]
  exact emptyF_q k _ _ (j + 1) (by omega) (right_put h n n n n).1 st (by omega) q1
/-- Grown: five nodes at most that are not of the family. -/
theorem grow_gs (hc : c % 4 = 0) (hroom : (48695 : Int) + b + 60 ≤ room) {s : LS} (h : Gs room c b s) {k : Nat} {n : Int} {f : Int → Int → Bool} (hk : k + 3 ≤ 42) (hs : Ctr s.ns k n f) :
  Rf room c (b + 5) s (grow room s n) fun ns m => Ctr ns (k + 1) m f := by
 have hlen := h.q.len hc h.lk.wf
 have hn := hs.1.1
 obtain ⟨e, _⟩ := grow_room (room := room) h.lk hk hn (by omega)
 obtain ⟨l1, p1, m1, c1⟩ := (grow_ctr' h.lk h.ms hk hs).2 e
 refine ⟨(grow room s n).1, (grow room s n).2.1, by rw [← e], ⟨l1, m1, ?_⟩, p1, c1⟩
 have hlv : (nd s.ns n).lv = k + 2 := by rw [hn.2]; omega
 have hw := h.lk.wf
 have h0 : Std s.ns 0 0 nil2 0 0 := ⟨⟨hw.in0, by rw [hw.nd0]; rfl⟩, fun x y _ => rfl⟩
 obtain ⟨e1, l1⟩ := emptyF_room (room := room) (k + 1) s.ns 0 0 (by omega) h.lk.right h0.1 (by omega)
 have q1 : Qf c b (R7.empty s.ns room (k + 1)).1 := emptyF_q (room := room) (k + 1) s.ns 0 0 (by omega) h.lk.right h0 (by omega) h.q
 have e1 : (R7.empty s.ns room (k + 1)).2.2 = 0 := e1
 have l1 : (R7.empty s.ns room (k + 1)).1.length ≤ s.ns.length + (k + 1) := l1
 rw [grow_eq, show ((nd s.ns n).lv - 1).toNat = k + 1 by omega, if_neg (by omega), if_neg (by simpa using e1)]
 obtain ⟨r1, p1, i1⟩ := empty_gd h.lk.right e1
 have lk1 : Lk room (⟨(R7.empty s.ns room (k + 1)).1, s.mm⟩ : LS) := ⟨r1, h.lk.mem.pre p1⟩
 obtain ⟨e2, l2⟩ := mapS_room (room := room) (f := growF room (R7.empty s.ns room (k + 1)).2.1 (nd s.ns n).kids) (C := fun ns k' => IsN ns (k + 1) (R7.empty s.ns room (k + 1)).2.1 ∧ IsN ns (k + 1) ((nd s.ns n).kids.getD k'.toNat default)) (lv := k + 2) (fun _ _ _ hp hq => ⟨hq.1.pre hp, hq.2.pre hp⟩) (fun t q ht hq hlt => by
  obtain ⟨a, b⟩ := put_room' (room := room) ht.wf (lv := k + 1) (by omega) (bigK_isN hq.1 hq.2 q.toNat 0) (bigK_isN hq.1 hq.2 q.toNat 1) (bigK_isN hq.1 hq.2 q.toNat 2) (bigK_isN hq.1 hq.2 q.toNat 3) hlt
  exact ⟨a, b, growF_gd ht hq a⟩) k4 _ lk1 (fun q hq => by
  simp only [k4, List.mem_cons, List.not_mem_nil, or_false] at hq
  exact ⟨i1, (kids_getD hw hn (by omega)).pre p1⟩) (by
  show ((R7.empty s.ns room (k + 1)).1.length : Int) + (4 : Nat) ≤ room
  omega)
 have l2 : (mapS (growF room (R7.empty s.ns room (k + 1)).2.1 (nd s.ns n).kids) ⟨(R7.empty s.ns room (k + 1)).1, s.mm⟩ k4).1.ns.length ≤ (R7.empty s.ns room (k + 1)).1.length + 4 := l2
 obtain ⟨g1, g2, g3, g4⟩ := growM_gd lk1 i1 (fun q hq => (kids_getD hw hn hq).pre p1) e2
 rw [bindM_ok e2]
 have hm := fun (i : Int) (a : 0 ≤ i) (b : i ≤ 3) => g4 _ (g_mem (i := i) a (by rw [g3]; omega))
 obtain ⟨e3, l3⟩ := put_room' (room := room) g1.wf (lv := k + 2) (by omega) (hm 0 (by omega) (by omega)) (hm 1 (by omega) (by omega)) (hm 2 (by omega) (by omega)) (hm 3 (by omega) (by omega)) (by omega)
 have g5 := putS_gd (room := room) g1 (lv := k + 2) (hm 0 (by omega) (by omega)) e3
 refine q1.more (right_iff.1 r1).2 (g2.trans g5.pre) ?_
 show (put _ room _ _ _ _).1.length ≤ _
 omega
theorem trim_gs (hc : c % 4 = 0) (hroom : (48695 : Int) + b + 60 ≤ room) {s : LS} (h : Gs room c b s) {k : Nat} {n : Int} {f : Int → Int → Bool} (hk : k + 2 ≤ 42) (hs : Ctr s.ns k n f) :
  Rf room c (b + 40) s (trimS room s n) fun ns m => ∃ k', k' ≤ k ∧ Ctr ns k' m f ∧ Trd ns k' m := by
 have hlen := h.q.len hc h.lk.wf
 unfold trimS
 rw [lvS_is hs.1.1]
 obtain ⟨e, l⟩ := trim_room (room := room) k s n hk h.lk hs.1.1 (by omega)
 obtain ⟨l1, p1, m1, k', c1, c2, c3⟩ := (trim_ctr (room := room) k s n f hk h.lk h.ms hs).2 e
 exact ⟨(trim room k s n).1, (trim room k s n).2.1, by rw [← e], ⟨l1, m1, h.q.more h.lk.wf p1 (by omega)⟩, p1, k', c1, c2, c3⟩
theorem growTo_gs (hc : c % 4 = 0) {j : Nat} (hj : j + 3 ≤ 42) : ∀ (i b : Nat) (s : LS) (n : Int) (k : Nat) (f : Int → Int → Bool), (48695 : Int) + b + 5 * 42 + 60 ≤ room + 5 * k → Gs room c b s → Ctr s.ns k n f → j + 1 ≤ k + i → k ≤ 42 →
  ∃ k2, k ≤ k2 ∧ (k2 = k ∨ k2 = j + 1) ∧ j + 1 ≤ k2 ∧ Rf room c (b + 5 * (k2 - k)) s (growTo room (j : Int) i s n) fun ns m => Ctr ns k2 m f
 | 0, b, s, n, k, f, hr, h, hs, hi, hk => ⟨k, Nat.le_refl _, .inl rfl, by omega, by
   rw [Nat.sub_self]
   exact ⟨s, n, rfl, h, List.prefix_refl _, hs⟩⟩
 | i + 1, b, s, n, k, f, hr, h, hs, hi, hk => by
  have hlv : (nd s.ns n).lv = ((k + 2 : Nat) : Int) := hs.1.1.2
  unfold growTo
  by_cases hl : (nd s.ns n).lv < (j : Int) + 3
  ·rw [if_pos hl]
   obtain ⟨s1, m1, e1, g1, p1, c1⟩ := grow_gs hc (by omega) h (by omega) hs
   rw [bindS_ok (by rw [e1]), e1]
   obtain ⟨k2, a1, a2, a3, a4⟩ := growTo_gs hc hj i (b + 5) s1 m1 (k + 1) f (by omega) g1 c1 (by omega) (by omega)
   refine ⟨k2, by omega, by omega, a3, ?_⟩
   rw [show b + 5 + 5 * (k2 - (k + 1)) = b + 5 * (k2 - k) by omega] at a4
   exact a4.from p1
  ·rw [if_neg hl]
   refine ⟨k, Nat.le_refl _, .inl rfl, by omega, ?_⟩
   rw [Nat.sub_self]
   exact ⟨s, n, rfl, h, List.prefix_refl _, hs⟩
theorem gl_supp (t : Nat) : Supp (gens t G) ((t / 4 : Nat) + 6) := fun x y h => by
 rw [gl_at] at h
 have := gens_supp6 (Nat.mod_lt t (by decide)) _ _ h
 omega
theorem p4 (e : Nat) : 2 ^ (e + 2) = 4 * 2 ^ e := by rw [Nat.pow_add]; omega
theorem p8 (e : Nat) : (2 : Int) ^ (e + 3) = 8 * 2 ^ e := by
 rw [Int.pow_add]
 omega
/-- One bit of a run. -/
theorem power_gs (hc : c % 4 = 0) (hroom : (48695 : Int) + b + 600 ≤ room) {s : LS} (h : Gs room c b s) {k j : Nat} {n : Int} (hk : k + 2 ≤ 42) (hj2 : 2 ≤ j) (hj : j ≤ 37) (hb : c / 2 ^ j % 2 = 1) (hs : Ctr s.ns k n (gens (c % 2 ^ j) G)) :
  Rf room c (b + 260) s (power room s n (j : Int)) fun ns m => ∃ k', k' ≤ 39 ∧ Ctr ns k' m (gens (c % 2 ^ (j + 1)) G) := by
 obtain ⟨e, rfl⟩ : ∃ e, j = e + 2 := ⟨j - 2, by omega⟩
 have ht : c % 2 ^ (e + 2) < 2 ^ (e + 2) := Nat.mod_lt _ (Nat.two_pow_pos _)
 have hp4 := p4 e
 obtain ⟨t, hte⟩ : ∃ t, c % 2 ^ (e + 2) = t := ⟨_, rfl⟩
 rw [hte] at hs ht
 have hsup := gl_supp t
 have hpn := pow_nat e
 have hsup2 : Supp (gens t G) (2 ^ e + 6) := hsup.le (by omega)
 unfold power
 refine bindS_rf (bindS_rf (bindS_rf (bindS_rf (trim_gs hc (by omega) h hk hs) (b' := b + 45) (Q' := fun ns m => ∃ k1, k1 ≤ e + 2 ∧ Ctr ns (k1 + 1) m (gens t G)) ?_) (b' := b + 50) (Q' := fun ns m => ∃ k1, k1 ≤ e + 2 ∧ Ctr ns (k1 + 2) m (gens t G)) ?_) (b' := b + 260) (Q' := fun ns m => ∃ k2, e + 3 ≤ k2 ∧ k2 ≤ e + 4 ∧ Ctr ns k2 m (gens t G)) ?_) ?_
 ·rintro s1 m1 g1 p1 ⟨k1, a1, a2, a3⟩
  have hk1 : k1 ≤ e + 2 := by
   apply Decidable.byContradiction
   intro hgt
   refine trd_far g1.lk.wf a2 a3 (a := e + 2) (by omega) (hsup2.le ?_)
   have h8 := p8 e
   have := p2pos e
   show (2 : Int) ^ e + 6 ≤ 2 ^ (e + 3)
   omega
  obtain ⟨s2, m2, e2, g2, p2, c2⟩ := grow_gs hc (by omega) g1 (by omega) a2
  exact ⟨s2, m2, e2, g2, p2, k1, hk1, c2⟩
 ·rintro s1 m1 g1 p1 ⟨k1, a1, a2⟩
  obtain ⟨s2, m2, e2, g2, p2, c2⟩ := grow_gs hc (by omega) g1 (by omega) a2
  exact ⟨s2, m2, e2, g2, p2, k1, a1, c2⟩
 ·rintro s1 m1 g1 p1 ⟨k1, a1, a2⟩
  obtain ⟨k2, d1, d2, d3, s2, m2, e2, g2, p2, c2⟩ := growTo_gs hc (j := e + 2) (by omega) 64 (b + 50) s1 m1 (k1 + 2) _ (by omega) g1 a2 (by omega) (by omega)
  refine ⟨s2, m2, e2, ⟨g2.lk, g2.ms, ?_⟩, p2, k2, by omega, by omega, c2⟩
  obtain ⟨l, hl, hn⟩ := g2.q
  exact ⟨l, by omega, hn⟩
 ·rintro s1 m1 g1 p1 ⟨k2, a1, a2, a3⟩
  show Rf room c (b + 260) s1 (leap room (lvS s1 m1) s1 m1 ((e + 2 : Nat) : Int)) _
  rw [lvS_is a3.1.1]
  have hR : Rm room c (b + 260) := ⟨hc, by omega⟩
  have hd : (2 : Int) ^ k2 ∣ -2 ^ (k2 + 1) := Int.dvd_neg.2 (dvd_pow (by omega))
  refine Rf.mono (leap_rf hR k2 s1 m1 (e + 2) t _ _ g1 a3.1 ⟨hd, hd, .inr ⟨by omega, hte.symm, hb, by omega, by omega⟩⟩) fun s2 m2 hw2 p2 st => ?_
  obtain ⟨q, rfl⟩ : ∃ q, k2 = q + 1 := ⟨k2 - 1, by omega⟩
  refine ⟨q, by omega, ?_⟩
  have hbit := bit_add hb
  rw [hte] at hbit
  rw [hbit] at st
  have hp1 := p2s' (q + 1)
  refine ⟨st.at (by omega) (by omega), (gl_supp (c % 2 ^ (e + 2 + 1))).le ?_⟩
  have hlt2 : c % 2 ^ (e + 2 + 1) < 2 ^ (e + 2 + 1) := Nat.mod_lt _ (Nat.two_pow_pos _)
  have hp5 : 2 ^ (e + 2 + 1) = 4 * (2 * 2 ^ e) := by rw [Nat.pow_succ, hp4]; omega
  have x1 := pow_le2 (a := e + 3) (b := q + 1) (by omega)
  have x2 := p8 e
  have x5 := p2pos e
  omega
theorem bit_no {c j : Nat} (h : c / 2 ^ j % 2 ≠ 1) : c % 2 ^ (j + 1) = c % 2 ^ j := by
 have e := Nat.mod_mul (x := c) (a := 2 ^ j) (b := 2)
 rw [Nat.pow_succ, e, show c / 2 ^ j % 2 = 0 by omega, Nat.mul_zero, Nat.add_zero]
theorem bit_int (c i : Nat) : ((c : Int) / 2 ^ i % 2 = 1) ↔ c / 2 ^ i % 2 = 1 := by
 rw [← pow_nat]
 omega
theorem run_gs (hc : c % 4 = 0) (hc38 : c < 2 ^ 38) : ∀ (r m b : Nat) (s : LS) (n : Int) (k : Nat), m + r = 62 → (48695 : Int) + b + 260 * r + 700 ≤ room → Gs room c b s → k ≤ 39 → Ctr s.ns k n (gens (c % 2 ^ m) G) →
  Rf room c (b + 260 * r + 40) s (runL room (((List.range' m r).filter fun i => decide ((c : Int) / 2 ^ i % 2 = 1)).map fun i => ((i : Nat) : Int)) s n) fun ns x => ∃ k', k' ≤ 39 ∧ Ctr ns k' x (gens c G)
 | 0, m, b, s, n, k, hm, hr, h, hk, hs => by
  obtain rfl : m = 62 := by omega
  have e : c % 2 ^ 62 = c := Nat.mod_eq_of_lt (Nat.lt_of_lt_of_le hc38 (Nat.pow_le_pow_right (by decide) (by decide)))
  rw [e] at hs
  show Rf room c (b + 260 * 0 + 40) s (trimS room s n) _
  refine Rf.mono (trim_gs hc (by omega) h (by omega) hs) fun s' x _ _ hq => ?_
  obtain ⟨k', a1, a2, _⟩ := hq
  exact ⟨k', by omega, a2⟩
 | r + 1, m, b, s, n, k, hm, hr, h, hk, hs => by
  rw [List.range'_succ, List.filter_cons]
  by_cases hb : c / 2 ^ m % 2 = 1
  ·rw [if_pos (by rw [decide_eq_true_iff]; exact (bit_int c m).2 hb), List.map_cons]
   have hm2 : 2 ≤ m := by
    apply Decidable.byContradiction
    intro hlt
    rcases (by omega : m = 0 ∨ m = 1) with rfl | rfl <;> omega
   have hm37 : m ≤ 37 := by
    apply Decidable.byContradiction
    intro hgt
    have : c / 2 ^ m = 0 := Nat.div_eq_of_lt (Nat.lt_of_lt_of_le hc38 (Nat.pow_le_pow_right (by decide) (by omega)))
    rw [this] at hb
    omega
   show Rf room c (b + 260 * (r + 1) + 40) s (bindS (power room s n (m : Int)) (runL room _)) _
   refine bindS_rf (power_gs hc (by omega) h (by omega) hm2 hm37 hb hs) fun s1 m1 g1 p1 hq => ?_
   obtain ⟨k', a1, a2⟩ := hq
   have := run_gs hc hc38 r (m + 1) (b + 260) s1 m1 k' (by omega) (by omega) g1 a1 a2
   rw [show b + 260 + 260 * r + 40 = b + 260 * (r + 1) + 40 by omega] at this
   exact this
  ·rw [if_neg (by rw [decide_eq_true_iff]; exact fun h => hb ((bit_int c m).1 h))]
   rw [← bit_no hb] at hs
   obtain ⟨s', x, e, g, p, q⟩ := run_gs hc hc38 r (m + 1) b s n k (by omega) (by omega) h hk hs
   obtain ⟨l, hl, hn⟩ := g.q
   exact ⟨s', x, e, ⟨g.lk, g.ms, l, by omega, hn⟩, p, q⟩
end R9
end Go.GL


namespace Go.GL
open R6 R7
namespace RL
def neg (c : Cell) : Cell := ⟨-c.x, -c.y⟩
def mset (raw : List Cell) : List Cell := R1.puts ((set raw).map neg)
/-- The cells of a node in the middle, outside of which there is nothing. -/
theorem mem_ctr {ns : List Node} (h : Wf ns) {k : Nat} {n : Int} {f : Int → Int → Bool} (hs : R9.Ctr ns k n f) (c : Cell) : c ∈ R7.of ns n ↔ f c.x c.y = true := by
 rw [R9.mem_std h hs.1]
 constructor
 ·exact fun h => h.2
 ·intro hf
  refine ⟨?_, hf⟩
  have := hs.2 _ _ hf
  unfold inL
  rw [side_succ]
  exact this
end RL
end Go.GL


namespace Go.GL
namespace R7
open R6
theorem pop4_eq {ns : List Node} {q0 q1 q2 q3 : Int} (h0 : 0 ≤ (nd ns q0).pop) (h1 : 0 ≤ (nd ns q1).pop) (h2 : 0 ≤ (nd ns q2).pop) (h3 : 0 ≤ (nd ns q3).pop) (h : pop4 ns q0 q1 q2 q3 < cap62) :
  pop4 ns q0 q1 q2 q3 = (nd ns q0).pop + (nd ns q1).pop + (nd ns q2).pop + (nd ns q3).pop := by
 unfold pop4 mn cap62 at *
 generalize (nd ns q0).pop = a at *
 generalize (nd ns q1).pop = b at *
 generalize (nd ns q2).pop = c at *
 generalize (nd ns q3).pop = d at *
 repeat' split at h
 all_goals (repeat' split)
 all_goals omega
theorem flat_eq {ns : List Node} {m : Nat} {n : Int} {c : Cell} (h : ¬ (nd ns n).pop = 0) : flat ns (m + 1) n c = flat ns m (nd ns n).k0 c ++ flat ns m (nd ns n).k1 ⟨c.x + 2 ^ m, c.y⟩ ++ flat ns m (nd ns n).k2 ⟨c.x, c.y + 2 ^ m⟩ ++ flat ns m (nd ns n).k3 ⟨c.x + 2 ^ m, c.y + 2 ^ m⟩ := by rw [flat]; rw [if_neg h]
/-- A node has as many cells as its Pop tells, below the greatest Pop. -/
theorem flat_pop {ns : List Node} (h : Wf ns) : ∀ (lv : Nat) (n : Int) (c : Cell), IsN ns lv n → (nd ns n).pop < cap62 → ((flat ns lv n c).length : Int) = (nd ns n).pop
 | 0, n, c, hn, hp => by
  rcases isN0 h hn with rfl | rfl
  ·rw [flat]; rw [if_pos (by rw [h.nd0]; rfl), h.nd0]; rfl
  ·rw [flat]; rw [if_neg (by rw [h.nd1]; decide), h.nd1]; rfl
 | lv + 1, n, c, hn, hp => by
  by_cases h0 : (nd ns n).pop = 0
  ·rw [flat]; rw [if_pos h0, h0]; rfl
  ·obtain ⟨a, b, d, e⟩ := kids4 h hn
   have e1 := h.pop hn.1 (by rw [hn.2]; omega)
   have a0 := (h.mod.nd a.1).2.2.1
   have b0 := (h.mod.nd b.1).2.2.1
   have d0 := (h.mod.nd d.1).2.2.1
   have e0 := (h.mod.nd e.1).2.2.1
   have e2 := pop4_eq a0 b0 d0 e0 (by rw [← e1]; exact hp)
   rw [flat_eq h0]
   have f1 := flat_pop h lv _ c a (by omega)
   have f2 := flat_pop h lv _ ⟨c.x + 2 ^ lv, c.y⟩ b (by omega)
   have f3 := flat_pop h lv _ ⟨c.x, c.y + 2 ^ lv⟩ d (by omega)
   have f4 := flat_pop h lv _ ⟨c.x + 2 ^ lv, c.y + 2 ^ lv⟩ e (by omega)
   simp only [List.length_append]
   omega
end R7
end Go.GL


namespace Go.GL
namespace R7
/-- The quarter that a cell about the middle is in, and where it is there. -/
def qk (c : Cell) : Nat := (if 0 ≤ c.x then 1 else 0) + (if 0 ≤ c.y then 2 else 0)
def qh (lv : Nat) : Int := 2 ^ lv / 4
def qd (h : Int) (c : Cell) : Cell := ⟨(if 0 ≤ c.x then c.x - 2 * h else c.x) + h, (if 0 ≤ c.y then c.y - 2 * h else c.y) + h⟩
end R7
end Go.GL


namespace Go.GL
namespace R7
/-! ### The program's quarters (about the middle) and the document's (from a corner) -/
def pt7 (L : Nat) (k : Nat) (l : List Cell) : List Cell := (l.filter fun c => qk c == k).map (qd (qh L))
def cor : Nat → List Cell → List Cell
 | 0, l => l
 | m + 1, l => corner (2 ^ m) l
end R7
end Go.GL


namespace Go.GL
namespace R7
/-! ### What layer 7 tells of nodes -/
def may (ns : List Node) (room n : Int) : Prop := R6.right ns room ∧ 0 ≤ n ∧ n < ns.length ∧ 0 < (R6.nd ns n).lv
instance (ns : List Node) (room n : Int) : Decidable (may ns room n) := inferInstanceAs (Decidable (_ ∧ _))
def cells (ns : List Node) (room n : Int) : List Cell × Int := if may ns room n then (if 2000 < (R6.nd ns n).pop then ([], 3) else R1.of (of ns n)) else ([], 1)
def kidx (x : Node) (k : Nat) : Int := if k = 0 then x.k0 else if k = 1 then x.k1 else if k = 2 then x.k2 else x.k3
/-- Is a cell of a node's square alive? -/
def getL (ns : List Node) : Nat → Int → Cell → Bool
 | 0, n, _ => decide ((R6.nd ns n).pop = 1)
 | lv + 1, n, c => getL ns lv (kidx (R6.nd ns n) (qk c)) (qd (qh (lv + 1)) c)
def getM (ns : List Node) (room n : Int) (c : Cell) : Bool × Int := if may ns room n then (decide (inL (R6.nd ns n).lv c) && getL ns (R6.nd ns n).lv.toNat n c, 0) else (false, 1)
def put1 (ns : List Node) (room : Int) (x : Node) (k : Nat) (m : Int) : List Node × Int × Int :=
 R6.put ns room (if k = 0 then m else x.k0) (if k = 1 then m else x.k1) (if k = 2 then m else x.k2) (if k = 3 then m else x.k3)
/-- A node with a cell changed. -/
def setL (room : Int) (to : Int) : Nat → List Node → Int → Cell → List Node × Int × Int
 | 0, ns, _, _ => (ns, to, 0)
 | lv + 1, ns, n, c =>
  let r := setL room to lv ns (kidx (R6.nd ns n) (qk c)) (qd (qh (lv + 1)) c)
  if r.2.2 ≠ 0 then (ns, 0, r.2.2) else put1 r.1 room (R6.nd ns n) (qk c) r.2.1
def setM (ns : List Node) (room n : Int) (c : Cell) (alive : Bool) : List Node × Int × Int :=
 if may ns room n then
  if inL (R6.nd ns n).lv c then
   let r := setL room (if alive then 1 else 0) (R6.nd ns n).lv.toNat ns n c
   if r.2.2 ≠ 0 then (ns, 0, r.2.2) else r
  else (ns, 0, 2)
 else (ns, 0, 1)
/-- A node of one level more that stands for the same set. -/
def larger (ns : List Node) (room n : Int) : List Node × Int × Int :=
 let d := empty ns room ((R6.nd ns n).lv - 1).toNat
 if d.2.2 ≠ 0 then (ns, 0, d.2.2) else
 let r0 := R6.put d.1 room d.2.1 d.2.1 d.2.1 (R6.nd ns n).k0
 if r0.2.2 ≠ 0 then (ns, 0, r0.2.2) else
 let r1 := R6.put r0.1 room d.2.1 d.2.1 (R6.nd ns n).k1 d.2.1
 if r1.2.2 ≠ 0 then (ns, 0, r1.2.2) else
 let r2 := R6.put r1.1 room d.2.1 (R6.nd ns n).k2 d.2.1 d.2.1
 if r2.2.2 ≠ 0 then (ns, 0, r2.2.2) else
 let r3 := R6.put r2.1 room (R6.nd ns n).k3 d.2.1 d.2.1 d.2.1
 if r3.2.2 ≠ 0 then (ns, 0, r3.2.2) else
 let r4 := R6.put r3.1 room r0.2.1 r1.2.1 r2.2.1 r3.2.1
 if r4.2.2 ≠ 0 then (ns, 0, r4.2.2) else r4
def growM (ns : List Node) (room n : Int) : List Node × Int × Int := if may ns room n ∧ (R6.nd ns n).lv < 42 then larger ns room n else (ns, 0, 1)
end R7
end Go.GL


namespace Go.GL
namespace R7
open R6
/-! ### The least box about what a node stands for -/
/-- Two edges (from, to) together, the second one so much further on. -/
def jn (a b : Cell) (d : Int) : Cell :=
 if b.x = b.y then a else if a.x = a.y then ⟨b.x + d, b.y + d⟩ else ⟨if b.x + d < a.x then b.x + d else a.x, if a.y < b.y + d then b.y + d else a.y⟩
def ex (ns : List Node) (ax : Bool) : Nat → Int → Cell
 | 0, n => ⟨0, (nd ns n).pop⟩
 | m + 1, n => jn (jn (jn (jn ⟨0, 0⟩ (ex ns ax m (nd ns n).k0) 0) (ex ns ax m (nd ns n).k1) (if ax then 2 ^ m else 0)) (ex ns ax m (nd ns n).k2) (if ax then 0 else 2 ^ m)) (ex ns ax m (nd ns n).k3) (2 ^ m)
def boxM (ns : List Node) (room n : Int) : R1.Rect × Bool :=
 if may ns room n ∧ (nd ns n).pop ≠ 0 then
  (⟨(ex ns true (nd ns n).lv.toNat n).x - side (nd ns n).lv, (ex ns false (nd ns n).lv.toNat n).x - side (nd ns n).lv, (ex ns true (nd ns n).lv.toNat n).y - (ex ns true (nd ns n).lv.toNat n).x, (ex ns false (nd ns n).lv.toNat n).y - (ex ns false (nd ns n).lv.toNat n).x⟩, true)
 else (⟨0, 0, 0, 0⟩, false)
/-- What an edge within a width keeps to. -/
def Eg (w : Int) (e : Cell) : Prop := (0 ≤ e.x ∧ e.x < e.y ∧ e.y ≤ w) ∨ (e.x = 0 ∧ e.y = 0)
theorem Eg.jn {w v d : Int} {a b : Cell} (ha : Eg w a) (hb : Eg v b) (hd : 0 ≤ d) (h : v + d ≤ w) : Eg w (jn a b d) ∧ ((jn a b d).x = (jn a b d).y ↔ a.x = a.y ∧ b.x = b.y) := by
 unfold Eg R7.jn at *
 split
 ·exact ⟨ha, by omega⟩
 ·split
  ·simp only; omega
  ·simp only
   split <;> split <;> omega
theorem Eg.mono {w v : Int} {a : Cell} (ha : Eg w a) (h : w ≤ v) : Eg v a := by unfold Eg at *; omega
end R7
end Go.GL


namespace Go.GL
instance : Enc R1.Rect := ⟨fun r => [.int .i64 r.x, .int .i64 r.y, .int .i64 r.w, .int .i64 r.h], 4, fun _ => rfl, fun _ => rfl⟩
namespace R7
open R6
open R1 (Rect)
/-! ### The document's boxes -/
def jr (b q : Rect) (dx dy : Int) : Rect :=
 if q.w = 0 then b else if b.w = 0 then ⟨q.x + dx, q.y + dy, q.w, q.h⟩ else
 ⟨if q.x + dx < b.x then q.x + dx else b.x, if q.y + dy < b.y then q.y + dy else b.y,
  (if b.x + b.w < q.x + dx + q.w then q.x + dx + q.w else b.x + b.w) - (if q.x + dx < b.x then q.x + dx else b.x),
  (if b.y + b.h < q.y + dy + q.h then q.y + dy + q.h else b.y + b.h) - (if q.y + dy < b.y then q.y + dy else b.y)⟩
def rcx (ns : List Node) : Nat → Int → Rect
 | 0, n => ⟨0, 0, (nd ns n).pop, (nd ns n).pop⟩
 | m + 1, n => jr (jr (jr (jr ⟨0, 0, 0, 0⟩ (rcx ns m (nd ns n).k0) 0 0) (rcx ns m (nd ns n).k1) (2 ^ m) 0) (rcx ns m (nd ns n).k2) 0 (2 ^ m)) (rcx ns m (nd ns n).k3) (2 ^ m) (2 ^ m)
def EgR (w : Int) (b : Rect) : Prop := (0 ≤ b.x ∧ 0 < b.w ∧ b.x + b.w ≤ w ∧ 0 ≤ b.y ∧ 0 < b.h ∧ b.y + b.h ≤ w) ∨ (b.x = 0 ∧ b.y = 0 ∧ b.w = 0 ∧ b.h = 0)
theorem EgR.mono {w v : Int} {a : Rect} (ha : EgR w a) (h : w ≤ v) : EgR v a := by unfold EgR at *; omega
theorem EgR.jr {w v dx dy : Int} {b q : Rect} (hb : EgR w b) (hq : EgR v q) (hx : 0 ≤ dx) (hy : 0 ≤ dy) (h1 : v + dx ≤ w) (h2 : v + dy ≤ w) : EgR w (jr b q dx dy) := by
 unfold EgR R7.jr at *
 split
 ·exact hb
 ·split
  ·simp only; omega
  ·simp only
   repeat' split
   all_goals omega
/-- Two edges as a box. -/
def rcE (e f : Cell) : Rect := ⟨e.x, f.x, e.y - e.x, f.y - f.x⟩
def rcl (ns : List Node) (i : Nat) : List Rect := (List.range i).map fun j => rcx ns (ns.getD j default).lv.toNat j
end R7
end Go.GL


namespace Go.GL
/-! ### What layer 7 does, told of the cells -/
namespace R7
open R6 R9
theorem pop4_le {ns : List Node} {q0 q1 q2 q3 : Int} (h0 : 0 ≤ (nd ns q0).pop) (h1 : 0 ≤ (nd ns q1).pop) (h2 : 0 ≤ (nd ns q2).pop) (h3 : 0 ≤ (nd ns q3).pop) : pop4 ns q0 q1 q2 q3 ≤ (nd ns q0).pop + (nd ns q1).pop + (nd ns q2).pop + (nd ns q3).pop := by
 unfold pop4 mn cap62
 repeat' split
 all_goals omega
theorem pop_le {ns : List Node} (h : Wf ns) : ∀ (lv : Nat) (n : Int), IsN ns lv n → (nd ns n).pop ≤ 4 ^ lv
 | 0, n, hn => by
  rcases isN0 h hn with rfl | rfl
  ·rw [h.nd0]; decide
  ·rw [h.nd1]; decide
 | lv + 1, n, hn => by
  obtain ⟨a, b, c, d⟩ := kids4 h hn
  have e := h.pop hn.1 (by rw [hn.2]; omega)
  have ha := pop_le h lv _ a
  have hb := pop_le h lv _ b
  have hc := pop_le h lv _ c
  have hd := pop_le h lv _ d
  have p := pop4_le (h.mod.nd a.1).2.2.1 (h.mod.nd b.1).2.2.1 (h.mod.nd c.1).2.2.1 (h.mod.nd d.1).2.2.1
  rw [e, Int.pow_succ]
  omega
theorem pop_cap {ns : List Node} (h : Wf ns) {lv : Nat} {n : Int} (hl : lv ≤ 30) (hn : IsN ns lv n) : (nd ns n).pop < cap62 := by
 have h1 := pop_le h lv n hn
 have h2 : (4 : Nat) ^ lv ≤ 4 ^ 30 := Nat.pow_le_pow_right (by omega) hl
 have h3 : (4 : Int) ^ lv = ((4 ^ lv : Nat) : Int) := by simp
 rw [h3] at h1
 unfold cap62
 omega
theorem flat_nodup {ns : List Node} (h : Wf ns) : ∀ (lv : Nat) (n : Int) (o : Cell), IsN ns lv n → (flat ns lv n o).Nodup
 | 0, n, o, hn => by
  rw [flat]
  split
  ·exact List.nodup_nil
  ·simp
 | lv + 1, n, o, hn => by
  by_cases h0 : (nd ns n).pop = 0
  ·rw [flat, if_pos h0]; exact List.nodup_nil
  ·obtain ⟨a, b, c, d⟩ := kids4 h hn
   have ma := fun e => mem_flat h lv (nd ns n).k0 o e a
   have mb := fun e => mem_flat h lv (nd ns n).k1 ⟨o.x + 2 ^ lv, o.y⟩ e b
   have mc := fun e => mem_flat h lv (nd ns n).k2 ⟨o.x, o.y + 2 ^ lv⟩ e c
   have md := fun e => mem_flat h lv (nd ns n).k3 ⟨o.x + 2 ^ lv, o.y + 2 ^ lv⟩ e d
   rw [flat_eq h0]
   refine List.nodup_append.2 ⟨List.nodup_append.2 ⟨List.nodup_append.2 ⟨flat_nodup h lv _ _ a, flat_nodup h lv _ _ b, ?_⟩, flat_nodup h lv _ _ c, ?_⟩, flat_nodup h lv _ _ d, ?_⟩
   ·intro u hu v hv e
    subst e
    have h1 := ((ma _).1 hu).1
    have h2 := ((mb _).1 hv).1
    unfold inQ at h1 h2
    simp only at h1 h2
    omega
   ·intro u hu v hv e
    subst e
    have h2 := ((mc _).1 hv).1
    unfold inQ at h2
    rcases List.mem_append.1 hu with hu | hu
    ·have h1 := ((ma _).1 hu).1
     unfold inQ at h1
     simp only at h1 h2
     omega
    ·have h1 := ((mb _).1 hu).1
     unfold inQ at h1
     simp only at h1 h2
     omega
   ·intro u hu v hv e
    subst e
    have h2 := ((md _).1 hv).1
    unfold inQ at h2
    rcases List.mem_append.1 hu with hu | hu
    ·rcases List.mem_append.1 hu with hu | hu
     ·have h1 := ((ma _).1 hu).1
      unfold inQ at h1
      simp only at h1 h2
      omega
     ·have h1 := ((mb _).1 hu).1
      unfold inQ at h1
      simp only at h1 h2
      omega
    ·have h1 := ((mc _).1 hu).1
     unfold inQ at h1
     simp only at h1 h2
     omega
/-- A node stands for a sorted list of cells, about its middle. -/
structure Sd (ns : List Node) (lv : Nat) (n : Int) (l : List Cell) : Prop where
 is : IsN ns (lv + 1) n
 srt : R1.Srt l
 bd : ∀ c ∈ l, inL ((lv + 1 : Nat) : Int) c
 std : ∀ c : Cell, inL ((lv + 1 : Nat) : Int) c → al ns (lv + 1) n (c.x + 2 ^ lv) (c.y + 2 ^ lv) = decide (c ∈ l)
theorem Sd.mem {ns : List Node} (h : Wf ns) {lv : Nat} {n : Int} {l : List Cell} (s : Sd ns lv n l) (c : Cell) : c ∈ of ns n ↔ c ∈ l := by
 rw [mem_of h s.is]
 constructor
 ·rintro ⟨a, b⟩; rw [s.std c a] at b; exact of_decide_eq_true b
 ·intro hc; exact ⟨s.bd c hc, by rw [s.std c (s.bd c hc)]; exact decide_eq_true hc⟩
theorem Sd.pre {ns ms : List Node} (h : Wf ns) (hp : ns <+: ms) {lv : Nat} {n : Int} {l : List Cell} (s : Sd ns lv n l) : Sd ms lv n l := ⟨s.is.pre hp, s.srt, s.bd, fun c hc => by rw [al_pre h hp _ _ _ _ s.is]; exact s.std c hc⟩
theorem of_eq {ns : List Node} {lv : Nat} {n : Int} (hn : IsN ns (lv + 1) n) : of ns n = flat ns (lv + 1) n ⟨-side ((lv + 1 : Nat) : Int), -side ((lv + 1 : Nat) : Int)⟩ := by
 unfold of
 rw [hn.2]
 have : ((lv + 1 : Nat) : Int).toNat = lv + 1 := by omega
 rw [this]
theorem Sd.puts {ns : List Node} (h : Wf ns) {lv : Nat} {n : Int} {l : List Cell} (s : Sd ns lv n l) : R1.puts (of ns n) = l :=
 R1.srt_ext (R1.puts_srt _) s.srt fun d => by rw [R1.mem_puts, s.mem h]
theorem len_of_nodup {l m : List Cell} (hl : l.Nodup) (hm : m.Nodup) (h : ∀ c, c ∈ l ↔ c ∈ m) : l.length = m.length :=
 ((List.perm_ext_iff_of_nodup hl hm).2 h).length_eq
theorem Sd.pop {ns : List Node} (h : Wf ns) {lv : Nat} (hl : lv + 1 ≤ 30) {n : Int} {l : List Cell} (s : Sd ns lv n l) : (nd ns n).pop = l.length := by
 have e := flat_pop h (lv + 1) n ⟨-side ((lv + 1 : Nat) : Int), -side ((lv + 1 : Nat) : Int)⟩ s.is (pop_cap h hl s.is)
 rw [← e, ← of_eq s.is, len_of_nodup (by rw [of_eq s.is]; exact flat_nodup h _ _ _ s.is) (R1.srt_nodup s.srt) (s.mem h)]
theorem Sd.may {ns : List Node} {room : Int} {lv : Nat} {n : Int} {l : List Cell} (s : Sd ns lv n l) (h : R6.right ns room) : R7.may ns room n := ⟨h, s.is.1.1, s.is.1.2, by rw [s.is.2]; omega⟩
theorem Sd.cells {ns : List Node} {room : Int} (h : R6.right ns room) {lv : Nat} (hl : lv + 1 ≤ 30) {n : Int} {l : List Cell} (s : Sd ns lv n l) (hr : R1.right l) : R7.cells ns room n = (l, 0) := by
 have hw := (R6.right_iff.1 h).2
 unfold R7.cells
 rw [if_pos (s.may h), s.pop hw hl, if_neg (by have := hr.2; omega), R1.of_ok (fun c hc => R1.right_inB hr c ((s.mem hw c).1 hc)) (by rw [s.puts hw]; exact hr.2), s.puts hw]
end R7
end Go.GL


namespace Go.GL
open R6 R7
namespace R9
theorem pop4_sum {ns : List Node} {q0 q1 q2 q3 : Int} (h0 : 0 ≤ (nd ns q0).pop) (h1 : 0 ≤ (nd ns q1).pop) (h2 : 0 ≤ (nd ns q2).pop) (h3 : 0 ≤ (nd ns q3).pop) (hs : (nd ns q0).pop + (nd ns q1).pop + (nd ns q2).pop + (nd ns q3).pop ≤ 1000) : pop4 ns q0 q1 q2 q3 = (nd ns q0).pop + (nd ns q1).pop + (nd ns q2).pop + (nd ns q3).pop := by
 unfold pop4 mn cap62
 generalize (nd ns q0).pop = a at *
 generalize (nd ns q1).pop = b at *
 generalize (nd ns q2).pop = c at *
 generalize (nd ns q3).pop = d at *
 repeat' split
 all_goals omega
/-- A node of few cells has as many as its flat list. -/
theorem pop_flat {ns : List Node} (h : Wf ns) : ∀ (lv : Nat) (n : Int) (o : Cell), IsN ns lv n → (flat ns lv n o).length ≤ 1000 → (nd ns n).pop = (flat ns lv n o).length
 | lv, n, o, hn, hl => by
  by_cases hp : (nd ns n).pop = 0
  ·have e : flat ns lv n o = [] := by unfold flat; rw [if_pos hp]
   rw [e, hp]
   rfl
  ·match lv, hn with
   | 0, hn =>
    have e : flat ns 0 n o = [o] := by unfold flat; rw [if_neg hp]
    rw [e]
    rcases isN0 h hn with rfl | rfl
    ·exact absurd (by rw [h.nd0]; rfl) hp
    ·rw [h.nd1]; rfl
   | lv + 1, hn =>
    obtain ⟨a, b, cc, d⟩ := kids4 h hn
    have e : flat ns (lv + 1) n o = flat ns lv (nd ns n).k0 o ++ flat ns lv (nd ns n).k1 ⟨o.x + 2 ^ lv, o.y⟩ ++ flat ns lv (nd ns n).k2 ⟨o.x, o.y + 2 ^ lv⟩ ++ flat ns lv (nd ns n).k3 ⟨o.x + 2 ^ lv, o.y + 2 ^ lv⟩ := by rw [flat]; rw [if_neg hp]
    rw [e] at hl ⊢
    simp only [List.length_append] at hl ⊢
    have i0 := pop_flat h lv _ o a (by omega)
    have i1 := pop_flat h lv _ ⟨o.x + 2 ^ lv, o.y⟩ b (by omega)
    have i2 := pop_flat h lv _ ⟨o.x, o.y + 2 ^ lv⟩ cc (by omega)
    have i3 := pop_flat h lv _ ⟨o.x + 2 ^ lv, o.y + 2 ^ lv⟩ d (by omega)
    rw [h.pop hn.1 (by rw [hn.2]; omega), pop4_sum (by omega) (by omega) (by omega) (by omega) (by omega), i0, i1, i2, i3]
    simp only [Int.natCast_add]
theorem gl0_right : R1.right gl0 := by decide +kernel
theorem gens_c (d : Nat) : gens (4 * d) G = pl (gl0.map (R1.mv d d)) := by
 rw [gl_four, R2.pl_mv]
 rfl
/-- Far: the glider has gone its way. -/
structure FarR (ms : List Node) (m : Int) (d : Nat) (ns : List Node) (x : Int) (k : Nat) : Prop where
 eq : runT ms 100000 m ((4 * d : Nat) : Int) = (ns, x, 0)
 right : R6.right ns 100000
 is : IsN ns (k + 2) x
 pop : (nd ns x).pop = 5
 len : (R7.of ns x).length = 5
 cells : R1.of (R7.of ns x) = (gl0.map (R1.mv d d), 0)
 shift : R1.shift gl0 d d = (gl0.map (R1.mv d d), 0)
theorem far_ok {d : Nat} (hd : d < 2 ^ 36) {ms : List Node} {m : Int} (hr : R6.right ms 100000) (hml : ms.length ≤ 402) (hstd : Std ms 4 m (pl gl0) (-2 ^ 3) (-2 ^ 3)) : ∃ ns x k, FarR ms m d ns x k := by
 have hw := (right_iff.1 hr).2
 have hc : 4 * d % 4 = 0 := by omega
 have hc38 : 4 * d < 2 ^ 38 := by omega
 have hq : Qf (4 * d) 402 ms := ⟨(List.range ms.length).map fun i => ((i : Nat) : Int), by simp only [List.length_map, List.length_range]; exact hml, fun n hin => .inl (List.mem_map.2 ⟨n.toNat, List.mem_range.2 (by have := hin.1; have := hin.2; omega), by have := hin.1; omega⟩)⟩
 have hctr : Ctr ms 2 m (gens (4 * d % 2 ^ 0) G) := by
  rw [Nat.pow_zero, Nat.mod_one]
  exact ⟨hstd, G_supp.le (by decide)⟩
 obtain ⟨s', x, e, g, p, k, hk, hx⟩ := run_gs (room := 100000) hc hc38 62 0 402 ⟨ms, []⟩ m 2 rfl (by omega) ⟨lk_nil hr, ms_nil ms, hq⟩ (by omega) hctr
 have hwx := g.lk.wf
 rw [gens_c] at hx
 have hnd : (gl0.map (R1.mv d d)).Nodup := R1.srt_nodup (R2.srt_map (R1.right_srt gl0_right) d d)
 have hmem : ∀ c, c ∈ R7.of s'.ns x ↔ c ∈ gl0.map (R1.mv d d) := fun c => by
  rw [RL.mem_ctr hwx hx]
  exact R2.pl_mem
 have hfn : (R7.of s'.ns x).Nodup := by
  rw [R7.of_eq (lv := k + 1) hx.1.1]
  exact flat_nodup hwx _ _ _ hx.1.1
 have hlen : (R7.of s'.ns x).length = 5 := len_of_nodup hfn hnd hmem
 have hin : ∀ c ∈ gl0.map (R1.mv d d), R1.inB c := fun c hc => by
  obtain ⟨c0, h0, rfl⟩ := List.mem_map.1 hc
  have := G_supp c0.x c0.y (decide_eq_true h0)
  unfold R1.inB R1.mv
  simp only
  omega
 have hputs : R1.puts (R7.of s'.ns x) = gl0.map (R1.mv d d) := R1.srt_ext (R1.puts_srt _) (R2.srt_map (R1.right_srt gl0_right) d d) fun {c} => by
  rw [R1.mem_puts]
  exact hmem c
 refine ⟨s'.ns, x, k, ?_, g.lk.right, hx.1.1, ?_, hlen, ?_, (R2.shift_ok gl0_right fun c hc => hin _ (List.mem_map.2 ⟨c, hc, rfl⟩)).1⟩
 ·unfold runT
  rw [if_pos ⟨⟨hr, hstd.1.1, by rw [hstd.1.2]; decide⟩, by omega, by omega⟩]
  have hb : bits ((4 * d : Nat) : Int) = ((List.range' 0 62).filter fun i => decide (((4 * d : Nat) : Int) / 2 ^ i % 2 = 1)).map fun i => ((i : Nat) : Int) := by
   unfold bits
   rw [List.range_eq_range']
  rw [hb, e]
  rfl
 ·have := pop_flat hwx (k + 2) x ⟨-side ((k + 1 + 1 : Nat) : Int), -side ((k + 1 + 1 : Nat) : Int)⟩ hx.1.1 (by
   rw [R7.of_eq (lv := k + 1) hx.1.1] at hlen
   rw [hlen]
   decide)
  rw [R7.of_eq (lv := k + 1) hx.1.1] at hlen
  rw [this, hlen]
  rfl
 ·rw [R1.of_ok, hputs]
  ·exact fun c hc => hin c ((hmem c).1 hc)
  ·rw [hputs]
   exact Nat.le_of_ble_eq_true rfl
end R9
end Go.GL


namespace Go.GL
open Go.Proofs
attribute [local irreducible] wpList Code.wp Exit.then Exit.inBlock Ends Tri TriH OpV OpG FnC epf wpAnyH
variable {A : List Asrt} {I : List Chunk}
set_option maxHeartbeats 2000000 in
set_option maxRecDepth 100000 in
theorem ref01_shift {l : List Cell} {a : Option Addr} {cap : Nat} {dx dy : Int} (hs : SlAt I a l) (hn : l.length ≤ 1000000000) :
  FnC Try.prog 33 [.slice a l.length cap, .int .i64 dx, .int .i64 dy].toArray A I (fun v A' I' => ∃ a' cap', v = .tuple [.slice a' (R1.shift l dx dy).1.length cap', .int .i64 (R1.shift l dx dy).2].toArray ∧ SlAt I' a' (R1.shift l dx dy).1 ∧ A = A' ∧ I ⊆ I') := by
 skip
 skip
 refine fn_enter3 Try.func33 rfl Try.ntmps33 rfl fun w0 => ?_
 refine tS (tR (tA rfl rfl (tA rfl rfl (tN (tT (tS (tS ?_)))))))
 refine tR (tM rfl rfl ?_)
 refine tri_g (opg_call (xs := [_]) rfl (ref01_right hs hn)) rfl ?_
 rintro _ _ _ ⟨rfl, rfl, rfl⟩
 refine tri_v (opv_notD rfl) rfl ?_
 refine tN (tT ?_)
 refine tri_cond_dec rfl (fun h1 => ?_) (fun h1 => ?_)
 ·refine tS (tR (tA rfl rfl (tA rfl rfl (tN (tT (tri_ret (tri_then_ret ?_)))))))
  refine tri_end A Suf.h rfl (.cons (rv_tmp rfl) (.cons (rv_tmp rfl) .nil)) ?_
  rw [show R1.shift l dx dy = ([], 1) from if_neg h1]
  exact ⟨none, 0, rfl, SlAt.nil, rfl, fun _ h => h⟩
 ·have hr : R1.right l := Decidable.not_not.1 h1
  have hsh : R1.shift l dx dy = if ∀ i, i < l.length → R1.inB (R1.mv dx dy (R1.g l i)) then (l.map (R1.mv dx dy), 0) else ([], 2) := if_pos hr
  have hin : ∀ i, i < l.length → R1.inB (R1.g l i) := fun i hi => (hr.1 i hi).1
  have bad : ∀ i, i < l.length → ¬ R1.inB (R1.mv dx dy (R1.g l i)) → ∃ a' cap', Value.tuple [.slice none 0 0, .int .i64 2].toArray = .tuple [.slice a' (R1.shift l dx dy).1.length cap', .int .i64 (R1.shift l dx dy).2].toArray ∧ SlAt I a' (R1.shift l dx dy).1 ∧ A = A ∧ I ⊆ I := fun i hi h => by
   rw [hsh, if_neg (fun k => h (k i hi))]
   exact ⟨none, 0, rfl, SlAt.nil, rfl, fun _ h => h⟩
  refine tri_skip (tT (tS (tR (tA rfl rfl (tN (tT (tS ?_)))))))
  refine tR (tA rfl rfl (tN (tT (tS (tS (tR (tA rfl rfl ?_)))))))
  refine tN (tT (tri_block ?_))
  refine tri_nilRow (E := 48) (sz := 2) ?_
  refine tri_sub (F' := [(0, .slice a l.length cap), (1, .int .i64 dx), (2, .int .i64 dy), (8, .int .i64 2199023255552), (9, .slice none 0 0), (10, .int .i64 (0 : Nat))]) ⟨rfl, rfl, rfl, rfl, rfl, rfl, trivial⟩ ?_
  refine loop_ind (G := Nat × Option Addr × Nat) (fun g => l.length - g.1) (fun g => g.1 ≤ l.length ∧ ∀ j, j < g.1 → R1.inB (R1.mv dx dy (R1.g l j))) (fun g => [(0, .slice a l.length cap), (1, .int .i64 dx), (2, .int .i64 dy), (8, .int .i64 2199023255552), (9, .slice g.2.1 ((l.take g.1).map (R1.mv dx dy)).length g.2.2), (10, .int .i64 (g.1 : Nat))]) (fun g => Row g.2.1 g.2.2 ((l.take g.1).map (R1.mv dx dy)).length 48 2 (encs ((l.take g.1).map (R1.mv dx dy))) :: A) (fun _ => I) ?_ (0, none, 0) ⟨by simp only; omega, fun j h => absurd h (by simp only; omega)⟩
  rintro ⟨i, a1, cap1⟩ ⟨hi, hok⟩ K hK
  simp only at hi hok hK ⊢
  skip
  refine tS (tS (tR (tM rfl rfl (tM rfl rfl ?_))))
  refine tri_v (opv_len rfl) rfl ?_
  refine yC rfl rfl (tN (tT ?_))
  refine tri_cond_dec rfl (fun h => ?_) (fun h => ?_)
  ·have hlt : i < l.length := by omega
   have hci := hin i hlt
   have hi1 : R1.g l i = l.getD i default := rfl
   rw [hi1] at hci
   have bx := hci.1
   have bx2 := hci.2.1
   have by1 := hci.2.2.1
   have by2 := hci.2.2.2
   have bad2 : ¬ R1.inB ⟨(l.getD i default).x + dx, (l.getD i default).y + dy⟩ → _ := fun h => bad i hlt h
   have off : ∀ {p : Prop}, (p → dx < -2199023255552 ∨ 2199023255552 < dx ∨ dy < -2199023255552 ∨ 2199023255552 < dy) → p → ¬ R1.inB ⟨(l.getD i default).x + dx, (l.getD i default).y + dy⟩ := fun h hp => by
    have := h hp
    unfold R1.inB
    simp only
    omega
   refine tri_skip (tT (tS (tri_block (tS (tS ?_)))))
   refine tri_draw [0, 1, 2, 3, 4, 5, 6, 7, 8, 9, 10, 11, 12, 13, 14, 15, 16, 17, 18, 19, 20, 21, 22, 23, 24, 25, 26, 27, 28, 29, 30, 31, 32, 33, 34, 35, 36, 37, 38] rfl [] rfl mixed ?_
   refine yM rfl rfl (yM rfl rfl ?_)
   refine th_take rfl rfl (by kernel_rfl)  (opv_negE rfl (by omega) (by omega)) ?_
   refine th_take rfl rfl (by kernel_rfl)  (opv_lss rfl rfl) ?_
   refine yM rfl rfl ?_
   refine th_split rfl rfl rfl (fun h2 => ?_) (fun h2 => ?_)
   ·refine yS rfl rfl rfl (yS rfl rfl rfl (yS rfl rfl rfl ?_))
    refine th_take rfl rfl (by kernel_rfl)  (opv_pick_t rfl rfl) ?_
    refine yM rfl rfl (yS rfl rfl rfl (yS rfl rfl rfl (yS rfl rfl rfl (yS rfl rfl rfl ?_))))
    refine th_take rfl rfl (by kernel_rfl)  (opv_pick_t rfl rfl) ?_
    refine yM rfl rfl (yS rfl rfl rfl (yS rfl rfl rfl (yS rfl rfl rfl ?_)))
    refine th_take rfl rfl (by kernel_rfl)  (opv_pick_t rfl rfl) ?_
    refine yM rfl rfl (yS rfl rfl rfl (yS rfl rfl rfl (yS rfl rfl rfl (yS rfl rfl rfl (yS rfl rfl rfl (yS rfl rfl rfl (yS rfl rfl rfl ?_)))))))
    refine yS rfl rfl rfl (yS rfl rfl rfl (yS rfl rfl rfl (yS rfl rfl rfl (yS rfl rfl rfl (yS rfl rfl rfl (yS rfl rfl rfl (yS rfl rfl rfl ?_)))))))
    refine th_one (by kernel_rfl) (step_skip rfl rfl rfl rfl rfl ?_)
    refine yS rfl rfl rfl ?_
    refine th_take rfl rfl (by kernel_rfl)  (opv_pick_t rfl rfl) ?_
    refine yD (tT ?_)
    refine tri_cond_true rfl ?_
    refine tS (tR (tA rfl rfl (tA rfl rfl (tN (tT (tri_ret (tri_then_ret ?_)))))))
    refine tri_inBlock_ret (tri_then_ret (tri_then_ret (tri_inBlock_ret (tri_then_ret ?_))))
    refine tri_end A Suf.h rfl (.cons (rv_tmp rfl) (.cons (rv_tmp rfl) .nil)) (bad2 (off (fun h => .inl h) h2))
   ·refine th_take_g rfl rfl rfl rfl rfl (by kernel_rfl)  (opv_move rfl) ?_
    refine th_take_g rfl rfl rfl rfl rfl (by kernel_rfl)  (opv_move rfl) ?_
    refine th_take_g rfl rfl rfl rfl rfl (by kernel_rfl)  (opv_gtr rfl rfl) ?_
    refine th_take rfl rfl (by kernel_rfl)  (opv_pick_f rfl rfl) ?_
    refine yM rfl rfl ?_
    refine th_split rfl rfl rfl (fun h3 => ?_) (fun h3 => ?_)
    ·refine yS rfl rfl rfl (yS rfl rfl rfl (yS rfl rfl rfl (yS rfl rfl rfl ?_)))
     refine th_take rfl rfl (by kernel_rfl)  (opv_pick_t rfl rfl) ?_
     refine yM rfl rfl (yS rfl rfl rfl (yS rfl rfl rfl (yS rfl rfl rfl ?_)))
     refine th_take rfl rfl (by kernel_rfl)  (opv_pick_t rfl rfl) ?_
     refine yM rfl rfl (yS rfl rfl rfl (yS rfl rfl rfl (yS rfl rfl rfl (yS rfl rfl rfl (yS rfl rfl rfl (yS rfl rfl rfl (yS rfl rfl rfl ?_)))))))
     refine yS rfl rfl rfl (yS rfl rfl rfl (yS rfl rfl rfl (yS rfl rfl rfl (yS rfl rfl rfl (yS rfl rfl rfl (yS rfl rfl rfl (yS rfl rfl rfl ?_)))))))
     refine th_one (by kernel_rfl) (step_skip rfl rfl rfl rfl rfl ?_)
     refine yS rfl rfl rfl ?_
     refine th_take rfl rfl (by kernel_rfl)  (opv_pick_t rfl rfl) ?_
     refine yD (tT ?_)
     refine tri_cond_true rfl ?_
     refine tS (tR (tA rfl rfl (tA rfl rfl (tN (tT (tri_ret (tri_then_ret ?_)))))))
     refine tri_inBlock_ret (tri_then_ret (tri_then_ret (tri_inBlock_ret (tri_then_ret ?_))))
     refine tri_end A Suf.h rfl (.cons (rv_tmp rfl) (.cons (rv_tmp rfl) .nil)) (bad2 (off (fun h => .inr (.inl h)) h3))
    ·refine th_take_g rfl rfl rfl rfl rfl (by kernel_rfl)  (opv_move rfl) ?_
     refine th_take_g rfl rfl rfl rfl rfl (by kernel_rfl)  (opv_move rfl) ?_
     refine th_take_g rfl rfl rfl rfl rfl (by kernel_rfl)  (opv_negE rfl (by omega) (by omega)) ?_
     refine th_take_g rfl rfl rfl rfl rfl (by kernel_rfl)  (opv_lss rfl rfl) ?_
     refine th_take rfl rfl (by kernel_rfl)  (opv_pick_f rfl rfl) ?_
     refine yM rfl rfl ?_
     refine th_split rfl rfl rfl (fun h4 => ?_) (fun h4 => ?_)
     ·refine yS rfl rfl rfl (yS rfl rfl rfl (yS rfl rfl rfl ?_))
      refine th_take rfl rfl (by kernel_rfl)  (opv_pick_t rfl rfl) ?_
      refine yM rfl rfl (yS rfl rfl rfl (yS rfl rfl rfl (yS rfl rfl rfl (yS rfl rfl rfl (yS rfl rfl rfl (yS rfl rfl rfl (yS rfl rfl rfl ?_)))))))
      refine yS rfl rfl rfl (yS rfl rfl rfl (yS rfl rfl rfl (yS rfl rfl rfl (yS rfl rfl rfl (yS rfl rfl rfl (yS rfl rfl rfl (yS rfl rfl rfl ?_)))))))
      refine th_one (by kernel_rfl) (step_skip rfl rfl rfl rfl rfl ?_)
      refine yS rfl rfl rfl ?_
      refine th_take rfl rfl (by kernel_rfl)  (opv_pick_t rfl rfl) ?_
      refine yD (tT ?_)
      refine tri_cond_true rfl ?_
      refine tS (tR (tA rfl rfl (tA rfl rfl (tN (tT (tri_ret (tri_then_ret ?_)))))))
      refine tri_inBlock_ret (tri_then_ret (tri_then_ret (tri_inBlock_ret (tri_then_ret ?_))))
      refine tri_end A Suf.h rfl (.cons (rv_tmp rfl) (.cons (rv_tmp rfl) .nil)) (bad2 (off (fun h => .inr (.inr (.inl h))) h4))
     ·refine th_take_g rfl rfl rfl rfl rfl (by kernel_rfl)  (opv_move rfl) ?_
      refine th_take_g rfl rfl rfl rfl rfl (by kernel_rfl)  (opv_move rfl) ?_
      refine th_take_g rfl rfl rfl rfl rfl (by kernel_rfl)  (opv_gtr rfl rfl) ?_
      refine th_take rfl rfl (by kernel_rfl)  (opv_pick_f rfl rfl) ?_
      refine yM rfl rfl ?_
      refine th_split rfl rfl rfl (fun h5 => ?_) (fun h5 => ?_)
      ·refine yS rfl rfl rfl (yS rfl rfl rfl (yS rfl rfl rfl (yS rfl rfl rfl (yS rfl rfl rfl (yS rfl rfl rfl (yS rfl rfl rfl (yS rfl rfl rfl ?_)))))))
       refine yS rfl rfl rfl (yS rfl rfl rfl (yS rfl rfl rfl (yS rfl rfl rfl (yS rfl rfl rfl (yS rfl rfl rfl (yS rfl rfl rfl ?_))))))
       refine th_one (by kernel_rfl) (step_skip rfl rfl rfl rfl rfl ?_)
       refine yS rfl rfl rfl ?_
       refine th_take rfl rfl (by kernel_rfl)  (opv_pick_t rfl rfl) ?_
       refine yD (tT ?_)
       refine tri_cond_true rfl ?_
       refine tS (tR (tA rfl rfl (tA rfl rfl (tN (tT (tri_ret (tri_then_ret ?_)))))))
       refine tri_inBlock_ret (tri_then_ret (tri_then_ret (tri_inBlock_ret (tri_then_ret ?_))))
       refine tri_end A Suf.h rfl (.cons (rv_tmp rfl) (.cons (rv_tmp rfl) .nil)) (bad2 (off (fun h => .inr (.inr (.inr h))) h5))
      ·refine th_take_g rfl rfl rfl rfl rfl (by kernel_rfl)  (opv_move rfl) ?_
       refine th_take_g rfl rfl rfl rfl rfl (by kernel_rfl)  (opv_move rfl) ?_
       refine th_take_g rfl rfl rfl rfl rfl (by kernel_rfl)  (opv_indexAddrSN rfl rfl (by omega) (by assumption) rfl) ?_
       refine th_take_g rfl rfl rfl rfl rfl (by kernel_rfl)  (opv_fieldAddrE rfl (by assumption) (by omega) rfl) ?_
       refine th_take_g rfl rfl rfl rfl rfl (by kernel_rfl)  (opv_loadE1 rfl (by assumption) rfl (by omega) rfl rfl) ?_
       refine th_take_g rfl rfl rfl rfl rfl (by kernel_rfl)  (opv_move rfl) ?_
       refine th_take_g rfl rfl rfl rfl rfl (by kernel_rfl)  (opv_add rfl rfl (w64 (by omega) (by omega))) ?_
       refine th_take_g rfl rfl rfl rfl rfl (by kernel_rfl)  (opv_move rfl) ?_
       refine th_take_g rfl rfl rfl rfl rfl (by kernel_rfl)  (opv_move rfl) ?_
       refine th_take_g rfl rfl rfl rfl rfl (by kernel_rfl)  (opv_indexAddrSN rfl rfl (by omega) (by assumption) rfl) ?_
       refine th_take_g rfl rfl rfl rfl rfl (by kernel_rfl)  (opv_fieldAddrE rfl (by assumption) (by omega) rfl) ?_
       refine th_take_g rfl rfl rfl rfl rfl (by kernel_rfl)  (opv_loadE1 rfl (by assumption) rfl (by omega) rfl rfl) ?_
       refine th_take_g rfl rfl rfl rfl rfl (by kernel_rfl)  (opv_move rfl) ?_
       refine th_take_g rfl rfl rfl rfl rfl (by kernel_rfl)  (opv_add rfl rfl (w64 (by omega) (by omega))) ?_
       refine th_take_g rfl rfl rfl rfl rfl (by kernel_rfl)  (opv_buildS rfl rfl) ?_
       refine th_one (by kernel_rfl) (step_mg rfl rfl rfl rfl rfl (opg_call (xs := [_]) rfl (ref01_in (c := (⟨(l.getD i default).x + dx, (l.getD i default).y + dy⟩ : Cell)))) ?_)
       rintro _ _ _ ⟨rfl, rfl, rfl⟩
       refine ⟨Suf.h, (fun _ h => h), ?_⟩
       refine th_take_g rfl rfl rfl rfl rfl (by kernel_rfl)  (opv_notD rfl) ?_
       refine th_take rfl rfl (by kernel_rfl)  (opv_pick_f rfl rfl) ?_
       refine yD (tT ?_)
       refine tri_cond_dec rfl (fun h6 => ?_) (fun h6 => ?_)
       ·refine tS (tR (tA rfl rfl (tA rfl rfl (tN (tT (tri_ret (tri_then_ret ?_)))))))
        refine tri_inBlock_ret (tri_then_ret (tri_then_ret (tri_inBlock_ret (tri_then_ret ?_))))
        refine tri_end A Suf.h rfl (.cons (rv_tmp rfl) (.cons (rv_tmp rfl) .nil)) (bad2 h6)
       ·have h6 : R1.inB (R1.mv dx dy (R1.g l i)) := Decidable.not_not.1 h6
        have e : (l.take (i + 1)).map (R1.mv dx dy) = (l.take i).map (R1.mv dx dy) ++ [R1.mv dx dy (l.getD i default)] := by
         rw [List.take_succ_eq_append_getElem hlt, List.map_append]
         simp [hlt]
        have hal : ((l.take i).map (R1.mv dx dy)).length ≤ l.length := by rw [List.length_map, List.length_take]; omega
        generalize (l.take i).map (R1.mv dx dy) = acc at *
        skip
        refine tri_skip (tT ?_)
        refine tri_draw [0, 1, 2, 3, 4, 5, 6, 7, 8, 9, 10, 11, 12, 13, 14, 15, 16, 17, 18] rfl [_] rfl mixed ?_
        refine yM rfl rfl (yM rfl rfl (yM rfl rfl ?_))
        refine th_take rfl rfl (by kernel_rfl)  (opv_indexAddrSN rfl rfl (by omega) (by assumption) rfl) ?_
        refine th_take rfl rfl (by kernel_rfl)  (opv_fieldAddrE rfl (by assumption) (by omega) rfl) ?_
        refine th_take rfl rfl (by kernel_rfl)  (opv_loadE1 rfl (by assumption) rfl (by omega) rfl rfl) ?_
        refine yM rfl rfl ?_
        refine th_take rfl rfl (by kernel_rfl)  (opv_add rfl rfl (w64 (by omega) (by omega))) ?_
        refine yM rfl rfl (yM rfl rfl ?_)
        refine th_take rfl rfl (by kernel_rfl)  (opv_indexAddrSN rfl rfl (by omega) (by assumption) rfl) ?_
        refine th_take rfl rfl (by kernel_rfl)  (opv_fieldAddrE rfl (by assumption) (by omega) rfl) ?_
        refine th_take rfl rfl (by kernel_rfl)  (opv_loadE1 rfl (by assumption) rfl (by omega) rfl rfl) ?_
        refine yM rfl rfl ?_
        refine th_take rfl rfl (by kernel_rfl)  (opv_add rfl rfl (w64 (by omega) (by omega))) ?_
        refine th_take rfl rfl (by kernel_rfl)  (opv_buildS rfl rfl) ?_
        refine th_one (by kernel_rfl) (step_m rfl rfl (opg_buildSlice rfl rfl rfl rfl) ?_)
        rintro _ _ _ ⟨b75, rfl, rfl, rfl⟩
        refine ⟨Suf.h, (fun _ h => h), ?_⟩
        refine th_one (by kernel_rfl) (step_m rfl rfl (opg_appendB rfl rfl rfl rfl (by omega) rfl) ?_)
        rintro _ _ _ ⟨a2, cap2, rfl, rfl, rfl⟩
        refine ⟨Suf.h, (fun _ h => h), ?_⟩
        refine yA rfl rfl (yD (tri_inBlock (tT (tR (tM rfl rfl ?_)))))
        refine yU rfl rfl ?_
        refine tA rfl rfl (tN (tT ?_))
        refine tri_drop ?_
        refine tri_rowEq (len' := (acc ++ [R1.mv dx dy (l.getD i default)]).length) (cells' := encs (acc ++ [R1.mv dx dy (l.getD i default)])) (by simp) (by rw [encs_append]; rfl) ?_
        have := hK (i + 1, a2, cap2) ⟨by simp only; omega, fun j hj => ?_⟩ (by simp only; omega)
        ·simp only [e] at this
         refine tri_sub ?_ this
         rw [List.length_append]
         exact ⟨rfl, rfl, rfl, rfl, rfl, rfl, trivial⟩
        ·by_cases e : j = i
         ·subst e; exact h6
         ·exact hok j (by simp only at hj; omega)
  ·refine tri_exit ?_
   refine tri_then_exit (tri_then_exit ?_)
   refine tri_inBlock_hit rfl ?_
   refine tT (tS (tR (tM rfl rfl (tA rfl rfl (tA rfl rfl (tN (tT ?_)))))))
   refine tri_ret ?_
   have e : l.take i = l := List.take_of_length_le (by omega)
   rw [e]
   refine tri_freezeRow (α := Cell) rfl fun J hJ hs2 => ?_
   refine tri_end A Suf.h rfl (.cons (rv_tmp rfl) (.cons (rv_tmp rfl) .nil)) ?_
   rw [hsh, if_pos (fun j hj => hok j (by omega))]
   exact ⟨a1, cap1, rfl, hs2, rfl, hJ⟩
end Go.GL


namespace Go.GL
open Go.Proofs
attribute [local irreducible] wpList Code.wp Exit.then Exit.inBlock Ends Tri TriH OpV OpG FnC epf wpAnyH
variable {A : List Asrt} {I : List Chunk}
theorem leap_runS {ns ms : List Node} {a : Option Addr} {cap : Nat} {room n j m e : Int} (hs : StA I a cap ns) (hn : ns.length ≤ 1000000000) (h : R9.runT ns room n j = (ms, m, e)) :
  FnC Try.prog 20 [storeV a ns.length cap room, .int .i64 n, .int .i64 j].toArray A I (fun v A' I' => ∃ a' cap', v = .tuple [storeV a' ms.length cap' room, .int .i64 m, .int .i64 e].toArray ∧ StA I' a' cap' ms ∧ A = A' ∧ I ⊆ I') := by
 exact leap_runR (p := (ms, m, e)) hs hn h
theorem ref07_makeT9 {ns ms : List Node} {a bb : Option Addr} {cap cap2 : Nat} {room lv m e : Int} {l : List Cell} (hs : StA I a cap ns) (hn : ns.length ≤ 1000000000) (hr : R6.Rng ns) (hsl : SlAt I bb l) (hnl : l.length ≤ 1000000000) (h : R7.make ns room l lv = (ms, m, e)) :
  FnC Try.prog 30 [storeV a ns.length cap room, .slice bb l.length cap2, .int .i64 lv].toArray A I (fun v A' I' => ∃ a' cap', v = .tuple [storeV a' ms.length cap' room, .int .i64 m, .int .i64 e].toArray ∧ StA I' a' cap' ms ∧ A = A' ∧ I ⊆ I') := by
 have := ref07_make (A := A) (room := room) (lv := lv) (cap2 := cap2) hs hn hr hsl hnl
 rw [h] at this
 exact this
theorem ref01_ofS9 {l m : List Cell} {a : Option Addr} {cap : Nat} {e : Int} (hs : SlAt I a l) (hn : l.length ≤ 1000000000) (h : R1.of l = (m, e)) :
  FnC Try.prog 22 [.slice a l.length cap].toArray A I (fun v A' I' => ∃ a' cap', v = .tuple [.slice a' m.length cap', .int .i64 e].toArray ∧ SlAt I' a' m ∧ A = A' ∧ I ⊆ I') := by
 have := ref01_of (A := A) (cap := cap) hs hn
 rw [h] at this
 exact this
theorem ref01_shiftS9 {l m : List Cell} {a : Option Addr} {cap : Nat} {dx dy e : Int} (hs : SlAt I a l) (hn : l.length ≤ 1000000000) (h : R1.shift l dx dy = (m, e)) :
  FnC Try.prog 33 [.slice a l.length cap, .int .i64 dx, .int .i64 dy].toArray A I (fun v A' I' => ∃ a' cap', v = .tuple [.slice a' m.length cap', .int .i64 e].toArray ∧ SlAt I' a' m ∧ A = A' ∧ I ⊆ I') := by
 have := ref01_shift (A := A) (cap := cap) (dx := dx) (dy := dy) hs hn
 rw [h] at this
 exact this
set_option maxHeartbeats 4000000 in
set_option maxRecDepth 100000 in
theorem law09_far {far : Int} (h : I64 far) :
  FnC Try.prog 7 [.int .i64 far].toArray A I (fun v A' I' => v = .bool true ∧ A = A' ∧ I ⊆ I') := by
 have hpk := pk_bd (c := far) (n := 68719476736) (by decide)
 obtain ⟨d, hd⟩ : ∃ d : Nat, pk far 68719476736 = (d : Int) := ⟨(pk far 68719476736).toNat, by omega⟩
 rw [hd] at hpk
 have hd36 : d < 2 ^ 36 := by omega
 have eN : R6.new 100000 = ([R6.n0, R6.n1], 100000) := by decide
 have hgl : RL.glider = R9.gl0 := rfl
 obtain ⟨ms, m, eM, hr, hpre, hml, hstd⟩ := RL.make9 (room := 100000) (lv := 3) (by decide) (by decide) (by decide) R9.gl0_right (by decide) (fun c hc => by
  have := R9.G_supp c.x c.y (decide_eq_true hc)
  unfold R7.inL
  rw [R7.side_succ]
  have p3 : (2 : Int) ^ 3 = 8 := rfl
  omega) (RL.new9_right (room := 100000) (by decide) (by decide)) (by decide)
 have eM : R7.make [R6.n0, R6.n1] 100000 RL.glider 4 = (ms, m, 0) := eM
 have hml2 : ms.length ≤ 402 := hml
 obtain ⟨ns, x, k, F⟩ := R9.far_ok hd36 hr hml2 hstd
 have hlt := F.is.1
 unfold R6.inS at hlt
 have hlv : (ns.getD x.toNat default).lv = ((k + 2 : Nat) : Int) := F.is.2
 have hpop : (ns.getD x.toNat default).pop = 5 := F.pop
 have hnl : ns.length ≤ 1000000000 := by have := F.right.1; omega
 have hlen := F.len
 skip
 refine fn_enter1 Try.func7 rfl Try.ntmps7 rfl fun w0 => ?_
 refine tS (tR (tA rfl rfl (tN (tT (tS (tR ?_))))))
 refine tri_g (opg_call (xs := []) rfl (law09_awake)) rfl ?_
 rintro _ _ I0 ⟨rfl, rfl, hI0⟩
 refine tA rfl rfl (tN (tT (tS (tR (tM rfl rfl ?_)))))
 refine tri_g (opg_call (xs := [_, _]) rfl (law09_pick h.1 h.2 (by decide))) rfl ?_
 rintro _ _ _ ⟨rfl, rfl, rfl⟩
 rw [hd]
 refine tA rfl rfl (tN (tT (tS (tR ?_))))
 refine tri_g (opg_call (xs := [_]) rfl (ref06_newR eN)) rfl ?_
 rintro _ _ I1 ⟨x1, y1, rfl, hs1, rfl, hI1⟩
 skip
 refine tri_g (opg_call (xs := []) rfl (law09_glider)) rfl ?_
 rintro _ _ I2 ⟨x2, y2, rfl, hs2, rfl, hI2⟩
 skip
 refine tri_g (opg_call (xs := [_, _, _]) rfl (ref07_makeT9 (hs1.mono hI2) (by decide) (by unfold R6.Rng; decide) hs2 (by decide) eM)) rfl ?_
 rintro _ _ I3 ⟨x3, y3, rfl, hs3, rfl, hI3⟩
 have hI03 : I ⊆ I3 := fun _ h => hI3 (hI2 (hI1 (hI0 h)))
 refine tM rfl rfl ?_
 refine tri_v (opv_extract rfl rfl) rfl ?_
 refine tri_v (opv_extract rfl rfl) rfl ?_
 refine tri_v (opv_extract rfl rfl) rfl ?_
 refine tri_g opg_alloc rfl ?_
 rintro _ _ _ ⟨b5, rfl, rfl, rfl⟩
 refine yG rfl rfl rfl rfl rfl rfl ?_
 rintro _ _ _ ⟨rfl, rfl⟩
 refine tA rfl rfl (tA rfl rfl (tN (tT (tS (tR ?_)))))
 refine yB rfl rfl ?_
 refine tM rfl rfl (tM rfl rfl ?_)
 refine tri_v (opv_mul rfl rfl (w64 (by omega) (by omega))) rfl ?_
 rw [show (4 : Int) * (d : Int) = ((4 * d : Nat) : Int) by omega]
 refine tri_g (opg_call (xs := [_, _, _]) rfl (leap_runS hs3 (show ms.length ≤ 1000000000 by omega) F.eq)) rfl ?_
 rintro _ _ I4 ⟨x4, y4, rfl, hs4, rfl, hI4⟩
 have sN := hs4.sl
 refine tM rfl rfl ?_
 refine tri_v (opv_extract rfl rfl) rfl ?_
 refine tri_v (opv_extract rfl rfl) rfl ?_
 refine tri_v (opv_extract rfl rfl) rfl ?_
 refine tri_g opg_alloc rfl ?_
 rintro _ _ _ ⟨b8, rfl, rfl, rfl⟩
 refine yG rfl rfl rfl rfl rfl rfl ?_
 rintro _ _ _ ⟨rfl, rfl⟩
 refine tA rfl rfl (tA rfl rfl (tN (tT (tS (tS (tR (tM rfl rfl ?_)))))))
 refine tri_v (opv_neq rfl rfl) rfl ?_
 refine tM rfl rfl ?_
 refine tri_false rfl rfl (fun h => h rfl) ?_
 refine yR rfl rfl (tM rfl rfl (yR rfl rfl (yF rfl (yR rfl rfl ?_))))
 refine yL rfl rfl ?_
 refine yR rfl rfl ?_
 refine tri_v (opv_len rfl) rfl ?_
 refine yR rfl rfl ?_
 refine tri_v (opv_geq rfl rfl) rfl ?_
 refine tri_v (opv_pick_f rfl rfl) rfl ?_
 refine tM rfl rfl ?_
 refine tri_false rfl rfl (by omega) ?_
 refine yR rfl rfl (yF rfl (yR rfl rfl ?_))
 refine yL rfl rfl ?_
 refine yR rfl rfl (tM rfl rfl (yR rfl rfl ?_))
 refine tri_v (opv_indexAddrS rfl rfl (by omega) (by omega) (by assumption) rfl) rfl ?_
 refine yR rfl rfl ?_
 refine tri_v (opv_fieldAddrE rfl (by assumption) (by omega) rfl) rfl ?_
 refine yR rfl rfl ?_
 refine tri_v (opv_loadE1 rfl (by assumption) rfl (by omega) rfl rfl) rfl ?_
 refine yR rfl rfl (yC rfl rfl ?_)
 refine tri_v (opv_pick_f rfl rfl) rfl ?_
 refine tM rfl rfl ?_
 refine tri_false rfl rfl (by omega) ?_
 refine yR rfl rfl (yF rfl (yR rfl rfl ?_))
 refine yL rfl rfl ?_
 refine yR rfl rfl (tM rfl rfl (yR rfl rfl ?_))
 refine tri_v (opv_indexAddrS rfl rfl (by omega) (by omega) (by assumption) rfl) rfl ?_
 refine yR rfl rfl ?_
 refine tri_v (opv_fieldAddrE rfl (by assumption) (by omega) rfl) rfl ?_
 refine yR rfl rfl ?_
 refine tri_v (opv_loadE1 rfl (by assumption) rfl (by omega) rfl rfl) rfl ?_
 refine yR rfl rfl ?_
 refine tri_v (opv_neq rfl rfl) rfl ?_
 refine tri_v (opv_pick_f rfl rfl) rfl ?_
 refine tN (tT ?_)
 refine tri_cond_not rfl (fun h => h hpop) ?_
 refine tri_skip (tT (tS (tR ?_)))
 refine yB rfl rfl ?_
 refine tM rfl rfl ?_
 refine tri_g (opg_call (xs := [_, _]) rfl (ref07_of F.right sN F.is.1 (show 1 ≤ (R6.nd ns x).lv by rw [F.is.2]; omega) (by omega))) rfl ?_
 rintro _ _ I5 ⟨x5, y5, rfl, hs5, rfl, hI5⟩
 skip
 refine tri_g (opg_call (xs := [_]) rfl (ref01_ofS9 hs5 (by omega) F.cells)) rfl ?_
 rintro _ _ I6 ⟨x6, y6, rfl, hs6, rfl, hI6⟩
 refine tM rfl rfl ?_
 refine tri_v (opv_extract rfl rfl) rfl ?_
 refine tri_v (opv_extract rfl rfl) rfl ?_
 refine tA rfl rfl (tA rfl rfl (tN (tT (tS (tR ?_)))))
 refine tri_g (opg_call (xs := []) rfl (law09_glider)) rfl ?_
 rintro _ _ I7 ⟨x7, y7, rfl, hs7, rfl, hI7⟩
 rw [hgl] at hs7 ⊢
 refine tM rfl rfl (tM rfl rfl ?_)
 refine tri_g (opg_call (xs := [_, _, _]) rfl (ref01_shiftS9 hs7 (by decide) F.shift)) rfl ?_
 rintro _ _ I8 ⟨x8, y8, rfl, hs8, rfl, hI8⟩
 refine tM rfl rfl ?_
 refine tri_v (opv_extract rfl rfl) rfl ?_
 refine tri_v (opv_extract rfl rfl) rfl ?_
 refine tA rfl rfl (tA rfl rfl (tN (tT (tS (tR (tM rfl rfl (tM rfl rfl ?_)))))))
 refine tri_bool 76 rfl (fun _ => ?_) (fun h => absurd h (by decide))
 refine yR rfl rfl (tM rfl rfl (yR rfl rfl ?_))
 refine tri_v (opv_eql rfl rfl) rfl ?_
 refine tri_v (opv_pick_t rfl rfl) rfl ?_
 refine tM rfl rfl ?_
 refine tri_true rfl rfl (rfl) ?_
 refine yR rfl rfl (tM rfl rfl (yR rfl rfl (tM rfl rfl (yR rfl rfl ?_))))
 refine tri_g (opg_call (xs := [_, _]) rfl (ref01_same (hs6.mono fun _ h => hI8 (hI7 h)) hs8 (by rw [List.length_map]; decide))) rfl ?_
 rintro _ _ _ ⟨rfl, rfl, rfl⟩
 refine tri_v (opv_pick_t rfl rfl) rfl ?_
 refine tA rfl rfl (tN (tT (tri_ret ?_)))
 refine tri_end _ (⟨[_, _], rfl⟩) rfl (.cons (rv_tmp rfl) .nil) ⟨?_, rfl, fun _ h => hI8 (hI7 (hI6 (hI5 (hI4 (hI03 h)))))⟩
 exact congrArg Value.bool (decide_eq_true rfl)
end Go.GL


namespace Go.GL
open Go.Proofs
theorem laid : laidOutB Try.prog = true := by kernel_rfl
theorem own : ownKnob Try.prog.godebug = none := by kernel_rfl
end Go.GL

