/- Part 6: contracts of the functions that the law reaches: each answers as its model does. No condition beyond those that each theorem states. -/
import Derived.Test.YtfcijboaamelfaaPart5
set_option linter.unusedVariables false
namespace Go.GL
open Go.Proofs
attribute [local irreducible] wpList Code.wp Exit.then Exit.inBlock Ends Tri TriH OpV OpG FnC epf wpAnyH
variable {A : List Asrt} {I : List Chunk}
theorem set_inL {raw : List Cell} {lv : Nat} (h : (8 : Int) ≤ 2 ^ lv) : ∀ c ∈ RL.set raw, R7.inL ((lv + 1 : Nat) : Int) c := fun c hc => by
 have := RL.mem_set hc
 unfold R7.inL
 rw [R7.side_succ]
 omega
theorem supp_pl {l : List Cell} {a : Int} (h : ∀ c ∈ l, -a ≤ c.x ∧ c.x < a ∧ -a ≤ c.y ∧ c.y < a) : R9.Supp (R9.pl l) a := fun x y hf => h ⟨x, y⟩ (of_decide_eq_true hf)
theorem ctr_set {raw : List Cell} {ns : List Node} {lv : Nat} {m : Int} (h : (8 : Int) ≤ 2 ^ (lv + 1)) (hs : R9.Std ns (lv + 2) m (R9.pl (RL.set raw)) (-2 ^ (lv + 1)) (-2 ^ (lv + 1))) : R9.Ctr ns lv m (R9.pl (RL.set raw)) :=
 ⟨hs, supp_pl fun c hc => by have := RL.mem_set hc; omega⟩
set_option maxHeartbeats 8000000 in
set_option maxRecDepth 100000 in
theorem law09_steps {raw : List Cell} {one two : Int} {a : Option Addr} {cap : Nat} (hs : SlAt I a raw) (hc : RL.Cs raw) (h1 : I64 one) (h2 : I64 two) :
  FnC Try.prog 6 [.slice a raw.length cap, .int .i64 one, .int .i64 two].toArray A I (fun v A' I' => v = .bool true ∧ A = A' ∧ I ⊆ I') := by
 have eN : R6.new 20000 = ([R6.n0, R6.n1], 20000) := by decide
 have hb1 := pk_bd (c := one) (n := 40) (by omega)
 have hb2 := pk_bd (c := two) (n := 40) (by omega)
 have p7 : (2 : Int) ^ 7 = 128 := by decide
 obtain ⟨ms, m, eM, hr, hpre, hml, hstd⟩ := RL.make9 (room := 20000) (lv := 3) (by omega) (by omega) (by omega) (RL.set_right raw) (RL.set_le raw) (set_inL (by decide)) (RL.new9_right (room := 20000) (by omega) (by omega)) (by decide)
 have eM : R7.make [R6.n0, R6.n1] 20000 (RL.set raw) 4 = (ms, m, 0) := eM
 have hml2 : ms.length ≤ 402 := hml
 have hctr : R9.Ctr ms 2 m (R9.pl (RL.set raw)) := ctr_set (by decide) hstd
 have hset := RL.set_le raw
 have hA := R9.runT_ok (c := pk one 40) (K := 7) (B := 7) hr hctr hb1.1 (by omega) (by omega) (by omega) (by omega)
 obtain ⟨rA, eA⟩ : ∃ r, R9.runT ms 20000 m (pk one 40) = r := ⟨_, rfl⟩
 rw [eA] at hA
 obtain ⟨rB, eB⟩ : ∃ r, R9.runT rA.1 20000 rA.2.1 (pk two 40) = r := ⟨_, rfl⟩
 obtain ⟨rC, eC⟩ : ∃ r, R9.runT rB.1 20000 m (pk one 40 + pk two 40) = r := ⟨_, rfl⟩
 obtain ⟨rD, eD⟩ : ∃ r, R9.trimT rC.1 20000 m = r := ⟨_, rfl⟩
 obtain ⟨rE, eE⟩ : ∃ r, R9.runT rD.1 20000 m 0 = r := ⟨_, rfl⟩
 have lA : rA.1.length ≤ 1000000000 := by have := hA.right.1; omega
 have lB : rB.1.length ≤ 1000000000 := by rw [← eB]; have := R9.runT_len rA.1 20000 rA.2.1 (pk two 40); have := hA.right.1; omega
 have lC : rC.1.length ≤ 1000000000 := by rw [← eC]; have := R9.runT_len rB.1 20000 m (pk one 40 + pk two 40); have h := R9.runT_len rA.1 20000 rA.2.1 (pk two 40); rw [eB] at h; have := hA.right.1; omega
 have lD : rD.1.length ≤ 1000000000 := by
  rw [← eD]
  have := R9.trimT_len rC.1 20000 m
  have h := R9.runT_len rB.1 20000 m (pk one 40 + pk two 40)
  rw [eC] at h
  have h := R9.runT_len rA.1 20000 rA.2.1 (pk two 40)
  rw [eB] at h
  have := hA.right.1
  omega
 skip
 refine fn_enter3 Try.func6 rfl Try.ntmps6 rfl fun w0 => ?_
 refine tS (tR (tA rfl rfl (tN (tT (tS (tR ?_))))))
 -- STOP op
 refine tri_g (opg_call (xs := []) rfl (law09_awake)) rfl ?_
 rintro _ _ I0 ⟨rfl, rfl, hI0⟩
 refine tA rfl rfl (tN (tT (tS (tR ?_))))
 -- STOP op
 refine tri_g (opg_call (xs := [_]) rfl (ref06_newR eN)) rfl ?_
 rintro _ _ I1 ⟨x1, y1, rfl, hs1, rfl, hI1⟩
 refine tM rfl rfl ?_
 -- STOP op
 refine tri_g (opg_call (xs := [_]) rfl (law01_set (hs.mono fun _ h => hI1 (hI0 h)) hc)) rfl ?_
 rintro _ _ I2 ⟨x2, y2, rfl, hs2, rfl, hI2⟩
 skip
 -- STOP op
 refine tri_g (opg_call (xs := [_, _, _]) rfl (ref07_makeR (hs1.mono hI2) (by decide) (by unfold R6.Rng; decide) hs2 (by omega) eM)) rfl ?_
 rintro _ _ I3 ⟨x3, y3, rfl, hs3, rfl, hI3⟩
 have hI03 : I ⊆ I3 := fun _ h => hI3 (hI2 (hI1 (hI0 h)))
 refine tM rfl rfl ?_
 refine tri_v (opv_extract rfl rfl) rfl ?_
 refine tri_v (opv_extract rfl rfl) rfl ?_
 refine tri_v (opv_extract rfl rfl) rfl ?_
 refine tri_g opg_alloc rfl ?_
 rintro _ _ _ ⟨b8, rfl, rfl, rfl⟩
 refine tri_g (opg_store rfl rfl rfl rfl rfl rfl) rfl ?_
 rintro _ _ _ ⟨rfl, rfl⟩
 refine tA rfl rfl (tA rfl rfl (tN (tT (tS ?_))))
 skip
 refine tri_cut (fun F' A' J => ∃ (b11 : Nat) (x4 : Option Addr) (y4 : Nat), (StA J x4 y4 rA.1 ∧ I3 ⊆ J) ∧ F' = [(1, .int .i64 one), (2, .int .i64 two), (7, .bool true), (9, .int .i64 m), (11, pt b11 0), (12, .int .i64 rA.2.1), (13, .int .i64 rA.2.2)] ∧ A' = Box b11 [.slice x4 rA.1.length y4, .int .i64 20000] 26 :: A) ?_ ?_
 ·refine tri_draw [0, 1, 2, 3, 4, 5, 6, 7, 8, 9, 10, 11, 12] rfl [] rfl mixed ?_
  refine th_take rfl rfl (by kernel_rfl)  (by first | exact opv_load1 rfl rfl rfl | exact opv_loadA rfl rfl rfl | exact opv_loadE1 rfl (by assumption) rfl (by omega) rfl rfl | exact opv_loadEA rfl (by assumption) rfl (by omega) rfl rfl | exact opv_loadRX1 rfl rfl (by omega) rfl rfl | exact opv_loadRXA rfl rfl (by omega) rfl rfl rfl | exact opv_loadIX rfl rfl (by omega) | exact opv_loadR1 rfl rfl rfl | exact opv_loadRA rfl rfl rfl rfl) ?_
  refine th_take rfl rfl (by kernel_rfl)  (opv_move rfl) ?_
  refine th_take rfl rfl (by kernel_rfl)  (opv_move rfl) ?_
  refine th_two (j := 9) [3, 4, 5, 6, 7, 8, 10, 11, 12] (by kernel_rfl) rfl ?_ ?_
  ·refine (step_m rfl rfl (opg_call (xs := [_, _]) rfl (law09_pick h1.1 h1.2 (by decide))) ?_)
   rintro _ _ _ ⟨rfl, rfl, rfl⟩
   refine ⟨Suf.h, (by first | exact fun _ h => h | assumption | exact fun _ h => (by assumption : _ ⊆ _) ((by assumption : _ ⊆ _) h)), ?_⟩
   refine th_two (j := 9) [4, 5, 6, 7, 8, 10, 11, 12] (by kernel_rfl) rfl ?_ ?_
   ·refine (step_m rfl rfl (opg_call (xs := [_, _, _]) rfl (leap_runR hs3 (show ms.length ≤ 1000000000 by omega) eA)) ?_)
    rintro _ _ I4 ⟨x4, y4, rfl, hs4, rfl, hI4⟩
    refine ⟨Suf.h, hI4, ?_⟩
    refine th_take rfl rfl (by kernel_rfl)  (opv_move rfl) ?_
    refine th_take rfl rfl (by kernel_rfl)  (opv_extract rfl rfl) ?_
    refine th_take rfl rfl (by kernel_rfl)  (opv_extract rfl rfl) ?_
    refine th_take rfl rfl (by kernel_rfl)  (opv_extract rfl rfl) ?_
    refine th_one (by kernel_rfl) (step_m rfl rfl opg_alloc ?_)
    rintro _ _ _ ⟨b11, rfl, rfl, rfl⟩
    refine ⟨Suf.h, (by first | exact fun _ h => h | assumption | exact fun _ h => (by assumption : _ ⊆ _) ((by assumption : _ ⊆ _) h)), ?_⟩
    refine th_one (by kernel_rfl) (step_m rfl rfl (opg_store rfl rfl rfl rfl rfl rfl) ?_)
    rintro _ _ _ ⟨rfl, rfl⟩
    refine ⟨Suf.h, (by first | exact fun _ h => h | assumption | exact fun _ h => (by assumption : _ ⊆ _) ((by assumption : _ ⊆ _) h)), ?_⟩
    refine th_take rfl rfl (by kernel_rfl)  (opv_assign rfl) ?_
    refine th_take rfl rfl (by kernel_rfl)  (opv_assign rfl) ?_
    refine th_done (by kernel_rfl) ?_
    exact tri_perm (List.Perm.swap _ _ _) (tri_drop (tri_cutEnd _ ⟨_, x4, y4, ⟨hs4, hI4⟩, rfl, rfl⟩ ⟨rfl, rfl, rfl, rfl, rfl, rfl, rfl, trivial⟩))
   ·refine (step_m rfl rfl opg_alloc ?_)
    rintro _ _ _ ⟨b11, rfl, rfl, rfl⟩
    refine ⟨Suf.h, (by first | exact fun _ h => h | assumption | exact fun _ h => (by assumption : _ ⊆ _) ((by assumption : _ ⊆ _) h)), ?_⟩
    refine th_one (by kernel_rfl) (step_m rfl rfl (opg_call (xs := [_, _, _]) rfl (leap_runR hs3 (show ms.length ≤ 1000000000 by omega) eA)) ?_)
    rintro _ _ I4 ⟨x4, y4, rfl, hs4, rfl, hI4⟩
    refine ⟨Suf.h, hI4, ?_⟩
    refine th_take rfl rfl (by kernel_rfl)  (opv_move rfl) ?_
    refine th_take rfl rfl (by kernel_rfl)  (opv_extract rfl rfl) ?_
    refine th_take rfl rfl (by kernel_rfl)  (opv_extract rfl rfl) ?_
    refine th_take rfl rfl (by kernel_rfl)  (opv_extract rfl rfl) ?_
    refine th_one (by kernel_rfl) (step_m rfl rfl (opg_store rfl rfl rfl rfl rfl rfl) ?_)
    rintro _ _ _ ⟨rfl, rfl⟩
    refine ⟨Suf.h, (by first | exact fun _ h => h | assumption | exact fun _ h => (by assumption : _ ⊆ _) ((by assumption : _ ⊆ _) h)), ?_⟩
    refine th_take rfl rfl (by kernel_rfl)  (opv_assign rfl) ?_
    refine th_take rfl rfl (by kernel_rfl)  (opv_assign rfl) ?_
    refine th_done (by kernel_rfl) ?_
    exact tri_perm (List.Perm.swap _ _ _) (tri_drop (tri_cutEnd _ ⟨_, x4, y4, ⟨hs4, hI4⟩, rfl, rfl⟩ ⟨rfl, rfl, rfl, rfl, rfl, rfl, rfl, trivial⟩))
  ·refine (step_m rfl rfl opg_alloc ?_)
   rintro _ _ _ ⟨b11, rfl, rfl, rfl⟩
   refine ⟨Suf.h, (by first | exact fun _ h => h | assumption | exact fun _ h => (by assumption : _ ⊆ _) ((by assumption : _ ⊆ _) h)), ?_⟩
   refine th_one (by kernel_rfl) (step_m rfl rfl (opg_call (xs := [_, _]) rfl (law09_pick h1.1 h1.2 (by decide))) ?_)
   rintro _ _ _ ⟨rfl, rfl, rfl⟩
   refine ⟨Suf.h, (by first | exact fun _ h => h | assumption | exact fun _ h => (by assumption : _ ⊆ _) ((by assumption : _ ⊆ _) h)), ?_⟩
   refine th_one (by kernel_rfl) (step_m rfl rfl (opg_call (xs := [_, _, _]) rfl (leap_runR hs3 (show ms.length ≤ 1000000000 by omega) eA)) ?_)
   rintro _ _ I4 ⟨x4, y4, rfl, hs4, rfl, hI4⟩
   refine ⟨Suf.h, hI4, ?_⟩
   refine th_take rfl rfl (by kernel_rfl)  (opv_move rfl) ?_
   refine th_take rfl rfl (by kernel_rfl)  (opv_extract rfl rfl) ?_
   refine th_take rfl rfl (by kernel_rfl)  (opv_extract rfl rfl) ?_
   refine th_take rfl rfl (by kernel_rfl)  (opv_extract rfl rfl) ?_
   refine th_one (by kernel_rfl) (step_m rfl rfl (opg_store rfl rfl rfl rfl rfl rfl) ?_)
   rintro _ _ _ ⟨rfl, rfl⟩
   refine ⟨Suf.h, (by first | exact fun _ h => h | assumption | exact fun _ h => (by assumption : _ ⊆ _) ((by assumption : _ ⊆ _) h)), ?_⟩
   refine th_take rfl rfl (by kernel_rfl)  (opv_assign rfl) ?_
   refine th_take rfl rfl (by kernel_rfl)  (opv_assign rfl) ?_
   refine th_done (by kernel_rfl) ?_
   exact tri_perm (List.Perm.swap _ _ _) (tri_drop (tri_cutEnd _ ⟨_, x4, y4, ⟨hs4, hI4⟩, rfl, rfl⟩ ⟨rfl, rfl, rfl, rfl, rfl, rfl, rfl, trivial⟩))
 rintro _ _ I4 ⟨b11, x4, y4, ⟨hs4, hI4⟩, rfl, rfl⟩
 refine tT (tS ?_)
 skip
 refine tri_cut (fun F' A' J => ∃ (b14 : Nat) (x5 : Option Addr) (y5 : Nat), (StA J x5 y5 rB.1 ∧ I4 ⊆ J) ∧ F' = [(1, .int .i64 one), (2, .int .i64 two), (7, .bool true), (9, .int .i64 m), (13, .int .i64 rA.2.2), (14, pt b14 0), (15, .int .i64 rB.2.1), (16, .int .i64 rB.2.2)] ∧ A' = Box b14 [.slice x5 rB.1.length y5, .int .i64 20000] 26 :: A) ?_ ?_
 ·refine tri_draw [0, 1, 2, 3, 4, 5, 6, 7, 8, 9, 10, 11, 12] rfl [] rfl mixed ?_
  refine th_take rfl rfl (by kernel_rfl)  (by first | exact opv_load1 rfl rfl rfl | exact opv_loadA rfl rfl rfl | exact opv_loadE1 rfl (by assumption) rfl (by omega) rfl rfl | exact opv_loadEA rfl (by assumption) rfl (by omega) rfl rfl | exact opv_loadRX1 rfl rfl (by omega) rfl rfl | exact opv_loadRXA rfl rfl (by omega) rfl rfl rfl | exact opv_loadIX rfl rfl (by omega) | exact opv_loadR1 rfl rfl rfl | exact opv_loadRA rfl rfl rfl rfl) ?_
  refine th_take rfl rfl (by kernel_rfl)  (opv_move rfl) ?_
  refine th_take rfl rfl (by kernel_rfl)  (opv_move rfl) ?_
  refine th_two (j := 9) [3, 4, 5, 6, 7, 8, 10, 11, 12] (by kernel_rfl) rfl ?_ ?_
  ·refine (step_m rfl rfl (opg_call (xs := [_, _]) rfl (law09_pick h2.1 h2.2 (by decide))) ?_)
   rintro _ _ _ ⟨rfl, rfl, rfl⟩
   refine ⟨Suf.h, (by first | exact fun _ h => h | assumption | exact fun _ h => (by assumption : _ ⊆ _) ((by assumption : _ ⊆ _) h)), ?_⟩
   refine th_two (j := 9) [4, 5, 6, 7, 8, 10, 11, 12] (by kernel_rfl) rfl ?_ ?_
   ·refine (step_m rfl rfl (opg_call (xs := [_, _, _]) rfl (leap_runR hs4 lA eB)) ?_)
    rintro _ _ I5 ⟨x5, y5, rfl, hs5, rfl, hI5⟩
    refine ⟨Suf.h, hI5, ?_⟩
    refine th_take rfl rfl (by kernel_rfl)  (opv_move rfl) ?_
    refine th_take rfl rfl (by kernel_rfl)  (opv_extract rfl rfl) ?_
    refine th_take rfl rfl (by kernel_rfl)  (opv_extract rfl rfl) ?_
    refine th_take rfl rfl (by kernel_rfl)  (opv_extract rfl rfl) ?_
    refine th_one (by kernel_rfl) (step_m rfl rfl opg_alloc ?_)
    rintro _ _ _ ⟨b14, rfl, rfl, rfl⟩
    refine ⟨Suf.h, (by first | exact fun _ h => h | assumption | exact fun _ h => (by assumption : _ ⊆ _) ((by assumption : _ ⊆ _) h)), ?_⟩
    refine th_one (by kernel_rfl) (step_m rfl rfl (opg_store rfl rfl rfl rfl rfl rfl) ?_)
    rintro _ _ _ ⟨rfl, rfl⟩
    refine ⟨Suf.h, (by first | exact fun _ h => h | assumption | exact fun _ h => (by assumption : _ ⊆ _) ((by assumption : _ ⊆ _) h)), ?_⟩
    refine th_take rfl rfl (by kernel_rfl)  (opv_assign rfl) ?_
    refine th_take rfl rfl (by kernel_rfl)  (opv_assign rfl) ?_
    refine th_done (by kernel_rfl) ?_
    exact tri_perm (List.Perm.swap _ _ _) (tri_drop (tri_cutEnd _ ⟨_, x5, y5, ⟨hs5, hI5⟩, rfl, rfl⟩ ⟨rfl, rfl, rfl, rfl, rfl, rfl, rfl, rfl, trivial⟩))
   ·refine (step_m rfl rfl opg_alloc ?_)
    rintro _ _ _ ⟨b14, rfl, rfl, rfl⟩
    refine ⟨Suf.h, (by first | exact fun _ h => h | assumption | exact fun _ h => (by assumption : _ ⊆ _) ((by assumption : _ ⊆ _) h)), ?_⟩
    refine th_one (by kernel_rfl) (step_m rfl rfl (opg_call (xs := [_, _, _]) rfl (leap_runR hs4 lA eB)) ?_)
    rintro _ _ I5 ⟨x5, y5, rfl, hs5, rfl, hI5⟩
    refine ⟨Suf.h, hI5, ?_⟩
    refine th_take rfl rfl (by kernel_rfl)  (opv_move rfl) ?_
    refine th_take rfl rfl (by kernel_rfl)  (opv_extract rfl rfl) ?_
    refine th_take rfl rfl (by kernel_rfl)  (opv_extract rfl rfl) ?_
    refine th_take rfl rfl (by kernel_rfl)  (opv_extract rfl rfl) ?_
    refine th_one (by kernel_rfl) (step_m rfl rfl (opg_store rfl rfl rfl rfl rfl rfl) ?_)
    rintro _ _ _ ⟨rfl, rfl⟩
    refine ⟨Suf.h, (by first | exact fun _ h => h | assumption | exact fun _ h => (by assumption : _ ⊆ _) ((by assumption : _ ⊆ _) h)), ?_⟩
    refine th_take rfl rfl (by kernel_rfl)  (opv_assign rfl) ?_
    refine th_take rfl rfl (by kernel_rfl)  (opv_assign rfl) ?_
    refine th_done (by kernel_rfl) ?_
    exact tri_perm (List.Perm.swap _ _ _) (tri_drop (tri_cutEnd _ ⟨_, x5, y5, ⟨hs5, hI5⟩, rfl, rfl⟩ ⟨rfl, rfl, rfl, rfl, rfl, rfl, rfl, rfl, trivial⟩))
  ·refine (step_m rfl rfl opg_alloc ?_)
   rintro _ _ _ ⟨b14, rfl, rfl, rfl⟩
   refine ⟨Suf.h, (by first | exact fun _ h => h | assumption | exact fun _ h => (by assumption : _ ⊆ _) ((by assumption : _ ⊆ _) h)), ?_⟩
   refine th_one (by kernel_rfl) (step_m rfl rfl (opg_call (xs := [_, _]) rfl (law09_pick h2.1 h2.2 (by decide))) ?_)
   rintro _ _ _ ⟨rfl, rfl, rfl⟩
   refine ⟨Suf.h, (by first | exact fun _ h => h | assumption | exact fun _ h => (by assumption : _ ⊆ _) ((by assumption : _ ⊆ _) h)), ?_⟩
   refine th_one (by kernel_rfl) (step_m rfl rfl (opg_call (xs := [_, _, _]) rfl (leap_runR hs4 lA eB)) ?_)
   rintro _ _ I5 ⟨x5, y5, rfl, hs5, rfl, hI5⟩
   refine ⟨Suf.h, hI5, ?_⟩
   refine th_take rfl rfl (by kernel_rfl)  (opv_move rfl) ?_
   refine th_take rfl rfl (by kernel_rfl)  (opv_extract rfl rfl) ?_
   refine th_take rfl rfl (by kernel_rfl)  (opv_extract rfl rfl) ?_
   refine th_take rfl rfl (by kernel_rfl)  (opv_extract rfl rfl) ?_
   refine th_one (by kernel_rfl) (step_m rfl rfl (opg_store rfl rfl rfl rfl rfl rfl) ?_)
   rintro _ _ _ ⟨rfl, rfl⟩
   refine ⟨Suf.h, (by first | exact fun _ h => h | assumption | exact fun _ h => (by assumption : _ ⊆ _) ((by assumption : _ ⊆ _) h)), ?_⟩
   refine th_take rfl rfl (by kernel_rfl)  (opv_assign rfl) ?_
   refine th_take rfl rfl (by kernel_rfl)  (opv_assign rfl) ?_
   refine th_done (by kernel_rfl) ?_
   exact tri_perm (List.Perm.swap _ _ _) (tri_drop (tri_cutEnd _ ⟨_, x5, y5, ⟨hs5, hI5⟩, rfl, rfl⟩ ⟨rfl, rfl, rfl, rfl, rfl, rfl, rfl, rfl, trivial⟩))
 rintro _ _ I5 ⟨b14, x5, y5, ⟨hs5, hI5⟩, rfl, rfl⟩
 refine tT (tS ?_)
 skip
 refine tri_cut (fun F' A' J => ∃ (b17 : Nat) (x6 : Option Addr) (y6 : Nat), (StA J x6 y6 rC.1 ∧ I5 ⊆ J) ∧ F' = [(7, .bool true), (9, .int .i64 m), (13, .int .i64 rA.2.2), (15, .int .i64 rB.2.1), (16, .int .i64 rB.2.2), (17, pt b17 0), (18, .int .i64 rC.2.1), (19, .int .i64 rC.2.2)] ∧ A' = Box b17 [.slice x6 rC.1.length y6, .int .i64 20000] 26 :: A) ?_ ?_
 ·refine tri_draw [0, 1, 2, 4, 3, 5, 6, 7, 8, 9, 10, 11, 12, 13, 14, 15] rfl [] rfl mixed ?_
  refine th_take rfl rfl (by kernel_rfl)  (by first | exact opv_load1 rfl rfl rfl | exact opv_loadA rfl rfl rfl | exact opv_loadE1 rfl (by assumption) rfl (by omega) rfl rfl | exact opv_loadEA rfl (by assumption) rfl (by omega) rfl rfl | exact opv_loadRX1 rfl rfl (by omega) rfl rfl | exact opv_loadRXA rfl rfl (by omega) rfl rfl rfl | exact opv_loadIX rfl rfl (by omega) | exact opv_loadR1 rfl rfl rfl | exact opv_loadRA rfl rfl rfl rfl) ?_
  refine th_take rfl rfl (by kernel_rfl)  (opv_move rfl) ?_
  refine th_take rfl rfl (by kernel_rfl)  (opv_move rfl) ?_
  refine th_take rfl rfl (by kernel_rfl)  (opv_move rfl) ?_
  refine th_two (j := 12) [3, 5, 6, 7, 8, 9, 10, 11, 13, 14, 15] (by kernel_rfl) rfl ?_ ?_
  ·refine (step_m rfl rfl (opg_call (xs := [_, _]) rfl (law09_pick h1.1 h1.2 (by decide))) ?_)
   rintro _ _ _ ⟨rfl, rfl, rfl⟩
   refine ⟨Suf.h, (by first | exact fun _ h => h | assumption | exact fun _ h => (by assumption : _ ⊆ _) ((by assumption : _ ⊆ _) h)), ?_⟩
   refine th_two (j := 12) [5, 6, 7, 8, 9, 10, 11, 13, 14, 15] (by kernel_rfl) rfl ?_ ?_
   ·refine (step_m rfl rfl (opg_call (xs := [_, _]) rfl (law09_pick h2.1 h2.2 (by decide))) ?_)
    rintro _ _ _ ⟨rfl, rfl, rfl⟩
    refine ⟨Suf.h, (by first | exact fun _ h => h | assumption | exact fun _ h => (by assumption : _ ⊆ _) ((by assumption : _ ⊆ _) h)), ?_⟩
    refine th_take rfl rfl (by kernel_rfl)  (by first | exact opv_add rfl rfl (w64 (by omega) (by omega))) ?_
    refine th_two (j := 12) [7, 8, 9, 10, 11, 13, 14, 15] (by kernel_rfl) rfl ?_ ?_
    ·refine (step_m rfl rfl (opg_call (xs := [_, _, _]) rfl (leap_runR hs5 lB eC)) ?_)
     rintro _ _ I6 ⟨x6, y6, rfl, hs6, rfl, hI6⟩
     refine ⟨Suf.h, hI6, ?_⟩
     refine th_take rfl rfl (by kernel_rfl)  (opv_move rfl) ?_
     refine th_take rfl rfl (by kernel_rfl)  (opv_extract rfl rfl) ?_
     refine th_take rfl rfl (by kernel_rfl)  (opv_extract rfl rfl) ?_
     refine th_take rfl rfl (by kernel_rfl)  (opv_extract rfl rfl) ?_
     refine th_one (by kernel_rfl) (step_m rfl rfl opg_alloc ?_)
     rintro _ _ _ ⟨b17, rfl, rfl, rfl⟩
     refine ⟨Suf.h, (by first | exact fun _ h => h | assumption | exact fun _ h => (by assumption : _ ⊆ _) ((by assumption : _ ⊆ _) h)), ?_⟩
     refine th_one (by kernel_rfl) (step_m rfl rfl (opg_store rfl rfl rfl rfl rfl rfl) ?_)
     rintro _ _ _ ⟨rfl, rfl⟩
     refine ⟨Suf.h, (by first | exact fun _ h => h | assumption | exact fun _ h => (by assumption : _ ⊆ _) ((by assumption : _ ⊆ _) h)), ?_⟩
     refine th_take rfl rfl (by kernel_rfl)  (opv_assign rfl) ?_
     refine th_take rfl rfl (by kernel_rfl)  (opv_assign rfl) ?_
     refine th_done (by kernel_rfl) ?_
     exact tri_perm (List.Perm.swap _ _ _) (tri_drop (tri_cutEnd _ ⟨_, x6, y6, ⟨hs6, hI6⟩, rfl, rfl⟩ ⟨rfl, rfl, rfl, rfl, rfl, rfl, rfl, rfl, trivial⟩))
    ·refine (step_m rfl rfl opg_alloc ?_)
     rintro _ _ _ ⟨b17, rfl, rfl, rfl⟩
     refine ⟨Suf.h, (by first | exact fun _ h => h | assumption | exact fun _ h => (by assumption : _ ⊆ _) ((by assumption : _ ⊆ _) h)), ?_⟩
     refine th_one (by kernel_rfl) (step_m rfl rfl (opg_call (xs := [_, _, _]) rfl (leap_runR hs5 lB eC)) ?_)
     rintro _ _ I6 ⟨x6, y6, rfl, hs6, rfl, hI6⟩
     refine ⟨Suf.h, hI6, ?_⟩
     refine th_take rfl rfl (by kernel_rfl)  (opv_move rfl) ?_
     refine th_take rfl rfl (by kernel_rfl)  (opv_extract rfl rfl) ?_
     refine th_take rfl rfl (by kernel_rfl)  (opv_extract rfl rfl) ?_
     refine th_take rfl rfl (by kernel_rfl)  (opv_extract rfl rfl) ?_
     refine th_one (by kernel_rfl) (step_m rfl rfl (opg_store rfl rfl rfl rfl rfl rfl) ?_)
     rintro _ _ _ ⟨rfl, rfl⟩
     refine ⟨Suf.h, (by first | exact fun _ h => h | assumption | exact fun _ h => (by assumption : _ ⊆ _) ((by assumption : _ ⊆ _) h)), ?_⟩
     refine th_take rfl rfl (by kernel_rfl)  (opv_assign rfl) ?_
     refine th_take rfl rfl (by kernel_rfl)  (opv_assign rfl) ?_
     refine th_done (by kernel_rfl) ?_
     exact tri_perm (List.Perm.swap _ _ _) (tri_drop (tri_cutEnd _ ⟨_, x6, y6, ⟨hs6, hI6⟩, rfl, rfl⟩ ⟨rfl, rfl, rfl, rfl, rfl, rfl, rfl, rfl, trivial⟩))
   ·refine (step_m rfl rfl opg_alloc ?_)
    rintro _ _ _ ⟨b17, rfl, rfl, rfl⟩
    refine ⟨Suf.h, (by first | exact fun _ h => h | assumption | exact fun _ h => (by assumption : _ ⊆ _) ((by assumption : _ ⊆ _) h)), ?_⟩
    refine th_one (by kernel_rfl) (step_m rfl rfl (opg_call (xs := [_, _]) rfl (law09_pick h2.1 h2.2 (by decide))) ?_)
    rintro _ _ _ ⟨rfl, rfl, rfl⟩
    refine ⟨Suf.h, (by first | exact fun _ h => h | assumption | exact fun _ h => (by assumption : _ ⊆ _) ((by assumption : _ ⊆ _) h)), ?_⟩
    refine th_take rfl rfl (by kernel_rfl)  (by first | exact opv_add rfl rfl (w64 (by omega) (by omega))) ?_
    refine th_one (by kernel_rfl) (step_m rfl rfl (opg_call (xs := [_, _, _]) rfl (leap_runR hs5 lB eC)) ?_)
    rintro _ _ I6 ⟨x6, y6, rfl, hs6, rfl, hI6⟩
    refine ⟨Suf.h, hI6, ?_⟩
    refine th_take rfl rfl (by kernel_rfl)  (opv_move rfl) ?_
    refine th_take rfl rfl (by kernel_rfl)  (opv_extract rfl rfl) ?_
    refine th_take rfl rfl (by kernel_rfl)  (opv_extract rfl rfl) ?_
    refine th_take rfl rfl (by kernel_rfl)  (opv_extract rfl rfl) ?_
    refine th_one (by kernel_rfl) (step_m rfl rfl (opg_store rfl rfl rfl rfl rfl rfl) ?_)
    rintro _ _ _ ⟨rfl, rfl⟩
    refine ⟨Suf.h, (by first | exact fun _ h => h | assumption | exact fun _ h => (by assumption : _ ⊆ _) ((by assumption : _ ⊆ _) h)), ?_⟩
    refine th_take rfl rfl (by kernel_rfl)  (opv_assign rfl) ?_
    refine th_take rfl rfl (by kernel_rfl)  (opv_assign rfl) ?_
    refine th_done (by kernel_rfl) ?_
    exact tri_perm (List.Perm.swap _ _ _) (tri_drop (tri_cutEnd _ ⟨_, x6, y6, ⟨hs6, hI6⟩, rfl, rfl⟩ ⟨rfl, rfl, rfl, rfl, rfl, rfl, rfl, rfl, trivial⟩))
  ·refine (step_m rfl rfl opg_alloc ?_)
   rintro _ _ _ ⟨b17, rfl, rfl, rfl⟩
   refine ⟨Suf.h, (by first | exact fun _ h => h | assumption | exact fun _ h => (by assumption : _ ⊆ _) ((by assumption : _ ⊆ _) h)), ?_⟩
   refine th_one (by kernel_rfl) (step_m rfl rfl (opg_call (xs := [_, _]) rfl (law09_pick h1.1 h1.2 (by decide))) ?_)
   rintro _ _ _ ⟨rfl, rfl, rfl⟩
   refine ⟨Suf.h, (by first | exact fun _ h => h | assumption | exact fun _ h => (by assumption : _ ⊆ _) ((by assumption : _ ⊆ _) h)), ?_⟩
   refine th_one (by kernel_rfl) (step_m rfl rfl (opg_call (xs := [_, _]) rfl (law09_pick h2.1 h2.2 (by decide))) ?_)
   rintro _ _ _ ⟨rfl, rfl, rfl⟩
   refine ⟨Suf.h, (by first | exact fun _ h => h | assumption | exact fun _ h => (by assumption : _ ⊆ _) ((by assumption : _ ⊆ _) h)), ?_⟩
   refine th_take rfl rfl (by kernel_rfl)  (by first | exact opv_add rfl rfl (w64 (by omega) (by omega))) ?_
   refine th_one (by kernel_rfl) (step_m rfl rfl (opg_call (xs := [_, _, _]) rfl (leap_runR hs5 lB eC)) ?_)
   rintro _ _ I6 ⟨x6, y6, rfl, hs6, rfl, hI6⟩
   refine ⟨Suf.h, hI6, ?_⟩
   refine th_take rfl rfl (by kernel_rfl)  (opv_move rfl) ?_
   refine th_take rfl rfl (by kernel_rfl)  (opv_extract rfl rfl) ?_
   refine th_take rfl rfl (by kernel_rfl)  (opv_extract rfl rfl) ?_
   refine th_take rfl rfl (by kernel_rfl)  (opv_extract rfl rfl) ?_
   refine th_one (by kernel_rfl) (step_m rfl rfl (opg_store rfl rfl rfl rfl rfl rfl) ?_)
   rintro _ _ _ ⟨rfl, rfl⟩
   refine ⟨Suf.h, (by first | exact fun _ h => h | assumption | exact fun _ h => (by assumption : _ ⊆ _) ((by assumption : _ ⊆ _) h)), ?_⟩
   refine th_take rfl rfl (by kernel_rfl)  (opv_assign rfl) ?_
   refine th_take rfl rfl (by kernel_rfl)  (opv_assign rfl) ?_
   refine th_done (by kernel_rfl) ?_
   exact tri_perm (List.Perm.swap _ _ _) (tri_drop (tri_cutEnd _ ⟨_, x6, y6, ⟨hs6, hI6⟩, rfl, rfl⟩ ⟨rfl, rfl, rfl, rfl, rfl, rfl, rfl, rfl, trivial⟩))
 rintro _ _ I6 ⟨b17, x6, y6, ⟨hs6, hI6⟩, rfl, rfl⟩
 refine tT (tS (tR ?_))
 refine tri_v (by first | exact opv_load1 rfl rfl rfl | exact opv_loadA rfl rfl rfl | exact opv_loadE1 rfl (by assumption) rfl (by omega) rfl rfl | exact opv_loadEA rfl (by assumption) rfl (by omega) rfl rfl | exact opv_loadRX1 rfl rfl (by omega) rfl rfl | exact opv_loadRXA rfl rfl (by omega) rfl rfl rfl | exact opv_loadIX rfl rfl (by omega) | exact opv_loadR1 rfl rfl rfl | exact opv_loadRA rfl rfl rfl rfl) rfl ?_
 refine tM rfl rfl ?_
 refine tri_g (opg_call (xs := [_, _]) rfl (leap_trimR hs6 lC eD)) rfl ?_
 rintro _ _ I7 ⟨x7, y7, rfl, hs7, rfl, hI7⟩
 refine tM rfl rfl ?_
 refine tri_v (opv_extract rfl rfl) rfl ?_
 refine tri_v (opv_extract rfl rfl) rfl ?_
 refine tri_v (opv_extract rfl rfl) rfl ?_
 refine tri_g opg_alloc rfl ?_
 rintro _ _ _ ⟨b20, rfl, rfl, rfl⟩
 refine tri_g (opg_store rfl rfl rfl rfl rfl rfl) rfl ?_
 rintro _ _ _ ⟨rfl, rfl⟩
 refine tA rfl rfl (tA rfl rfl (tN (tT (tS (tR ?_)))))
 refine tri_v (by first | exact opv_load1 rfl rfl rfl | exact opv_loadA rfl rfl rfl | exact opv_loadE1 rfl (by assumption) rfl (by omega) rfl rfl | exact opv_loadEA rfl (by assumption) rfl (by omega) rfl rfl | exact opv_loadRX1 rfl rfl (by omega) rfl rfl | exact opv_loadRXA rfl rfl (by omega) rfl rfl rfl | exact opv_loadIX rfl rfl (by omega) | exact opv_loadR1 rfl rfl rfl | exact opv_loadRA rfl rfl rfl rfl) rfl ?_
 refine tM rfl rfl ?_
 -- STOP op
 refine tri_g (opg_call (xs := [_, _, _]) rfl (leap_runR hs7 lD eE)) rfl ?_
 rintro _ _ I8 ⟨x8, y8, rfl, hs8, rfl, hI8⟩
 have hI08 : I ⊆ I8 := fun _ h => hI8 (hI7 (hI6 (hI5 (hI4 (hI03 h)))))
 have erA := hA.er
 unfold R9.Er at erA
 refine tM rfl rfl ?_
 refine tri_v (opv_extract rfl rfl) rfl ?_
 refine tri_v (opv_extract rfl rfl) rfl ?_
 refine tri_v (opv_extract rfl rfl) rfl ?_
 refine tri_g opg_alloc rfl ?_
 rintro _ _ _ ⟨b23, rfl, rfl, rfl⟩
 refine tri_g (opg_store rfl rfl rfl rfl rfl rfl) rfl ?_
 rintro _ _ _ ⟨rfl, rfl⟩
 refine tA rfl rfl (tA rfl rfl (tN (tT (tS (tS (tR (tM rfl rfl ?_)))))))
 refine tri_v (by first | exact opv_neq rfl rfl | exact opv_neqI rfl rfl rfl rfl rfl rfl | exact opv_neqB rfl rfl) rfl ?_
 refine tM rfl rfl ?_
 -- STOP guard
 refine tri_split rfl rfl (fun hA0 => ?_) (fun hA0 => ?_)
 ·have h40 : rA.2.2 = 40 := erA.resolve_left hA0
  refine tri_guard_skip rfl rfl rfl rfl (tri_guard_skip rfl rfl rfl rfl ?_)
  refine tri_v (by first | exact opv_pick_t rfl rfl | exact opv_pick_f rfl rfl | exact opv_pick_bool rfl rfl rfl | exact opv_pick rfl rfl rfl) rfl ?_
  refine tM rfl rfl (tri_guard_skip rfl rfl rfl rfl (tri_guard_skip rfl rfl rfl rfl ?_))
  refine tri_v (by first | exact opv_pick_t rfl rfl | exact opv_pick_f rfl rfl | exact opv_pick_bool rfl rfl rfl | exact opv_pick rfl rfl rfl) rfl ?_
  refine tN (tT ?_)
  refine tri_cond_true rfl ?_
  refine tS (tR (tM rfl rfl (tM rfl rfl ?_)))
  -- STOP guard
  refine tri_bool 90 rfl (fun _ => ?_) (fun h => absurd h (by decide))
  refine tri_guard_run rfl rfl rfl (tM rfl rfl (tri_guard_run rfl rfl rfl ?_))
  refine tri_v (by first | exact opv_eql rfl rfl | exact opv_eqlI rfl rfl rfl rfl rfl rfl | exact opv_eqlB rfl rfl | exact opv_eqlNil rfl rfl) rfl ?_
  refine tri_guard_run rfl rfl rfl (tM rfl rfl ?_)
  -- STOP guard
  refine tri_true rfl rfl (h40) ?_
  refine tri_guard_skip rfl rfl rfl rfl (tri_guard_skip rfl rfl rfl rfl (tri_guard_run rfl rfl rfl ?_))
  refine tri_v (by first | exact opv_pick_t rfl rfl | exact opv_pick_f rfl rfl | exact opv_pick_bool rfl rfl rfl | exact opv_pick rfl rfl rfl) rfl ?_
  refine tri_guard_run rfl rfl rfl (tM rfl rfl (tri_guard_skip rfl rfl rfl rfl (tri_guard_skip rfl rfl rfl rfl (tri_guard_run rfl rfl rfl ?_))))
  refine tri_v (by first | exact opv_pick_t rfl rfl | exact opv_pick_f rfl rfl | exact opv_pick_bool rfl rfl rfl | exact opv_pick rfl rfl rfl) rfl ?_
  refine tri_v (by first | exact opv_pick_t rfl rfl | exact opv_pick_f rfl rfl | exact opv_pick_bool rfl rfl rfl | exact opv_pick rfl rfl rfl) rfl ?_
  refine tA rfl rfl (tN (tT (tri_ret (tri_then_ret ?_))))
  -- STOP ret
  refine tri_end _ (by first | exact ⟨[], rfl⟩ | exact ⟨[_], rfl⟩ | exact ⟨[_, _], rfl⟩ | exact ⟨[_, _, _], rfl⟩ | exact ⟨[_, _, _, _], rfl⟩ | exact ⟨[_, _, _, _, _], rfl⟩ | exact ⟨[_, _, _, _, _, _], rfl⟩ | exact ⟨[_, _, _, _, _, _, _], rfl⟩ | exact ⟨[_, _, _, _, _, _, _, _], rfl⟩) rfl (.cons (rv_tmp rfl) .nil) ⟨rfl, rfl, hI08⟩
 ·have hA0 : rA.2.2 = 0 := Decidable.not_not.1 hA0
  obtain ⟨k1, hk1, cA, trA⟩ := hA.ok hA0
  have hB := R9.runT_ok (c := pk two 40) (K := 7) (B := 14) hA.right cA hb2.1 (by omega) (by omega) (by omega) (by omega)
  rw [eB] at hB
  have wM := (R6.right_iff.1 hr).2
  have wA := (R6.right_iff.1 hA.right).2
  have wB := (R6.right_iff.1 hB.right).2
  have hC := R9.runT_ok (c := pk one 40 + pk two 40) (K := 7) (B := 7) hB.right ((hctr.pre wM hA.pre).pre wA hB.pre) (by omega) (by omega) (by omega) (by omega) (by omega)
  rw [eC] at hC
  have erB := hB.er
  have erC := hC.er
  unfold R9.Er at erB erC
  refine tri_guard_run rfl rfl rfl (tM rfl rfl (tri_guard_run rfl rfl rfl ?_))
  refine tri_v (by first | exact opv_neq rfl rfl | exact opv_neqI rfl rfl rfl rfl rfl rfl | exact opv_neqB rfl rfl) rfl ?_
  refine tri_v (by first | exact opv_pick_t rfl rfl | exact opv_pick_f rfl rfl | exact opv_pick_bool rfl rfl rfl | exact opv_pick rfl rfl rfl) rfl ?_
  refine tM rfl rfl ?_
  -- STOP guard
  refine tri_split rfl rfl (fun hB0 => ?_) (fun hB0 => ?_)
  ·have h40 : rB.2.2 = 40 := erB.resolve_left hB0
   refine tri_guard_skip rfl rfl rfl rfl (tri_guard_skip rfl rfl rfl rfl ?_)
   refine tri_v (by first | exact opv_pick_t rfl rfl | exact opv_pick_f rfl rfl | exact opv_pick_bool rfl rfl rfl | exact opv_pick rfl rfl rfl) rfl ?_
   refine tN (tT ?_)
   refine tri_cond_true rfl ?_
   refine tS (tR (tM rfl rfl (tM rfl rfl ?_)))
   -- STOP guard
   refine tri_bool 90 rfl (fun _ => ?_) (fun h => absurd h (by decide))
   refine tri_guard_run rfl rfl rfl (tM rfl rfl (tri_guard_run rfl rfl rfl ?_))
   refine tri_v (by first | exact opv_eql rfl rfl | exact opv_eqlI rfl rfl rfl rfl rfl rfl | exact opv_eqlB rfl rfl | exact opv_eqlNil rfl rfl) rfl ?_
   refine tri_guard_run rfl rfl rfl (tM rfl rfl ?_)
   -- STOP guard
   refine tri_false rfl rfl ((by omega)) ?_
   refine tri_guard_run rfl rfl rfl (tM rfl rfl (tri_guard_run rfl rfl rfl ?_))
   refine tri_v (by first | exact opv_eql rfl rfl | exact opv_eqlI rfl rfl rfl rfl rfl rfl | exact opv_eqlB rfl rfl | exact opv_eqlNil rfl rfl) rfl ?_
   refine tri_guard_run rfl rfl rfl ?_
   refine tri_v (by first | exact opv_pick_t rfl rfl | exact opv_pick_f rfl rfl | exact opv_pick_bool rfl rfl rfl | exact opv_pick rfl rfl rfl) rfl ?_
   refine tri_guard_run rfl rfl rfl (tM rfl rfl ?_)
   -- STOP guard
   refine tri_true rfl rfl (h40) ?_
   refine tri_guard_skip rfl rfl rfl rfl (tri_guard_skip rfl rfl rfl rfl (tri_guard_run rfl rfl rfl ?_))
   refine tri_v (by first | exact opv_pick_t rfl rfl | exact opv_pick_f rfl rfl | exact opv_pick_bool rfl rfl rfl | exact opv_pick rfl rfl rfl) rfl ?_
   refine tri_v (by first | exact opv_pick_t rfl rfl | exact opv_pick_f rfl rfl | exact opv_pick_bool rfl rfl rfl | exact opv_pick rfl rfl rfl) rfl ?_
   refine tA rfl rfl (tN (tT (tri_ret (tri_then_ret ?_))))
   -- STOP ret
   refine tri_end _ (by first | exact ⟨[], rfl⟩ | exact ⟨[_], rfl⟩ | exact ⟨[_, _], rfl⟩ | exact ⟨[_, _, _], rfl⟩ | exact ⟨[_, _, _, _], rfl⟩ | exact ⟨[_, _, _, _, _], rfl⟩ | exact ⟨[_, _, _, _, _, _], rfl⟩ | exact ⟨[_, _, _, _, _, _, _], rfl⟩ | exact ⟨[_, _, _, _, _, _, _, _], rfl⟩) rfl (.cons (rv_tmp rfl) .nil) ⟨rfl, rfl, hI08⟩
  ·have hB0 : rB.2.2 = 0 := Decidable.not_not.1 hB0
   refine tri_guard_run rfl rfl rfl (tM rfl rfl (tri_guard_run rfl rfl rfl ?_))
   refine tri_v (by first | exact opv_neq rfl rfl | exact opv_neqI rfl rfl rfl rfl rfl rfl | exact opv_neqB rfl rfl) rfl ?_
   refine tri_v (by first | exact opv_pick_t rfl rfl | exact opv_pick_f rfl rfl | exact opv_pick_bool rfl rfl rfl | exact opv_pick rfl rfl rfl) rfl ?_
   refine tN (tT ?_)
   -- STOP cond
   refine tri_cond_dec rfl (fun hC0 => ?_) (fun hC0 => ?_)
   ·have h40 : rC.2.2 = 40 := erC.resolve_left hC0
    refine tS (tR (tM rfl rfl (tM rfl rfl ?_)))
    -- STOP guard
    refine tri_bool 90 rfl (fun _ => ?_) (fun h => absurd h (by decide))
    refine tri_guard_run rfl rfl rfl (tM rfl rfl (tri_guard_run rfl rfl rfl ?_))
    refine tri_v (by first | exact opv_eql rfl rfl | exact opv_eqlI rfl rfl rfl rfl rfl rfl | exact opv_eqlB rfl rfl | exact opv_eqlNil rfl rfl) rfl ?_
    refine tri_guard_run rfl rfl rfl (tM rfl rfl ?_)
    -- STOP guard
    refine tri_false rfl rfl ((by omega)) ?_
    refine tri_guard_run rfl rfl rfl (tM rfl rfl (tri_guard_run rfl rfl rfl ?_))
    refine tri_v (by first | exact opv_eql rfl rfl | exact opv_eqlI rfl rfl rfl rfl rfl rfl | exact opv_eqlB rfl rfl | exact opv_eqlNil rfl rfl) rfl ?_
    refine tri_guard_run rfl rfl rfl ?_
    refine tri_v (by first | exact opv_pick_t rfl rfl | exact opv_pick_f rfl rfl | exact opv_pick_bool rfl rfl rfl | exact opv_pick rfl rfl rfl) rfl ?_
    refine tri_guard_run rfl rfl rfl (tM rfl rfl ?_)
    -- STOP guard
    refine tri_false rfl rfl ((by omega)) ?_
    refine tri_guard_run rfl rfl rfl (tM rfl rfl (tri_guard_run rfl rfl rfl ?_))
    refine tri_v (by first | exact opv_eql rfl rfl | exact opv_eqlI rfl rfl rfl rfl rfl rfl | exact opv_eqlB rfl rfl | exact opv_eqlNil rfl rfl) rfl ?_
    refine tri_guard_run rfl rfl rfl ?_
    refine tri_v (by first | exact opv_pick_t rfl rfl | exact opv_pick_f rfl rfl | exact opv_pick_bool rfl rfl rfl | exact opv_pick rfl rfl rfl) rfl ?_
    refine tri_v (by first | exact opv_pick_t rfl rfl | exact opv_pick_f rfl rfl | exact opv_pick_bool rfl rfl rfl | exact opv_pick rfl rfl rfl) rfl ?_
    refine tA rfl rfl (tN (tT (tri_ret (tri_then_ret ?_))))
    -- STOP ret
    refine tri_end _ (by first | exact ⟨[], rfl⟩ | exact ⟨[_], rfl⟩ | exact ⟨[_, _], rfl⟩ | exact ⟨[_, _, _], rfl⟩ | exact ⟨[_, _, _, _], rfl⟩ | exact ⟨[_, _, _, _, _], rfl⟩ | exact ⟨[_, _, _, _, _, _], rfl⟩ | exact ⟨[_, _, _, _, _, _, _], rfl⟩ | exact ⟨[_, _, _, _, _, _, _, _], rfl⟩) rfl (.cons (rv_tmp rfl) .nil) ⟨?_, rfl, hI08⟩
    exact congrArg Value.bool (decide_eq_true h40)
   ·have hC0 : rC.2.2 = 0 := Decidable.not_not.1 hC0
    obtain ⟨k2, hk2, cB, tB⟩ := hB.ok hB0
    obtain ⟨k3, hk3, cC, tC⟩ := hC.ok hC0
    have wC := (R6.right_iff.1 hC.right).2
    rw [← R9.gens_add, show (pk one 40).toNat + (pk two 40).toNat = (pk one 40 + pk two 40).toNat by omega] at cB
    have hik : rC.2.1 = rB.2.1 := R9.canon wC cC tC (cB.pre wB hC.pre) (tB.pre wB hC.pre cB.1.1)
    obtain ⟨t1, t2⟩ := hA.trim hA0
    have hag := R9.trimT_again hr hctr.1.1 t1 hC.right ((t2.trans hB.pre).trans hC.pre)
    have isC := ((hctr.pre wM hA.pre).pre wA hB.pre).pre wB hC.pre
    have may : R8.may rC.1 20000 m 2 := ⟨hC.right, isC.1.1.1, by rw [isC.1.1.2]; omega⟩
    have hD : rD = (rC.1, (R9.trimS 20000 ⟨ms, []⟩ m).2.1, 0) := by
     rw [← eD]
     unfold R9.trimT
     rw [if_pos may, hag]
     rfl
    have hE : rE = (rC.1, (R9.trimS 20000 ⟨ms, []⟩ m).2.1, 0) := by
     rw [← eE, hD]
     unfold R9.runT
     rw [if_pos ⟨may, by omega, by omega⟩, show R9.bits 0 = [] by decide]
     show R9.out rC.1 (R9.trimS 20000 ⟨rC.1, []⟩ m) = _
     rw [hag]
     rfl
    refine tri_skip (tT (tS (tR (tM rfl rfl (tM rfl rfl ?_)))))
    -- STOP guard
    refine tri_bool 103 rfl (fun _ => ?_) (fun h => absurd h (by decide))
    refine tri_guard_run rfl rfl rfl (tM rfl rfl (tri_guard_run rfl rfl rfl ?_))
    refine tri_v (by first | exact opv_eql rfl rfl | exact opv_eqlI rfl rfl rfl rfl rfl rfl | exact opv_eqlB rfl rfl | exact opv_eqlNil rfl rfl) rfl ?_
    refine tri_v (by first | exact opv_pick_t rfl rfl | exact opv_pick_f rfl rfl | exact opv_pick_bool rfl rfl rfl | exact opv_pick rfl rfl rfl) rfl ?_
    refine tM rfl rfl ?_
    -- STOP guard
    refine tri_true rfl rfl ((by rw [hD])) ?_
    refine tri_guard_run rfl rfl rfl (tM rfl rfl (tri_guard_run rfl rfl rfl ?_))
    refine tri_v (by first | exact opv_eql rfl rfl | exact opv_eqlI rfl rfl rfl rfl rfl rfl | exact opv_eqlB rfl rfl | exact opv_eqlNil rfl rfl) rfl ?_
    refine tri_v (by first | exact opv_pick_t rfl rfl | exact opv_pick_f rfl rfl | exact opv_pick_bool rfl rfl rfl | exact opv_pick rfl rfl rfl) rfl ?_
    refine tM rfl rfl ?_
    -- STOP guard
    refine tri_true rfl rfl ((by rw [hE])) ?_
    refine tri_guard_run rfl rfl rfl (tM rfl rfl (tri_guard_run rfl rfl rfl (tM rfl rfl (tri_guard_run rfl rfl rfl ?_))))
    refine tri_v (by first | exact opv_eql rfl rfl | exact opv_eqlI rfl rfl rfl rfl rfl rfl | exact opv_eqlB rfl rfl | exact opv_eqlNil rfl rfl) rfl ?_
    refine tri_v (by first | exact opv_pick_t rfl rfl | exact opv_pick_f rfl rfl | exact opv_pick_bool rfl rfl rfl | exact opv_pick rfl rfl rfl) rfl ?_
    refine tM rfl rfl ?_
    -- STOP guard
    refine tri_true rfl rfl (hik) ?_
    refine tri_guard_run rfl rfl rfl (tM rfl rfl (tri_guard_run rfl rfl rfl (tM rfl rfl (tri_guard_run rfl rfl rfl ?_))))
    refine tri_v (by first | exact opv_eql rfl rfl | exact opv_eqlI rfl rfl rfl rfl rfl rfl | exact opv_eqlB rfl rfl | exact opv_eqlNil rfl rfl) rfl ?_
    refine tri_v (by first | exact opv_pick_t rfl rfl | exact opv_pick_f rfl rfl | exact opv_pick_bool rfl rfl rfl | exact opv_pick rfl rfl rfl) rfl ?_
    refine tA rfl rfl (tN (tT (tri_ret ?_)))
    -- STOP ret
    refine tri_end _ (by first | exact ⟨[], rfl⟩ | exact ⟨[_], rfl⟩ | exact ⟨[_, _], rfl⟩ | exact ⟨[_, _, _], rfl⟩ | exact ⟨[_, _, _, _], rfl⟩ | exact ⟨[_, _, _, _, _], rfl⟩ | exact ⟨[_, _, _, _, _, _], rfl⟩ | exact ⟨[_, _, _, _, _, _, _], rfl⟩ | exact ⟨[_, _, _, _, _, _, _, _], rfl⟩) rfl (.cons (rv_tmp rfl) .nil) ⟨?_, rfl, hI08⟩
    exact congrArg Value.bool (decide_eq_true (by rw [hD, hE]))
end Go.GL
