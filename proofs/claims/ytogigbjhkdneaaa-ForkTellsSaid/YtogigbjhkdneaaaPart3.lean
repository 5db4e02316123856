/- Part 3: contracts of the functions that the law reaches: each answers as its model does. No condition beyond those that each theorem states. -/
import Derived.Test.YtogigbjhkdneaaaPart2
import Derived.SizedLaws
set_option linter.unusedVariables false
namespace Go.GL
open Go.Proofs
attribute [local irreducible] wpList Code.wp Exit.then Exit.inBlock Ends Tri TriH OpV OpG FnC epf wpAnyH
variable {A : List Asrt} {I : List Chunk}
/-- What a crew holds. -/
structure Crew where
 fs : List Frame
 ends : Bool
 D : List (List Int)
 sum : Int
 order : List Int
 who : List Int
 steps : Int
namespace R19
/-- A worker runs a task. -/
def stepM (p : List Int) (c : Crew) (w : Nat) : Crew :=
 if (takeM c.D w).1 < 0 then { c with steps := c.steps + 1, D := (takeM c.D w).2 } else
 let t := (takeM c.D w).1.toNat
 let c1 : Crew := { c with steps := c.steps + 1, order := c.order ++ [(t : Int)], who := c.who ++ [(w : Int)], D := (takeM c.D w).2.set w ((takeM c.D w).2.getD w default ++ kids p t) }
 if (c.fs.getD t default).left = 0 then { c1 with fs := (joinM (t + 1) c.fs t).1, ends := c.ends || (joinM (t + 1) c.fs t).2 } else c1
end R19
/-- What is known of a crew. -/
structure CrewOk (I : List Chunk) (p : List Int) (k : Crew) (ss : List Sl) : Prop where
 dq : Dqs I ss k.D
 dn : 1 ≤ k.D.length ∧ k.D.length ≤ 64
 fl : k.fs.length = p.length
 pn : p.length ≤ 300
 par : ∀ t, t < p.length → (k.fs.getD t default).par < (t : Int)
 kid : ∀ t, t < p.length → SlAt I (k.fs.getD t default).a (R19.kids p t) ∧ (k.fs.getD t default).len = (R19.kids p t).length
 dl : ∀ i, i < k.D.length → (k.D.getD i default).length ≤ 300
 st : 0 ≤ k.steps ∧ k.steps ≤ 1000000
 ol : k.order.length ≤ 1000000 ∧ k.who.length ≤ 1000000
namespace R19
theorem findF_lt {D : List (List Int)} {w : Nat} (h0 : 0 < D.length) : ∀ (f j : Nat) {k : Nat}, findF D w f j = some k → k < D.length ∧ 0 < (D.getD k default).length
 | 0, _, _, h => nomatch h
 | f + 1, j, k, h => by
  unfold findF at h
  split at h
  ·exact findF_lt h0 f (j + 1) h
  ·rename_i h1
   injection h with h
   subst h
   exact ⟨Nat.mod_lt _ h0, by omega⟩
theorem takeM_len (D : List (List Int)) (w : Nat) : (takeM D w).2.length = D.length := by
 unfold takeM
 split
 ·rw [List.length_set]
 ·split
  ·rw [List.length_set]
  ·rfl
theorem set_dl {D : List (List Int)} {k i : Nat} {l : List Int} (h : l.length ≤ (D.getD k default).length) : ((D.set k l).getD i default).length ≤ (D.getD i default).length := by
 by_cases hk : k < D.length
 ·rw [getD_set' hk]
  split
  ·rename_i e
   rw [e]
   exact h
  ·exact Nat.le_refl _
 ·rw [List.set_eq_of_length_le (by omega)]
  exact Nat.le_refl _
theorem takeM_dl (D : List (List Int)) (w i : Nat) : ((takeM D w).2.getD i default).length ≤ (D.getD i default).length := by
 unfold takeM
 split
 ·exact set_dl (by rw [List.length_take]; exact Nat.min_le_right _ _)
 ·split
  ·exact set_dl (by rw [List.length_drop]; omega)
  ·exact Nat.le_refl _
theorem kids_len (p : List Int) (t : Nat) : (kids p t).length ≤ p.length := kidsTo_len p t p.length
end R19
theorem permJ' {a b c d e : Asrt} {A : List Asrt} : (e :: b :: a :: c :: d :: A).Perm (a :: b :: c :: d :: e :: A) :=
 ((List.Perm.swap _ _ _).cons e).trans (List.perm_middle (l₁ := [a, b, c, d])).symm
theorem permJ {a b c d e : Asrt} {A : List Asrt} : (a :: b :: c :: d :: e :: A).Perm (e :: b :: a :: c :: d :: A) :=
 (List.perm_middle (l₁ := [a, b, c, d])).trans ((List.Perm.swap _ _ _).cons e)
set_option maxHeartbeats 4000000 in
set_option maxRecDepth 100000 in
theorem fork_step {c b bd w N W : Nat} {sm : Int} {ao aw : Option Addr} {co cw : Nat} {p : List Int} {k : Crew} {ss : List Sl} (hk : CrewOk I p k ss) (hWD : k.D.length = W) (hw : w < k.D.length) (hN : N = p.length) (ht : (R19.takeM k.D w).1 < (N : Int)) :
  FnC Try.prog 24 [pt c 0, .int .i64 (w : Int)].toArray
   (Row (some ⟨bd, 0, none⟩) W W 22 1 (encs ss) :: Box c [.slice (some ⟨b, 0, none⟩) N N, .bool k.ends, .slice (some ⟨bd, 0, none⟩) W W, .int .i64 sm, .slice ao k.order.length co, .slice aw k.who.length cw, .int .i64 k.steps] 50 ::
    Row ao co k.order.length 3 1 (encs k.order) :: Row aw cw k.who.length 3 1 (encs k.who) :: Row (some ⟨b, 0, none⟩) N N 54 4 (encs k.fs) :: A) I
   (fun v A' I' => ∃ ss' ao' aw' co' cw', A' = Row (some ⟨bd, 0, none⟩) W W 22 1 (encs ss') :: Box c [.slice (some ⟨b, 0, none⟩) N N, .bool (R19.stepM p k w).ends, .slice (some ⟨bd, 0, none⟩) W W, .int .i64 sm, .slice ao' (R19.stepM p k w).order.length co', .slice aw' (R19.stepM p k w).who.length cw', .int .i64 (R19.stepM p k w).steps] 50 ::
    Row ao' co' (R19.stepM p k w).order.length 3 1 (encs (R19.stepM p k w).order) :: Row aw' cw' (R19.stepM p k w).who.length 3 1 (encs (R19.stepM p k w).who) :: Row (some ⟨b, 0, none⟩) N N 54 4 (encs (R19.stepM p k w).fs) :: A ∧ Dqs I' ss' (R19.stepM p k w).D ∧ I ⊆ I') := by
 subst hWD
 obtain ⟨hdq, hdn, hfl, hpn, hpar, hkid, hdl, hst, hol⟩ := hk
 skip
 refine fn_enter2 Try.func24 rfl Try.ntmps24 rfl fun w0 => ?_
 refine tS (tR (tM rfl rfl ?_))
 refine tri_v (by first | exact opv_nilCheckE rfl | exact opv_nilCheck rfl) rfl ?_
 refine tri_v (by first | exact opv_fieldAddr rfl rfl | exact opv_fieldAddrE rfl (by assumption) (by omega) rfl | exact opv_fieldAddrR rfl (by omega) rfl | exact opv_fieldAddrP rfl rfl rfl) rfl ?_
 refine tri_v (by first | exact opv_fieldAddr rfl rfl | exact opv_fieldAddrE rfl (by assumption) (by omega) rfl | exact opv_fieldAddrR rfl (by omega) rfl | exact opv_fieldAddrP rfl rfl rfl) rfl ?_
 refine tri_v (by first | exact opv_load1 rfl rfl rfl | exact opv_loadA rfl rfl rfl | exact opv_loadE1 rfl (by assumption) rfl (by omega) rfl rfl | exact opv_loadEA rfl (by assumption) rfl (by omega) rfl rfl | exact opv_loadRX1 rfl rfl (by omega) rfl rfl | exact opv_loadRXA rfl rfl (by omega) rfl rfl rfl | exact opv_loadIX rfl rfl (by omega) | exact opv_loadR1 rfl rfl rfl | exact opv_loadRA rfl rfl rfl rfl) rfl ?_
 refine tri_v (by first | exact opv_add rfl rfl (w64 (by omega) (by omega))) rfl ?_
 refine tri_v (by first | exact opv_nilCheckE rfl | exact opv_nilCheck rfl) rfl ?_
 refine tri_v (by first | exact opv_fieldAddr rfl rfl | exact opv_fieldAddrE rfl (by assumption) (by omega) rfl | exact opv_fieldAddrR rfl (by omega) rfl | exact opv_fieldAddrP rfl rfl rfl) rfl ?_
 refine tri_v (by first | exact opv_fieldAddr rfl rfl | exact opv_fieldAddrE rfl (by assumption) (by omega) rfl | exact opv_fieldAddrR rfl (by omega) rfl | exact opv_fieldAddrP rfl rfl rfl) rfl ?_
 refine tri_g (opg_store rfl rfl rfl rfl rfl rfl) rfl ?_
 rintro _ _ _ ⟨rfl, rfl⟩
 refine tN (tT (tS (tR (tM rfl rfl (tM rfl rfl ?_)))))
 refine tri_g (opg_call (xs := [_, _]) rfl (fork_take hdq (by omega) hw (fun i hi => by have := hdl i hi; omega))) rfl ?_
 rintro _ _ _ ⟨ss1, rfl, rfl, hd1, rfl⟩
 refine tA rfl rfl (tN (tT (tS (tS (tR (tM rfl rfl ?_))))))
 refine tri_v (opv_lss rfl rfl) rfl ?_
 refine tN (tT ?_)
 refine tri_cond_dec rfl (fun h => ?_) (fun h => ?_)
 ·have em : R19.stepM p k w = { k with steps := k.steps + 1, D := (R19.takeM k.D w).2 } := if_pos h
  rw [em]
  refine tri_ret (tri_then_ret ?_)
  refine tri_end _ (by first | exact ⟨[], rfl⟩ | exact ⟨[_], rfl⟩ | exact ⟨[_, _], rfl⟩ | exact ⟨[_, _, _], rfl⟩ | exact ⟨[_, _, _, _], rfl⟩ | exact ⟨[_, _, _, _, _], rfl⟩ | exact ⟨[_, _, _, _, _, _], rfl⟩ | exact ⟨[_, _, _, _, _, _, _], rfl⟩ | exact ⟨[_, _, _, _, _, _, _, _], rfl⟩) rfl .nil ⟨ss1, ao, aw, co, cw, rfl, hd1, fun _ h => h⟩
 ·obtain ⟨T, hT⟩ : ∃ T : Nat, (R19.takeM k.D w).1 = (T : Int) := ⟨(R19.takeM k.D w).1.toNat, by omega⟩
  have hTN : T < p.length := by omega
  rw [hT]
  refine tri_skip (tT (tS ?_))
  skip
  refine tri_cut (fun F' A' J => ∃ (ao' aw' : Option Addr) (co' cw' : Nat), F' = [(0, pt c 0), (1, .int .i64 (w : Int)), (4, .int .i64 (T : Int))] ∧ A' = Row (some ⟨bd, 0, none⟩) k.D.length k.D.length 22 1 (encs ss1) :: Box c [.slice (some ⟨b, 0, none⟩) N N, .bool k.ends, .slice (some ⟨bd, 0, none⟩) k.D.length k.D.length, .int .i64 sm, .slice ao' (k.order.length + 1) co', .slice aw' (k.who.length + 1) cw', .int .i64 (k.steps + 1)] 50 :: Row ao' co' (k.order.length + 1) 3 1 (encs k.order ++ [.int .i64 (T : Int)]) :: Row aw' cw' (k.who.length + 1) 3 1 (encs k.who ++ [.int .i64 (w : Int)]) :: Row (some ⟨b, 0, none⟩) N N 54 4 (encs k.fs) :: A ∧ J = I) ?_ ?_
  ·refine tri_draw [0, 1, 2, 3, 4, 5, 7, 10, 11, 12, 13, 15, 6, 8, 9, 14, 16, 17, 18, 19, 20, 21, 22, 23, 24, 25] rfl [_, _, _, _] rfl mixed ?_
   refine th_take rfl rfl (by kernel_rfl)  (opv_move rfl) ?_
   refine th_take rfl rfl (by kernel_rfl)  (opv_move rfl) ?_
   refine th_take rfl rfl (by kernel_rfl)  (opv_move rfl) ?_
   refine th_take rfl rfl (by kernel_rfl)  (by first | exact opv_nilCheckE rfl | exact opv_nilCheck rfl) ?_
   refine th_take rfl rfl (by kernel_rfl)  (by first | exact opv_fieldAddr rfl rfl | exact opv_fieldAddrE rfl (by assumption) (by omega) rfl | exact opv_fieldAddrR rfl (by omega) rfl | exact opv_fieldAddrP rfl rfl rfl) ?_
   refine th_take rfl rfl (by kernel_rfl)  (by first | exact opv_fieldAddr rfl rfl | exact opv_fieldAddrE rfl (by assumption) (by omega) rfl | exact opv_fieldAddrR rfl (by omega) rfl | exact opv_fieldAddrP rfl rfl rfl) ?_
   refine th_take rfl rfl (by kernel_rfl)  (opv_move rfl) ?_
   refine th_take rfl rfl (by kernel_rfl)  (opv_move rfl) ?_
   refine th_take rfl rfl (by kernel_rfl)  (by first | exact opv_nilCheckE rfl | exact opv_nilCheck rfl) ?_
   refine th_take rfl rfl (by kernel_rfl)  (by first | exact opv_fieldAddr rfl rfl | exact opv_fieldAddrE rfl (by assumption) (by omega) rfl | exact opv_fieldAddrR rfl (by omega) rfl | exact opv_fieldAddrP rfl rfl rfl) ?_
   refine th_take rfl rfl (by kernel_rfl)  (by first | exact opv_fieldAddr rfl rfl | exact opv_fieldAddrE rfl (by assumption) (by omega) rfl | exact opv_fieldAddrR rfl (by omega) rfl | exact opv_fieldAddrP rfl rfl rfl) ?_
   refine th_take rfl rfl (by kernel_rfl)  (opv_move rfl) ?_
   refine th_many [(8, [6, 9, 14, 16, 17, 18, 19, 20, 21, 22, 23, 24, 25]), (14, [6, 8, 9, 16, 17, 18, 19, 20, 21, 22, 23, 24, 25]), (16, [6, 8, 9, 14, 17, 18, 19, 20, 21, 22, 23, 24, 25])] (by kernel_rfl) rfl ?_ ⟨?_, ?_, ?_, trivial⟩
   ·refine (step_m rfl rfl (OpV.toG (by first | exact opv_load1 rfl rfl rfl | exact opv_loadA rfl rfl rfl | exact opv_loadE1 rfl (by assumption) rfl (by omega) rfl rfl | exact opv_loadEA rfl (by assumption) rfl (by omega) rfl rfl | exact opv_loadRX1 rfl rfl (by omega) rfl rfl | exact opv_loadRXA rfl rfl (by omega) rfl rfl rfl | exact opv_loadIX rfl rfl (by omega) | exact opv_loadR1 rfl rfl rfl | exact opv_loadRA rfl rfl rfl rfl)) ?_)
    rintro _ _ _ ⟨rfl, rfl, rfl⟩
    refine ⟨Suf.h, (by first | exact fun _ h => h | assumption | exact fun _ h => (by assumption : _ ⊆ _) ((by assumption : _ ⊆ _) h)), ?_⟩
    refine th_many [(14, [8, 9, 16, 17, 18, 19, 20, 21, 22, 23, 24, 25]), (16, [8, 9, 14, 17, 18, 19, 20, 21, 22, 23, 24, 25])] (by kernel_rfl) rfl ?_ ⟨?_, ?_, trivial⟩
    ·refine (step_m rfl rfl (opg_buildSlice rfl rfl rfl rfl) ?_)
     rintro _ _ _ ⟨b27, rfl, rfl, rfl⟩
     refine ⟨Suf.h, (by first | exact fun _ h => h | assumption | exact fun _ h => (by assumption : _ ⊆ _) ((by assumption : _ ⊆ _) h)), ?_⟩
     refine th_many [(14, [9, 16, 17, 18, 19, 20, 21, 22, 23, 24, 25]), (16, [9, 14, 17, 18, 19, 20, 21, 22, 23, 24, 25])] (by kernel_rfl) rfl ?_ ⟨?_, ?_, trivial⟩
     ·refine (step_m rfl rfl (opg_appendB rfl rfl rfl rfl (by omega) rfl) ?_)
      rintro _ _ _ ⟨ao', co', rfl, rfl, rfl⟩
      refine ⟨Suf.h, (by first | exact fun _ h => h | assumption | exact fun _ h => (by assumption : _ ⊆ _) ((by assumption : _ ⊆ _) h)), ?_⟩
      refine th_two (j := 16) [14, 17, 18, 19, 20, 21, 22, 23, 24, 25] (by kernel_rfl) rfl ?_ ?_
      ·refine (step_m rfl rfl (OpV.toG (by first | exact opv_load1 rfl rfl rfl | exact opv_loadA rfl rfl rfl | exact opv_loadE1 rfl (by assumption) rfl (by omega) rfl rfl | exact opv_loadEA rfl (by assumption) rfl (by omega) rfl rfl | exact opv_loadRX1 rfl rfl (by omega) rfl rfl | exact opv_loadRXA rfl rfl (by omega) rfl rfl rfl | exact opv_loadIX rfl rfl (by omega) | exact opv_loadR1 rfl rfl rfl | exact opv_loadRA rfl rfl rfl rfl)) ?_)
       rintro _ _ _ ⟨rfl, rfl, rfl⟩
       refine ⟨Suf.h, (by first | exact fun _ h => h | assumption | exact fun _ h => (by assumption : _ ⊆ _) ((by assumption : _ ⊆ _) h)), ?_⟩
       refine th_one (by kernel_rfl) (step_m rfl rfl (opg_buildSlice rfl rfl rfl rfl) ?_)
       rintro _ _ _ ⟨b35, rfl, rfl, rfl⟩
       refine ⟨Suf.h, (by first | exact fun _ h => h | assumption | exact fun _ h => (by assumption : _ ⊆ _) ((by assumption : _ ⊆ _) h)), ?_⟩
       refine th_one (by kernel_rfl) (step_m rfl rfl (opg_appendB rfl rfl rfl rfl (by omega) rfl) ?_)
       rintro _ _ _ ⟨aw', cw', rfl, rfl, rfl⟩
       refine ⟨Suf.h, (by first | exact fun _ h => h | assumption | exact fun _ h => (by assumption : _ ⊆ _) ((by assumption : _ ⊆ _) h)), ?_⟩
       refine th_take rfl rfl (by kernel_rfl)  (by first | exact opv_nilCheckE rfl | exact opv_nilCheck rfl) ?_
       refine th_take rfl rfl (by kernel_rfl)  (by first | exact opv_fieldAddr rfl rfl | exact opv_fieldAddrE rfl (by assumption) (by omega) rfl | exact opv_fieldAddrR rfl (by omega) rfl | exact opv_fieldAddrP rfl rfl rfl) ?_
       refine th_take rfl rfl (by kernel_rfl)  (by first | exact opv_fieldAddr rfl rfl | exact opv_fieldAddrE rfl (by assumption) (by omega) rfl | exact opv_fieldAddrR rfl (by omega) rfl | exact opv_fieldAddrP rfl rfl rfl) ?_
       refine th_one (by kernel_rfl) (step_m rfl rfl (opg_store rfl rfl rfl rfl rfl rfl) ?_)
       rintro _ _ _ ⟨rfl, rfl⟩
       refine ⟨Suf.h, (by first | exact fun _ h => h | assumption | exact fun _ h => (by assumption : _ ⊆ _) ((by assumption : _ ⊆ _) h)), ?_⟩
       refine th_take rfl rfl (by kernel_rfl)  (by first | exact opv_nilCheckE rfl | exact opv_nilCheck rfl) ?_
       refine th_take rfl rfl (by kernel_rfl)  (by first | exact opv_fieldAddr rfl rfl | exact opv_fieldAddrE rfl (by assumption) (by omega) rfl | exact opv_fieldAddrR rfl (by omega) rfl | exact opv_fieldAddrP rfl rfl rfl) ?_
       refine th_take rfl rfl (by kernel_rfl)  (by first | exact opv_fieldAddr rfl rfl | exact opv_fieldAddrE rfl (by assumption) (by omega) rfl | exact opv_fieldAddrR rfl (by omega) rfl | exact opv_fieldAddrP rfl rfl rfl) ?_
       refine th_one (by kernel_rfl) (step_m rfl rfl (opg_store rfl rfl rfl rfl rfl rfl) ?_)
       rintro _ _ _ ⟨rfl, rfl⟩
       refine ⟨Suf.h, (by first | exact fun _ h => h | assumption | exact fun _ h => (by assumption : _ ⊆ _) ((by assumption : _ ⊆ _) h)), ?_⟩
       refine th_done (by kernel_rfl) ?_
       exact tri_drop (tri_drop (tri_cutEnd _ ⟨ao', aw', co', cw', rfl, rfl, rfl⟩ ⟨rfl, rfl, rfl, trivial⟩))
      ·refine (step_m rfl rfl (opg_buildSlice rfl rfl rfl rfl) ?_)
       rintro _ _ _ ⟨b35, rfl, rfl, rfl⟩
       refine ⟨Suf.h, (by first | exact fun _ h => h | assumption | exact fun _ h => (by assumption : _ ⊆ _) ((by assumption : _ ⊆ _) h)), ?_⟩
       refine th_one (by kernel_rfl) (step_m rfl rfl (OpV.toG (by first | exact opv_load1 rfl rfl rfl | exact opv_loadA rfl rfl rfl | exact opv_loadE1 rfl (by assumption) rfl (by omega) rfl rfl | exact opv_loadEA rfl (by assumption) rfl (by omega) rfl rfl | exact opv_loadRX1 rfl rfl (by omega) rfl rfl | exact opv_loadRXA rfl rfl (by omega) rfl rfl rfl | exact opv_loadIX rfl rfl (by omega) | exact opv_loadR1 rfl rfl rfl | exact opv_loadRA rfl rfl rfl rfl)) ?_)
       rintro _ _ _ ⟨rfl, rfl, rfl⟩
       refine ⟨Suf.h, (by first | exact fun _ h => h | assumption | exact fun _ h => (by assumption : _ ⊆ _) ((by assumption : _ ⊆ _) h)), ?_⟩
       refine th_one (by kernel_rfl) (step_m rfl rfl (opg_appendB rfl rfl rfl rfl (by omega) rfl) ?_)
       rintro _ _ _ ⟨aw', cw', rfl, rfl, rfl⟩
       refine ⟨Suf.h, (by first | exact fun _ h => h | assumption | exact fun _ h => (by assumption : _ ⊆ _) ((by assumption : _ ⊆ _) h)), ?_⟩
       refine th_take rfl rfl (by kernel_rfl)  (by first | exact opv_nilCheckE rfl | exact opv_nilCheck rfl) ?_
       refine th_take rfl rfl (by kernel_rfl)  (by first | exact opv_fieldAddr rfl rfl | exact opv_fieldAddrE rfl (by assumption) (by omega) rfl | exact opv_fieldAddrR rfl (by omega) rfl | exact opv_fieldAddrP rfl rfl rfl) ?_
       refine th_take rfl rfl (by kernel_rfl)  (by first | exact opv_fieldAddr rfl rfl | exact opv_fieldAddrE rfl (by assumption) (by omega) rfl | exact opv_fieldAddrR rfl (by omega) rfl | exact opv_fieldAddrP rfl rfl rfl) ?_
       refine th_one (by kernel_rfl) (step_m rfl rfl (opg_store rfl rfl rfl rfl rfl rfl) ?_)
       rintro _ _ _ ⟨rfl, rfl⟩
       refine ⟨Suf.h, (by first | exact fun _ h => h | assumption | exact fun _ h => (by assumption : _ ⊆ _) ((by assumption : _ ⊆ _) h)), ?_⟩
       refine th_take rfl rfl (by kernel_rfl)  (by first | exact opv_nilCheckE rfl | exact opv_nilCheck rfl) ?_
       refine th_take rfl rfl (by kernel_rfl)  (by first | exact opv_fieldAddr rfl rfl | exact opv_fieldAddrE rfl (by assumption) (by omega) rfl | exact opv_fieldAddrR rfl (by omega) rfl | exact opv_fieldAddrP rfl rfl rfl) ?_
       refine th_take rfl rfl (by kernel_rfl)  (by first | exact opv_fieldAddr rfl rfl | exact opv_fieldAddrE rfl (by assumption) (by omega) rfl | exact opv_fieldAddrR rfl (by omega) rfl | exact opv_fieldAddrP rfl rfl rfl) ?_
       refine th_one (by kernel_rfl) (step_m rfl rfl (opg_store rfl rfl rfl rfl rfl rfl) ?_)
       rintro _ _ _ ⟨rfl, rfl⟩
       refine ⟨Suf.h, (by first | exact fun _ h => h | assumption | exact fun _ h => (by assumption : _ ⊆ _) ((by assumption : _ ⊆ _) h)), ?_⟩
       refine th_done (by kernel_rfl) ?_
       exact tri_drop (tri_drop (tri_cutEnd _ ⟨ao', aw', co', cw', rfl, rfl, rfl⟩ ⟨rfl, rfl, rfl, trivial⟩))
     ·refine (step_m rfl rfl (OpV.toG (by first | exact opv_load1 rfl rfl rfl | exact opv_loadA rfl rfl rfl | exact opv_loadE1 rfl (by assumption) rfl (by omega) rfl rfl | exact opv_loadEA rfl (by assumption) rfl (by omega) rfl rfl | exact opv_loadRX1 rfl rfl (by omega) rfl rfl | exact opv_loadRXA rfl rfl (by omega) rfl rfl rfl | exact opv_loadIX rfl rfl (by omega) | exact opv_loadR1 rfl rfl rfl | exact opv_loadRA rfl rfl rfl rfl)) ?_)
      rintro _ _ _ ⟨rfl, rfl, rfl⟩
      refine ⟨Suf.h, (by first | exact fun _ h => h | assumption | exact fun _ h => (by assumption : _ ⊆ _) ((by assumption : _ ⊆ _) h)), ?_⟩
      refine th_two (j := 16) [9, 17, 18, 19, 20, 21, 22, 23, 24, 25] (by kernel_rfl) rfl ?_ ?_
      ·refine (step_m rfl rfl (opg_appendB rfl rfl rfl rfl (by omega) rfl) ?_)
       rintro _ _ _ ⟨ao', co', rfl, rfl, rfl⟩
       refine ⟨Suf.h, (by first | exact fun _ h => h | assumption | exact fun _ h => (by assumption : _ ⊆ _) ((by assumption : _ ⊆ _) h)), ?_⟩
       refine th_one (by kernel_rfl) (step_m rfl rfl (opg_buildSlice rfl rfl rfl rfl) ?_)
       rintro _ _ _ ⟨b35, rfl, rfl, rfl⟩
       refine ⟨Suf.h, (by first | exact fun _ h => h | assumption | exact fun _ h => (by assumption : _ ⊆ _) ((by assumption : _ ⊆ _) h)), ?_⟩
       refine th_one (by kernel_rfl) (step_m rfl rfl (opg_appendB rfl rfl rfl rfl (by omega) rfl) ?_)
       rintro _ _ _ ⟨aw', cw', rfl, rfl, rfl⟩
       refine ⟨Suf.h, (by first | exact fun _ h => h | assumption | exact fun _ h => (by assumption : _ ⊆ _) ((by assumption : _ ⊆ _) h)), ?_⟩
       refine th_take rfl rfl (by kernel_rfl)  (by first | exact opv_nilCheckE rfl | exact opv_nilCheck rfl) ?_
       refine th_take rfl rfl (by kernel_rfl)  (by first | exact opv_fieldAddr rfl rfl | exact opv_fieldAddrE rfl (by assumption) (by omega) rfl | exact opv_fieldAddrR rfl (by omega) rfl | exact opv_fieldAddrP rfl rfl rfl) ?_
       refine th_take rfl rfl (by kernel_rfl)  (by first | exact opv_fieldAddr rfl rfl | exact opv_fieldAddrE rfl (by assumption) (by omega) rfl | exact opv_fieldAddrR rfl (by omega) rfl | exact opv_fieldAddrP rfl rfl rfl) ?_
       refine th_one (by kernel_rfl) (step_m rfl rfl (opg_store rfl rfl rfl rfl rfl rfl) ?_)
       rintro _ _ _ ⟨rfl, rfl⟩
       refine ⟨Suf.h, (by first | exact fun _ h => h | assumption | exact fun _ h => (by assumption : _ ⊆ _) ((by assumption : _ ⊆ _) h)), ?_⟩
       refine th_take rfl rfl (by kernel_rfl)  (by first | exact opv_nilCheckE rfl | exact opv_nilCheck rfl) ?_
       refine th_take rfl rfl (by kernel_rfl)  (by first | exact opv_fieldAddr rfl rfl | exact opv_fieldAddrE rfl (by assumption) (by omega) rfl | exact opv_fieldAddrR rfl (by omega) rfl | exact opv_fieldAddrP rfl rfl rfl) ?_
       refine th_take rfl rfl (by kernel_rfl)  (by first | exact opv_fieldAddr rfl rfl | exact opv_fieldAddrE rfl (by assumption) (by omega) rfl | exact opv_fieldAddrR rfl (by omega) rfl | exact opv_fieldAddrP rfl rfl rfl) ?_
       refine th_one (by kernel_rfl) (step_m rfl rfl (opg_store rfl rfl rfl rfl rfl rfl) ?_)
       rintro _ _ _ ⟨rfl, rfl⟩
       refine ⟨Suf.h, (by first | exact fun _ h => h | assumption | exact fun _ h => (by assumption : _ ⊆ _) ((by assumption : _ ⊆ _) h)), ?_⟩
       refine th_done (by kernel_rfl) ?_
       exact tri_drop (tri_drop (tri_cutEnd _ ⟨ao', aw', co', cw', rfl, rfl, rfl⟩ ⟨rfl, rfl, rfl, trivial⟩))
      ·refine (step_m rfl rfl (opg_buildSlice rfl rfl rfl rfl) ?_)
       rintro _ _ _ ⟨b35, rfl, rfl, rfl⟩
       refine ⟨Suf.h, (by first | exact fun _ h => h | assumption | exact fun _ h => (by assumption : _ ⊆ _) ((by assumption : _ ⊆ _) h)), ?_⟩
       refine th_one (by kernel_rfl) (step_m rfl rfl (opg_appendB rfl rfl rfl rfl (by omega) rfl) ?_)
       rintro _ _ _ ⟨ao', co', rfl, rfl, rfl⟩
       refine ⟨Suf.h, (by first | exact fun _ h => h | assumption | exact fun _ h => (by assumption : _ ⊆ _) ((by assumption : _ ⊆ _) h)), ?_⟩
       refine th_one (by kernel_rfl) (step_m rfl rfl (opg_appendB rfl rfl rfl rfl (by omega) rfl) ?_)
       rintro _ _ _ ⟨aw', cw', rfl, rfl, rfl⟩
       refine ⟨Suf.h, (by first | exact fun _ h => h | assumption | exact fun _ h => (by assumption : _ ⊆ _) ((by assumption : _ ⊆ _) h)), ?_⟩
       refine th_take rfl rfl (by kernel_rfl)  (by first | exact opv_nilCheckE rfl | exact opv_nilCheck rfl) ?_
       refine th_take rfl rfl (by kernel_rfl)  (by first | exact opv_fieldAddr rfl rfl | exact opv_fieldAddrE rfl (by assumption) (by omega) rfl | exact opv_fieldAddrR rfl (by omega) rfl | exact opv_fieldAddrP rfl rfl rfl) ?_
       refine th_take rfl rfl (by kernel_rfl)  (by first | exact opv_fieldAddr rfl rfl | exact opv_fieldAddrE rfl (by assumption) (by omega) rfl | exact opv_fieldAddrR rfl (by omega) rfl | exact opv_fieldAddrP rfl rfl rfl) ?_
       refine th_one (by kernel_rfl) (step_m rfl rfl (opg_store rfl rfl rfl rfl rfl rfl) ?_)
       rintro _ _ _ ⟨rfl, rfl⟩
       refine ⟨Suf.h, (by first | exact fun _ h => h | assumption | exact fun _ h => (by assumption : _ ⊆ _) ((by assumption : _ ⊆ _) h)), ?_⟩
       refine th_take rfl rfl (by kernel_rfl)  (by first | exact opv_nilCheckE rfl | exact opv_nilCheck rfl) ?_
       refine th_take rfl rfl (by kernel_rfl)  (by first | exact opv_fieldAddr rfl rfl | exact opv_fieldAddrE rfl (by assumption) (by omega) rfl | exact opv_fieldAddrR rfl (by omega) rfl | exact opv_fieldAddrP rfl rfl rfl) ?_
       refine th_take rfl rfl (by kernel_rfl)  (by first | exact opv_fieldAddr rfl rfl | exact opv_fieldAddrE rfl (by assumption) (by omega) rfl | exact opv_fieldAddrR rfl (by omega) rfl | exact opv_fieldAddrP rfl rfl rfl) ?_
       refine th_one (by kernel_rfl) (step_m rfl rfl (opg_store rfl rfl rfl rfl rfl rfl) ?_)
       rintro _ _ _ ⟨rfl, rfl⟩
       refine ⟨Suf.h, (by first | exact fun _ h => h | assumption | exact fun _ h => (by assumption : _ ⊆ _) ((by assumption : _ ⊆ _) h)), ?_⟩
       refine th_done (by kernel_rfl) ?_
       exact tri_drop (tri_drop (tri_cutEnd _ ⟨ao', aw', co', cw', rfl, rfl, rfl⟩ ⟨rfl, rfl, rfl, trivial⟩))
     ·refine (step_m rfl rfl (opg_buildSlice rfl rfl rfl rfl) ?_)
      rintro _ _ _ ⟨b35, rfl, rfl, rfl⟩
      refine ⟨Suf.h, (by first | exact fun _ h => h | assumption | exact fun _ h => (by assumption : _ ⊆ _) ((by assumption : _ ⊆ _) h)), ?_⟩
      refine th_two (j := 14) [9, 17, 18, 19, 20, 21, 22, 23, 24, 25] (by kernel_rfl) rfl ?_ ?_
      ·refine (step_m rfl rfl (opg_appendB rfl rfl rfl rfl (by omega) rfl) ?_)
       rintro _ _ _ ⟨ao', co', rfl, rfl, rfl⟩
       refine ⟨Suf.h, (by first | exact fun _ h => h | assumption | exact fun _ h => (by assumption : _ ⊆ _) ((by assumption : _ ⊆ _) h)), ?_⟩
       refine th_one (by kernel_rfl) (step_m rfl rfl (OpV.toG (by first | exact opv_load1 rfl rfl rfl | exact opv_loadA rfl rfl rfl | exact opv_loadE1 rfl (by assumption) rfl (by omega) rfl rfl | exact opv_loadEA rfl (by assumption) rfl (by omega) rfl rfl | exact opv_loadRX1 rfl rfl (by omega) rfl rfl | exact opv_loadRXA rfl rfl (by omega) rfl rfl rfl | exact opv_loadIX rfl rfl (by omega) | exact opv_loadR1 rfl rfl rfl | exact opv_loadRA rfl rfl rfl rfl)) ?_)
       rintro _ _ _ ⟨rfl, rfl, rfl⟩
       refine ⟨Suf.h, (by first | exact fun _ h => h | assumption | exact fun _ h => (by assumption : _ ⊆ _) ((by assumption : _ ⊆ _) h)), ?_⟩
       refine th_one (by kernel_rfl) (step_m rfl rfl (opg_appendB rfl rfl rfl rfl (by omega) rfl) ?_)
       rintro _ _ _ ⟨aw', cw', rfl, rfl, rfl⟩
       refine ⟨Suf.h, (by first | exact fun _ h => h | assumption | exact fun _ h => (by assumption : _ ⊆ _) ((by assumption : _ ⊆ _) h)), ?_⟩
       refine th_take rfl rfl (by kernel_rfl)  (by first | exact opv_nilCheckE rfl | exact opv_nilCheck rfl) ?_
       refine th_take rfl rfl (by kernel_rfl)  (by first | exact opv_fieldAddr rfl rfl | exact opv_fieldAddrE rfl (by assumption) (by omega) rfl | exact opv_fieldAddrR rfl (by omega) rfl | exact opv_fieldAddrP rfl rfl rfl) ?_
       refine th_take rfl rfl (by kernel_rfl)  (by first | exact opv_fieldAddr rfl rfl | exact opv_fieldAddrE rfl (by assumption) (by omega) rfl | exact opv_fieldAddrR rfl (by omega) rfl | exact opv_fieldAddrP rfl rfl rfl) ?_
       refine th_one (by kernel_rfl) (step_m rfl rfl (opg_store rfl rfl rfl rfl rfl rfl) ?_)
       rintro _ _ _ ⟨rfl, rfl⟩
       refine ⟨Suf.h, (by first | exact fun _ h => h | assumption | exact fun _ h => (by assumption : _ ⊆ _) ((by assumption : _ ⊆ _) h)), ?_⟩
       refine th_take rfl rfl (by kernel_rfl)  (by first | exact opv_nilCheckE rfl | exact opv_nilCheck rfl) ?_
       refine th_take rfl rfl (by kernel_rfl)  (by first | exact opv_fieldAddr rfl rfl | exact opv_fieldAddrE rfl (by assumption) (by omega) rfl | exact opv_fieldAddrR rfl (by omega) rfl | exact opv_fieldAddrP rfl rfl rfl) ?_
       refine th_take rfl rfl (by kernel_rfl)  (by first | exact opv_fieldAddr rfl rfl | exact opv_fieldAddrE rfl (by assumption) (by omega) rfl | exact opv_fieldAddrR rfl (by omega) rfl | exact opv_fieldAddrP rfl rfl rfl) ?_
       refine th_one (by kernel_rfl) (step_m rfl rfl (opg_store rfl rfl rfl rfl rfl rfl) ?_)
       rintro _ _ _ ⟨rfl, rfl⟩
       refine ⟨Suf.h, (by first | exact fun _ h => h | assumption | exact fun _ h => (by assumption : _ ⊆ _) ((by assumption : _ ⊆ _) h)), ?_⟩
       refine th_done (by kernel_rfl) ?_
       exact tri_drop (tri_drop (tri_cutEnd _ ⟨ao', aw', co', cw', rfl, rfl, rfl⟩ ⟨rfl, rfl, rfl, trivial⟩))
      ·refine (step_m rfl rfl (OpV.toG (by first | exact opv_load1 rfl rfl rfl | exact opv_loadA rfl rfl rfl | exact opv_loadE1 rfl (by assumption) rfl (by omega) rfl rfl | exact opv_loadEA rfl (by assumption) rfl (by omega) rfl rfl | exact opv_loadRX1 rfl rfl (by omega) rfl rfl | exact opv_loadRXA rfl rfl (by omega) rfl rfl rfl | exact opv_loadIX rfl rfl (by omega) | exact opv_loadR1 rfl rfl rfl | exact opv_loadRA rfl rfl rfl rfl)) ?_)
       rintro _ _ _ ⟨rfl, rfl, rfl⟩
       refine ⟨Suf.h, (by first | exact fun _ h => h | assumption | exact fun _ h => (by assumption : _ ⊆ _) ((by assumption : _ ⊆ _) h)), ?_⟩
       refine th_one (by kernel_rfl) (step_m rfl rfl (opg_appendB rfl rfl rfl rfl (by omega) rfl) ?_)
       rintro _ _ _ ⟨ao', co', rfl, rfl, rfl⟩
       refine ⟨Suf.h, (by first | exact fun _ h => h | assumption | exact fun _ h => (by assumption : _ ⊆ _) ((by assumption : _ ⊆ _) h)), ?_⟩
       refine th_one (by kernel_rfl) (step_m rfl rfl (opg_appendB rfl rfl rfl rfl (by omega) rfl) ?_)
       rintro _ _ _ ⟨aw', cw', rfl, rfl, rfl⟩
       refine ⟨Suf.h, (by first | exact fun _ h => h | assumption | exact fun _ h => (by assumption : _ ⊆ _) ((by assumption : _ ⊆ _) h)), ?_⟩
       refine th_take rfl rfl (by kernel_rfl)  (by first | exact opv_nilCheckE rfl | exact opv_nilCheck rfl) ?_
       refine th_take rfl rfl (by kernel_rfl)  (by first | exact opv_fieldAddr rfl rfl | exact opv_fieldAddrE rfl (by assumption) (by omega) rfl | exact opv_fieldAddrR rfl (by omega) rfl | exact opv_fieldAddrP rfl rfl rfl) ?_
       refine th_take rfl rfl (by kernel_rfl)  (by first | exact opv_fieldAddr rfl rfl | exact opv_fieldAddrE rfl (by assumption) (by omega) rfl | exact opv_fieldAddrR rfl (by omega) rfl | exact opv_fieldAddrP rfl rfl rfl) ?_
       refine th_one (by kernel_rfl) (step_m rfl rfl (opg_store rfl rfl rfl rfl rfl rfl) ?_)
       rintro _ _ _ ⟨rfl, rfl⟩
       refine ⟨Suf.h, (by first | exact fun _ h => h | assumption | exact fun _ h => (by assumption : _ ⊆ _) ((by assumption : _ ⊆ _) h)), ?_⟩
       refine th_take rfl rfl (by kernel_rfl)  (by first | exact opv_nilCheckE rfl | exact opv_nilCheck rfl) ?_
       refine th_take rfl rfl (by kernel_rfl)  (by first | exact opv_fieldAddr rfl rfl | exact opv_fieldAddrE rfl (by assumption) (by omega) rfl | exact opv_fieldAddrR rfl (by omega) rfl | exact opv_fieldAddrP rfl rfl rfl) ?_
       refine th_take rfl rfl (by kernel_rfl)  (by first | exact opv_fieldAddr rfl rfl | exact opv_fieldAddrE rfl (by assumption) (by omega) rfl | exact opv_fieldAddrR rfl (by omega) rfl | exact opv_fieldAddrP rfl rfl rfl) ?_
       refine th_one (by kernel_rfl) (step_m rfl rfl (opg_store rfl rfl rfl rfl rfl rfl) ?_)
       rintro _ _ _ ⟨rfl, rfl⟩
       refine ⟨Suf.h, (by first | exact fun _ h => h | assumption | exact fun _ h => (by assumption : _ ⊆ _) ((by assumption : _ ⊆ _) h)), ?_⟩
       refine th_done (by kernel_rfl) ?_
       exact tri_drop (tri_drop (tri_cutEnd _ ⟨ao', aw', co', cw', rfl, rfl, rfl⟩ ⟨rfl, rfl, rfl, trivial⟩))
    ·refine (step_m rfl rfl (OpV.toG (by first | exact opv_load1 rfl rfl rfl | exact opv_loadA rfl rfl rfl | exact opv_loadE1 rfl (by assumption) rfl (by omega) rfl rfl | exact opv_loadEA rfl (by assumption) rfl (by omega) rfl rfl | exact opv_loadRX1 rfl rfl (by omega) rfl rfl | exact opv_loadRXA rfl rfl (by omega) rfl rfl rfl | exact opv_loadIX rfl rfl (by omega) | exact opv_loadR1 rfl rfl rfl | exact opv_loadRA rfl rfl rfl rfl)) ?_)
     rintro _ _ _ ⟨rfl, rfl, rfl⟩
     refine ⟨Suf.h, (by first | exact fun _ h => h | assumption | exact fun _ h => (by assumption : _ ⊆ _) ((by assumption : _ ⊆ _) h)), ?_⟩
     refine th_two (j := 16) [8, 9, 17, 18, 19, 20, 21, 22, 23, 24, 25] (by kernel_rfl) rfl ?_ ?_
     ·refine (step_m rfl rfl (opg_buildSlice rfl rfl rfl rfl) ?_)
      rintro _ _ _ ⟨b27, rfl, rfl, rfl⟩
      refine ⟨Suf.h, (by first | exact fun _ h => h | assumption | exact fun _ h => (by assumption : _ ⊆ _) ((by assumption : _ ⊆ _) h)), ?_⟩
      refine th_two (j := 16) [9, 17, 18, 19, 20, 21, 22, 23, 24, 25] (by kernel_rfl) rfl ?_ ?_
      ·refine (step_m rfl rfl (opg_appendB rfl rfl rfl rfl (by omega) rfl) ?_)
       rintro _ _ _ ⟨ao', co', rfl, rfl, rfl⟩
       refine ⟨Suf.h, (by first | exact fun _ h => h | assumption | exact fun _ h => (by assumption : _ ⊆ _) ((by assumption : _ ⊆ _) h)), ?_⟩
       refine th_one (by kernel_rfl) (step_m rfl rfl (opg_buildSlice rfl rfl rfl rfl) ?_)
       rintro _ _ _ ⟨b35, rfl, rfl, rfl⟩
       refine ⟨Suf.h, (by first | exact fun _ h => h | assumption | exact fun _ h => (by assumption : _ ⊆ _) ((by assumption : _ ⊆ _) h)), ?_⟩
       refine th_one (by kernel_rfl) (step_m rfl rfl (opg_appendB rfl rfl rfl rfl (by omega) rfl) ?_)
       rintro _ _ _ ⟨aw', cw', rfl, rfl, rfl⟩
       refine ⟨Suf.h, (by first | exact fun _ h => h | assumption | exact fun _ h => (by assumption : _ ⊆ _) ((by assumption : _ ⊆ _) h)), ?_⟩
       refine th_take rfl rfl (by kernel_rfl)  (by first | exact opv_nilCheckE rfl | exact opv_nilCheck rfl) ?_
       refine th_take rfl rfl (by kernel_rfl)  (by first | exact opv_fieldAddr rfl rfl | exact opv_fieldAddrE rfl (by assumption) (by omega) rfl | exact opv_fieldAddrR rfl (by omega) rfl | exact opv_fieldAddrP rfl rfl rfl) ?_
       refine th_take rfl rfl (by kernel_rfl)  (by first | exact opv_fieldAddr rfl rfl | exact opv_fieldAddrE rfl (by assumption) (by omega) rfl | exact opv_fieldAddrR rfl (by omega) rfl | exact opv_fieldAddrP rfl rfl rfl) ?_
       refine th_one (by kernel_rfl) (step_m rfl rfl (opg_store rfl rfl rfl rfl rfl rfl) ?_)
       rintro _ _ _ ⟨rfl, rfl⟩
       refine ⟨Suf.h, (by first | exact fun _ h => h | assumption | exact fun _ h => (by assumption : _ ⊆ _) ((by assumption : _ ⊆ _) h)), ?_⟩
       refine th_take rfl rfl (by kernel_rfl)  (by first | exact opv_nilCheckE rfl | exact opv_nilCheck rfl) ?_
       refine th_take rfl rfl (by kernel_rfl)  (by first | exact opv_fieldAddr rfl rfl | exact opv_fieldAddrE rfl (by assumption) (by omega) rfl | exact opv_fieldAddrR rfl (by omega) rfl | exact opv_fieldAddrP rfl rfl rfl) ?_
       refine th_take rfl rfl (by kernel_rfl)  (by first | exact opv_fieldAddr rfl rfl | exact opv_fieldAddrE rfl (by assumption) (by omega) rfl | exact opv_fieldAddrR rfl (by omega) rfl | exact opv_fieldAddrP rfl rfl rfl) ?_
       refine th_one (by kernel_rfl) (step_m rfl rfl (opg_store rfl rfl rfl rfl rfl rfl) ?_)
       rintro _ _ _ ⟨rfl, rfl⟩
       refine ⟨Suf.h, (by first | exact fun _ h => h | assumption | exact fun _ h => (by assumption : _ ⊆ _) ((by assumption : _ ⊆ _) h)), ?_⟩
       refine th_done (by kernel_rfl) ?_
       exact tri_drop (tri_drop (tri_cutEnd _ ⟨ao', aw', co', cw', rfl, rfl, rfl⟩ ⟨rfl, rfl, rfl, trivial⟩))
      ·refine (step_m rfl rfl (opg_buildSlice rfl rfl rfl rfl) ?_)
       rintro _ _ _ ⟨b35, rfl, rfl, rfl⟩
       refine ⟨Suf.h, (by first | exact fun _ h => h | assumption | exact fun _ h => (by assumption : _ ⊆ _) ((by assumption : _ ⊆ _) h)), ?_⟩
       refine th_one (by kernel_rfl) (step_m rfl rfl (opg_appendB rfl rfl rfl rfl (by omega) rfl) ?_)
       rintro _ _ _ ⟨ao', co', rfl, rfl, rfl⟩
       refine ⟨Suf.h, (by first | exact fun _ h => h | assumption | exact fun _ h => (by assumption : _ ⊆ _) ((by assumption : _ ⊆ _) h)), ?_⟩
       refine th_one (by kernel_rfl) (step_m rfl rfl (opg_appendB rfl rfl rfl rfl (by omega) rfl) ?_)
       rintro _ _ _ ⟨aw', cw', rfl, rfl, rfl⟩
       refine ⟨Suf.h, (by first | exact fun _ h => h | assumption | exact fun _ h => (by assumption : _ ⊆ _) ((by assumption : _ ⊆ _) h)), ?_⟩
       refine th_take rfl rfl (by kernel_rfl)  (by first | exact opv_nilCheckE rfl | exact opv_nilCheck rfl) ?_
       refine th_take rfl rfl (by kernel_rfl)  (by first | exact opv_fieldAddr rfl rfl | exact opv_fieldAddrE rfl (by assumption) (by omega) rfl | exact opv_fieldAddrR rfl (by omega) rfl | exact opv_fieldAddrP rfl rfl rfl) ?_
       refine th_take rfl rfl (by kernel_rfl)  (by first | exact opv_fieldAddr rfl rfl | exact opv_fieldAddrE rfl (by assumption) (by omega) rfl | exact opv_fieldAddrR rfl (by omega) rfl | exact opv_fieldAddrP rfl rfl rfl) ?_
       refine th_one (by kernel_rfl) (step_m rfl rfl (opg_store rfl rfl rfl rfl rfl rfl) ?_)
       rintro _ _ _ ⟨rfl, rfl⟩
       refine ⟨Suf.h, (by first | exact fun _ h => h | assumption | exact fun _ h => (by assumption : _ ⊆ _) ((by assumption : _ ⊆ _) h)), ?_⟩
       refine th_take rfl rfl (by kernel_rfl)  (by first | exact opv_nilCheckE rfl | exact opv_nilCheck rfl) ?_
       refine th_take rfl rfl (by kernel_rfl)  (by first | exact opv_fieldAddr rfl rfl | exact opv_fieldAddrE rfl (by assumption) (by omega) rfl | exact opv_fieldAddrR rfl (by omega) rfl | exact opv_fieldAddrP rfl rfl rfl) ?_
       refine th_take rfl rfl (by kernel_rfl)  (by first | exact opv_fieldAddr rfl rfl | exact opv_fieldAddrE rfl (by assumption) (by omega) rfl | exact opv_fieldAddrR rfl (by omega) rfl | exact opv_fieldAddrP rfl rfl rfl) ?_
       refine th_one (by kernel_rfl) (step_m rfl rfl (opg_store rfl rfl rfl rfl rfl rfl) ?_)
       rintro _ _ _ ⟨rfl, rfl⟩
       refine ⟨Suf.h, (by first | exact fun _ h => h | assumption | exact fun _ h => (by assumption : _ ⊆ _) ((by assumption : _ ⊆ _) h)), ?_⟩
       refine th_done (by kernel_rfl) ?_
       exact tri_drop (tri_drop (tri_cutEnd _ ⟨ao', aw', co', cw', rfl, rfl, rfl⟩ ⟨rfl, rfl, rfl, trivial⟩))
     ·refine (step_m rfl rfl (opg_buildSlice rfl rfl rfl rfl) ?_)
      rintro _ _ _ ⟨b35, rfl, rfl, rfl⟩
      refine ⟨Suf.h, (by first | exact fun _ h => h | assumption | exact fun _ h => (by assumption : _ ⊆ _) ((by assumption : _ ⊆ _) h)), ?_⟩
      refine th_one (by kernel_rfl) (step_m rfl rfl (opg_buildSlice rfl rfl rfl rfl) ?_)
      rintro _ _ _ ⟨b27, rfl, rfl, rfl⟩
      refine ⟨Suf.h, (by first | exact fun _ h => h | assumption | exact fun _ h => (by assumption : _ ⊆ _) ((by assumption : _ ⊆ _) h)), ?_⟩
      refine th_one (by kernel_rfl) (step_m rfl rfl (opg_appendB rfl rfl rfl rfl (by omega) rfl) ?_)
      rintro _ _ _ ⟨ao', co', rfl, rfl, rfl⟩
      refine ⟨Suf.h, (by first | exact fun _ h => h | assumption | exact fun _ h => (by assumption : _ ⊆ _) ((by assumption : _ ⊆ _) h)), ?_⟩
      refine th_one (by kernel_rfl) (step_m rfl rfl (opg_appendB rfl rfl rfl rfl (by omega) rfl) ?_)
      rintro _ _ _ ⟨aw', cw', rfl, rfl, rfl⟩
      refine ⟨Suf.h, (by first | exact fun _ h => h | assumption | exact fun _ h => (by assumption : _ ⊆ _) ((by assumption : _ ⊆ _) h)), ?_⟩
      refine th_take rfl rfl (by kernel_rfl)  (by first | exact opv_nilCheckE rfl | exact opv_nilCheck rfl) ?_
      refine th_take rfl rfl (by kernel_rfl)  (by first | exact opv_fieldAddr rfl rfl | exact opv_fieldAddrE rfl (by assumption) (by omega) rfl | exact opv_fieldAddrR rfl (by omega) rfl | exact opv_fieldAddrP rfl rfl rfl) ?_
      refine th_take rfl rfl (by kernel_rfl)  (by first | exact opv_fieldAddr rfl rfl | exact opv_fieldAddrE rfl (by assumption) (by omega) rfl | exact opv_fieldAddrR rfl (by omega) rfl | exact opv_fieldAddrP rfl rfl rfl) ?_
      refine th_one (by kernel_rfl) (step_m rfl rfl (opg_store rfl rfl rfl rfl rfl rfl) ?_)
      rintro _ _ _ ⟨rfl, rfl⟩
      refine ⟨Suf.h, (by first | exact fun _ h => h | assumption | exact fun _ h => (by assumption : _ ⊆ _) ((by assumption : _ ⊆ _) h)), ?_⟩
      refine th_take rfl rfl (by kernel_rfl)  (by first | exact opv_nilCheckE rfl | exact opv_nilCheck rfl) ?_
      refine th_take rfl rfl (by kernel_rfl)  (by first | exact opv_fieldAddr rfl rfl | exact opv_fieldAddrE rfl (by assumption) (by omega) rfl | exact opv_fieldAddrR rfl (by omega) rfl | exact opv_fieldAddrP rfl rfl rfl) ?_
      refine th_take rfl rfl (by kernel_rfl)  (by first | exact opv_fieldAddr rfl rfl | exact opv_fieldAddrE rfl (by assumption) (by omega) rfl | exact opv_fieldAddrR rfl (by omega) rfl | exact opv_fieldAddrP rfl rfl rfl) ?_
      refine th_one (by kernel_rfl) (step_m rfl rfl (opg_store rfl rfl rfl rfl rfl rfl) ?_)
      rintro _ _ _ ⟨rfl, rfl⟩
      refine ⟨Suf.h, (by first | exact fun _ h => h | assumption | exact fun _ h => (by assumption : _ ⊆ _) ((by assumption : _ ⊆ _) h)), ?_⟩
      refine th_done (by kernel_rfl) ?_
      exact tri_drop (tri_drop (tri_cutEnd _ ⟨ao', aw', co', cw', rfl, rfl, rfl⟩ ⟨rfl, rfl, rfl, trivial⟩))
    ·refine (step_m rfl rfl (opg_buildSlice rfl rfl rfl rfl) ?_)
     rintro _ _ _ ⟨b35, rfl, rfl, rfl⟩
     refine ⟨Suf.h, (by first | exact fun _ h => h | assumption | exact fun _ h => (by assumption : _ ⊆ _) ((by assumption : _ ⊆ _) h)), ?_⟩
     refine th_two (j := 14) [8, 9, 17, 18, 19, 20, 21, 22, 23, 24, 25] (by kernel_rfl) rfl ?_ ?_
     ·refine (step_m rfl rfl (opg_buildSlice rfl rfl rfl rfl) ?_)
      rintro _ _ _ ⟨b27, rfl, rfl, rfl⟩
      refine ⟨Suf.h, (by first | exact fun _ h => h | assumption | exact fun _ h => (by assumption : _ ⊆ _) ((by assumption : _ ⊆ _) h)), ?_⟩
      refine th_two (j := 14) [9, 17, 18, 19, 20, 21, 22, 23, 24, 25] (by kernel_rfl) rfl ?_ ?_
      ·refine (step_m rfl rfl (opg_appendB rfl rfl rfl rfl (by omega) rfl) ?_)
       rintro _ _ _ ⟨ao', co', rfl, rfl, rfl⟩
       refine ⟨Suf.h, (by first | exact fun _ h => h | assumption | exact fun _ h => (by assumption : _ ⊆ _) ((by assumption : _ ⊆ _) h)), ?_⟩
       refine th_one (by kernel_rfl) (step_m rfl rfl (OpV.toG (by first | exact opv_load1 rfl rfl rfl | exact opv_loadA rfl rfl rfl | exact opv_loadE1 rfl (by assumption) rfl (by omega) rfl rfl | exact opv_loadEA rfl (by assumption) rfl (by omega) rfl rfl | exact opv_loadRX1 rfl rfl (by omega) rfl rfl | exact opv_loadRXA rfl rfl (by omega) rfl rfl rfl | exact opv_loadIX rfl rfl (by omega) | exact opv_loadR1 rfl rfl rfl | exact opv_loadRA rfl rfl rfl rfl)) ?_)
       rintro _ _ _ ⟨rfl, rfl, rfl⟩
       refine ⟨Suf.h, (by first | exact fun _ h => h | assumption | exact fun _ h => (by assumption : _ ⊆ _) ((by assumption : _ ⊆ _) h)), ?_⟩
       refine th_one (by kernel_rfl) (step_m rfl rfl (opg_appendB rfl rfl rfl rfl (by omega) rfl) ?_)
       rintro _ _ _ ⟨aw', cw', rfl, rfl, rfl⟩
       refine ⟨Suf.h, (by first | exact fun _ h => h | assumption | exact fun _ h => (by assumption : _ ⊆ _) ((by assumption : _ ⊆ _) h)), ?_⟩
       refine th_take rfl rfl (by kernel_rfl)  (by first | exact opv_nilCheckE rfl | exact opv_nilCheck rfl) ?_
       refine th_take rfl rfl (by kernel_rfl)  (by first | exact opv_fieldAddr rfl rfl | exact opv_fieldAddrE rfl (by assumption) (by omega) rfl | exact opv_fieldAddrR rfl (by omega) rfl | exact opv_fieldAddrP rfl rfl rfl) ?_
       refine th_take rfl rfl (by kernel_rfl)  (by first | exact opv_fieldAddr rfl rfl | exact opv_fieldAddrE rfl (by assumption) (by omega) rfl | exact opv_fieldAddrR rfl (by omega) rfl | exact opv_fieldAddrP rfl rfl rfl) ?_
       refine th_one (by kernel_rfl) (step_m rfl rfl (opg_store rfl rfl rfl rfl rfl rfl) ?_)
       rintro _ _ _ ⟨rfl, rfl⟩
       refine ⟨Suf.h, (by first | exact fun _ h => h | assumption | exact fun _ h => (by assumption : _ ⊆ _) ((by assumption : _ ⊆ _) h)), ?_⟩
       refine th_take rfl rfl (by kernel_rfl)  (by first | exact opv_nilCheckE rfl | exact opv_nilCheck rfl) ?_
       refine th_take rfl rfl (by kernel_rfl)  (by first | exact opv_fieldAddr rfl rfl | exact opv_fieldAddrE rfl (by assumption) (by omega) rfl | exact opv_fieldAddrR rfl (by omega) rfl | exact opv_fieldAddrP rfl rfl rfl) ?_
       refine th_take rfl rfl (by kernel_rfl)  (by first | exact opv_fieldAddr rfl rfl | exact opv_fieldAddrE rfl (by assumption) (by omega) rfl | exact opv_fieldAddrR rfl (by omega) rfl | exact opv_fieldAddrP rfl rfl rfl) ?_
       refine th_one (by kernel_rfl) (step_m rfl rfl (opg_store rfl rfl rfl rfl rfl rfl) ?_)
       rintro _ _ _ ⟨rfl, rfl⟩
       refine ⟨Suf.h, (by first | exact fun _ h => h | assumption | exact fun _ h => (by assumption : _ ⊆ _) ((by assumption : _ ⊆ _) h)), ?_⟩
       refine th_done (by kernel_rfl) ?_
       exact tri_drop (tri_drop (tri_cutEnd _ ⟨ao', aw', co', cw', rfl, rfl, rfl⟩ ⟨rfl, rfl, rfl, trivial⟩))
      ·refine (step_m rfl rfl (OpV.toG (by first | exact opv_load1 rfl rfl rfl | exact opv_loadA rfl rfl rfl | exact opv_loadE1 rfl (by assumption) rfl (by omega) rfl rfl | exact opv_loadEA rfl (by assumption) rfl (by omega) rfl rfl | exact opv_loadRX1 rfl rfl (by omega) rfl rfl | exact opv_loadRXA rfl rfl (by omega) rfl rfl rfl | exact opv_loadIX rfl rfl (by omega) | exact opv_loadR1 rfl rfl rfl | exact opv_loadRA rfl rfl rfl rfl)) ?_)
       rintro _ _ _ ⟨rfl, rfl, rfl⟩
       refine ⟨Suf.h, (by first | exact fun _ h => h | assumption | exact fun _ h => (by assumption : _ ⊆ _) ((by assumption : _ ⊆ _) h)), ?_⟩
       refine th_one (by kernel_rfl) (step_m rfl rfl (opg_appendB rfl rfl rfl rfl (by omega) rfl) ?_)
       rintro _ _ _ ⟨ao', co', rfl, rfl, rfl⟩
       refine ⟨Suf.h, (by first | exact fun _ h => h | assumption | exact fun _ h => (by assumption : _ ⊆ _) ((by assumption : _ ⊆ _) h)), ?_⟩
       refine th_one (by kernel_rfl) (step_m rfl rfl (opg_appendB rfl rfl rfl rfl (by omega) rfl) ?_)
       rintro _ _ _ ⟨aw', cw', rfl, rfl, rfl⟩
       refine ⟨Suf.h, (by first | exact fun _ h => h | assumption | exact fun _ h => (by assumption : _ ⊆ _) ((by assumption : _ ⊆ _) h)), ?_⟩
       refine th_take rfl rfl (by kernel_rfl)  (by first | exact opv_nilCheckE rfl | exact opv_nilCheck rfl) ?_
       refine th_take rfl rfl (by kernel_rfl)  (by first | exact opv_fieldAddr rfl rfl | exact opv_fieldAddrE rfl (by assumption) (by omega) rfl | exact opv_fieldAddrR rfl (by omega) rfl | exact opv_fieldAddrP rfl rfl rfl) ?_
       refine th_take rfl rfl (by kernel_rfl)  (by first | exact opv_fieldAddr rfl rfl | exact opv_fieldAddrE rfl (by assumption) (by omega) rfl | exact opv_fieldAddrR rfl (by omega) rfl | exact opv_fieldAddrP rfl rfl rfl) ?_
       refine th_one (by kernel_rfl) (step_m rfl rfl (opg_store rfl rfl rfl rfl rfl rfl) ?_)
       rintro _ _ _ ⟨rfl, rfl⟩
       refine ⟨Suf.h, (by first | exact fun _ h => h | assumption | exact fun _ h => (by assumption : _ ⊆ _) ((by assumption : _ ⊆ _) h)), ?_⟩
       refine th_take rfl rfl (by kernel_rfl)  (by first | exact opv_nilCheckE rfl | exact opv_nilCheck rfl) ?_
       refine th_take rfl rfl (by kernel_rfl)  (by first | exact opv_fieldAddr rfl rfl | exact opv_fieldAddrE rfl (by assumption) (by omega) rfl | exact opv_fieldAddrR rfl (by omega) rfl | exact opv_fieldAddrP rfl rfl rfl) ?_
       refine th_take rfl rfl (by kernel_rfl)  (by first | exact opv_fieldAddr rfl rfl | exact opv_fieldAddrE rfl (by assumption) (by omega) rfl | exact opv_fieldAddrR rfl (by omega) rfl | exact opv_fieldAddrP rfl rfl rfl) ?_
       refine th_one (by kernel_rfl) (step_m rfl rfl (opg_store rfl rfl rfl rfl rfl rfl) ?_)
       rintro _ _ _ ⟨rfl, rfl⟩
       refine ⟨Suf.h, (by first | exact fun _ h => h | assumption | exact fun _ h => (by assumption : _ ⊆ _) ((by assumption : _ ⊆ _) h)), ?_⟩
       refine th_done (by kernel_rfl) ?_
       exact tri_drop (tri_drop (tri_cutEnd _ ⟨ao', aw', co', cw', rfl, rfl, rfl⟩ ⟨rfl, rfl, rfl, trivial⟩))
     ·refine (step_m rfl rfl (OpV.toG (by first | exact opv_load1 rfl rfl rfl | exact opv_loadA rfl rfl rfl | exact opv_loadE1 rfl (by assumption) rfl (by omega) rfl rfl | exact opv_loadEA rfl (by assumption) rfl (by omega) rfl rfl | exact opv_loadRX1 rfl rfl (by omega) rfl rfl | exact opv_loadRXA rfl rfl (by omega) rfl rfl rfl | exact opv_loadIX rfl rfl (by omega) | exact opv_loadR1 rfl rfl rfl | exact opv_loadRA rfl rfl rfl rfl)) ?_)
      rintro _ _ _ ⟨rfl, rfl, rfl⟩
      refine ⟨Suf.h, (by first | exact fun _ h => h | assumption | exact fun _ h => (by assumption : _ ⊆ _) ((by assumption : _ ⊆ _) h)), ?_⟩
      refine th_one (by kernel_rfl) (step_m rfl rfl (opg_buildSlice rfl rfl rfl rfl) ?_)
      rintro _ _ _ ⟨b27, rfl, rfl, rfl⟩
      refine ⟨Suf.h, (by first | exact fun _ h => h | assumption | exact fun _ h => (by assumption : _ ⊆ _) ((by assumption : _ ⊆ _) h)), ?_⟩
      refine th_one (by kernel_rfl) (step_m rfl rfl (opg_appendB rfl rfl rfl rfl (by omega) rfl) ?_)
      rintro _ _ _ ⟨ao', co', rfl, rfl, rfl⟩
      refine ⟨Suf.h, (by first | exact fun _ h => h | assumption | exact fun _ h => (by assumption : _ ⊆ _) ((by assumption : _ ⊆ _) h)), ?_⟩
      refine th_one (by kernel_rfl) (step_m rfl rfl (opg_appendB rfl rfl rfl rfl (by omega) rfl) ?_)
      rintro _ _ _ ⟨aw', cw', rfl, rfl, rfl⟩
      refine ⟨Suf.h, (by first | exact fun _ h => h | assumption | exact fun _ h => (by assumption : _ ⊆ _) ((by assumption : _ ⊆ _) h)), ?_⟩
      refine th_take rfl rfl (by kernel_rfl)  (by first | exact opv_nilCheckE rfl | exact opv_nilCheck rfl) ?_
      refine th_take rfl rfl (by kernel_rfl)  (by first | exact opv_fieldAddr rfl rfl | exact opv_fieldAddrE rfl (by assumption) (by omega) rfl | exact opv_fieldAddrR rfl (by omega) rfl | exact opv_fieldAddrP rfl rfl rfl) ?_
      refine th_take rfl rfl (by kernel_rfl)  (by first | exact opv_fieldAddr rfl rfl | exact opv_fieldAddrE rfl (by assumption) (by omega) rfl | exact opv_fieldAddrR rfl (by omega) rfl | exact opv_fieldAddrP rfl rfl rfl) ?_
      refine th_one (by kernel_rfl) (step_m rfl rfl (opg_store rfl rfl rfl rfl rfl rfl) ?_)
      rintro _ _ _ ⟨rfl, rfl⟩
      refine ⟨Suf.h, (by first | exact fun _ h => h | assumption | exact fun _ h => (by assumption : _ ⊆ _) ((by assumption : _ ⊆ _) h)), ?_⟩
      refine th_take rfl rfl (by kernel_rfl)  (by first | exact opv_nilCheckE rfl | exact opv_nilCheck rfl) ?_
      refine th_take rfl rfl (by kernel_rfl)  (by first | exact opv_fieldAddr rfl rfl | exact opv_fieldAddrE rfl (by assumption) (by omega) rfl | exact opv_fieldAddrR rfl (by omega) rfl | exact opv_fieldAddrP rfl rfl rfl) ?_
      refine th_take rfl rfl (by kernel_rfl)  (by first | exact opv_fieldAddr rfl rfl | exact opv_fieldAddrE rfl (by assumption) (by omega) rfl | exact opv_fieldAddrR rfl (by omega) rfl | exact opv_fieldAddrP rfl rfl rfl) ?_
      refine th_one (by kernel_rfl) (step_m rfl rfl (opg_store rfl rfl rfl rfl rfl rfl) ?_)
      rintro _ _ _ ⟨rfl, rfl⟩
      refine ⟨Suf.h, (by first | exact fun _ h => h | assumption | exact fun _ h => (by assumption : _ ⊆ _) ((by assumption : _ ⊆ _) h)), ?_⟩
      refine th_done (by kernel_rfl) ?_
      exact tri_drop (tri_drop (tri_cutEnd _ ⟨ao', aw', co', cw', rfl, rfl, rfl⟩ ⟨rfl, rfl, rfl, trivial⟩))
   ·refine (step_m rfl rfl (opg_buildSlice rfl rfl rfl rfl) ?_)
    rintro _ _ _ ⟨b27, rfl, rfl, rfl⟩
    refine ⟨Suf.h, (by first | exact fun _ h => h | assumption | exact fun _ h => (by assumption : _ ⊆ _) ((by assumption : _ ⊆ _) h)), ?_⟩
    refine th_many [(14, [6, 9, 16, 17, 18, 19, 20, 21, 22, 23, 24, 25]), (16, [6, 9, 14, 17, 18, 19, 20, 21, 22, 23, 24, 25])] (by kernel_rfl) rfl ?_ ⟨?_, ?_, trivial⟩
    ·refine (step_m rfl rfl (OpV.toG (by first | exact opv_load1 rfl rfl rfl | exact opv_loadA rfl rfl rfl | exact opv_loadE1 rfl (by assumption) rfl (by omega) rfl rfl | exact opv_loadEA rfl (by assumption) rfl (by omega) rfl rfl | exact opv_loadRX1 rfl rfl (by omega) rfl rfl | exact opv_loadRXA rfl rfl (by omega) rfl rfl rfl | exact opv_loadIX rfl rfl (by omega) | exact opv_loadR1 rfl rfl rfl | exact opv_loadRA rfl rfl rfl rfl)) ?_)
     rintro _ _ _ ⟨rfl, rfl, rfl⟩
     refine ⟨Suf.h, (by first | exact fun _ h => h | assumption | exact fun _ h => (by assumption : _ ⊆ _) ((by assumption : _ ⊆ _) h)), ?_⟩
     refine th_many [(14, [9, 16, 17, 18, 19, 20, 21, 22, 23, 24, 25]), (16, [9, 14, 17, 18, 19, 20, 21, 22, 23, 24, 25])] (by kernel_rfl) rfl ?_ ⟨?_, ?_, trivial⟩
     ·refine (step_m rfl rfl (opg_appendB rfl rfl rfl rfl (by omega) rfl) ?_)
      rintro _ _ _ ⟨ao', co', rfl, rfl, rfl⟩
      refine ⟨Suf.h, (by first | exact fun _ h => h | assumption | exact fun _ h => (by assumption : _ ⊆ _) ((by assumption : _ ⊆ _) h)), ?_⟩
      refine th_two (j := 16) [14, 17, 18, 19, 20, 21, 22, 23, 24, 25] (by kernel_rfl) rfl ?_ ?_
      ·refine (step_m rfl rfl (OpV.toG (by first | exact opv_load1 rfl rfl rfl | exact opv_loadA rfl rfl rfl | exact opv_loadE1 rfl (by assumption) rfl (by omega) rfl rfl | exact opv_loadEA rfl (by assumption) rfl (by omega) rfl rfl | exact opv_loadRX1 rfl rfl (by omega) rfl rfl | exact opv_loadRXA rfl rfl (by omega) rfl rfl rfl | exact opv_loadIX rfl rfl (by omega) | exact opv_loadR1 rfl rfl rfl | exact opv_loadRA rfl rfl rfl rfl)) ?_)
       rintro _ _ _ ⟨rfl, rfl, rfl⟩
       refine ⟨Suf.h, (by first | exact fun _ h => h | assumption | exact fun _ h => (by assumption : _ ⊆ _) ((by assumption : _ ⊆ _) h)), ?_⟩
       refine th_one (by kernel_rfl) (step_m rfl rfl (opg_buildSlice rfl rfl rfl rfl) ?_)
       rintro _ _ _ ⟨b35, rfl, rfl, rfl⟩
       refine ⟨Suf.h, (by first | exact fun _ h => h | assumption | exact fun _ h => (by assumption : _ ⊆ _) ((by assumption : _ ⊆ _) h)), ?_⟩
       refine th_one (by kernel_rfl) (step_m rfl rfl (opg_appendB rfl rfl rfl rfl (by omega) rfl) ?_)
       rintro _ _ _ ⟨aw', cw', rfl, rfl, rfl⟩
       refine ⟨Suf.h, (by first | exact fun _ h => h | assumption | exact fun _ h => (by assumption : _ ⊆ _) ((by assumption : _ ⊆ _) h)), ?_⟩
       refine th_take rfl rfl (by kernel_rfl)  (by first | exact opv_nilCheckE rfl | exact opv_nilCheck rfl) ?_
       refine th_take rfl rfl (by kernel_rfl)  (by first | exact opv_fieldAddr rfl rfl | exact opv_fieldAddrE rfl (by assumption) (by omega) rfl | exact opv_fieldAddrR rfl (by omega) rfl | exact opv_fieldAddrP rfl rfl rfl) ?_
       refine th_take rfl rfl (by kernel_rfl)  (by first | exact opv_fieldAddr rfl rfl | exact opv_fieldAddrE rfl (by assumption) (by omega) rfl | exact opv_fieldAddrR rfl (by omega) rfl | exact opv_fieldAddrP rfl rfl rfl) ?_
       refine th_one (by kernel_rfl) (step_m rfl rfl (opg_store rfl rfl rfl rfl rfl rfl) ?_)
       rintro _ _ _ ⟨rfl, rfl⟩
       refine ⟨Suf.h, (by first | exact fun _ h => h | assumption | exact fun _ h => (by assumption : _ ⊆ _) ((by assumption : _ ⊆ _) h)), ?_⟩
       refine th_take rfl rfl (by kernel_rfl)  (by first | exact opv_nilCheckE rfl | exact opv_nilCheck rfl) ?_
       refine th_take rfl rfl (by kernel_rfl)  (by first | exact opv_fieldAddr rfl rfl | exact opv_fieldAddrE rfl (by assumption) (by omega) rfl | exact opv_fieldAddrR rfl (by omega) rfl | exact opv_fieldAddrP rfl rfl rfl) ?_
       refine th_take rfl rfl (by kernel_rfl)  (by first | exact opv_fieldAddr rfl rfl | exact opv_fieldAddrE rfl (by assumption) (by omega) rfl | exact opv_fieldAddrR rfl (by omega) rfl | exact opv_fieldAddrP rfl rfl rfl) ?_
       refine th_one (by kernel_rfl) (step_m rfl rfl (opg_store rfl rfl rfl rfl rfl rfl) ?_)
       rintro _ _ _ ⟨rfl, rfl⟩
       refine ⟨Suf.h, (by first | exact fun _ h => h | assumption | exact fun _ h => (by assumption : _ ⊆ _) ((by assumption : _ ⊆ _) h)), ?_⟩
       refine th_done (by kernel_rfl) ?_
       exact tri_drop (tri_drop (tri_cutEnd _ ⟨ao', aw', co', cw', rfl, rfl, rfl⟩ ⟨rfl, rfl, rfl, trivial⟩))
      ·refine (step_m rfl rfl (opg_buildSlice rfl rfl rfl rfl) ?_)
       rintro _ _ _ ⟨b35, rfl, rfl, rfl⟩
       refine ⟨Suf.h, (by first | exact fun _ h => h | assumption | exact fun _ h => (by assumption : _ ⊆ _) ((by assumption : _ ⊆ _) h)), ?_⟩
       refine th_one (by kernel_rfl) (step_m rfl rfl (OpV.toG (by first | exact opv_load1 rfl rfl rfl | exact opv_loadA rfl rfl rfl | exact opv_loadE1 rfl (by assumption) rfl (by omega) rfl rfl | exact opv_loadEA rfl (by assumption) rfl (by omega) rfl rfl | exact opv_loadRX1 rfl rfl (by omega) rfl rfl | exact opv_loadRXA rfl rfl (by omega) rfl rfl rfl | exact opv_loadIX rfl rfl (by omega) | exact opv_loadR1 rfl rfl rfl | exact opv_loadRA rfl rfl rfl rfl)) ?_)
       rintro _ _ _ ⟨rfl, rfl, rfl⟩
       refine ⟨Suf.h, (by first | exact fun _ h => h | assumption | exact fun _ h => (by assumption : _ ⊆ _) ((by assumption : _ ⊆ _) h)), ?_⟩
       refine th_one (by kernel_rfl) (step_m rfl rfl (opg_appendB rfl rfl rfl rfl (by omega) rfl) ?_)
       rintro _ _ _ ⟨aw', cw', rfl, rfl, rfl⟩
       refine ⟨Suf.h, (by first | exact fun _ h => h | assumption | exact fun _ h => (by assumption : _ ⊆ _) ((by assumption : _ ⊆ _) h)), ?_⟩
       refine th_take rfl rfl (by kernel_rfl)  (by first | exact opv_nilCheckE rfl | exact opv_nilCheck rfl) ?_
       refine th_take rfl rfl (by kernel_rfl)  (by first | exact opv_fieldAddr rfl rfl | exact opv_fieldAddrE rfl (by assumption) (by omega) rfl | exact opv_fieldAddrR rfl (by omega) rfl | exact opv_fieldAddrP rfl rfl rfl) ?_
       refine th_take rfl rfl (by kernel_rfl)  (by first | exact opv_fieldAddr rfl rfl | exact opv_fieldAddrE rfl (by assumption) (by omega) rfl | exact opv_fieldAddrR rfl (by omega) rfl | exact opv_fieldAddrP rfl rfl rfl) ?_
       refine th_one (by kernel_rfl) (step_m rfl rfl (opg_store rfl rfl rfl rfl rfl rfl) ?_)
       rintro _ _ _ ⟨rfl, rfl⟩
       refine ⟨Suf.h, (by first | exact fun _ h => h | assumption | exact fun _ h => (by assumption : _ ⊆ _) ((by assumption : _ ⊆ _) h)), ?_⟩
       refine th_take rfl rfl (by kernel_rfl)  (by first | exact opv_nilCheckE rfl | exact opv_nilCheck rfl) ?_
       refine th_take rfl rfl (by kernel_rfl)  (by first | exact opv_fieldAddr rfl rfl | exact opv_fieldAddrE rfl (by assumption) (by omega) rfl | exact opv_fieldAddrR rfl (by omega) rfl | exact opv_fieldAddrP rfl rfl rfl) ?_
       refine th_take rfl rfl (by kernel_rfl)  (by first | exact opv_fieldAddr rfl rfl | exact opv_fieldAddrE rfl (by assumption) (by omega) rfl | exact opv_fieldAddrR rfl (by omega) rfl | exact opv_fieldAddrP rfl rfl rfl) ?_
       refine th_one (by kernel_rfl) (step_m rfl rfl (opg_store rfl rfl rfl rfl rfl rfl) ?_)
       rintro _ _ _ ⟨rfl, rfl⟩
       refine ⟨Suf.h, (by first | exact fun _ h => h | assumption | exact fun _ h => (by assumption : _ ⊆ _) ((by assumption : _ ⊆ _) h)), ?_⟩
       refine th_done (by kernel_rfl) ?_
       exact tri_drop (tri_drop (tri_cutEnd _ ⟨ao', aw', co', cw', rfl, rfl, rfl⟩ ⟨rfl, rfl, rfl, trivial⟩))
     ·refine (step_m rfl rfl (OpV.toG (by first | exact opv_load1 rfl rfl rfl | exact opv_loadA rfl rfl rfl | exact opv_loadE1 rfl (by assumption) rfl (by omega) rfl rfl | exact opv_loadEA rfl (by assumption) rfl (by omega) rfl rfl | exact opv_loadRX1 rfl rfl (by omega) rfl rfl | exact opv_loadRXA rfl rfl (by omega) rfl rfl rfl | exact opv_loadIX rfl rfl (by omega) | exact opv_loadR1 rfl rfl rfl | exact opv_loadRA rfl rfl rfl rfl)) ?_)
      rintro _ _ _ ⟨rfl, rfl, rfl⟩
      refine ⟨Suf.h, (by first | exact fun _ h => h | assumption | exact fun _ h => (by assumption : _ ⊆ _) ((by assumption : _ ⊆ _) h)), ?_⟩
      refine th_two (j := 16) [9, 17, 18, 19, 20, 21, 22, 23, 24, 25] (by kernel_rfl) rfl ?_ ?_
      ·refine (step_m rfl rfl (opg_appendB rfl rfl rfl rfl (by omega) rfl) ?_)
       rintro _ _ _ ⟨ao', co', rfl, rfl, rfl⟩
       refine ⟨Suf.h, (by first | exact fun _ h => h | assumption | exact fun _ h => (by assumption : _ ⊆ _) ((by assumption : _ ⊆ _) h)), ?_⟩
       refine th_one (by kernel_rfl) (step_m rfl rfl (opg_buildSlice rfl rfl rfl rfl) ?_)
       rintro _ _ _ ⟨b35, rfl, rfl, rfl⟩
       refine ⟨Suf.h, (by first | exact fun _ h => h | assumption | exact fun _ h => (by assumption : _ ⊆ _) ((by assumption : _ ⊆ _) h)), ?_⟩
       refine th_one (by kernel_rfl) (step_m rfl rfl (opg_appendB rfl rfl rfl rfl (by omega) rfl) ?_)
       rintro _ _ _ ⟨aw', cw', rfl, rfl, rfl⟩
       refine ⟨Suf.h, (by first | exact fun _ h => h | assumption | exact fun _ h => (by assumption : _ ⊆ _) ((by assumption : _ ⊆ _) h)), ?_⟩
       refine th_take rfl rfl (by kernel_rfl)  (by first | exact opv_nilCheckE rfl | exact opv_nilCheck rfl) ?_
       refine th_take rfl rfl (by kernel_rfl)  (by first | exact opv_fieldAddr rfl rfl | exact opv_fieldAddrE rfl (by assumption) (by omega) rfl | exact opv_fieldAddrR rfl (by omega) rfl | exact opv_fieldAddrP rfl rfl rfl) ?_
       refine th_take rfl rfl (by kernel_rfl)  (by first | exact opv_fieldAddr rfl rfl | exact opv_fieldAddrE rfl (by assumption) (by omega) rfl | exact opv_fieldAddrR rfl (by omega) rfl | exact opv_fieldAddrP rfl rfl rfl) ?_
       refine th_one (by kernel_rfl) (step_m rfl rfl (opg_store rfl rfl rfl rfl rfl rfl) ?_)
       rintro _ _ _ ⟨rfl, rfl⟩
       refine ⟨Suf.h, (by first | exact fun _ h => h | assumption | exact fun _ h => (by assumption : _ ⊆ _) ((by assumption : _ ⊆ _) h)), ?_⟩
       refine th_take rfl rfl (by kernel_rfl)  (by first | exact opv_nilCheckE rfl | exact opv_nilCheck rfl) ?_
       refine th_take rfl rfl (by kernel_rfl)  (by first | exact opv_fieldAddr rfl rfl | exact opv_fieldAddrE rfl (by assumption) (by omega) rfl | exact opv_fieldAddrR rfl (by omega) rfl | exact opv_fieldAddrP rfl rfl rfl) ?_
       refine th_take rfl rfl (by kernel_rfl)  (by first | exact opv_fieldAddr rfl rfl | exact opv_fieldAddrE rfl (by assumption) (by omega) rfl | exact opv_fieldAddrR rfl (by omega) rfl | exact opv_fieldAddrP rfl rfl rfl) ?_
       refine th_one (by kernel_rfl) (step_m rfl rfl (opg_store rfl rfl rfl rfl rfl rfl) ?_)
       rintro _ _ _ ⟨rfl, rfl⟩
       refine ⟨Suf.h, (by first | exact fun _ h => h | assumption | exact fun _ h => (by assumption : _ ⊆ _) ((by assumption : _ ⊆ _) h)), ?_⟩
       refine th_done (by kernel_rfl) ?_
       exact tri_drop (tri_drop (tri_cutEnd _ ⟨ao', aw', co', cw', rfl, rfl, rfl⟩ ⟨rfl, rfl, rfl, trivial⟩))
      ·refine (step_m rfl rfl (opg_buildSlice rfl rfl rfl rfl) ?_)
       rintro _ _ _ ⟨b35, rfl, rfl, rfl⟩
       refine ⟨Suf.h, (by first | exact fun _ h => h | assumption | exact fun _ h => (by assumption : _ ⊆ _) ((by assumption : _ ⊆ _) h)), ?_⟩
       refine th_one (by kernel_rfl) (step_m rfl rfl (opg_appendB rfl rfl rfl rfl (by omega) rfl) ?_)
       rintro _ _ _ ⟨ao', co', rfl, rfl, rfl⟩
       refine ⟨Suf.h, (by first | exact fun _ h => h | assumption | exact fun _ h => (by assumption : _ ⊆ _) ((by assumption : _ ⊆ _) h)), ?_⟩
       refine th_one (by kernel_rfl) (step_m rfl rfl (opg_appendB rfl rfl rfl rfl (by omega) rfl) ?_)
       rintro _ _ _ ⟨aw', cw', rfl, rfl, rfl⟩
       refine ⟨Suf.h, (by first | exact fun _ h => h | assumption | exact fun _ h => (by assumption : _ ⊆ _) ((by assumption : _ ⊆ _) h)), ?_⟩
       refine th_take rfl rfl (by kernel_rfl)  (by first | exact opv_nilCheckE rfl | exact opv_nilCheck rfl) ?_
       refine th_take rfl rfl (by kernel_rfl)  (by first | exact opv_fieldAddr rfl rfl | exact opv_fieldAddrE rfl (by assumption) (by omega) rfl | exact opv_fieldAddrR rfl (by omega) rfl | exact opv_fieldAddrP rfl rfl rfl) ?_
       refine th_take rfl rfl (by kernel_rfl)  (by first | exact opv_fieldAddr rfl rfl | exact opv_fieldAddrE rfl (by assumption) (by omega) rfl | exact opv_fieldAddrR rfl (by omega) rfl | exact opv_fieldAddrP rfl rfl rfl) ?_
       refine th_one (by kernel_rfl) (step_m rfl rfl (opg_store rfl rfl rfl rfl rfl rfl) ?_)
       rintro _ _ _ ⟨rfl, rfl⟩
       refine ⟨Suf.h, (by first | exact fun _ h => h | assumption | exact fun _ h => (by assumption : _ ⊆ _) ((by assumption : _ ⊆ _) h)), ?_⟩
       refine th_take rfl rfl (by kernel_rfl)  (by first | exact opv_nilCheckE rfl | exact opv_nilCheck rfl) ?_
       refine th_take rfl rfl (by kernel_rfl)  (by first | exact opv_fieldAddr rfl rfl | exact opv_fieldAddrE rfl (by assumption) (by omega) rfl | exact opv_fieldAddrR rfl (by omega) rfl | exact opv_fieldAddrP rfl rfl rfl) ?_
       refine th_take rfl rfl (by kernel_rfl)  (by first | exact opv_fieldAddr rfl rfl | exact opv_fieldAddrE rfl (by assumption) (by omega) rfl | exact opv_fieldAddrR rfl (by omega) rfl | exact opv_fieldAddrP rfl rfl rfl) ?_
       refine th_one (by kernel_rfl) (step_m rfl rfl (opg_store rfl rfl rfl rfl rfl rfl) ?_)
       rintro _ _ _ ⟨rfl, rfl⟩
       refine ⟨Suf.h, (by first | exact fun _ h => h | assumption | exact fun _ h => (by assumption : _ ⊆ _) ((by assumption : _ ⊆ _) h)), ?_⟩
       refine th_done (by kernel_rfl) ?_
       exact tri_drop (tri_drop (tri_cutEnd _ ⟨ao', aw', co', cw', rfl, rfl, rfl⟩ ⟨rfl, rfl, rfl, trivial⟩))
     ·refine (step_m rfl rfl (opg_buildSlice rfl rfl rfl rfl) ?_)
      rintro _ _ _ ⟨b35, rfl, rfl, rfl⟩
      refine ⟨Suf.h, (by first | exact fun _ h => h | assumption | exact fun _ h => (by assumption : _ ⊆ _) ((by assumption : _ ⊆ _) h)), ?_⟩
      refine th_two (j := 14) [9, 17, 18, 19, 20, 21, 22, 23, 24, 25] (by kernel_rfl) rfl ?_ ?_
      ·refine (step_m rfl rfl (opg_appendB rfl rfl rfl rfl (by omega) rfl) ?_)
       rintro _ _ _ ⟨ao', co', rfl, rfl, rfl⟩
       refine ⟨Suf.h, (by first | exact fun _ h => h | assumption | exact fun _ h => (by assumption : _ ⊆ _) ((by assumption : _ ⊆ _) h)), ?_⟩
       refine th_one (by kernel_rfl) (step_m rfl rfl (OpV.toG (by first | exact opv_load1 rfl rfl rfl | exact opv_loadA rfl rfl rfl | exact opv_loadE1 rfl (by assumption) rfl (by omega) rfl rfl | exact opv_loadEA rfl (by assumption) rfl (by omega) rfl rfl | exact opv_loadRX1 rfl rfl (by omega) rfl rfl | exact opv_loadRXA rfl rfl (by omega) rfl rfl rfl | exact opv_loadIX rfl rfl (by omega) | exact opv_loadR1 rfl rfl rfl | exact opv_loadRA rfl rfl rfl rfl)) ?_)
       rintro _ _ _ ⟨rfl, rfl, rfl⟩
       refine ⟨Suf.h, (by first | exact fun _ h => h | assumption | exact fun _ h => (by assumption : _ ⊆ _) ((by assumption : _ ⊆ _) h)), ?_⟩
       refine th_one (by kernel_rfl) (step_m rfl rfl (opg_appendB rfl rfl rfl rfl (by omega) rfl) ?_)
       rintro _ _ _ ⟨aw', cw', rfl, rfl, rfl⟩
       refine ⟨Suf.h, (by first | exact fun _ h => h | assumption | exact fun _ h => (by assumption : _ ⊆ _) ((by assumption : _ ⊆ _) h)), ?_⟩
       refine th_take rfl rfl (by kernel_rfl)  (by first | exact opv_nilCheckE rfl | exact opv_nilCheck rfl) ?_
       refine th_take rfl rfl (by kernel_rfl)  (by first | exact opv_fieldAddr rfl rfl | exact opv_fieldAddrE rfl (by assumption) (by omega) rfl | exact opv_fieldAddrR rfl (by omega) rfl | exact opv_fieldAddrP rfl rfl rfl) ?_
       refine th_take rfl rfl (by kernel_rfl)  (by first | exact opv_fieldAddr rfl rfl | exact opv_fieldAddrE rfl (by assumption) (by omega) rfl | exact opv_fieldAddrR rfl (by omega) rfl | exact opv_fieldAddrP rfl rfl rfl) ?_
       refine th_one (by kernel_rfl) (step_m rfl rfl (opg_store rfl rfl rfl rfl rfl rfl) ?_)
       rintro _ _ _ ⟨rfl, rfl⟩
       refine ⟨Suf.h, (by first | exact fun _ h => h | assumption | exact fun _ h => (by assumption : _ ⊆ _) ((by assumption : _ ⊆ _) h)), ?_⟩
       refine th_take rfl rfl (by kernel_rfl)  (by first | exact opv_nilCheckE rfl | exact opv_nilCheck rfl) ?_
       refine th_take rfl rfl (by kernel_rfl)  (by first | exact opv_fieldAddr rfl rfl | exact opv_fieldAddrE rfl (by assumption) (by omega) rfl | exact opv_fieldAddrR rfl (by omega) rfl | exact opv_fieldAddrP rfl rfl rfl) ?_
       refine th_take rfl rfl (by kernel_rfl)  (by first | exact opv_fieldAddr rfl rfl | exact opv_fieldAddrE rfl (by assumption) (by omega) rfl | exact opv_fieldAddrR rfl (by omega) rfl | exact opv_fieldAddrP rfl rfl rfl) ?_
       refine th_one (by kernel_rfl) (step_m rfl rfl (opg_store rfl rfl rfl rfl rfl rfl) ?_)
       rintro _ _ _ ⟨rfl, rfl⟩
       refine ⟨Suf.h, (by first | exact fun _ h => h | assumption | exact fun _ h => (by assumption : _ ⊆ _) ((by assumption : _ ⊆ _) h)), ?_⟩
       refine th_done (by kernel_rfl) ?_
       exact tri_drop (tri_drop (tri_cutEnd _ ⟨ao', aw', co', cw', rfl, rfl, rfl⟩ ⟨rfl, rfl, rfl, trivial⟩))
      ·refine (step_m rfl rfl (OpV.toG (by first | exact opv_load1 rfl rfl rfl | exact opv_loadA rfl rfl rfl | exact opv_loadE1 rfl (by assumption) rfl (by omega) rfl rfl | exact opv_loadEA rfl (by assumption) rfl (by omega) rfl rfl | exact opv_loadRX1 rfl rfl (by omega) rfl rfl | exact opv_loadRXA rfl rfl (by omega) rfl rfl rfl | exact opv_loadIX rfl rfl (by omega) | exact opv_loadR1 rfl rfl rfl | exact opv_loadRA rfl rfl rfl rfl)) ?_)
       rintro _ _ _ ⟨rfl, rfl, rfl⟩
       refine ⟨Suf.h, (by first | exact fun _ h => h | assumption | exact fun _ h => (by assumption : _ ⊆ _) ((by assumption : _ ⊆ _) h)), ?_⟩
       refine th_one (by kernel_rfl) (step_m rfl rfl (opg_appendB rfl rfl rfl rfl (by omega) rfl) ?_)
       rintro _ _ _ ⟨ao', co', rfl, rfl, rfl⟩
       refine ⟨Suf.h, (by first | exact fun _ h => h | assumption | exact fun _ h => (by assumption : _ ⊆ _) ((by assumption : _ ⊆ _) h)), ?_⟩
       refine th_one (by kernel_rfl) (step_m rfl rfl (opg_appendB rfl rfl rfl rfl (by omega) rfl) ?_)
       rintro _ _ _ ⟨aw', cw', rfl, rfl, rfl⟩
       refine ⟨Suf.h, (by first | exact fun _ h => h | assumption | exact fun _ h => (by assumption : _ ⊆ _) ((by assumption : _ ⊆ _) h)), ?_⟩
       refine th_take rfl rfl (by kernel_rfl)  (by first | exact opv_nilCheckE rfl | exact opv_nilCheck rfl) ?_
       refine th_take rfl rfl (by kernel_rfl)  (by first | exact opv_fieldAddr rfl rfl | exact opv_fieldAddrE rfl (by assumption) (by omega) rfl | exact opv_fieldAddrR rfl (by omega) rfl | exact opv_fieldAddrP rfl rfl rfl) ?_
       refine th_take rfl rfl (by kernel_rfl)  (by first | exact opv_fieldAddr rfl rfl | exact opv_fieldAddrE rfl (by assumption) (by omega) rfl | exact opv_fieldAddrR rfl (by omega) rfl | exact opv_fieldAddrP rfl rfl rfl) ?_
       refine th_one (by kernel_rfl) (step_m rfl rfl (opg_store rfl rfl rfl rfl rfl rfl) ?_)
       rintro _ _ _ ⟨rfl, rfl⟩
       refine ⟨Suf.h, (by first | exact fun _ h => h | assumption | exact fun _ h => (by assumption : _ ⊆ _) ((by assumption : _ ⊆ _) h)), ?_⟩
       refine th_take rfl rfl (by kernel_rfl)  (by first | exact opv_nilCheckE rfl | exact opv_nilCheck rfl) ?_
       refine th_take rfl rfl (by kernel_rfl)  (by first | exact opv_fieldAddr rfl rfl | exact opv_fieldAddrE rfl (by assumption) (by omega) rfl | exact opv_fieldAddrR rfl (by omega) rfl | exact opv_fieldAddrP rfl rfl rfl) ?_
       refine th_take rfl rfl (by kernel_rfl)  (by first | exact opv_fieldAddr rfl rfl | exact opv_fieldAddrE rfl (by assumption) (by omega) rfl | exact opv_fieldAddrR rfl (by omega) rfl | exact opv_fieldAddrP rfl rfl rfl) ?_
       refine th_one (by kernel_rfl) (step_m rfl rfl (opg_store rfl rfl rfl rfl rfl rfl) ?_)
       rintro _ _ _ ⟨rfl, rfl⟩
       refine ⟨Suf.h, (by first | exact fun _ h => h | assumption | exact fun _ h => (by assumption : _ ⊆ _) ((by assumption : _ ⊆ _) h)), ?_⟩
       refine th_done (by kernel_rfl) ?_
       exact tri_drop (tri_drop (tri_cutEnd _ ⟨ao', aw', co', cw', rfl, rfl, rfl⟩ ⟨rfl, rfl, rfl, trivial⟩))
    ·refine (step_m rfl rfl (OpV.toG (by first | exact opv_load1 rfl rfl rfl | exact opv_loadA rfl rfl rfl | exact opv_loadE1 rfl (by assumption) rfl (by omega) rfl rfl | exact opv_loadEA rfl (by assumption) rfl (by omega) rfl rfl | exact opv_loadRX1 rfl rfl (by omega) rfl rfl | exact opv_loadRXA rfl rfl (by omega) rfl rfl rfl | exact opv_loadIX rfl rfl (by omega) | exact opv_loadR1 rfl rfl rfl | exact opv_loadRA rfl rfl rfl rfl)) ?_)
     rintro _ _ _ ⟨rfl, rfl, rfl⟩
     refine ⟨Suf.h, (by first | exact fun _ h => h | assumption | exact fun _ h => (by assumption : _ ⊆ _) ((by assumption : _ ⊆ _) h)), ?_⟩
     refine th_two (j := 16) [6, 9, 17, 18, 19, 20, 21, 22, 23, 24, 25] (by kernel_rfl) rfl ?_ ?_
     ·refine (step_m rfl rfl (OpV.toG (by first | exact opv_load1 rfl rfl rfl | exact opv_loadA rfl rfl rfl | exact opv_loadE1 rfl (by assumption) rfl (by omega) rfl rfl | exact opv_loadEA rfl (by assumption) rfl (by omega) rfl rfl | exact opv_loadRX1 rfl rfl (by omega) rfl rfl | exact opv_loadRXA rfl rfl (by omega) rfl rfl rfl | exact opv_loadIX rfl rfl (by omega) | exact opv_loadR1 rfl rfl rfl | exact opv_loadRA rfl rfl rfl rfl)) ?_)
      rintro _ _ _ ⟨rfl, rfl, rfl⟩
      refine ⟨Suf.h, (by first | exact fun _ h => h | assumption | exact fun _ h => (by assumption : _ ⊆ _) ((by assumption : _ ⊆ _) h)), ?_⟩
      refine th_two (j := 16) [9, 17, 18, 19, 20, 21, 22, 23, 24, 25] (by kernel_rfl) rfl ?_ ?_
      ·refine (step_m rfl rfl (opg_appendB rfl rfl rfl rfl (by omega) rfl) ?_)
       rintro _ _ _ ⟨ao', co', rfl, rfl, rfl⟩
       refine ⟨Suf.h, (by first | exact fun _ h => h | assumption | exact fun _ h => (by assumption : _ ⊆ _) ((by assumption : _ ⊆ _) h)), ?_⟩
       refine th_one (by kernel_rfl) (step_m rfl rfl (opg_buildSlice rfl rfl rfl rfl) ?_)
       rintro _ _ _ ⟨b35, rfl, rfl, rfl⟩
       refine ⟨Suf.h, (by first | exact fun _ h => h | assumption | exact fun _ h => (by assumption : _ ⊆ _) ((by assumption : _ ⊆ _) h)), ?_⟩
       refine th_one (by kernel_rfl) (step_m rfl rfl (opg_appendB rfl rfl rfl rfl (by omega) rfl) ?_)
       rintro _ _ _ ⟨aw', cw', rfl, rfl, rfl⟩
       refine ⟨Suf.h, (by first | exact fun _ h => h | assumption | exact fun _ h => (by assumption : _ ⊆ _) ((by assumption : _ ⊆ _) h)), ?_⟩
       refine th_take rfl rfl (by kernel_rfl)  (by first | exact opv_nilCheckE rfl | exact opv_nilCheck rfl) ?_
       refine th_take rfl rfl (by kernel_rfl)  (by first | exact opv_fieldAddr rfl rfl | exact opv_fieldAddrE rfl (by assumption) (by omega) rfl | exact opv_fieldAddrR rfl (by omega) rfl | exact opv_fieldAddrP rfl rfl rfl) ?_
       refine th_take rfl rfl (by kernel_rfl)  (by first | exact opv_fieldAddr rfl rfl | exact opv_fieldAddrE rfl (by assumption) (by omega) rfl | exact opv_fieldAddrR rfl (by omega) rfl | exact opv_fieldAddrP rfl rfl rfl) ?_
       refine th_one (by kernel_rfl) (step_m rfl rfl (opg_store rfl rfl rfl rfl rfl rfl) ?_)
       rintro _ _ _ ⟨rfl, rfl⟩
       refine ⟨Suf.h, (by first | exact fun _ h => h | assumption | exact fun _ h => (by assumption : _ ⊆ _) ((by assumption : _ ⊆ _) h)), ?_⟩
       refine th_take rfl rfl (by kernel_rfl)  (by first | exact opv_nilCheckE rfl | exact opv_nilCheck rfl) ?_
       refine th_take rfl rfl (by kernel_rfl)  (by first | exact opv_fieldAddr rfl rfl | exact opv_fieldAddrE rfl (by assumption) (by omega) rfl | exact opv_fieldAddrR rfl (by omega) rfl | exact opv_fieldAddrP rfl rfl rfl) ?_
       refine th_take rfl rfl (by kernel_rfl)  (by first | exact opv_fieldAddr rfl rfl | exact opv_fieldAddrE rfl (by assumption) (by omega) rfl | exact opv_fieldAddrR rfl (by omega) rfl | exact opv_fieldAddrP rfl rfl rfl) ?_
       refine th_one (by kernel_rfl) (step_m rfl rfl (opg_store rfl rfl rfl rfl rfl rfl) ?_)
       rintro _ _ _ ⟨rfl, rfl⟩
       refine ⟨Suf.h, (by first | exact fun _ h => h | assumption | exact fun _ h => (by assumption : _ ⊆ _) ((by assumption : _ ⊆ _) h)), ?_⟩
       refine th_done (by kernel_rfl) ?_
       exact tri_drop (tri_drop (tri_cutEnd _ ⟨ao', aw', co', cw', rfl, rfl, rfl⟩ ⟨rfl, rfl, rfl, trivial⟩))
      ·refine (step_m rfl rfl (opg_buildSlice rfl rfl rfl rfl) ?_)
       rintro _ _ _ ⟨b35, rfl, rfl, rfl⟩
       refine ⟨Suf.h, (by first | exact fun _ h => h | assumption | exact fun _ h => (by assumption : _ ⊆ _) ((by assumption : _ ⊆ _) h)), ?_⟩
       refine th_one (by kernel_rfl) (step_m rfl rfl (opg_appendB rfl rfl rfl rfl (by omega) rfl) ?_)
       rintro _ _ _ ⟨ao', co', rfl, rfl, rfl⟩
       refine ⟨Suf.h, (by first | exact fun _ h => h | assumption | exact fun _ h => (by assumption : _ ⊆ _) ((by assumption : _ ⊆ _) h)), ?_⟩
       refine th_one (by kernel_rfl) (step_m rfl rfl (opg_appendB rfl rfl rfl rfl (by omega) rfl) ?_)
       rintro _ _ _ ⟨aw', cw', rfl, rfl, rfl⟩
       refine ⟨Suf.h, (by first | exact fun _ h => h | assumption | exact fun _ h => (by assumption : _ ⊆ _) ((by assumption : _ ⊆ _) h)), ?_⟩
       refine th_take rfl rfl (by kernel_rfl)  (by first | exact opv_nilCheckE rfl | exact opv_nilCheck rfl) ?_
       refine th_take rfl rfl (by kernel_rfl)  (by first | exact opv_fieldAddr rfl rfl | exact opv_fieldAddrE rfl (by assumption) (by omega) rfl | exact opv_fieldAddrR rfl (by omega) rfl | exact opv_fieldAddrP rfl rfl rfl) ?_
       refine th_take rfl rfl (by kernel_rfl)  (by first | exact opv_fieldAddr rfl rfl | exact opv_fieldAddrE rfl (by assumption) (by omega) rfl | exact opv_fieldAddrR rfl (by omega) rfl | exact opv_fieldAddrP rfl rfl rfl) ?_
       refine th_one (by kernel_rfl) (step_m rfl rfl (opg_store rfl rfl rfl rfl rfl rfl) ?_)
       rintro _ _ _ ⟨rfl, rfl⟩
       refine ⟨Suf.h, (by first | exact fun _ h => h | assumption | exact fun _ h => (by assumption : _ ⊆ _) ((by assumption : _ ⊆ _) h)), ?_⟩
       refine th_take rfl rfl (by kernel_rfl)  (by first | exact opv_nilCheckE rfl | exact opv_nilCheck rfl) ?_
       refine th_take rfl rfl (by kernel_rfl)  (by first | exact opv_fieldAddr rfl rfl | exact opv_fieldAddrE rfl (by assumption) (by omega) rfl | exact opv_fieldAddrR rfl (by omega) rfl | exact opv_fieldAddrP rfl rfl rfl) ?_
       refine th_take rfl rfl (by kernel_rfl)  (by first | exact opv_fieldAddr rfl rfl | exact opv_fieldAddrE rfl (by assumption) (by omega) rfl | exact opv_fieldAddrR rfl (by omega) rfl | exact opv_fieldAddrP rfl rfl rfl) ?_
       refine th_one (by kernel_rfl) (step_m rfl rfl (opg_store rfl rfl rfl rfl rfl rfl) ?_)
       rintro _ _ _ ⟨rfl, rfl⟩
       refine ⟨Suf.h, (by first | exact fun _ h => h | assumption | exact fun _ h => (by assumption : _ ⊆ _) ((by assumption : _ ⊆ _) h)), ?_⟩
       refine th_done (by kernel_rfl) ?_
       exact tri_drop (tri_drop (tri_cutEnd _ ⟨ao', aw', co', cw', rfl, rfl, rfl⟩ ⟨rfl, rfl, rfl, trivial⟩))
     ·refine (step_m rfl rfl (opg_buildSlice rfl rfl rfl rfl) ?_)
      rintro _ _ _ ⟨b35, rfl, rfl, rfl⟩
      refine ⟨Suf.h, (by first | exact fun _ h => h | assumption | exact fun _ h => (by assumption : _ ⊆ _) ((by assumption : _ ⊆ _) h)), ?_⟩
      refine th_one (by kernel_rfl) (step_m rfl rfl (OpV.toG (by first | exact opv_load1 rfl rfl rfl | exact opv_loadA rfl rfl rfl | exact opv_loadE1 rfl (by assumption) rfl (by omega) rfl rfl | exact opv_loadEA rfl (by assumption) rfl (by omega) rfl rfl | exact opv_loadRX1 rfl rfl (by omega) rfl rfl | exact opv_loadRXA rfl rfl (by omega) rfl rfl rfl | exact opv_loadIX rfl rfl (by omega) | exact opv_loadR1 rfl rfl rfl | exact opv_loadRA rfl rfl rfl rfl)) ?_)
      rintro _ _ _ ⟨rfl, rfl, rfl⟩
      refine ⟨Suf.h, (by first | exact fun _ h => h | assumption | exact fun _ h => (by assumption : _ ⊆ _) ((by assumption : _ ⊆ _) h)), ?_⟩
      refine th_one (by kernel_rfl) (step_m rfl rfl (opg_appendB rfl rfl rfl rfl (by omega) rfl) ?_)
      rintro _ _ _ ⟨ao', co', rfl, rfl, rfl⟩
      refine ⟨Suf.h, (by first | exact fun _ h => h | assumption | exact fun _ h => (by assumption : _ ⊆ _) ((by assumption : _ ⊆ _) h)), ?_⟩
      refine th_one (by kernel_rfl) (step_m rfl rfl (opg_appendB rfl rfl rfl rfl (by omega) rfl) ?_)
      rintro _ _ _ ⟨aw', cw', rfl, rfl, rfl⟩
      refine ⟨Suf.h, (by first | exact fun _ h => h | assumption | exact fun _ h => (by assumption : _ ⊆ _) ((by assumption : _ ⊆ _) h)), ?_⟩
      refine th_take rfl rfl (by kernel_rfl)  (by first | exact opv_nilCheckE rfl | exact opv_nilCheck rfl) ?_
      refine th_take rfl rfl (by kernel_rfl)  (by first | exact opv_fieldAddr rfl rfl | exact opv_fieldAddrE rfl (by assumption) (by omega) rfl | exact opv_fieldAddrR rfl (by omega) rfl | exact opv_fieldAddrP rfl rfl rfl) ?_
      refine th_take rfl rfl (by kernel_rfl)  (by first | exact opv_fieldAddr rfl rfl | exact opv_fieldAddrE rfl (by assumption) (by omega) rfl | exact opv_fieldAddrR rfl (by omega) rfl | exact opv_fieldAddrP rfl rfl rfl) ?_
      refine th_one (by kernel_rfl) (step_m rfl rfl (opg_store rfl rfl rfl rfl rfl rfl) ?_)
      rintro _ _ _ ⟨rfl, rfl⟩
      refine ⟨Suf.h, (by first | exact fun _ h => h | assumption | exact fun _ h => (by assumption : _ ⊆ _) ((by assumption : _ ⊆ _) h)), ?_⟩
      refine th_take rfl rfl (by kernel_rfl)  (by first | exact opv_nilCheckE rfl | exact opv_nilCheck rfl) ?_
      refine th_take rfl rfl (by kernel_rfl)  (by first | exact opv_fieldAddr rfl rfl | exact opv_fieldAddrE rfl (by assumption) (by omega) rfl | exact opv_fieldAddrR rfl (by omega) rfl | exact opv_fieldAddrP rfl rfl rfl) ?_
      refine th_take rfl rfl (by kernel_rfl)  (by first | exact opv_fieldAddr rfl rfl | exact opv_fieldAddrE rfl (by assumption) (by omega) rfl | exact opv_fieldAddrR rfl (by omega) rfl | exact opv_fieldAddrP rfl rfl rfl) ?_
      refine th_one (by kernel_rfl) (step_m rfl rfl (opg_store rfl rfl rfl rfl rfl rfl) ?_)
      rintro _ _ _ ⟨rfl, rfl⟩
      refine ⟨Suf.h, (by first | exact fun _ h => h | assumption | exact fun _ h => (by assumption : _ ⊆ _) ((by assumption : _ ⊆ _) h)), ?_⟩
      refine th_done (by kernel_rfl) ?_
      exact tri_drop (tri_drop (tri_cutEnd _ ⟨ao', aw', co', cw', rfl, rfl, rfl⟩ ⟨rfl, rfl, rfl, trivial⟩))
    ·refine (step_m rfl rfl (opg_buildSlice rfl rfl rfl rfl) ?_)
     rintro _ _ _ ⟨b35, rfl, rfl, rfl⟩
     refine ⟨Suf.h, (by first | exact fun _ h => h | assumption | exact fun _ h => (by assumption : _ ⊆ _) ((by assumption : _ ⊆ _) h)), ?_⟩
     refine th_two (j := 14) [6, 9, 17, 18, 19, 20, 21, 22, 23, 24, 25] (by kernel_rfl) rfl ?_ ?_
     ·refine (step_m rfl rfl (OpV.toG (by first | exact opv_load1 rfl rfl rfl | exact opv_loadA rfl rfl rfl | exact opv_loadE1 rfl (by assumption) rfl (by omega) rfl rfl | exact opv_loadEA rfl (by assumption) rfl (by omega) rfl rfl | exact opv_loadRX1 rfl rfl (by omega) rfl rfl | exact opv_loadRXA rfl rfl (by omega) rfl rfl rfl | exact opv_loadIX rfl rfl (by omega) | exact opv_loadR1 rfl rfl rfl | exact opv_loadRA rfl rfl rfl rfl)) ?_)
      rintro _ _ _ ⟨rfl, rfl, rfl⟩
      refine ⟨Suf.h, (by first | exact fun _ h => h | assumption | exact fun _ h => (by assumption : _ ⊆ _) ((by assumption : _ ⊆ _) h)), ?_⟩
      refine th_two (j := 14) [9, 17, 18, 19, 20, 21, 22, 23, 24, 25] (by kernel_rfl) rfl ?_ ?_
      ·refine (step_m rfl rfl (opg_appendB rfl rfl rfl rfl (by omega) rfl) ?_)
       rintro _ _ _ ⟨ao', co', rfl, rfl, rfl⟩
       refine ⟨Suf.h, (by first | exact fun _ h => h | assumption | exact fun _ h => (by assumption : _ ⊆ _) ((by assumption : _ ⊆ _) h)), ?_⟩
       refine th_one (by kernel_rfl) (step_m rfl rfl (OpV.toG (by first | exact opv_load1 rfl rfl rfl | exact opv_loadA rfl rfl rfl | exact opv_loadE1 rfl (by assumption) rfl (by omega) rfl rfl | exact opv_loadEA rfl (by assumption) rfl (by omega) rfl rfl | exact opv_loadRX1 rfl rfl (by omega) rfl rfl | exact opv_loadRXA rfl rfl (by omega) rfl rfl rfl | exact opv_loadIX rfl rfl (by omega) | exact opv_loadR1 rfl rfl rfl | exact opv_loadRA rfl rfl rfl rfl)) ?_)
       rintro _ _ _ ⟨rfl, rfl, rfl⟩
       refine ⟨Suf.h, (by first | exact fun _ h => h | assumption | exact fun _ h => (by assumption : _ ⊆ _) ((by assumption : _ ⊆ _) h)), ?_⟩
       refine th_one (by kernel_rfl) (step_m rfl rfl (opg_appendB rfl rfl rfl rfl (by omega) rfl) ?_)
       rintro _ _ _ ⟨aw', cw', rfl, rfl, rfl⟩
       refine ⟨Suf.h, (by first | exact fun _ h => h | assumption | exact fun _ h => (by assumption : _ ⊆ _) ((by assumption : _ ⊆ _) h)), ?_⟩
       refine th_take rfl rfl (by kernel_rfl)  (by first | exact opv_nilCheckE rfl | exact opv_nilCheck rfl) ?_
       refine th_take rfl rfl (by kernel_rfl)  (by first | exact opv_fieldAddr rfl rfl | exact opv_fieldAddrE rfl (by assumption) (by omega) rfl | exact opv_fieldAddrR rfl (by omega) rfl | exact opv_fieldAddrP rfl rfl rfl) ?_
       refine th_take rfl rfl (by kernel_rfl)  (by first | exact opv_fieldAddr rfl rfl | exact opv_fieldAddrE rfl (by assumption) (by omega) rfl | exact opv_fieldAddrR rfl (by omega) rfl | exact opv_fieldAddrP rfl rfl rfl) ?_
       refine th_one (by kernel_rfl) (step_m rfl rfl (opg_store rfl rfl rfl rfl rfl rfl) ?_)
       rintro _ _ _ ⟨rfl, rfl⟩
       refine ⟨Suf.h, (by first | exact fun _ h => h | assumption | exact fun _ h => (by assumption : _ ⊆ _) ((by assumption : _ ⊆ _) h)), ?_⟩
       refine th_take rfl rfl (by kernel_rfl)  (by first | exact opv_nilCheckE rfl | exact opv_nilCheck rfl) ?_
       refine th_take rfl rfl (by kernel_rfl)  (by first | exact opv_fieldAddr rfl rfl | exact opv_fieldAddrE rfl (by assumption) (by omega) rfl | exact opv_fieldAddrR rfl (by omega) rfl | exact opv_fieldAddrP rfl rfl rfl) ?_
       refine th_take rfl rfl (by kernel_rfl)  (by first | exact opv_fieldAddr rfl rfl | exact opv_fieldAddrE rfl (by assumption) (by omega) rfl | exact opv_fieldAddrR rfl (by omega) rfl | exact opv_fieldAddrP rfl rfl rfl) ?_
       refine th_one (by kernel_rfl) (step_m rfl rfl (opg_store rfl rfl rfl rfl rfl rfl) ?_)
       rintro _ _ _ ⟨rfl, rfl⟩
       refine ⟨Suf.h, (by first | exact fun _ h => h | assumption | exact fun _ h => (by assumption : _ ⊆ _) ((by assumption : _ ⊆ _) h)), ?_⟩
       refine th_done (by kernel_rfl) ?_
       exact tri_drop (tri_drop (tri_cutEnd _ ⟨ao', aw', co', cw', rfl, rfl, rfl⟩ ⟨rfl, rfl, rfl, trivial⟩))
      ·refine (step_m rfl rfl (OpV.toG (by first | exact opv_load1 rfl rfl rfl | exact opv_loadA rfl rfl rfl | exact opv_loadE1 rfl (by assumption) rfl (by omega) rfl rfl | exact opv_loadEA rfl (by assumption) rfl (by omega) rfl rfl | exact opv_loadRX1 rfl rfl (by omega) rfl rfl | exact opv_loadRXA rfl rfl (by omega) rfl rfl rfl | exact opv_loadIX rfl rfl (by omega) | exact opv_loadR1 rfl rfl rfl | exact opv_loadRA rfl rfl rfl rfl)) ?_)
       rintro _ _ _ ⟨rfl, rfl, rfl⟩
       refine ⟨Suf.h, (by first | exact fun _ h => h | assumption | exact fun _ h => (by assumption : _ ⊆ _) ((by assumption : _ ⊆ _) h)), ?_⟩
       refine th_one (by kernel_rfl) (step_m rfl rfl (opg_appendB rfl rfl rfl rfl (by omega) rfl) ?_)
       rintro _ _ _ ⟨ao', co', rfl, rfl, rfl⟩
       refine ⟨Suf.h, (by first | exact fun _ h => h | assumption | exact fun _ h => (by assumption : _ ⊆ _) ((by assumption : _ ⊆ _) h)), ?_⟩
       refine th_one (by kernel_rfl) (step_m rfl rfl (opg_appendB rfl rfl rfl rfl (by omega) rfl) ?_)
       rintro _ _ _ ⟨aw', cw', rfl, rfl, rfl⟩
       refine ⟨Suf.h, (by first | exact fun _ h => h | assumption | exact fun _ h => (by assumption : _ ⊆ _) ((by assumption : _ ⊆ _) h)), ?_⟩
       refine th_take rfl rfl (by kernel_rfl)  (by first | exact opv_nilCheckE rfl | exact opv_nilCheck rfl) ?_
       refine th_take rfl rfl (by kernel_rfl)  (by first | exact opv_fieldAddr rfl rfl | exact opv_fieldAddrE rfl (by assumption) (by omega) rfl | exact opv_fieldAddrR rfl (by omega) rfl | exact opv_fieldAddrP rfl rfl rfl) ?_
       refine th_take rfl rfl (by kernel_rfl)  (by first | exact opv_fieldAddr rfl rfl | exact opv_fieldAddrE rfl (by assumption) (by omega) rfl | exact opv_fieldAddrR rfl (by omega) rfl | exact opv_fieldAddrP rfl rfl rfl) ?_
       refine th_one (by kernel_rfl) (step_m rfl rfl (opg_store rfl rfl rfl rfl rfl rfl) ?_)
       rintro _ _ _ ⟨rfl, rfl⟩
       refine ⟨Suf.h, (by first | exact fun _ h => h | assumption | exact fun _ h => (by assumption : _ ⊆ _) ((by assumption : _ ⊆ _) h)), ?_⟩
       refine th_take rfl rfl (by kernel_rfl)  (by first | exact opv_nilCheckE rfl | exact opv_nilCheck rfl) ?_
       refine th_take rfl rfl (by kernel_rfl)  (by first | exact opv_fieldAddr rfl rfl | exact opv_fieldAddrE rfl (by assumption) (by omega) rfl | exact opv_fieldAddrR rfl (by omega) rfl | exact opv_fieldAddrP rfl rfl rfl) ?_
       refine th_take rfl rfl (by kernel_rfl)  (by first | exact opv_fieldAddr rfl rfl | exact opv_fieldAddrE rfl (by assumption) (by omega) rfl | exact opv_fieldAddrR rfl (by omega) rfl | exact opv_fieldAddrP rfl rfl rfl) ?_
       refine th_one (by kernel_rfl) (step_m rfl rfl (opg_store rfl rfl rfl rfl rfl rfl) ?_)
       rintro _ _ _ ⟨rfl, rfl⟩
       refine ⟨Suf.h, (by first | exact fun _ h => h | assumption | exact fun _ h => (by assumption : _ ⊆ _) ((by assumption : _ ⊆ _) h)), ?_⟩
       refine th_done (by kernel_rfl) ?_
       exact tri_drop (tri_drop (tri_cutEnd _ ⟨ao', aw', co', cw', rfl, rfl, rfl⟩ ⟨rfl, rfl, rfl, trivial⟩))
     ·refine (step_m rfl rfl (OpV.toG (by first | exact opv_load1 rfl rfl rfl | exact opv_loadA rfl rfl rfl | exact opv_loadE1 rfl (by assumption) rfl (by omega) rfl rfl | exact opv_loadEA rfl (by assumption) rfl (by omega) rfl rfl | exact opv_loadRX1 rfl rfl (by omega) rfl rfl | exact opv_loadRXA rfl rfl (by omega) rfl rfl rfl | exact opv_loadIX rfl rfl (by omega) | exact opv_loadR1 rfl rfl rfl | exact opv_loadRA rfl rfl rfl rfl)) ?_)
      rintro _ _ _ ⟨rfl, rfl, rfl⟩
      refine ⟨Suf.h, (by first | exact fun _ h => h | assumption | exact fun _ h => (by assumption : _ ⊆ _) ((by assumption : _ ⊆ _) h)), ?_⟩
      refine th_one (by kernel_rfl) (step_m rfl rfl (OpV.toG (by first | exact opv_load1 rfl rfl rfl | exact opv_loadA rfl rfl rfl | exact opv_loadE1 rfl (by assumption) rfl (by omega) rfl rfl | exact opv_loadEA rfl (by assumption) rfl (by omega) rfl rfl | exact opv_loadRX1 rfl rfl (by omega) rfl rfl | exact opv_loadRXA rfl rfl (by omega) rfl rfl rfl | exact opv_loadIX rfl rfl (by omega) | exact opv_loadR1 rfl rfl rfl | exact opv_loadRA rfl rfl rfl rfl)) ?_)
      rintro _ _ _ ⟨rfl, rfl, rfl⟩
      refine ⟨Suf.h, (by first | exact fun _ h => h | assumption | exact fun _ h => (by assumption : _ ⊆ _) ((by assumption : _ ⊆ _) h)), ?_⟩
      refine th_one (by kernel_rfl) (step_m rfl rfl (opg_appendB rfl rfl rfl rfl (by omega) rfl) ?_)
      rintro _ _ _ ⟨ao', co', rfl, rfl, rfl⟩
      refine ⟨Suf.h, (by first | exact fun _ h => h | assumption | exact fun _ h => (by assumption : _ ⊆ _) ((by assumption : _ ⊆ _) h)), ?_⟩
      refine th_one (by kernel_rfl) (step_m rfl rfl (opg_appendB rfl rfl rfl rfl (by omega) rfl) ?_)
      rintro _ _ _ ⟨aw', cw', rfl, rfl, rfl⟩
      refine ⟨Suf.h, (by first | exact fun _ h => h | assumption | exact fun _ h => (by assumption : _ ⊆ _) ((by assumption : _ ⊆ _) h)), ?_⟩
      refine th_take rfl rfl (by kernel_rfl)  (by first | exact opv_nilCheckE rfl | exact opv_nilCheck rfl) ?_
      refine th_take rfl rfl (by kernel_rfl)  (by first | exact opv_fieldAddr rfl rfl | exact opv_fieldAddrE rfl (by assumption) (by omega) rfl | exact opv_fieldAddrR rfl (by omega) rfl | exact opv_fieldAddrP rfl rfl rfl) ?_
      refine th_take rfl rfl (by kernel_rfl)  (by first | exact opv_fieldAddr rfl rfl | exact opv_fieldAddrE rfl (by assumption) (by omega) rfl | exact opv_fieldAddrR rfl (by omega) rfl | exact opv_fieldAddrP rfl rfl rfl) ?_
      refine th_one (by kernel_rfl) (step_m rfl rfl (opg_store rfl rfl rfl rfl rfl rfl) ?_)
      rintro _ _ _ ⟨rfl, rfl⟩
      refine ⟨Suf.h, (by first | exact fun _ h => h | assumption | exact fun _ h => (by assumption : _ ⊆ _) ((by assumption : _ ⊆ _) h)), ?_⟩
      refine th_take rfl rfl (by kernel_rfl)  (by first | exact opv_nilCheckE rfl | exact opv_nilCheck rfl) ?_
      refine th_take rfl rfl (by kernel_rfl)  (by first | exact opv_fieldAddr rfl rfl | exact opv_fieldAddrE rfl (by assumption) (by omega) rfl | exact opv_fieldAddrR rfl (by omega) rfl | exact opv_fieldAddrP rfl rfl rfl) ?_
      refine th_take rfl rfl (by kernel_rfl)  (by first | exact opv_fieldAddr rfl rfl | exact opv_fieldAddrE rfl (by assumption) (by omega) rfl | exact opv_fieldAddrR rfl (by omega) rfl | exact opv_fieldAddrP rfl rfl rfl) ?_
      refine th_one (by kernel_rfl) (step_m rfl rfl (opg_store rfl rfl rfl rfl rfl rfl) ?_)
      rintro _ _ _ ⟨rfl, rfl⟩
      refine ⟨Suf.h, (by first | exact fun _ h => h | assumption | exact fun _ h => (by assumption : _ ⊆ _) ((by assumption : _ ⊆ _) h)), ?_⟩
      refine th_done (by kernel_rfl) ?_
      exact tri_drop (tri_drop (tri_cutEnd _ ⟨ao', aw', co', cw', rfl, rfl, rfl⟩ ⟨rfl, rfl, rfl, trivial⟩))
   ·refine (step_m rfl rfl (OpV.toG (by first | exact opv_load1 rfl rfl rfl | exact opv_loadA rfl rfl rfl | exact opv_loadE1 rfl (by assumption) rfl (by omega) rfl rfl | exact opv_loadEA rfl (by assumption) rfl (by omega) rfl rfl | exact opv_loadRX1 rfl rfl (by omega) rfl rfl | exact opv_loadRXA rfl rfl (by omega) rfl rfl rfl | exact opv_loadIX rfl rfl (by omega) | exact opv_loadR1 rfl rfl rfl | exact opv_loadRA rfl rfl rfl rfl)) ?_)
    rintro _ _ _ ⟨rfl, rfl, rfl⟩
    refine ⟨Suf.h, (by first | exact fun _ h => h | assumption | exact fun _ h => (by assumption : _ ⊆ _) ((by assumption : _ ⊆ _) h)), ?_⟩
    refine th_many [(8, [6, 9, 16, 17, 18, 19, 20, 21, 22, 23, 24, 25]), (16, [6, 8, 9, 17, 18, 19, 20, 21, 22, 23, 24, 25])] (by kernel_rfl) rfl ?_ ⟨?_, ?_, trivial⟩
    ·refine (step_m rfl rfl (OpV.toG (by first | exact opv_load1 rfl rfl rfl | exact opv_loadA rfl rfl rfl | exact opv_loadE1 rfl (by assumption) rfl (by omega) rfl rfl | exact opv_loadEA rfl (by assumption) rfl (by omega) rfl rfl | exact opv_loadRX1 rfl rfl (by omega) rfl rfl | exact opv_loadRXA rfl rfl (by omega) rfl rfl rfl | exact opv_loadIX rfl rfl (by omega) | exact opv_loadR1 rfl rfl rfl | exact opv_loadRA rfl rfl rfl rfl)) ?_)
     rintro _ _ _ ⟨rfl, rfl, rfl⟩
     refine ⟨Suf.h, (by first | exact fun _ h => h | assumption | exact fun _ h => (by assumption : _ ⊆ _) ((by assumption : _ ⊆ _) h)), ?_⟩
     refine th_two (j := 16) [8, 9, 17, 18, 19, 20, 21, 22, 23, 24, 25] (by kernel_rfl) rfl ?_ ?_
     ·refine (step_m rfl rfl (opg_buildSlice rfl rfl rfl rfl) ?_)
      rintro _ _ _ ⟨b27, rfl, rfl, rfl⟩
      refine ⟨Suf.h, (by first | exact fun _ h => h | assumption | exact fun _ h => (by assumption : _ ⊆ _) ((by assumption : _ ⊆ _) h)), ?_⟩
      refine th_two (j := 16) [9, 17, 18, 19, 20, 21, 22, 23, 24, 25] (by kernel_rfl) rfl ?_ ?_
      ·refine (step_m rfl rfl (opg_appendB rfl rfl rfl rfl (by omega) rfl) ?_)
       rintro _ _ _ ⟨ao', co', rfl, rfl, rfl⟩
       refine ⟨Suf.h, (by first | exact fun _ h => h | assumption | exact fun _ h => (by assumption : _ ⊆ _) ((by assumption : _ ⊆ _) h)), ?_⟩
       refine th_one (by kernel_rfl) (step_m rfl rfl (opg_buildSlice rfl rfl rfl rfl) ?_)
       rintro _ _ _ ⟨b35, rfl, rfl, rfl⟩
       refine ⟨Suf.h, (by first | exact fun _ h => h | assumption | exact fun _ h => (by assumption : _ ⊆ _) ((by assumption : _ ⊆ _) h)), ?_⟩
       refine th_one (by kernel_rfl) (step_m rfl rfl (opg_appendB rfl rfl rfl rfl (by omega) rfl) ?_)
       rintro _ _ _ ⟨aw', cw', rfl, rfl, rfl⟩
       refine ⟨Suf.h, (by first | exact fun _ h => h | assumption | exact fun _ h => (by assumption : _ ⊆ _) ((by assumption : _ ⊆ _) h)), ?_⟩
       refine th_take rfl rfl (by kernel_rfl)  (by first | exact opv_nilCheckE rfl | exact opv_nilCheck rfl) ?_
       refine th_take rfl rfl (by kernel_rfl)  (by first | exact opv_fieldAddr rfl rfl | exact opv_fieldAddrE rfl (by assumption) (by omega) rfl | exact opv_fieldAddrR rfl (by omega) rfl | exact opv_fieldAddrP rfl rfl rfl) ?_
       refine th_take rfl rfl (by kernel_rfl)  (by first | exact opv_fieldAddr rfl rfl | exact opv_fieldAddrE rfl (by assumption) (by omega) rfl | exact opv_fieldAddrR rfl (by omega) rfl | exact opv_fieldAddrP rfl rfl rfl) ?_
       refine th_one (by kernel_rfl) (step_m rfl rfl (opg_store rfl rfl rfl rfl rfl rfl) ?_)
       rintro _ _ _ ⟨rfl, rfl⟩
       refine ⟨Suf.h, (by first | exact fun _ h => h | assumption | exact fun _ h => (by assumption : _ ⊆ _) ((by assumption : _ ⊆ _) h)), ?_⟩
       refine th_take rfl rfl (by kernel_rfl)  (by first | exact opv_nilCheckE rfl | exact opv_nilCheck rfl) ?_
       refine th_take rfl rfl (by kernel_rfl)  (by first | exact opv_fieldAddr rfl rfl | exact opv_fieldAddrE rfl (by assumption) (by omega) rfl | exact opv_fieldAddrR rfl (by omega) rfl | exact opv_fieldAddrP rfl rfl rfl) ?_
       refine th_take rfl rfl (by kernel_rfl)  (by first | exact opv_fieldAddr rfl rfl | exact opv_fieldAddrE rfl (by assumption) (by omega) rfl | exact opv_fieldAddrR rfl (by omega) rfl | exact opv_fieldAddrP rfl rfl rfl) ?_
       refine th_one (by kernel_rfl) (step_m rfl rfl (opg_store rfl rfl rfl rfl rfl rfl) ?_)
       rintro _ _ _ ⟨rfl, rfl⟩
       refine ⟨Suf.h, (by first | exact fun _ h => h | assumption | exact fun _ h => (by assumption : _ ⊆ _) ((by assumption : _ ⊆ _) h)), ?_⟩
       refine th_done (by kernel_rfl) ?_
       exact tri_drop (tri_drop (tri_cutEnd _ ⟨ao', aw', co', cw', rfl, rfl, rfl⟩ ⟨rfl, rfl, rfl, trivial⟩))
      ·refine (step_m rfl rfl (opg_buildSlice rfl rfl rfl rfl) ?_)
       rintro _ _ _ ⟨b35, rfl, rfl, rfl⟩
       refine ⟨Suf.h, (by first | exact fun _ h => h | assumption | exact fun _ h => (by assumption : _ ⊆ _) ((by assumption : _ ⊆ _) h)), ?_⟩
       refine th_one (by kernel_rfl) (step_m rfl rfl (opg_appendB rfl rfl rfl rfl (by omega) rfl) ?_)
       rintro _ _ _ ⟨ao', co', rfl, rfl, rfl⟩
       refine ⟨Suf.h, (by first | exact fun _ h => h | assumption | exact fun _ h => (by assumption : _ ⊆ _) ((by assumption : _ ⊆ _) h)), ?_⟩
       refine th_one (by kernel_rfl) (step_m rfl rfl (opg_appendB rfl rfl rfl rfl (by omega) rfl) ?_)
       rintro _ _ _ ⟨aw', cw', rfl, rfl, rfl⟩
       refine ⟨Suf.h, (by first | exact fun _ h => h | assumption | exact fun _ h => (by assumption : _ ⊆ _) ((by assumption : _ ⊆ _) h)), ?_⟩
       refine th_take rfl rfl (by kernel_rfl)  (by first | exact opv_nilCheckE rfl | exact opv_nilCheck rfl) ?_
       refine th_take rfl rfl (by kernel_rfl)  (by first | exact opv_fieldAddr rfl rfl | exact opv_fieldAddrE rfl (by assumption) (by omega) rfl | exact opv_fieldAddrR rfl (by omega) rfl | exact opv_fieldAddrP rfl rfl rfl) ?_
       refine th_take rfl rfl (by kernel_rfl)  (by first | exact opv_fieldAddr rfl rfl | exact opv_fieldAddrE rfl (by assumption) (by omega) rfl | exact opv_fieldAddrR rfl (by omega) rfl | exact opv_fieldAddrP rfl rfl rfl) ?_
       refine th_one (by kernel_rfl) (step_m rfl rfl (opg_store rfl rfl rfl rfl rfl rfl) ?_)
       rintro _ _ _ ⟨rfl, rfl⟩
       refine ⟨Suf.h, (by first | exact fun _ h => h | assumption | exact fun _ h => (by assumption : _ ⊆ _) ((by assumption : _ ⊆ _) h)), ?_⟩
       refine th_take rfl rfl (by kernel_rfl)  (by first | exact opv_nilCheckE rfl | exact opv_nilCheck rfl) ?_
       refine th_take rfl rfl (by kernel_rfl)  (by first | exact opv_fieldAddr rfl rfl | exact opv_fieldAddrE rfl (by assumption) (by omega) rfl | exact opv_fieldAddrR rfl (by omega) rfl | exact opv_fieldAddrP rfl rfl rfl) ?_
       refine th_take rfl rfl (by kernel_rfl)  (by first | exact opv_fieldAddr rfl rfl | exact opv_fieldAddrE rfl (by assumption) (by omega) rfl | exact opv_fieldAddrR rfl (by omega) rfl | exact opv_fieldAddrP rfl rfl rfl) ?_
       refine th_one (by kernel_rfl) (step_m rfl rfl (opg_store rfl rfl rfl rfl rfl rfl) ?_)
       rintro _ _ _ ⟨rfl, rfl⟩
       refine ⟨Suf.h, (by first | exact fun _ h => h | assumption | exact fun _ h => (by assumption : _ ⊆ _) ((by assumption : _ ⊆ _) h)), ?_⟩
       refine th_done (by kernel_rfl) ?_
       exact tri_drop (tri_drop (tri_cutEnd _ ⟨ao', aw', co', cw', rfl, rfl, rfl⟩ ⟨rfl, rfl, rfl, trivial⟩))
     ·refine (step_m rfl rfl (opg_buildSlice rfl rfl rfl rfl) ?_)
      rintro _ _ _ ⟨b35, rfl, rfl, rfl⟩
      refine ⟨Suf.h, (by first | exact fun _ h => h | assumption | exact fun _ h => (by assumption : _ ⊆ _) ((by assumption : _ ⊆ _) h)), ?_⟩
      refine th_one (by kernel_rfl) (step_m rfl rfl (opg_buildSlice rfl rfl rfl rfl) ?_)
      rintro _ _ _ ⟨b27, rfl, rfl, rfl⟩
      refine ⟨Suf.h, (by first | exact fun _ h => h | assumption | exact fun _ h => (by assumption : _ ⊆ _) ((by assumption : _ ⊆ _) h)), ?_⟩
      refine th_one (by kernel_rfl) (step_m rfl rfl (opg_appendB rfl rfl rfl rfl (by omega) rfl) ?_)
      rintro _ _ _ ⟨ao', co', rfl, rfl, rfl⟩
      refine ⟨Suf.h, (by first | exact fun _ h => h | assumption | exact fun _ h => (by assumption : _ ⊆ _) ((by assumption : _ ⊆ _) h)), ?_⟩
      refine th_one (by kernel_rfl) (step_m rfl rfl (opg_appendB rfl rfl rfl rfl (by omega) rfl) ?_)
      rintro _ _ _ ⟨aw', cw', rfl, rfl, rfl⟩
      refine ⟨Suf.h, (by first | exact fun _ h => h | assumption | exact fun _ h => (by assumption : _ ⊆ _) ((by assumption : _ ⊆ _) h)), ?_⟩
      refine th_take rfl rfl (by kernel_rfl)  (by first | exact opv_nilCheckE rfl | exact opv_nilCheck rfl) ?_
      refine th_take rfl rfl (by kernel_rfl)  (by first | exact opv_fieldAddr rfl rfl | exact opv_fieldAddrE rfl (by assumption) (by omega) rfl | exact opv_fieldAddrR rfl (by omega) rfl | exact opv_fieldAddrP rfl rfl rfl) ?_
      refine th_take rfl rfl (by kernel_rfl)  (by first | exact opv_fieldAddr rfl rfl | exact opv_fieldAddrE rfl (by assumption) (by omega) rfl | exact opv_fieldAddrR rfl (by omega) rfl | exact opv_fieldAddrP rfl rfl rfl) ?_
      refine th_one (by kernel_rfl) (step_m rfl rfl (opg_store rfl rfl rfl rfl rfl rfl) ?_)
      rintro _ _ _ ⟨rfl, rfl⟩
      refine ⟨Suf.h, (by first | exact fun _ h => h | assumption | exact fun _ h => (by assumption : _ ⊆ _) ((by assumption : _ ⊆ _) h)), ?_⟩
      refine th_take rfl rfl (by kernel_rfl)  (by first | exact opv_nilCheckE rfl | exact opv_nilCheck rfl) ?_
      refine th_take rfl rfl (by kernel_rfl)  (by first | exact opv_fieldAddr rfl rfl | exact opv_fieldAddrE rfl (by assumption) (by omega) rfl | exact opv_fieldAddrR rfl (by omega) rfl | exact opv_fieldAddrP rfl rfl rfl) ?_
      refine th_take rfl rfl (by kernel_rfl)  (by first | exact opv_fieldAddr rfl rfl | exact opv_fieldAddrE rfl (by assumption) (by omega) rfl | exact opv_fieldAddrR rfl (by omega) rfl | exact opv_fieldAddrP rfl rfl rfl) ?_
      refine th_one (by kernel_rfl) (step_m rfl rfl (opg_store rfl rfl rfl rfl rfl rfl) ?_)
      rintro _ _ _ ⟨rfl, rfl⟩
      refine ⟨Suf.h, (by first | exact fun _ h => h | assumption | exact fun _ h => (by assumption : _ ⊆ _) ((by assumption : _ ⊆ _) h)), ?_⟩
      refine th_done (by kernel_rfl) ?_
      exact tri_drop (tri_drop (tri_cutEnd _ ⟨ao', aw', co', cw', rfl, rfl, rfl⟩ ⟨rfl, rfl, rfl, trivial⟩))
    ·refine (step_m rfl rfl (opg_buildSlice rfl rfl rfl rfl) ?_)
     rintro _ _ _ ⟨b27, rfl, rfl, rfl⟩
     refine ⟨Suf.h, (by first | exact fun _ h => h | assumption | exact fun _ h => (by assumption : _ ⊆ _) ((by assumption : _ ⊆ _) h)), ?_⟩
     refine th_two (j := 16) [6, 9, 17, 18, 19, 20, 21, 22, 23, 24, 25] (by kernel_rfl) rfl ?_ ?_
     ·refine (step_m rfl rfl (OpV.toG (by first | exact opv_load1 rfl rfl rfl | exact opv_loadA rfl rfl rfl | exact opv_loadE1 rfl (by assumption) rfl (by omega) rfl rfl | exact opv_loadEA rfl (by assumption) rfl (by omega) rfl rfl | exact opv_loadRX1 rfl rfl (by omega) rfl rfl | exact opv_loadRXA rfl rfl (by omega) rfl rfl rfl | exact opv_loadIX rfl rfl (by omega) | exact opv_loadR1 rfl rfl rfl | exact opv_loadRA rfl rfl rfl rfl)) ?_)
      rintro _ _ _ ⟨rfl, rfl, rfl⟩
      refine ⟨Suf.h, (by first | exact fun _ h => h | assumption | exact fun _ h => (by assumption : _ ⊆ _) ((by assumption : _ ⊆ _) h)), ?_⟩
      refine th_two (j := 16) [9, 17, 18, 19, 20, 21, 22, 23, 24, 25] (by kernel_rfl) rfl ?_ ?_
      ·refine (step_m rfl rfl (opg_appendB rfl rfl rfl rfl (by omega) rfl) ?_)
       rintro _ _ _ ⟨ao', co', rfl, rfl, rfl⟩
       refine ⟨Suf.h, (by first | exact fun _ h => h | assumption | exact fun _ h => (by assumption : _ ⊆ _) ((by assumption : _ ⊆ _) h)), ?_⟩
       refine th_one (by kernel_rfl) (step_m rfl rfl (opg_buildSlice rfl rfl rfl rfl) ?_)
       rintro _ _ _ ⟨b35, rfl, rfl, rfl⟩
       refine ⟨Suf.h, (by first | exact fun _ h => h | assumption | exact fun _ h => (by assumption : _ ⊆ _) ((by assumption : _ ⊆ _) h)), ?_⟩
       refine th_one (by kernel_rfl) (step_m rfl rfl (opg_appendB rfl rfl rfl rfl (by omega) rfl) ?_)
       rintro _ _ _ ⟨aw', cw', rfl, rfl, rfl⟩
       refine ⟨Suf.h, (by first | exact fun _ h => h | assumption | exact fun _ h => (by assumption : _ ⊆ _) ((by assumption : _ ⊆ _) h)), ?_⟩
       refine th_take rfl rfl (by kernel_rfl)  (by first | exact opv_nilCheckE rfl | exact opv_nilCheck rfl) ?_
       refine th_take rfl rfl (by kernel_rfl)  (by first | exact opv_fieldAddr rfl rfl | exact opv_fieldAddrE rfl (by assumption) (by omega) rfl | exact opv_fieldAddrR rfl (by omega) rfl | exact opv_fieldAddrP rfl rfl rfl) ?_
       refine th_take rfl rfl (by kernel_rfl)  (by first | exact opv_fieldAddr rfl rfl | exact opv_fieldAddrE rfl (by assumption) (by omega) rfl | exact opv_fieldAddrR rfl (by omega) rfl | exact opv_fieldAddrP rfl rfl rfl) ?_
       refine th_one (by kernel_rfl) (step_m rfl rfl (opg_store rfl rfl rfl rfl rfl rfl) ?_)
       rintro _ _ _ ⟨rfl, rfl⟩
       refine ⟨Suf.h, (by first | exact fun _ h => h | assumption | exact fun _ h => (by assumption : _ ⊆ _) ((by assumption : _ ⊆ _) h)), ?_⟩
       refine th_take rfl rfl (by kernel_rfl)  (by first | exact opv_nilCheckE rfl | exact opv_nilCheck rfl) ?_
       refine th_take rfl rfl (by kernel_rfl)  (by first | exact opv_fieldAddr rfl rfl | exact opv_fieldAddrE rfl (by assumption) (by omega) rfl | exact opv_fieldAddrR rfl (by omega) rfl | exact opv_fieldAddrP rfl rfl rfl) ?_
       refine th_take rfl rfl (by kernel_rfl)  (by first | exact opv_fieldAddr rfl rfl | exact opv_fieldAddrE rfl (by assumption) (by omega) rfl | exact opv_fieldAddrR rfl (by omega) rfl | exact opv_fieldAddrP rfl rfl rfl) ?_
       refine th_one (by kernel_rfl) (step_m rfl rfl (opg_store rfl rfl rfl rfl rfl rfl) ?_)
       rintro _ _ _ ⟨rfl, rfl⟩
       refine ⟨Suf.h, (by first | exact fun _ h => h | assumption | exact fun _ h => (by assumption : _ ⊆ _) ((by assumption : _ ⊆ _) h)), ?_⟩
       refine th_done (by kernel_rfl) ?_
       exact tri_drop (tri_drop (tri_cutEnd _ ⟨ao', aw', co', cw', rfl, rfl, rfl⟩ ⟨rfl, rfl, rfl, trivial⟩))
      ·refine (step_m rfl rfl (opg_buildSlice rfl rfl rfl rfl) ?_)
       rintro _ _ _ ⟨b35, rfl, rfl, rfl⟩
       refine ⟨Suf.h, (by first | exact fun _ h => h | assumption | exact fun _ h => (by assumption : _ ⊆ _) ((by assumption : _ ⊆ _) h)), ?_⟩
       refine th_one (by kernel_rfl) (step_m rfl rfl (opg_appendB rfl rfl rfl rfl (by omega) rfl) ?_)
       rintro _ _ _ ⟨ao', co', rfl, rfl, rfl⟩
       refine ⟨Suf.h, (by first | exact fun _ h => h | assumption | exact fun _ h => (by assumption : _ ⊆ _) ((by assumption : _ ⊆ _) h)), ?_⟩
       refine th_one (by kernel_rfl) (step_m rfl rfl (opg_appendB rfl rfl rfl rfl (by omega) rfl) ?_)
       rintro _ _ _ ⟨aw', cw', rfl, rfl, rfl⟩
       refine ⟨Suf.h, (by first | exact fun _ h => h | assumption | exact fun _ h => (by assumption : _ ⊆ _) ((by assumption : _ ⊆ _) h)), ?_⟩
       refine th_take rfl rfl (by kernel_rfl)  (by first | exact opv_nilCheckE rfl | exact opv_nilCheck rfl) ?_
       refine th_take rfl rfl (by kernel_rfl)  (by first | exact opv_fieldAddr rfl rfl | exact opv_fieldAddrE rfl (by assumption) (by omega) rfl | exact opv_fieldAddrR rfl (by omega) rfl | exact opv_fieldAddrP rfl rfl rfl) ?_
       refine th_take rfl rfl (by kernel_rfl)  (by first | exact opv_fieldAddr rfl rfl | exact opv_fieldAddrE rfl (by assumption) (by omega) rfl | exact opv_fieldAddrR rfl (by omega) rfl | exact opv_fieldAddrP rfl rfl rfl) ?_
       refine th_one (by kernel_rfl) (step_m rfl rfl (opg_store rfl rfl rfl rfl rfl rfl) ?_)
       rintro _ _ _ ⟨rfl, rfl⟩
       refine ⟨Suf.h, (by first | exact fun _ h => h | assumption | exact fun _ h => (by assumption : _ ⊆ _) ((by assumption : _ ⊆ _) h)), ?_⟩
       refine th_take rfl rfl (by kernel_rfl)  (by first | exact opv_nilCheckE rfl | exact opv_nilCheck rfl) ?_
       refine th_take rfl rfl (by kernel_rfl)  (by first | exact opv_fieldAddr rfl rfl | exact opv_fieldAddrE rfl (by assumption) (by omega) rfl | exact opv_fieldAddrR rfl (by omega) rfl | exact opv_fieldAddrP rfl rfl rfl) ?_
       refine th_take rfl rfl (by kernel_rfl)  (by first | exact opv_fieldAddr rfl rfl | exact opv_fieldAddrE rfl (by assumption) (by omega) rfl | exact opv_fieldAddrR rfl (by omega) rfl | exact opv_fieldAddrP rfl rfl rfl) ?_
       refine th_one (by kernel_rfl) (step_m rfl rfl (opg_store rfl rfl rfl rfl rfl rfl) ?_)
       rintro _ _ _ ⟨rfl, rfl⟩
       refine ⟨Suf.h, (by first | exact fun _ h => h | assumption | exact fun _ h => (by assumption : _ ⊆ _) ((by assumption : _ ⊆ _) h)), ?_⟩
       refine th_done (by kernel_rfl) ?_
       exact tri_drop (tri_drop (tri_cutEnd _ ⟨ao', aw', co', cw', rfl, rfl, rfl⟩ ⟨rfl, rfl, rfl, trivial⟩))
     ·refine (step_m rfl rfl (opg_buildSlice rfl rfl rfl rfl) ?_)
      rintro _ _ _ ⟨b35, rfl, rfl, rfl⟩
      refine ⟨Suf.h, (by first | exact fun _ h => h | assumption | exact fun _ h => (by assumption : _ ⊆ _) ((by assumption : _ ⊆ _) h)), ?_⟩
      refine th_one (by kernel_rfl) (step_m rfl rfl (OpV.toG (by first | exact opv_load1 rfl rfl rfl | exact opv_loadA rfl rfl rfl | exact opv_loadE1 rfl (by assumption) rfl (by omega) rfl rfl | exact opv_loadEA rfl (by assumption) rfl (by omega) rfl rfl | exact opv_loadRX1 rfl rfl (by omega) rfl rfl | exact opv_loadRXA rfl rfl (by omega) rfl rfl rfl | exact opv_loadIX rfl rfl (by omega) | exact opv_loadR1 rfl rfl rfl | exact opv_loadRA rfl rfl rfl rfl)) ?_)
      rintro _ _ _ ⟨rfl, rfl, rfl⟩
      refine ⟨Suf.h, (by first | exact fun _ h => h | assumption | exact fun _ h => (by assumption : _ ⊆ _) ((by assumption : _ ⊆ _) h)), ?_⟩
      refine th_one (by kernel_rfl) (step_m rfl rfl (opg_appendB rfl rfl rfl rfl (by omega) rfl) ?_)
      rintro _ _ _ ⟨ao', co', rfl, rfl, rfl⟩
      refine ⟨Suf.h, (by first | exact fun _ h => h | assumption | exact fun _ h => (by assumption : _ ⊆ _) ((by assumption : _ ⊆ _) h)), ?_⟩
      refine th_one (by kernel_rfl) (step_m rfl rfl (opg_appendB rfl rfl rfl rfl (by omega) rfl) ?_)
      rintro _ _ _ ⟨aw', cw', rfl, rfl, rfl⟩
      refine ⟨Suf.h, (by first | exact fun _ h => h | assumption | exact fun _ h => (by assumption : _ ⊆ _) ((by assumption : _ ⊆ _) h)), ?_⟩
      refine th_take rfl rfl (by kernel_rfl)  (by first | exact opv_nilCheckE rfl | exact opv_nilCheck rfl) ?_
      refine th_take rfl rfl (by kernel_rfl)  (by first | exact opv_fieldAddr rfl rfl | exact opv_fieldAddrE rfl (by assumption) (by omega) rfl | exact opv_fieldAddrR rfl (by omega) rfl | exact opv_fieldAddrP rfl rfl rfl) ?_
      refine th_take rfl rfl (by kernel_rfl)  (by first | exact opv_fieldAddr rfl rfl | exact opv_fieldAddrE rfl (by assumption) (by omega) rfl | exact opv_fieldAddrR rfl (by omega) rfl | exact opv_fieldAddrP rfl rfl rfl) ?_
      refine th_one (by kernel_rfl) (step_m rfl rfl (opg_store rfl rfl rfl rfl rfl rfl) ?_)
      rintro _ _ _ ⟨rfl, rfl⟩
      refine ⟨Suf.h, (by first | exact fun _ h => h | assumption | exact fun _ h => (by assumption : _ ⊆ _) ((by assumption : _ ⊆ _) h)), ?_⟩
      refine th_take rfl rfl (by kernel_rfl)  (by first | exact opv_nilCheckE rfl | exact opv_nilCheck rfl) ?_
      refine th_take rfl rfl (by kernel_rfl)  (by first | exact opv_fieldAddr rfl rfl | exact opv_fieldAddrE rfl (by assumption) (by omega) rfl | exact opv_fieldAddrR rfl (by omega) rfl | exact opv_fieldAddrP rfl rfl rfl) ?_
      refine th_take rfl rfl (by kernel_rfl)  (by first | exact opv_fieldAddr rfl rfl | exact opv_fieldAddrE rfl (by assumption) (by omega) rfl | exact opv_fieldAddrR rfl (by omega) rfl | exact opv_fieldAddrP rfl rfl rfl) ?_
      refine th_one (by kernel_rfl) (step_m rfl rfl (opg_store rfl rfl rfl rfl rfl rfl) ?_)
      rintro _ _ _ ⟨rfl, rfl⟩
      refine ⟨Suf.h, (by first | exact fun _ h => h | assumption | exact fun _ h => (by assumption : _ ⊆ _) ((by assumption : _ ⊆ _) h)), ?_⟩
      refine th_done (by kernel_rfl) ?_
      exact tri_drop (tri_drop (tri_cutEnd _ ⟨ao', aw', co', cw', rfl, rfl, rfl⟩ ⟨rfl, rfl, rfl, trivial⟩))
    ·refine (step_m rfl rfl (opg_buildSlice rfl rfl rfl rfl) ?_)
     rintro _ _ _ ⟨b35, rfl, rfl, rfl⟩
     refine ⟨Suf.h, (by first | exact fun _ h => h | assumption | exact fun _ h => (by assumption : _ ⊆ _) ((by assumption : _ ⊆ _) h)), ?_⟩
     refine th_two (j := 8) [6, 9, 17, 18, 19, 20, 21, 22, 23, 24, 25] (by kernel_rfl) rfl ?_ ?_
     ·refine (step_m rfl rfl (OpV.toG (by first | exact opv_load1 rfl rfl rfl | exact opv_loadA rfl rfl rfl | exact opv_loadE1 rfl (by assumption) rfl (by omega) rfl rfl | exact opv_loadEA rfl (by assumption) rfl (by omega) rfl rfl | exact opv_loadRX1 rfl rfl (by omega) rfl rfl | exact opv_loadRXA rfl rfl (by omega) rfl rfl rfl | exact opv_loadIX rfl rfl (by omega) | exact opv_loadR1 rfl rfl rfl | exact opv_loadRA rfl rfl rfl rfl)) ?_)
      rintro _ _ _ ⟨rfl, rfl, rfl⟩
      refine ⟨Suf.h, (by first | exact fun _ h => h | assumption | exact fun _ h => (by assumption : _ ⊆ _) ((by assumption : _ ⊆ _) h)), ?_⟩
      refine th_one (by kernel_rfl) (step_m rfl rfl (opg_buildSlice rfl rfl rfl rfl) ?_)
      rintro _ _ _ ⟨b27, rfl, rfl, rfl⟩
      refine ⟨Suf.h, (by first | exact fun _ h => h | assumption | exact fun _ h => (by assumption : _ ⊆ _) ((by assumption : _ ⊆ _) h)), ?_⟩
      refine th_one (by kernel_rfl) (step_m rfl rfl (opg_appendB rfl rfl rfl rfl (by omega) rfl) ?_)
      rintro _ _ _ ⟨ao', co', rfl, rfl, rfl⟩
      refine ⟨Suf.h, (by first | exact fun _ h => h | assumption | exact fun _ h => (by assumption : _ ⊆ _) ((by assumption : _ ⊆ _) h)), ?_⟩
      refine th_one (by kernel_rfl) (step_m rfl rfl (opg_appendB rfl rfl rfl rfl (by omega) rfl) ?_)
      rintro _ _ _ ⟨aw', cw', rfl, rfl, rfl⟩
      refine ⟨Suf.h, (by first | exact fun _ h => h | assumption | exact fun _ h => (by assumption : _ ⊆ _) ((by assumption : _ ⊆ _) h)), ?_⟩
      refine th_take rfl rfl (by kernel_rfl)  (by first | exact opv_nilCheckE rfl | exact opv_nilCheck rfl) ?_
      refine th_take rfl rfl (by kernel_rfl)  (by first | exact opv_fieldAddr rfl rfl | exact opv_fieldAddrE rfl (by assumption) (by omega) rfl | exact opv_fieldAddrR rfl (by omega) rfl | exact opv_fieldAddrP rfl rfl rfl) ?_
      refine th_take rfl rfl (by kernel_rfl)  (by first | exact opv_fieldAddr rfl rfl | exact opv_fieldAddrE rfl (by assumption) (by omega) rfl | exact opv_fieldAddrR rfl (by omega) rfl | exact opv_fieldAddrP rfl rfl rfl) ?_
      refine th_one (by kernel_rfl) (step_m rfl rfl (opg_store rfl rfl rfl rfl rfl rfl) ?_)
      rintro _ _ _ ⟨rfl, rfl⟩
      refine ⟨Suf.h, (by first | exact fun _ h => h | assumption | exact fun _ h => (by assumption : _ ⊆ _) ((by assumption : _ ⊆ _) h)), ?_⟩
      refine th_take rfl rfl (by kernel_rfl)  (by first | exact opv_nilCheckE rfl | exact opv_nilCheck rfl) ?_
      refine th_take rfl rfl (by kernel_rfl)  (by first | exact opv_fieldAddr rfl rfl | exact opv_fieldAddrE rfl (by assumption) (by omega) rfl | exact opv_fieldAddrR rfl (by omega) rfl | exact opv_fieldAddrP rfl rfl rfl) ?_
      refine th_take rfl rfl (by kernel_rfl)  (by first | exact opv_fieldAddr rfl rfl | exact opv_fieldAddrE rfl (by assumption) (by omega) rfl | exact opv_fieldAddrR rfl (by omega) rfl | exact opv_fieldAddrP rfl rfl rfl) ?_
      refine th_one (by kernel_rfl) (step_m rfl rfl (opg_store rfl rfl rfl rfl rfl rfl) ?_)
      rintro _ _ _ ⟨rfl, rfl⟩
      refine ⟨Suf.h, (by first | exact fun _ h => h | assumption | exact fun _ h => (by assumption : _ ⊆ _) ((by assumption : _ ⊆ _) h)), ?_⟩
      refine th_done (by kernel_rfl) ?_
      exact tri_drop (tri_drop (tri_cutEnd _ ⟨ao', aw', co', cw', rfl, rfl, rfl⟩ ⟨rfl, rfl, rfl, trivial⟩))
     ·refine (step_m rfl rfl (opg_buildSlice rfl rfl rfl rfl) ?_)
      rintro _ _ _ ⟨b27, rfl, rfl, rfl⟩
      refine ⟨Suf.h, (by first | exact fun _ h => h | assumption | exact fun _ h => (by assumption : _ ⊆ _) ((by assumption : _ ⊆ _) h)), ?_⟩
      refine th_one (by kernel_rfl) (step_m rfl rfl (OpV.toG (by first | exact opv_load1 rfl rfl rfl | exact opv_loadA rfl rfl rfl | exact opv_loadE1 rfl (by assumption) rfl (by omega) rfl rfl | exact opv_loadEA rfl (by assumption) rfl (by omega) rfl rfl | exact opv_loadRX1 rfl rfl (by omega) rfl rfl | exact opv_loadRXA rfl rfl (by omega) rfl rfl rfl | exact opv_loadIX rfl rfl (by omega) | exact opv_loadR1 rfl rfl rfl | exact opv_loadRA rfl rfl rfl rfl)) ?_)
      rintro _ _ _ ⟨rfl, rfl, rfl⟩
      refine ⟨Suf.h, (by first | exact fun _ h => h | assumption | exact fun _ h => (by assumption : _ ⊆ _) ((by assumption : _ ⊆ _) h)), ?_⟩
      refine th_one (by kernel_rfl) (step_m rfl rfl (opg_appendB rfl rfl rfl rfl (by omega) rfl) ?_)
      rintro _ _ _ ⟨ao', co', rfl, rfl, rfl⟩
      refine ⟨Suf.h, (by first | exact fun _ h => h | assumption | exact fun _ h => (by assumption : _ ⊆ _) ((by assumption : _ ⊆ _) h)), ?_⟩
      refine th_one (by kernel_rfl) (step_m rfl rfl (opg_appendB rfl rfl rfl rfl (by omega) rfl) ?_)
      rintro _ _ _ ⟨aw', cw', rfl, rfl, rfl⟩
      refine ⟨Suf.h, (by first | exact fun _ h => h | assumption | exact fun _ h => (by assumption : _ ⊆ _) ((by assumption : _ ⊆ _) h)), ?_⟩
      refine th_take rfl rfl (by kernel_rfl)  (by first | exact opv_nilCheckE rfl | exact opv_nilCheck rfl) ?_
      refine th_take rfl rfl (by kernel_rfl)  (by first | exact opv_fieldAddr rfl rfl | exact opv_fieldAddrE rfl (by assumption) (by omega) rfl | exact opv_fieldAddrR rfl (by omega) rfl | exact opv_fieldAddrP rfl rfl rfl) ?_
      refine th_take rfl rfl (by kernel_rfl)  (by first | exact opv_fieldAddr rfl rfl | exact opv_fieldAddrE rfl (by assumption) (by omega) rfl | exact opv_fieldAddrR rfl (by omega) rfl | exact opv_fieldAddrP rfl rfl rfl) ?_
      refine th_one (by kernel_rfl) (step_m rfl rfl (opg_store rfl rfl rfl rfl rfl rfl) ?_)
      rintro _ _ _ ⟨rfl, rfl⟩
      refine ⟨Suf.h, (by first | exact fun _ h => h | assumption | exact fun _ h => (by assumption : _ ⊆ _) ((by assumption : _ ⊆ _) h)), ?_⟩
      refine th_take rfl rfl (by kernel_rfl)  (by first | exact opv_nilCheckE rfl | exact opv_nilCheck rfl) ?_
      refine th_take rfl rfl (by kernel_rfl)  (by first | exact opv_fieldAddr rfl rfl | exact opv_fieldAddrE rfl (by assumption) (by omega) rfl | exact opv_fieldAddrR rfl (by omega) rfl | exact opv_fieldAddrP rfl rfl rfl) ?_
      refine th_take rfl rfl (by kernel_rfl)  (by first | exact opv_fieldAddr rfl rfl | exact opv_fieldAddrE rfl (by assumption) (by omega) rfl | exact opv_fieldAddrR rfl (by omega) rfl | exact opv_fieldAddrP rfl rfl rfl) ?_
      refine th_one (by kernel_rfl) (step_m rfl rfl (opg_store rfl rfl rfl rfl rfl rfl) ?_)
      rintro _ _ _ ⟨rfl, rfl⟩
      refine ⟨Suf.h, (by first | exact fun _ h => h | assumption | exact fun _ h => (by assumption : _ ⊆ _) ((by assumption : _ ⊆ _) h)), ?_⟩
      refine th_done (by kernel_rfl) ?_
      exact tri_drop (tri_drop (tri_cutEnd _ ⟨ao', aw', co', cw', rfl, rfl, rfl⟩ ⟨rfl, rfl, rfl, trivial⟩))
   ·refine (step_m rfl rfl (opg_buildSlice rfl rfl rfl rfl) ?_)
    rintro _ _ _ ⟨b35, rfl, rfl, rfl⟩
    refine ⟨Suf.h, (by first | exact fun _ h => h | assumption | exact fun _ h => (by assumption : _ ⊆ _) ((by assumption : _ ⊆ _) h)), ?_⟩
    refine th_many [(8, [6, 9, 14, 17, 18, 19, 20, 21, 22, 23, 24, 25]), (14, [6, 8, 9, 17, 18, 19, 20, 21, 22, 23, 24, 25])] (by kernel_rfl) rfl ?_ ⟨?_, ?_, trivial⟩
    ·refine (step_m rfl rfl (OpV.toG (by first | exact opv_load1 rfl rfl rfl | exact opv_loadA rfl rfl rfl | exact opv_loadE1 rfl (by assumption) rfl (by omega) rfl rfl | exact opv_loadEA rfl (by assumption) rfl (by omega) rfl rfl | exact opv_loadRX1 rfl rfl (by omega) rfl rfl | exact opv_loadRXA rfl rfl (by omega) rfl rfl rfl | exact opv_loadIX rfl rfl (by omega) | exact opv_loadR1 rfl rfl rfl | exact opv_loadRA rfl rfl rfl rfl)) ?_)
     rintro _ _ _ ⟨rfl, rfl, rfl⟩
     refine ⟨Suf.h, (by first | exact fun _ h => h | assumption | exact fun _ h => (by assumption : _ ⊆ _) ((by assumption : _ ⊆ _) h)), ?_⟩
     refine th_two (j := 14) [8, 9, 17, 18, 19, 20, 21, 22, 23, 24, 25] (by kernel_rfl) rfl ?_ ?_
     ·refine (step_m rfl rfl (opg_buildSlice rfl rfl rfl rfl) ?_)
      rintro _ _ _ ⟨b27, rfl, rfl, rfl⟩
      refine ⟨Suf.h, (by first | exact fun _ h => h | assumption | exact fun _ h => (by assumption : _ ⊆ _) ((by assumption : _ ⊆ _) h)), ?_⟩
      refine th_two (j := 14) [9, 17, 18, 19, 20, 21, 22, 23, 24, 25] (by kernel_rfl) rfl ?_ ?_
      ·refine (step_m rfl rfl (opg_appendB rfl rfl rfl rfl (by omega) rfl) ?_)
       rintro _ _ _ ⟨ao', co', rfl, rfl, rfl⟩
       refine ⟨Suf.h, (by first | exact fun _ h => h | assumption | exact fun _ h => (by assumption : _ ⊆ _) ((by assumption : _ ⊆ _) h)), ?_⟩
       refine th_one (by kernel_rfl) (step_m rfl rfl (OpV.toG (by first | exact opv_load1 rfl rfl rfl | exact opv_loadA rfl rfl rfl | exact opv_loadE1 rfl (by assumption) rfl (by omega) rfl rfl | exact opv_loadEA rfl (by assumption) rfl (by omega) rfl rfl | exact opv_loadRX1 rfl rfl (by omega) rfl rfl | exact opv_loadRXA rfl rfl (by omega) rfl rfl rfl | exact opv_loadIX rfl rfl (by omega) | exact opv_loadR1 rfl rfl rfl | exact opv_loadRA rfl rfl rfl rfl)) ?_)
       rintro _ _ _ ⟨rfl, rfl, rfl⟩
       refine ⟨Suf.h, (by first | exact fun _ h => h | assumption | exact fun _ h => (by assumption : _ ⊆ _) ((by assumption : _ ⊆ _) h)), ?_⟩
       refine th_one (by kernel_rfl) (step_m rfl rfl (opg_appendB rfl rfl rfl rfl (by omega) rfl) ?_)
       rintro _ _ _ ⟨aw', cw', rfl, rfl, rfl⟩
       refine ⟨Suf.h, (by first | exact fun _ h => h | assumption | exact fun _ h => (by assumption : _ ⊆ _) ((by assumption : _ ⊆ _) h)), ?_⟩
       refine th_take rfl rfl (by kernel_rfl)  (by first | exact opv_nilCheckE rfl | exact opv_nilCheck rfl) ?_
       refine th_take rfl rfl (by kernel_rfl)  (by first | exact opv_fieldAddr rfl rfl | exact opv_fieldAddrE rfl (by assumption) (by omega) rfl | exact opv_fieldAddrR rfl (by omega) rfl | exact opv_fieldAddrP rfl rfl rfl) ?_
       refine th_take rfl rfl (by kernel_rfl)  (by first | exact opv_fieldAddr rfl rfl | exact opv_fieldAddrE rfl (by assumption) (by omega) rfl | exact opv_fieldAddrR rfl (by omega) rfl | exact opv_fieldAddrP rfl rfl rfl) ?_
       refine th_one (by kernel_rfl) (step_m rfl rfl (opg_store rfl rfl rfl rfl rfl rfl) ?_)
       rintro _ _ _ ⟨rfl, rfl⟩
       refine ⟨Suf.h, (by first | exact fun _ h => h | assumption | exact fun _ h => (by assumption : _ ⊆ _) ((by assumption : _ ⊆ _) h)), ?_⟩
       refine th_take rfl rfl (by kernel_rfl)  (by first | exact opv_nilCheckE rfl | exact opv_nilCheck rfl) ?_
       refine th_take rfl rfl (by kernel_rfl)  (by first | exact opv_fieldAddr rfl rfl | exact opv_fieldAddrE rfl (by assumption) (by omega) rfl | exact opv_fieldAddrR rfl (by omega) rfl | exact opv_fieldAddrP rfl rfl rfl) ?_
       refine th_take rfl rfl (by kernel_rfl)  (by first | exact opv_fieldAddr rfl rfl | exact opv_fieldAddrE rfl (by assumption) (by omega) rfl | exact opv_fieldAddrR rfl (by omega) rfl | exact opv_fieldAddrP rfl rfl rfl) ?_
       refine th_one (by kernel_rfl) (step_m rfl rfl (opg_store rfl rfl rfl rfl rfl rfl) ?_)
       rintro _ _ _ ⟨rfl, rfl⟩
       refine ⟨Suf.h, (by first | exact fun _ h => h | assumption | exact fun _ h => (by assumption : _ ⊆ _) ((by assumption : _ ⊆ _) h)), ?_⟩
       refine th_done (by kernel_rfl) ?_
       exact tri_drop (tri_drop (tri_cutEnd _ ⟨ao', aw', co', cw', rfl, rfl, rfl⟩ ⟨rfl, rfl, rfl, trivial⟩))
      ·refine (step_m rfl rfl (OpV.toG (by first | exact opv_load1 rfl rfl rfl | exact opv_loadA rfl rfl rfl | exact opv_loadE1 rfl (by assumption) rfl (by omega) rfl rfl | exact opv_loadEA rfl (by assumption) rfl (by omega) rfl rfl | exact opv_loadRX1 rfl rfl (by omega) rfl rfl | exact opv_loadRXA rfl rfl (by omega) rfl rfl rfl | exact opv_loadIX rfl rfl (by omega) | exact opv_loadR1 rfl rfl rfl | exact opv_loadRA rfl rfl rfl rfl)) ?_)
       rintro _ _ _ ⟨rfl, rfl, rfl⟩
       refine ⟨Suf.h, (by first | exact fun _ h => h | assumption | exact fun _ h => (by assumption : _ ⊆ _) ((by assumption : _ ⊆ _) h)), ?_⟩
       refine th_one (by kernel_rfl) (step_m rfl rfl (opg_appendB rfl rfl rfl rfl (by omega) rfl) ?_)
       rintro _ _ _ ⟨ao', co', rfl, rfl, rfl⟩
       refine ⟨Suf.h, (by first | exact fun _ h => h | assumption | exact fun _ h => (by assumption : _ ⊆ _) ((by assumption : _ ⊆ _) h)), ?_⟩
       refine th_one (by kernel_rfl) (step_m rfl rfl (opg_appendB rfl rfl rfl rfl (by omega) rfl) ?_)
       rintro _ _ _ ⟨aw', cw', rfl, rfl, rfl⟩
       refine ⟨Suf.h, (by first | exact fun _ h => h | assumption | exact fun _ h => (by assumption : _ ⊆ _) ((by assumption : _ ⊆ _) h)), ?_⟩
       refine th_take rfl rfl (by kernel_rfl)  (by first | exact opv_nilCheckE rfl | exact opv_nilCheck rfl) ?_
       refine th_take rfl rfl (by kernel_rfl)  (by first | exact opv_fieldAddr rfl rfl | exact opv_fieldAddrE rfl (by assumption) (by omega) rfl | exact opv_fieldAddrR rfl (by omega) rfl | exact opv_fieldAddrP rfl rfl rfl) ?_
       refine th_take rfl rfl (by kernel_rfl)  (by first | exact opv_fieldAddr rfl rfl | exact opv_fieldAddrE rfl (by assumption) (by omega) rfl | exact opv_fieldAddrR rfl (by omega) rfl | exact opv_fieldAddrP rfl rfl rfl) ?_
       refine th_one (by kernel_rfl) (step_m rfl rfl (opg_store rfl rfl rfl rfl rfl rfl) ?_)
       rintro _ _ _ ⟨rfl, rfl⟩
       refine ⟨Suf.h, (by first | exact fun _ h => h | assumption | exact fun _ h => (by assumption : _ ⊆ _) ((by assumption : _ ⊆ _) h)), ?_⟩
       refine th_take rfl rfl (by kernel_rfl)  (by first | exact opv_nilCheckE rfl | exact opv_nilCheck rfl) ?_
       refine th_take rfl rfl (by kernel_rfl)  (by first | exact opv_fieldAddr rfl rfl | exact opv_fieldAddrE rfl (by assumption) (by omega) rfl | exact opv_fieldAddrR rfl (by omega) rfl | exact opv_fieldAddrP rfl rfl rfl) ?_
       refine th_take rfl rfl (by kernel_rfl)  (by first | exact opv_fieldAddr rfl rfl | exact opv_fieldAddrE rfl (by assumption) (by omega) rfl | exact opv_fieldAddrR rfl (by omega) rfl | exact opv_fieldAddrP rfl rfl rfl) ?_
       refine th_one (by kernel_rfl) (step_m rfl rfl (opg_store rfl rfl rfl rfl rfl rfl) ?_)
       rintro _ _ _ ⟨rfl, rfl⟩
       refine ⟨Suf.h, (by first | exact fun _ h => h | assumption | exact fun _ h => (by assumption : _ ⊆ _) ((by assumption : _ ⊆ _) h)), ?_⟩
       refine th_done (by kernel_rfl) ?_
       exact tri_drop (tri_drop (tri_cutEnd _ ⟨ao', aw', co', cw', rfl, rfl, rfl⟩ ⟨rfl, rfl, rfl, trivial⟩))
     ·refine (step_m rfl rfl (OpV.toG (by first | exact opv_load1 rfl rfl rfl | exact opv_loadA rfl rfl rfl | exact opv_loadE1 rfl (by assumption) rfl (by omega) rfl rfl | exact opv_loadEA rfl (by assumption) rfl (by omega) rfl rfl | exact opv_loadRX1 rfl rfl (by omega) rfl rfl | exact opv_loadRXA rfl rfl (by omega) rfl rfl rfl | exact opv_loadIX rfl rfl (by omega) | exact opv_loadR1 rfl rfl rfl | exact opv_loadRA rfl rfl rfl rfl)) ?_)
      rintro _ _ _ ⟨rfl, rfl, rfl⟩
      refine ⟨Suf.h, (by first | exact fun _ h => h | assumption | exact fun _ h => (by assumption : _ ⊆ _) ((by assumption : _ ⊆ _) h)), ?_⟩
      refine th_one (by kernel_rfl) (step_m rfl rfl (opg_buildSlice rfl rfl rfl rfl) ?_)
      rintro _ _ _ ⟨b27, rfl, rfl, rfl⟩
      refine ⟨Suf.h, (by first | exact fun _ h => h | assumption | exact fun _ h => (by assumption : _ ⊆ _) ((by assumption : _ ⊆ _) h)), ?_⟩
      refine th_one (by kernel_rfl) (step_m rfl rfl (opg_appendB rfl rfl rfl rfl (by omega) rfl) ?_)
      rintro _ _ _ ⟨ao', co', rfl, rfl, rfl⟩
      refine ⟨Suf.h, (by first | exact fun _ h => h | assumption | exact fun _ h => (by assumption : _ ⊆ _) ((by assumption : _ ⊆ _) h)), ?_⟩
      refine th_one (by kernel_rfl) (step_m rfl rfl (opg_appendB rfl rfl rfl rfl (by omega) rfl) ?_)
      rintro _ _ _ ⟨aw', cw', rfl, rfl, rfl⟩
      refine ⟨Suf.h, (by first | exact fun _ h => h | assumption | exact fun _ h => (by assumption : _ ⊆ _) ((by assumption : _ ⊆ _) h)), ?_⟩
      refine th_take rfl rfl (by kernel_rfl)  (by first | exact opv_nilCheckE rfl | exact opv_nilCheck rfl) ?_
      refine th_take rfl rfl (by kernel_rfl)  (by first | exact opv_fieldAddr rfl rfl | exact opv_fieldAddrE rfl (by assumption) (by omega) rfl | exact opv_fieldAddrR rfl (by omega) rfl | exact opv_fieldAddrP rfl rfl rfl) ?_
      refine th_take rfl rfl (by kernel_rfl)  (by first | exact opv_fieldAddr rfl rfl | exact opv_fieldAddrE rfl (by assumption) (by omega) rfl | exact opv_fieldAddrR rfl (by omega) rfl | exact opv_fieldAddrP rfl rfl rfl) ?_
      refine th_one (by kernel_rfl) (step_m rfl rfl (opg_store rfl rfl rfl rfl rfl rfl) ?_)
      rintro _ _ _ ⟨rfl, rfl⟩
      refine ⟨Suf.h, (by first | exact fun _ h => h | assumption | exact fun _ h => (by assumption : _ ⊆ _) ((by assumption : _ ⊆ _) h)), ?_⟩
      refine th_take rfl rfl (by kernel_rfl)  (by first | exact opv_nilCheckE rfl | exact opv_nilCheck rfl) ?_
      refine th_take rfl rfl (by kernel_rfl)  (by first | exact opv_fieldAddr rfl rfl | exact opv_fieldAddrE rfl (by assumption) (by omega) rfl | exact opv_fieldAddrR rfl (by omega) rfl | exact opv_fieldAddrP rfl rfl rfl) ?_
      refine th_take rfl rfl (by kernel_rfl)  (by first | exact opv_fieldAddr rfl rfl | exact opv_fieldAddrE rfl (by assumption) (by omega) rfl | exact opv_fieldAddrR rfl (by omega) rfl | exact opv_fieldAddrP rfl rfl rfl) ?_
      refine th_one (by kernel_rfl) (step_m rfl rfl (opg_store rfl rfl rfl rfl rfl rfl) ?_)
      rintro _ _ _ ⟨rfl, rfl⟩
      refine ⟨Suf.h, (by first | exact fun _ h => h | assumption | exact fun _ h => (by assumption : _ ⊆ _) ((by assumption : _ ⊆ _) h)), ?_⟩
      refine th_done (by kernel_rfl) ?_
      exact tri_drop (tri_drop (tri_cutEnd _ ⟨ao', aw', co', cw', rfl, rfl, rfl⟩ ⟨rfl, rfl, rfl, trivial⟩))
    ·refine (step_m rfl rfl (opg_buildSlice rfl rfl rfl rfl) ?_)
     rintro _ _ _ ⟨b27, rfl, rfl, rfl⟩
     refine ⟨Suf.h, (by first | exact fun _ h => h | assumption | exact fun _ h => (by assumption : _ ⊆ _) ((by assumption : _ ⊆ _) h)), ?_⟩
     refine th_two (j := 14) [6, 9, 17, 18, 19, 20, 21, 22, 23, 24, 25] (by kernel_rfl) rfl ?_ ?_
     ·refine (step_m rfl rfl (OpV.toG (by first | exact opv_load1 rfl rfl rfl | exact opv_loadA rfl rfl rfl | exact opv_loadE1 rfl (by assumption) rfl (by omega) rfl rfl | exact opv_loadEA rfl (by assumption) rfl (by omega) rfl rfl | exact opv_loadRX1 rfl rfl (by omega) rfl rfl | exact opv_loadRXA rfl rfl (by omega) rfl rfl rfl | exact opv_loadIX rfl rfl (by omega) | exact opv_loadR1 rfl rfl rfl | exact opv_loadRA rfl rfl rfl rfl)) ?_)
      rintro _ _ _ ⟨rfl, rfl, rfl⟩
      refine ⟨Suf.h, (by first | exact fun _ h => h | assumption | exact fun _ h => (by assumption : _ ⊆ _) ((by assumption : _ ⊆ _) h)), ?_⟩
      refine th_two (j := 14) [9, 17, 18, 19, 20, 21, 22, 23, 24, 25] (by kernel_rfl) rfl ?_ ?_
      ·refine (step_m rfl rfl (opg_appendB rfl rfl rfl rfl (by omega) rfl) ?_)
       rintro _ _ _ ⟨ao', co', rfl, rfl, rfl⟩
       refine ⟨Suf.h, (by first | exact fun _ h => h | assumption | exact fun _ h => (by assumption : _ ⊆ _) ((by assumption : _ ⊆ _) h)), ?_⟩
       refine th_one (by kernel_rfl) (step_m rfl rfl (OpV.toG (by first | exact opv_load1 rfl rfl rfl | exact opv_loadA rfl rfl rfl | exact opv_loadE1 rfl (by assumption) rfl (by omega) rfl rfl | exact opv_loadEA rfl (by assumption) rfl (by omega) rfl rfl | exact opv_loadRX1 rfl rfl (by omega) rfl rfl | exact opv_loadRXA rfl rfl (by omega) rfl rfl rfl | exact opv_loadIX rfl rfl (by omega) | exact opv_loadR1 rfl rfl rfl | exact opv_loadRA rfl rfl rfl rfl)) ?_)
       rintro _ _ _ ⟨rfl, rfl, rfl⟩
       refine ⟨Suf.h, (by first | exact fun _ h => h | assumption | exact fun _ h => (by assumption : _ ⊆ _) ((by assumption : _ ⊆ _) h)), ?_⟩
       refine th_one (by kernel_rfl) (step_m rfl rfl (opg_appendB rfl rfl rfl rfl (by omega) rfl) ?_)
       rintro _ _ _ ⟨aw', cw', rfl, rfl, rfl⟩
       refine ⟨Suf.h, (by first | exact fun _ h => h | assumption | exact fun _ h => (by assumption : _ ⊆ _) ((by assumption : _ ⊆ _) h)), ?_⟩
       refine th_take rfl rfl (by kernel_rfl)  (by first | exact opv_nilCheckE rfl | exact opv_nilCheck rfl) ?_
       refine th_take rfl rfl (by kernel_rfl)  (by first | exact opv_fieldAddr rfl rfl | exact opv_fieldAddrE rfl (by assumption) (by omega) rfl | exact opv_fieldAddrR rfl (by omega) rfl | exact opv_fieldAddrP rfl rfl rfl) ?_
       refine th_take rfl rfl (by kernel_rfl)  (by first | exact opv_fieldAddr rfl rfl | exact opv_fieldAddrE rfl (by assumption) (by omega) rfl | exact opv_fieldAddrR rfl (by omega) rfl | exact opv_fieldAddrP rfl rfl rfl) ?_
       refine th_one (by kernel_rfl) (step_m rfl rfl (opg_store rfl rfl rfl rfl rfl rfl) ?_)
       rintro _ _ _ ⟨rfl, rfl⟩
       refine ⟨Suf.h, (by first | exact fun _ h => h | assumption | exact fun _ h => (by assumption : _ ⊆ _) ((by assumption : _ ⊆ _) h)), ?_⟩
       refine th_take rfl rfl (by kernel_rfl)  (by first | exact opv_nilCheckE rfl | exact opv_nilCheck rfl) ?_
       refine th_take rfl rfl (by kernel_rfl)  (by first | exact opv_fieldAddr rfl rfl | exact opv_fieldAddrE rfl (by assumption) (by omega) rfl | exact opv_fieldAddrR rfl (by omega) rfl | exact opv_fieldAddrP rfl rfl rfl) ?_
       refine th_take rfl rfl (by kernel_rfl)  (by first | exact opv_fieldAddr rfl rfl | exact opv_fieldAddrE rfl (by assumption) (by omega) rfl | exact opv_fieldAddrR rfl (by omega) rfl | exact opv_fieldAddrP rfl rfl rfl) ?_
       refine th_one (by kernel_rfl) (step_m rfl rfl (opg_store rfl rfl rfl rfl rfl rfl) ?_)
       rintro _ _ _ ⟨rfl, rfl⟩
       refine ⟨Suf.h, (by first | exact fun _ h => h | assumption | exact fun _ h => (by assumption : _ ⊆ _) ((by assumption : _ ⊆ _) h)), ?_⟩
       refine th_done (by kernel_rfl) ?_
       exact tri_drop (tri_drop (tri_cutEnd _ ⟨ao', aw', co', cw', rfl, rfl, rfl⟩ ⟨rfl, rfl, rfl, trivial⟩))
      ·refine (step_m rfl rfl (OpV.toG (by first | exact opv_load1 rfl rfl rfl | exact opv_loadA rfl rfl rfl | exact opv_loadE1 rfl (by assumption) rfl (by omega) rfl rfl | exact opv_loadEA rfl (by assumption) rfl (by omega) rfl rfl | exact opv_loadRX1 rfl rfl (by omega) rfl rfl | exact opv_loadRXA rfl rfl (by omega) rfl rfl rfl | exact opv_loadIX rfl rfl (by omega) | exact opv_loadR1 rfl rfl rfl | exact opv_loadRA rfl rfl rfl rfl)) ?_)
       rintro _ _ _ ⟨rfl, rfl, rfl⟩
       refine ⟨Suf.h, (by first | exact fun _ h => h | assumption | exact fun _ h => (by assumption : _ ⊆ _) ((by assumption : _ ⊆ _) h)), ?_⟩
       refine th_one (by kernel_rfl) (step_m rfl rfl (opg_appendB rfl rfl rfl rfl (by omega) rfl) ?_)
       rintro _ _ _ ⟨ao', co', rfl, rfl, rfl⟩
       refine ⟨Suf.h, (by first | exact fun _ h => h | assumption | exact fun _ h => (by assumption : _ ⊆ _) ((by assumption : _ ⊆ _) h)), ?_⟩
       refine th_one (by kernel_rfl) (step_m rfl rfl (opg_appendB rfl rfl rfl rfl (by omega) rfl) ?_)
       rintro _ _ _ ⟨aw', cw', rfl, rfl, rfl⟩
       refine ⟨Suf.h, (by first | exact fun _ h => h | assumption | exact fun _ h => (by assumption : _ ⊆ _) ((by assumption : _ ⊆ _) h)), ?_⟩
       refine th_take rfl rfl (by kernel_rfl)  (by first | exact opv_nilCheckE rfl | exact opv_nilCheck rfl) ?_
       refine th_take rfl rfl (by kernel_rfl)  (by first | exact opv_fieldAddr rfl rfl | exact opv_fieldAddrE rfl (by assumption) (by omega) rfl | exact opv_fieldAddrR rfl (by omega) rfl | exact opv_fieldAddrP rfl rfl rfl) ?_
       refine th_take rfl rfl (by kernel_rfl)  (by first | exact opv_fieldAddr rfl rfl | exact opv_fieldAddrE rfl (by assumption) (by omega) rfl | exact opv_fieldAddrR rfl (by omega) rfl | exact opv_fieldAddrP rfl rfl rfl) ?_
       refine th_one (by kernel_rfl) (step_m rfl rfl (opg_store rfl rfl rfl rfl rfl rfl) ?_)
       rintro _ _ _ ⟨rfl, rfl⟩
       refine ⟨Suf.h, (by first | exact fun _ h => h | assumption | exact fun _ h => (by assumption : _ ⊆ _) ((by assumption : _ ⊆ _) h)), ?_⟩
       refine th_take rfl rfl (by kernel_rfl)  (by first | exact opv_nilCheckE rfl | exact opv_nilCheck rfl) ?_
       refine th_take rfl rfl (by kernel_rfl)  (by first | exact opv_fieldAddr rfl rfl | exact opv_fieldAddrE rfl (by assumption) (by omega) rfl | exact opv_fieldAddrR rfl (by omega) rfl | exact opv_fieldAddrP rfl rfl rfl) ?_
       refine th_take rfl rfl (by kernel_rfl)  (by first | exact opv_fieldAddr rfl rfl | exact opv_fieldAddrE rfl (by assumption) (by omega) rfl | exact opv_fieldAddrR rfl (by omega) rfl | exact opv_fieldAddrP rfl rfl rfl) ?_
       refine th_one (by kernel_rfl) (step_m rfl rfl (opg_store rfl rfl rfl rfl rfl rfl) ?_)
       rintro _ _ _ ⟨rfl, rfl⟩
       refine ⟨Suf.h, (by first | exact fun _ h => h | assumption | exact fun _ h => (by assumption : _ ⊆ _) ((by assumption : _ ⊆ _) h)), ?_⟩
       refine th_done (by kernel_rfl) ?_
       exact tri_drop (tri_drop (tri_cutEnd _ ⟨ao', aw', co', cw', rfl, rfl, rfl⟩ ⟨rfl, rfl, rfl, trivial⟩))
     ·refine (step_m rfl rfl (OpV.toG (by first | exact opv_load1 rfl rfl rfl | exact opv_loadA rfl rfl rfl | exact opv_loadE1 rfl (by assumption) rfl (by omega) rfl rfl | exact opv_loadEA rfl (by assumption) rfl (by omega) rfl rfl | exact opv_loadRX1 rfl rfl (by omega) rfl rfl | exact opv_loadRXA rfl rfl (by omega) rfl rfl rfl | exact opv_loadIX rfl rfl (by omega) | exact opv_loadR1 rfl rfl rfl | exact opv_loadRA rfl rfl rfl rfl)) ?_)
      rintro _ _ _ ⟨rfl, rfl, rfl⟩
      refine ⟨Suf.h, (by first | exact fun _ h => h | assumption | exact fun _ h => (by assumption : _ ⊆ _) ((by assumption : _ ⊆ _) h)), ?_⟩
      refine th_one (by kernel_rfl) (step_m rfl rfl (OpV.toG (by first | exact opv_load1 rfl rfl rfl | exact opv_loadA rfl rfl rfl | exact opv_loadE1 rfl (by assumption) rfl (by omega) rfl rfl | exact opv_loadEA rfl (by assumption) rfl (by omega) rfl rfl | exact opv_loadRX1 rfl rfl (by omega) rfl rfl | exact opv_loadRXA rfl rfl (by omega) rfl rfl rfl | exact opv_loadIX rfl rfl (by omega) | exact opv_loadR1 rfl rfl rfl | exact opv_loadRA rfl rfl rfl rfl)) ?_)
      rintro _ _ _ ⟨rfl, rfl, rfl⟩
      refine ⟨Suf.h, (by first | exact fun _ h => h | assumption | exact fun _ h => (by assumption : _ ⊆ _) ((by assumption : _ ⊆ _) h)), ?_⟩
      refine th_one (by kernel_rfl) (step_m rfl rfl (opg_appendB rfl rfl rfl rfl (by omega) rfl) ?_)
      rintro _ _ _ ⟨ao', co', rfl, rfl, rfl⟩
      refine ⟨Suf.h, (by first | exact fun _ h => h | assumption | exact fun _ h => (by assumption : _ ⊆ _) ((by assumption : _ ⊆ _) h)), ?_⟩
      refine th_one (by kernel_rfl) (step_m rfl rfl (opg_appendB rfl rfl rfl rfl (by omega) rfl) ?_)
      rintro _ _ _ ⟨aw', cw', rfl, rfl, rfl⟩
      refine ⟨Suf.h, (by first | exact fun _ h => h | assumption | exact fun _ h => (by assumption : _ ⊆ _) ((by assumption : _ ⊆ _) h)), ?_⟩
      refine th_take rfl rfl (by kernel_rfl)  (by first | exact opv_nilCheckE rfl | exact opv_nilCheck rfl) ?_
      refine th_take rfl rfl (by kernel_rfl)  (by first | exact opv_fieldAddr rfl rfl | exact opv_fieldAddrE rfl (by assumption) (by omega) rfl | exact opv_fieldAddrR rfl (by omega) rfl | exact opv_fieldAddrP rfl rfl rfl) ?_
      refine th_take rfl rfl (by kernel_rfl)  (by first | exact opv_fieldAddr rfl rfl | exact opv_fieldAddrE rfl (by assumption) (by omega) rfl | exact opv_fieldAddrR rfl (by omega) rfl | exact opv_fieldAddrP rfl rfl rfl) ?_
      refine th_one (by kernel_rfl) (step_m rfl rfl (opg_store rfl rfl rfl rfl rfl rfl) ?_)
      rintro _ _ _ ⟨rfl, rfl⟩
      refine ⟨Suf.h, (by first | exact fun _ h => h | assumption | exact fun _ h => (by assumption : _ ⊆ _) ((by assumption : _ ⊆ _) h)), ?_⟩
      refine th_take rfl rfl (by kernel_rfl)  (by first | exact opv_nilCheckE rfl | exact opv_nilCheck rfl) ?_
      refine th_take rfl rfl (by kernel_rfl)  (by first | exact opv_fieldAddr rfl rfl | exact opv_fieldAddrE rfl (by assumption) (by omega) rfl | exact opv_fieldAddrR rfl (by omega) rfl | exact opv_fieldAddrP rfl rfl rfl) ?_
      refine th_take rfl rfl (by kernel_rfl)  (by first | exact opv_fieldAddr rfl rfl | exact opv_fieldAddrE rfl (by assumption) (by omega) rfl | exact opv_fieldAddrR rfl (by omega) rfl | exact opv_fieldAddrP rfl rfl rfl) ?_
      refine th_one (by kernel_rfl) (step_m rfl rfl (opg_store rfl rfl rfl rfl rfl rfl) ?_)
      rintro _ _ _ ⟨rfl, rfl⟩
      refine ⟨Suf.h, (by first | exact fun _ h => h | assumption | exact fun _ h => (by assumption : _ ⊆ _) ((by assumption : _ ⊆ _) h)), ?_⟩
      refine th_done (by kernel_rfl) ?_
      exact tri_drop (tri_drop (tri_cutEnd _ ⟨ao', aw', co', cw', rfl, rfl, rfl⟩ ⟨rfl, rfl, rfl, trivial⟩))
    ·refine (step_m rfl rfl (OpV.toG (by first | exact opv_load1 rfl rfl rfl | exact opv_loadA rfl rfl rfl | exact opv_loadE1 rfl (by assumption) rfl (by omega) rfl rfl | exact opv_loadEA rfl (by assumption) rfl (by omega) rfl rfl | exact opv_loadRX1 rfl rfl (by omega) rfl rfl | exact opv_loadRXA rfl rfl (by omega) rfl rfl rfl | exact opv_loadIX rfl rfl (by omega) | exact opv_loadR1 rfl rfl rfl | exact opv_loadRA rfl rfl rfl rfl)) ?_)
     rintro _ _ _ ⟨rfl, rfl, rfl⟩
     refine ⟨Suf.h, (by first | exact fun _ h => h | assumption | exact fun _ h => (by assumption : _ ⊆ _) ((by assumption : _ ⊆ _) h)), ?_⟩
     refine th_two (j := 8) [6, 9, 17, 18, 19, 20, 21, 22, 23, 24, 25] (by kernel_rfl) rfl ?_ ?_
     ·refine (step_m rfl rfl (OpV.toG (by first | exact opv_load1 rfl rfl rfl | exact opv_loadA rfl rfl rfl | exact opv_loadE1 rfl (by assumption) rfl (by omega) rfl rfl | exact opv_loadEA rfl (by assumption) rfl (by omega) rfl rfl | exact opv_loadRX1 rfl rfl (by omega) rfl rfl | exact opv_loadRXA rfl rfl (by omega) rfl rfl rfl | exact opv_loadIX rfl rfl (by omega) | exact opv_loadR1 rfl rfl rfl | exact opv_loadRA rfl rfl rfl rfl)) ?_)
      rintro _ _ _ ⟨rfl, rfl, rfl⟩
      refine ⟨Suf.h, (by first | exact fun _ h => h | assumption | exact fun _ h => (by assumption : _ ⊆ _) ((by assumption : _ ⊆ _) h)), ?_⟩
      refine th_one (by kernel_rfl) (step_m rfl rfl (opg_buildSlice rfl rfl rfl rfl) ?_)
      rintro _ _ _ ⟨b27, rfl, rfl, rfl⟩
      refine ⟨Suf.h, (by first | exact fun _ h => h | assumption | exact fun _ h => (by assumption : _ ⊆ _) ((by assumption : _ ⊆ _) h)), ?_⟩
      refine th_one (by kernel_rfl) (step_m rfl rfl (opg_appendB rfl rfl rfl rfl (by omega) rfl) ?_)
      rintro _ _ _ ⟨ao', co', rfl, rfl, rfl⟩
      refine ⟨Suf.h, (by first | exact fun _ h => h | assumption | exact fun _ h => (by assumption : _ ⊆ _) ((by assumption : _ ⊆ _) h)), ?_⟩
      refine th_one (by kernel_rfl) (step_m rfl rfl (opg_appendB rfl rfl rfl rfl (by omega) rfl) ?_)
      rintro _ _ _ ⟨aw', cw', rfl, rfl, rfl⟩
      refine ⟨Suf.h, (by first | exact fun _ h => h | assumption | exact fun _ h => (by assumption : _ ⊆ _) ((by assumption : _ ⊆ _) h)), ?_⟩
      refine th_take rfl rfl (by kernel_rfl)  (by first | exact opv_nilCheckE rfl | exact opv_nilCheck rfl) ?_
      refine th_take rfl rfl (by kernel_rfl)  (by first | exact opv_fieldAddr rfl rfl | exact opv_fieldAddrE rfl (by assumption) (by omega) rfl | exact opv_fieldAddrR rfl (by omega) rfl | exact opv_fieldAddrP rfl rfl rfl) ?_
      refine th_take rfl rfl (by kernel_rfl)  (by first | exact opv_fieldAddr rfl rfl | exact opv_fieldAddrE rfl (by assumption) (by omega) rfl | exact opv_fieldAddrR rfl (by omega) rfl | exact opv_fieldAddrP rfl rfl rfl) ?_
      refine th_one (by kernel_rfl) (step_m rfl rfl (opg_store rfl rfl rfl rfl rfl rfl) ?_)
      rintro _ _ _ ⟨rfl, rfl⟩
      refine ⟨Suf.h, (by first | exact fun _ h => h | assumption | exact fun _ h => (by assumption : _ ⊆ _) ((by assumption : _ ⊆ _) h)), ?_⟩
      refine th_take rfl rfl (by kernel_rfl)  (by first | exact opv_nilCheckE rfl | exact opv_nilCheck rfl) ?_
      refine th_take rfl rfl (by kernel_rfl)  (by first | exact opv_fieldAddr rfl rfl | exact opv_fieldAddrE rfl (by assumption) (by omega) rfl | exact opv_fieldAddrR rfl (by omega) rfl | exact opv_fieldAddrP rfl rfl rfl) ?_
      refine th_take rfl rfl (by kernel_rfl)  (by first | exact opv_fieldAddr rfl rfl | exact opv_fieldAddrE rfl (by assumption) (by omega) rfl | exact opv_fieldAddrR rfl (by omega) rfl | exact opv_fieldAddrP rfl rfl rfl) ?_
      refine th_one (by kernel_rfl) (step_m rfl rfl (opg_store rfl rfl rfl rfl rfl rfl) ?_)
      rintro _ _ _ ⟨rfl, rfl⟩
      refine ⟨Suf.h, (by first | exact fun _ h => h | assumption | exact fun _ h => (by assumption : _ ⊆ _) ((by assumption : _ ⊆ _) h)), ?_⟩
      refine th_done (by kernel_rfl) ?_
      exact tri_drop (tri_drop (tri_cutEnd _ ⟨ao', aw', co', cw', rfl, rfl, rfl⟩ ⟨rfl, rfl, rfl, trivial⟩))
     ·refine (step_m rfl rfl (opg_buildSlice rfl rfl rfl rfl) ?_)
      rintro _ _ _ ⟨b27, rfl, rfl, rfl⟩
      refine ⟨Suf.h, (by first | exact fun _ h => h | assumption | exact fun _ h => (by assumption : _ ⊆ _) ((by assumption : _ ⊆ _) h)), ?_⟩
      refine th_one (by kernel_rfl) (step_m rfl rfl (OpV.toG (by first | exact opv_load1 rfl rfl rfl | exact opv_loadA rfl rfl rfl | exact opv_loadE1 rfl (by assumption) rfl (by omega) rfl rfl | exact opv_loadEA rfl (by assumption) rfl (by omega) rfl rfl | exact opv_loadRX1 rfl rfl (by omega) rfl rfl | exact opv_loadRXA rfl rfl (by omega) rfl rfl rfl | exact opv_loadIX rfl rfl (by omega) | exact opv_loadR1 rfl rfl rfl | exact opv_loadRA rfl rfl rfl rfl)) ?_)
      rintro _ _ _ ⟨rfl, rfl, rfl⟩
      refine ⟨Suf.h, (by first | exact fun _ h => h | assumption | exact fun _ h => (by assumption : _ ⊆ _) ((by assumption : _ ⊆ _) h)), ?_⟩
      refine th_one (by kernel_rfl) (step_m rfl rfl (opg_appendB rfl rfl rfl rfl (by omega) rfl) ?_)
      rintro _ _ _ ⟨ao', co', rfl, rfl, rfl⟩
      refine ⟨Suf.h, (by first | exact fun _ h => h | assumption | exact fun _ h => (by assumption : _ ⊆ _) ((by assumption : _ ⊆ _) h)), ?_⟩
      refine th_one (by kernel_rfl) (step_m rfl rfl (opg_appendB rfl rfl rfl rfl (by omega) rfl) ?_)
      rintro _ _ _ ⟨aw', cw', rfl, rfl, rfl⟩
      refine ⟨Suf.h, (by first | exact fun _ h => h | assumption | exact fun _ h => (by assumption : _ ⊆ _) ((by assumption : _ ⊆ _) h)), ?_⟩
      refine th_take rfl rfl (by kernel_rfl)  (by first | exact opv_nilCheckE rfl | exact opv_nilCheck rfl) ?_
      refine th_take rfl rfl (by kernel_rfl)  (by first | exact opv_fieldAddr rfl rfl | exact opv_fieldAddrE rfl (by assumption) (by omega) rfl | exact opv_fieldAddrR rfl (by omega) rfl | exact opv_fieldAddrP rfl rfl rfl) ?_
      refine th_take rfl rfl (by kernel_rfl)  (by first | exact opv_fieldAddr rfl rfl | exact opv_fieldAddrE rfl (by assumption) (by omega) rfl | exact opv_fieldAddrR rfl (by omega) rfl | exact opv_fieldAddrP rfl rfl rfl) ?_
      refine th_one (by kernel_rfl) (step_m rfl rfl (opg_store rfl rfl rfl rfl rfl rfl) ?_)
      rintro _ _ _ ⟨rfl, rfl⟩
      refine ⟨Suf.h, (by first | exact fun _ h => h | assumption | exact fun _ h => (by assumption : _ ⊆ _) ((by assumption : _ ⊆ _) h)), ?_⟩
      refine th_take rfl rfl (by kernel_rfl)  (by first | exact opv_nilCheckE rfl | exact opv_nilCheck rfl) ?_
      refine th_take rfl rfl (by kernel_rfl)  (by first | exact opv_fieldAddr rfl rfl | exact opv_fieldAddrE rfl (by assumption) (by omega) rfl | exact opv_fieldAddrR rfl (by omega) rfl | exact opv_fieldAddrP rfl rfl rfl) ?_
      refine th_take rfl rfl (by kernel_rfl)  (by first | exact opv_fieldAddr rfl rfl | exact opv_fieldAddrE rfl (by assumption) (by omega) rfl | exact opv_fieldAddrR rfl (by omega) rfl | exact opv_fieldAddrP rfl rfl rfl) ?_
      refine th_one (by kernel_rfl) (step_m rfl rfl (opg_store rfl rfl rfl rfl rfl rfl) ?_)
      rintro _ _ _ ⟨rfl, rfl⟩
      refine ⟨Suf.h, (by first | exact fun _ h => h | assumption | exact fun _ h => (by assumption : _ ⊆ _) ((by assumption : _ ⊆ _) h)), ?_⟩
      refine th_done (by kernel_rfl) ?_
      exact tri_drop (tri_drop (tri_cutEnd _ ⟨ao', aw', co', cw', rfl, rfl, rfl⟩ ⟨rfl, rfl, rfl, trivial⟩))
  rintro _ _ _ ⟨ao', aw', co', cw', rfl, rfl, rfl⟩
  have hl1 := R19.takeM_len k.D w
  have hlw := R19.takeM_dl k.D w w
  have hdw := hdl w hw
  have hkl := R19.kids_len p T
  obtain ⟨hs1, hz1⟩ := hd1.at_ w (by omega)
  obtain ⟨hk1, hk2⟩ := hkid T hTN
  have hss := hd1.len
  skip
  skip
  refine tT (tS ?_)
  refine tri_draw [0, 1, 2, 3, 4, 5, 6, 7, 8, 9, 10, 13, 14, 15, 16, 17, 18, 19, 20, 21, 11, 12, 22, 23, 24] rfl [_] rfl mixed ?_
  refine th_take rfl rfl (by kernel_rfl)  (opv_move rfl) ?_
  refine th_take rfl rfl (by kernel_rfl)  (by first | exact opv_nilCheckE rfl | exact opv_nilCheck rfl) ?_
  refine th_take rfl rfl (by kernel_rfl)  (by first | exact opv_fieldAddr rfl rfl | exact opv_fieldAddrE rfl (by assumption) (by omega) rfl | exact opv_fieldAddrR rfl (by omega) rfl | exact opv_fieldAddrP rfl rfl rfl) ?_
  refine th_take rfl rfl (by kernel_rfl)  (by first | exact opv_load1 rfl rfl rfl | exact opv_loadA rfl rfl rfl | exact opv_loadE1 rfl (by assumption) rfl (by omega) rfl rfl | exact opv_loadEA rfl (by assumption) rfl (by omega) rfl rfl | exact opv_loadRX1 rfl rfl (by omega) rfl rfl | exact opv_loadRXA rfl rfl (by omega) rfl rfl rfl | exact opv_loadIX rfl rfl (by omega) | exact opv_loadR1 rfl rfl rfl | exact opv_loadRA rfl rfl rfl rfl) ?_
  refine th_take rfl rfl (by kernel_rfl)  (opv_move rfl) ?_
  refine th_take rfl rfl (by kernel_rfl)  (opv_move rfl) ?_
  refine th_take rfl rfl (by kernel_rfl)  (by first | exact opv_nilCheckE rfl | exact opv_nilCheck rfl) ?_
  refine th_take rfl rfl (by kernel_rfl)  (by first | exact opv_fieldAddr rfl rfl | exact opv_fieldAddrE rfl (by assumption) (by omega) rfl | exact opv_fieldAddrR rfl (by omega) rfl | exact opv_fieldAddrP rfl rfl rfl) ?_
  refine th_take rfl rfl (by kernel_rfl)  (by first | exact opv_load1 rfl rfl rfl | exact opv_loadA rfl rfl rfl | exact opv_loadE1 rfl (by assumption) rfl (by omega) rfl rfl | exact opv_loadEA rfl (by assumption) rfl (by omega) rfl rfl | exact opv_loadRX1 rfl rfl (by omega) rfl rfl | exact opv_loadRXA rfl rfl (by omega) rfl rfl rfl | exact opv_loadIX rfl rfl (by omega) | exact opv_loadR1 rfl rfl rfl | exact opv_loadRA rfl rfl rfl rfl) ?_
  refine th_take rfl rfl (by kernel_rfl)  (opv_move rfl) ?_
  refine th_take rfl rfl (by kernel_rfl)  (by first | exact opv_indexAddrA rfl rfl (by first | decide | omega) (by first | decide | omega) | exact opv_indexAddrSN rfl rfl (by omega) (by assumption) (by first | rfl | omega) | exact opv_indexAddrS rfl rfl (by omega) (by omega) (by assumption) (by first | rfl | omega) | exact opv_indexAddrE rfl (by assumption) (by omega) rfl (by first | decide | omega) (by first | decide | omega) | exact opv_indexAddrRN rfl rfl (by omega) | exact opv_indexAddrR rfl rfl (by omega) (by omega) | exact opv_indexAddrRA rfl (by omega) rfl (by first | decide | omega) (by first | decide | omega) | exact opv_indexAddrSP rfl rfl (by omega) (by omega)) ?_
  refine th_take rfl rfl (by kernel_rfl)  (opv_move rfl) ?_
  refine th_take rfl rfl (by kernel_rfl)  (by first | exact opv_nilCheckE rfl | exact opv_nilCheck rfl) ?_
  refine th_take rfl rfl (by kernel_rfl)  (by first | exact opv_fieldAddr rfl rfl | exact opv_fieldAddrE rfl (by assumption) (by omega) rfl | exact opv_fieldAddrR rfl (by omega) rfl | exact opv_fieldAddrP rfl rfl rfl) ?_
  refine th_take rfl rfl (by kernel_rfl)  (by first | exact opv_fieldAddr rfl rfl | exact opv_fieldAddrE rfl (by assumption) (by omega) rfl | exact opv_fieldAddrR rfl (by omega) rfl | exact opv_fieldAddrP rfl rfl rfl) ?_
  refine th_take rfl rfl (by kernel_rfl)  (by first | exact opv_load1 rfl rfl rfl | exact opv_loadA rfl rfl rfl | exact opv_loadE1 rfl (by assumption) rfl (by omega) rfl rfl | exact opv_loadEA rfl (by assumption) rfl (by omega) rfl rfl | exact opv_loadRX1 rfl rfl (by omega) rfl rfl | exact opv_loadRXA rfl rfl (by omega) rfl rfl rfl | exact opv_loadIX rfl rfl (by omega) | exact opv_loadR1 rfl rfl rfl | exact opv_loadRA rfl rfl rfl rfl) ?_
  refine th_take rfl rfl (by kernel_rfl)  (opv_move rfl) ?_
  refine th_take rfl rfl (by kernel_rfl)  (by first | exact opv_indexAddrA rfl rfl (by first | decide | omega) (by first | decide | omega) | exact opv_indexAddrSN rfl rfl (by omega) (by assumption) (by first | rfl | omega) | exact opv_indexAddrS rfl rfl (by omega) (by omega) (by assumption) (by first | rfl | omega) | exact opv_indexAddrE rfl (by assumption) (by omega) rfl (by first | decide | omega) (by first | decide | omega) | exact opv_indexAddrRN rfl rfl (by omega) | exact opv_indexAddrR rfl rfl (by omega) (by omega) | exact opv_indexAddrRA rfl (by omega) rfl (by first | decide | omega) (by first | decide | omega) | exact opv_indexAddrSP rfl rfl (by omega) (by omega)) ?_
  refine th_take rfl rfl (by kernel_rfl)  (by first | exact opv_fieldAddr rfl rfl | exact opv_fieldAddrE rfl (by assumption) (by omega) rfl | exact opv_fieldAddrR rfl (by omega) rfl | exact opv_fieldAddrP rfl rfl rfl) ?_
  refine th_take rfl rfl (by kernel_rfl)  (by first | exact opv_load1 rfl rfl rfl | exact opv_loadA rfl rfl rfl | exact opv_loadE1 rfl (by assumption) rfl (by omega) rfl rfl | exact opv_loadEA rfl (by assumption) rfl (by omega) rfl rfl | exact opv_loadRX1 rfl rfl (by omega) rfl rfl | exact opv_loadRXA rfl rfl (by omega) rfl rfl rfl | exact opv_loadIX rfl rfl (by omega) | exact opv_loadR1 rfl rfl rfl | exact opv_loadRA rfl rfl rfl rfl) ?_
  refine th_one (by kernel_rfl) (step_m rfl rfl (OpV.toG (by first | exact opv_load1 rfl rfl rfl | exact opv_loadA rfl rfl rfl | exact opv_loadE1 rfl (by assumption) rfl (by omega) rfl rfl | exact opv_loadEA rfl (by assumption) rfl (by omega) rfl rfl | exact opv_loadRX1 rfl rfl (by omega) rfl rfl | exact opv_loadRXA rfl rfl (by omega) rfl rfl rfl | exact opv_loadIX rfl rfl (by omega) | exact opv_loadR1 rfl rfl rfl | exact opv_loadRA rfl rfl rfl rfl)) ?_)
  rintro _ _ _ ⟨rfl, rfl, rfl⟩
  refine ⟨Suf.h, (by first | exact fun _ h => h | assumption | exact fun _ h => (by assumption : _ ⊆ _) ((by assumption : _ ⊆ _) h)), ?_⟩
  refine th_one (by kernel_rfl) (step_m rfl rfl (opg_call (xs := [_]) rfl (slices_clip hs1 hz1)) ?_)
  rintro _ _ _ ⟨rfl, rfl, rfl⟩
  refine ⟨Suf.h, (by first | exact fun _ h => h | assumption | exact fun _ h => (by assumption : _ ⊆ _) ((by assumption : _ ⊆ _) h)), ?_⟩
  skip
  refine th_one (by kernel_rfl) (step_m rfl rfl (opg_appendF rfl rfl hs1.sl hk1 rfl hk2 rfl (by omega) rfl) ?_)
  rintro _ _ J ⟨a7, c7, rfl, h7, rfl, hJ⟩
  refine ⟨Suf.h, hJ, ?_⟩
  refine th_take rfl rfl (by kernel_rfl)  (by first | exact opv_indexAddrA rfl rfl (by first | decide | omega) (by first | decide | omega) | exact opv_indexAddrSN rfl rfl (by omega) (by assumption) (by first | rfl | omega) | exact opv_indexAddrS rfl rfl (by omega) (by omega) (by assumption) (by first | rfl | omega) | exact opv_indexAddrE rfl (by assumption) (by omega) rfl (by first | decide | omega) (by first | decide | omega) | exact opv_indexAddrRN rfl rfl (by omega) | exact opv_indexAddrR rfl rfl (by omega) (by omega) | exact opv_indexAddrRA rfl (by omega) rfl (by first | decide | omega) (by first | decide | omega) | exact opv_indexAddrSP rfl rfl (by omega) (by omega)) ?_
  refine th_one (by kernel_rfl) (step_m rfl rfl (opg_storeRX (⟨a7, ((R19.takeM k.D w).2.getD w default ++ R19.kids p T).length, c7⟩ : Sl) rfl rfl rfl (by omega) (by omega) rfl rfl rfl rfl) ?_)
  rintro _ _ _ ⟨rfl, rfl⟩
  refine ⟨Suf.h, (by first | exact fun _ h => h | assumption | exact fun _ h => (by assumption : _ ⊆ _) ((by assumption : _ ⊆ _) h)), ?_⟩
  have hd2 := (hd1.mono hJ).set (k := w) (s := ⟨a7, ((R19.takeM k.D w).2.getD w default ++ R19.kids p T).length, c7⟩) h7 rfl
  have em : R19.stepM p k w = if (k.fs.getD T default).left = 0 then { k with steps := k.steps + 1, order := k.order ++ [(T : Int)], who := k.who ++ [(w : Int)], D := (R19.takeM k.D w).2.set w ((R19.takeM k.D w).2.getD w default ++ R19.kids p T), fs := (R19.joinM (T + 1) k.fs T).1, ends := k.ends || (R19.joinM (T + 1) k.fs T).2 } else { k with steps := k.steps + 1, order := k.order ++ [(T : Int)], who := k.who ++ [(w : Int)], D := (R19.takeM k.D w).2.set w ((R19.takeM k.D w).2.getD w default ++ R19.kids p T) } := by
   unfold R19.stepM
   rw [if_neg h, hT]
   rfl
  have el1 : (k.order ++ [(T : Int)]).length = k.order.length + 1 := by simp
  have el2 : (k.who ++ [(w : Int)]).length = k.who.length + 1 := by simp
  have ee1 : encs (k.order ++ [(T : Int)]) = encs k.order ++ [.int .i64 (T : Int)] := by rw [encs_append]; rfl
  have ee2 : encs (k.who ++ [(w : Int)]) = encs k.who ++ [.int .i64 (w : Int)] := by rw [encs_append]; rfl
  rw [em]
  refine th_done (by kernel_rfl) ?_
  refine tT (tS (tR (tM rfl rfl ?_)))
  refine tri_v (by first | exact opv_nilCheckE rfl | exact opv_nilCheck rfl) rfl ?_
  refine tri_v (by first | exact opv_fieldAddr rfl rfl | exact opv_fieldAddrE rfl (by assumption) (by omega) rfl | exact opv_fieldAddrR rfl (by omega) rfl | exact opv_fieldAddrP rfl rfl rfl) rfl ?_
  refine tri_v (by first | exact opv_fieldAddr rfl rfl | exact opv_fieldAddrE rfl (by assumption) (by omega) rfl | exact opv_fieldAddrR rfl (by omega) rfl | exact opv_fieldAddrP rfl rfl rfl) rfl ?_
  refine tri_v (by first | exact opv_load1 rfl rfl rfl | exact opv_loadA rfl rfl rfl | exact opv_loadE1 rfl (by assumption) rfl (by omega) rfl rfl | exact opv_loadEA rfl (by assumption) rfl (by omega) rfl rfl | exact opv_loadRX1 rfl rfl (by omega) rfl rfl | exact opv_loadRXA rfl rfl (by omega) rfl rfl rfl | exact opv_loadIX rfl rfl (by omega) | exact opv_loadR1 rfl rfl rfl | exact opv_loadRA rfl rfl rfl rfl) rfl ?_
  refine tM rfl rfl ?_
  refine tri_v (by first | exact opv_indexAddrA rfl rfl (by first | decide | omega) (by first | decide | omega) | exact opv_indexAddrSN rfl rfl (by omega) (by assumption) (by first | rfl | omega) | exact opv_indexAddrS rfl rfl (by omega) (by omega) (by assumption) (by first | rfl | omega) | exact opv_indexAddrE rfl (by assumption) (by omega) rfl (by first | decide | omega) (by first | decide | omega) | exact opv_indexAddrRN rfl rfl (by omega) | exact opv_indexAddrR rfl rfl (by omega) (by omega) | exact opv_indexAddrRA rfl (by omega) rfl (by first | decide | omega) (by first | decide | omega) | exact opv_indexAddrSP rfl rfl (by omega) (by omega)) rfl ?_
  refine tri_v (by first | exact opv_fieldAddr rfl rfl | exact opv_fieldAddrE rfl (by assumption) (by omega) rfl | exact opv_fieldAddrR rfl (by omega) rfl | exact opv_fieldAddrP rfl rfl rfl) rfl ?_
  refine tri_v (by first | exact opv_load1 rfl rfl rfl | exact opv_loadA rfl rfl rfl | exact opv_loadE1 rfl (by assumption) rfl (by omega) rfl rfl | exact opv_loadEA rfl (by assumption) rfl (by omega) rfl rfl | exact opv_loadRX1 rfl rfl (by omega) rfl rfl | exact opv_loadRXA rfl rfl (by omega) rfl rfl rfl | exact opv_loadIX rfl rfl (by omega) | exact opv_loadR1 rfl rfl rfl | exact opv_loadRA rfl rfl rfl rfl) rfl ?_
  refine tri_v (by first | exact opv_eql rfl rfl | exact opv_eqlI rfl rfl rfl rfl rfl rfl | exact opv_eqlB rfl rfl | exact opv_eqlNil rfl rfl) rfl ?_
  refine tN (tT ?_)
  refine tri_cond_dec rfl (fun h2 => ?_) (fun h2 => ?_)
  ·rw [if_pos h2]
   refine tri_perm permJ ?_
   refine tR (tM rfl rfl ?_)
   refine tri_v (by first | exact opv_nilCheckE rfl | exact opv_nilCheck rfl) rfl ?_
   refine tri_v (by first | exact opv_fieldAddr rfl rfl | exact opv_fieldAddrE rfl (by assumption) (by omega) rfl | exact opv_fieldAddrR rfl (by omega) rfl | exact opv_fieldAddrP rfl rfl rfl) rfl ?_
   refine tM rfl rfl ?_
   refine tri_g (opg_call (xs := [_, _]) rfl (fork_join (b := b) (N := N) (by omega) (T + 1) (by omega) (by omega) (by omega) (fun u hu => hpar u (by omega)))) rfl ?_
   rintro _ _ _ ⟨rfl, rfl⟩
   refine tri_perm permJ' ?_
   refine tN ?_
   refine tri_end_n _ ⟨[], rfl⟩ rfl .nil ⟨_, ao', aw', co', cw', ?_, hd2, hJ⟩
   simp only [el1, el2, ee1, ee2, Int.toNat_natCast]
  ·rw [if_neg h2]
   refine tri_skip ?_
   refine tri_end_n _ ⟨[], rfl⟩ rfl .nil ⟨_, ao', aw', co', cw', ?_, hd2, hJ⟩
   simp only [el1, el2, ee1, ee2, Int.toNat_natCast]
end Go.GL

set_option linter.unusedVariables false
namespace Go.GL
namespace R19
variable {p v picks : List Int}
/-- A crew behind n steps. -/
structure CI (p v picks : List Int) (nw n : Nat) (fs0 : List Frame) (k : Crew) (last : Int) (dn : Nat → Bool) : Prop where
 D : k.D = (mst p picks nw n).D
 order : k.order = (mst p picks nw n).order
 who : k.who = (mst p picks nw n).who
 last : last = (mst p picks nw n).last
 steps : k.steps = n
 sum : k.sum = 0
 ends : k.ends = dn 0
 fr : FOk p v k.fs k.order dn none
 same : ∀ u, (k.fs.getD u default).a = (fs0.getD u default).a ∧ (k.fs.getD u default).len = (fs0.getD u default).len
theorem CI.ends_iff {nw n : Nat} {fs0 : List Frame} {k : Crew} {last : Int} {dn : Nat → Bool} (hr : right p) (hw : 1 ≤ nw) (h : CI p v picks nw n fs0 k last dn) (hn : n ≤ p.length) : k.ends = true ↔ n = p.length := by
 have hm := MOk.run hr hw n hn (picks := picks)
 have h0 := hr.1.1
 rw [h.ends]
 constructor
 ·intro hd
  have ha := h.fr.root hr hd
  have := nodup_le (upto p.length) k.order (upto_nd _) fun x hx => by
   obtain ⟨h1, h2⟩ := mem_upto.1 hx
   have := (ha x.toNat (by omega)).2
   rwa [Int.toNat_of_nonneg h1] at this
  rw [upto_len, h.order, hm.ol] at this
  omega
 ·rintro rfl
  refine h.fr.all hr (fun t ht => ?_) 0 (by omega)
  rw [h.order]
  exact hm.done hr t ht
theorem CI.step {nw n : Nat} {fs0 : List Frame} {k : Crew} {last : Int} {dn : Nat → Bool} (hr : right p) (hw : 1 ≤ nw) (h : CI p v picks nw n fs0 k last dn) (hn : n < p.length) :
  ∃ dn', CI p v picks nw (n + 1) fs0 (stepM p k (nxt picks nw n last).toNat) (nxt picks nw n last) dn' := by
 have hm := MOk.run hr hw n (by omega) (picks := picks)
 have hm2 := MOk.run hr hw (n + 1) (by omega) (picks := picks)
 obtain ⟨hx0, hx1⟩ := nxt_ok (picks := picks) (nw := nw) (n := n) (last := last) hw
 have hms : mst p picks nw (n + 1) = mstep p picks nw (mst p picks nw n) := rfl
 rw [hms] at hm2
 unfold mstep at hms hm2
 rw [hm.ol, ← h.last, ← h.D, ← h.order, ← h.who] at hms hm2
 obtain ⟨w, ew⟩ : ∃ w : Nat, nxt picks nw n last = (w : Int) := ⟨(nxt picks nw n last).toNat, by omega⟩
 rw [ew] at hx0 hx1 hms hm2 ⊢
 rw [Int.toNat_natCast] at hms hm2 ⊢
 obtain ⟨T, hT, hTl, hTo, hTp, hp, hl⟩ := hm.take hr hn (w := w) (by omega)
 rw [← h.D] at hT hp hl
 rw [← h.order] at hTo hTp
 rw [hT, Int.toNat_natCast] at hms hm2
 have hdT : dn T = false := by
  by_cases e : dn T = true
  ·exact absurd ((h.fr.dnr T hTl (fun e => nomatch e)).1 e).1 hTo
  ·simpa using e
 have hcl : Cl p (k.order ++ [(T : Int)]) := hm2.cl
 have em : stepM p k w = if (k.fs.getD T default).left = 0 then { k with steps := k.steps + 1, order := k.order ++ [(T : Int)], who := k.who ++ [(w : Int)], D := (takeM k.D w).2.set w ((takeM k.D w).2.getD w default ++ kids p T), fs := (joinM (T + 1) k.fs T).1, ends := k.ends || (joinM (T + 1) k.fs T).2 } else { k with steps := k.steps + 1, order := k.order ++ [(T : Int)], who := k.who ++ [(w : Int)], D := (takeM k.D w).2.set w ((takeM k.D w).2.getD w default ++ kids p T) } := by
  unfold stepM
  rw [if_neg (by omega), hT]
  rfl
 have hmo : ∀ u : Nat, u ≠ T → ((u : Int) ∈ k.order ++ [(T : Int)] ↔ (u : Int) ∈ k.order) := fun u hu => by
  rw [List.mem_append, List.mem_singleton]
  constructor
  ·rintro (h | h)
   ·exact h
   ·omega
  ·exact .inl
 have hf := h.fr
 have hto : (T : Int) ∈ k.order ++ [(T : Int)] := List.mem_append_right _ List.mem_cons_self
 rw [em]
 by_cases hz : (k.fs.getD T default).left = 0
 ·rw [if_pos hz]
  obtain ⟨dn', h5, h6⟩ := join_ok (v := v) hr hcl (T + 1) (fs := k.fs) (t := T) (dn := dn) (by omega) hTl ⟨hf.len, hf.par, hf.lft, fun u hu hne => (by
   rw [hmo u fun e => hne (by rw [e])]
   exact hf.dnr u hu (fun e => nomatch e)), hf.rng, hf.tot⟩ hto hz hdT
  refine ⟨dn', ⟨by rw [hms], by rw [hms], by rw [hms], by rw [hms], by show k.steps + 1 = _; rw [h.steps]; omega, h.sum, by show (k.ends || _) = _; rw [h.ends, h6], h5, fun u => ?_⟩⟩
  have h7 := (join_same (T + 1) k.fs T).2 u
  exact ⟨h7.1.trans (h.same u).1, h7.2.trans (h.same u).2⟩
 ·rw [if_neg hz]
  refine ⟨dn, ⟨by rw [hms], by rw [hms], by rw [hms], by rw [hms], by show k.steps + 1 = _; rw [h.steps]; omega, h.sum, h.ends, ⟨hf.len, hf.par, hf.lft, fun u hu _ => ?_, hf.rng, hf.tot⟩, h.same⟩⟩
  by_cases e : u = T
  ·subst e
   rw [hdT]
   exact ⟨fun h => (nomatch h), fun h => absurd h.2 hz⟩
  ·show (_ ↔ ((u : Int) ∈ k.order ++ [(T : Int)] ∧ _))
   rw [hmo u e]
   exact hf.dnr u hu (fun e => nomatch e)
/-- The values' sum. -/
def total (v : List Int) (n : Nat) : Int := sumTo (fun t => v.getD t default) n
theorem total_bd {B : Int} : ∀ {n : Nat}, (∀ t, t < n → -B ≤ v.getD t default ∧ v.getD t default ≤ B) → -(n * B) ≤ total v n ∧ total v n ≤ n * B
 | 0, _ => by show _ ≤ (0 : Int) ∧ (0 : Int) ≤ _; omega
 | n + 1, h => by
  have h1 := total_bd (n := n) fun t ht => h t (by omega)
  have h2 := h n (by omega)
  show _ ≤ total v n + v.getD n default ∧ total v n + v.getD n default ≤ _
  have e : ((n + 1 : Nat) : Int) * B = n * B + B := by rw [Int.natCast_add, Int.add_mul]; simp
  rw [e]
  omega
theorem CI.sums {nw : Nat} {fs0 : List Frame} {k : Crew} {last : Int} {dn : Nat → Bool} (hr : right p) (hw : 1 ≤ nw) (h : CI p v picks nw p.length fs0 k last dn) (hv : ∀ t, t < p.length → -1099511627776 ≤ v.getD t default ∧ v.getD t default ≤ 1099511627776) : (k.fs.getD 0 default).sum = total v p.length := by
 have h0 := hr.1
 have hm := MOk.run hr hw p.length (Nat.le_refl _) (picks := picks)
 have hd := h.fr.all hr fun t ht => by rw [h.order]; exact hm.done hr t ht
 obtain ⟨j, hj⟩ := h.fr.tot
 have hb := total_bd (v := v) hv
 have e1 : sumTo (amt dn k.fs) p.length = (k.fs.getD 0 default).sum := by
  have a1 := sumTo_one (g := amt dn k.fs) (h := fun _ => 0) (t := 0) (n := p.length) (by omega) fun u hu hne => by
   unfold amt
   rw [if_pos ⟨hd u hu, hne⟩]
  have a2 : ∀ n, sumTo (fun _ => (0 : Int)) n = 0 := fun n => by
   induction n with
   | zero => rfl
   | succ n ih => show sumTo _ n + 0 = 0; rw [ih]; rfl
  rw [a1, a2]
  unfold amt
  rw [if_neg (by omega)]
  omega
 have h3 := h.fr.rng 0 (by omega)
 have h4 : sumTo (fun t => v.getD t default) p.length = total v p.length := rfl
 rw [e1, h4] at hj
 omega
end R19
end Go.GL

set_option linter.unusedVariables false
namespace Go.GL
open Go.Proofs
attribute [local irreducible] wpList Code.wp Exit.then Exit.inBlock Ends Tri TriH OpV OpG FnC epf wpAnyH
variable {A : List Asrt} {I : List Chunk}
set_option maxRecDepth 100000 in
/-- Where the first one is of which a function that is handed in is true. -/
theorem slices_indexFunc {l : List Int} {p : Int → Bool} {f : FuncId} {ca : List Value} {a : Option Addr} {cap : Nat} [FnI Try.prog f] (hp : ∀ x ∈ l, FnC Try.prog f ([] ++ [Value.int .i64 x] ++ ca).toArray A I (fun v A' I' => v = .bool (p x) ∧ A = A' ∧ I = I')) (hs : SlAt I a l) (hn : l.length ≤ 1000000000) :
  FnC Try.prog 28 [.slice a l.length cap, .func (.func f) #[] ca.toArray].toArray A I (fun v A' I' => v = .int .i64 (R11.idx p l) ∧ A = A' ∧ I = I') := by
 refine fn_enter2 Try.func28 rfl Try.ntmps28 rfl fun w0 => ?_
 refine tS (tR (tA rfl rfl (tN (tT (tS (tS (tR ?_)))))))
 refine tM rfl rfl ?_
 refine tri_v (opv_len rfl) rfl ?_
 refine tM rfl rfl (tN (tT (tri_block ?_)))
 refine tri_sub (F' := [(0, .slice a l.length cap), (1, .func (.func f) #[] ca.toArray), (6, .slice a l.length cap), (7, .int .i64 (l.length : Nat)), (8, .int .i64 (0 : Nat))]) ⟨rfl, rfl, rfl, rfl, rfl, trivial⟩ ?_
 refine loop_ind (G := Nat) (fun i => l.length - i) (fun i => i ≤ l.length ∧ ∀ j, j < i → p (l.getD j default) = false) (fun i => [(0, .slice a l.length cap), (1, .func (.func f) #[] ca.toArray), (6, .slice a l.length cap), (7, .int .i64 (l.length : Nat)), (8, .int .i64 (i : Nat))]) (fun _ => _) (fun _ => _) ?_ 0 ⟨by omega, fun j h => absurd h (by omega)⟩
 rintro i ⟨hi, hok⟩ K hK
 skip
 refine tS (tR ?_)
 refine tri_v (opv_lss rfl rfl) rfl ?_
 refine tN (tT (tS ?_))
 refine tri_cond_dec rfl (fun h => ?_) (fun h => ?_)
 ·have hlt : i < l.length := by omega
  refine tri_skip (tT (tS (tri_block (tS (tR (tM rfl rfl (tA rfl rfl ?_)))))))
  refine tN (tT (tS (tR (tM rfl rfl (tM rfl rfl (tM rfl rfl ?_))))))
  refine tri_v (by first | exact opv_indexAddrA rfl rfl (by first | decide | omega) (by first | decide | omega) | exact opv_indexAddrSN rfl rfl (by omega) (by assumption) (by first | rfl | omega) | exact opv_indexAddrS rfl rfl (by omega) (by omega) (by assumption) (by first | rfl | omega) | exact opv_indexAddrE rfl (by assumption) (by omega) rfl (by first | decide | omega) (by first | decide | omega) | exact opv_indexAddrRN rfl rfl (by omega) | exact opv_indexAddrR rfl rfl (by omega) (by omega) | exact opv_indexAddrRA rfl (by omega) rfl (by first | decide | omega) (by first | decide | omega) | exact opv_indexAddrSP rfl rfl (by omega) (by omega)) rfl ?_
  refine tri_v (by first | exact opv_load1 rfl rfl rfl | exact opv_loadA rfl rfl rfl | exact opv_loadE1 rfl (by assumption) rfl (by omega) rfl rfl | exact opv_loadEA rfl (by assumption) rfl (by omega) rfl rfl | exact opv_loadRX1 rfl rfl (by omega) rfl rfl | exact opv_loadRXA rfl rfl (by omega) rfl rfl rfl | exact opv_loadIX rfl rfl (by omega) | exact opv_loadR1 rfl rfl rfl | exact opv_loadRA rfl rfl rfl rfl) rfl ?_
  refine tri_g (opg_callv (xs := [_]) rfl rfl (hp (l.getD i default) (R11.getD_mem hlt))) rfl ?_
  rintro _ _ _ ⟨rfl, rfl, rfl⟩
  refine tN (tT ?_)
  refine tri_cond rfl (fun h1 => ?_) (fun h1 => ?_)
  ·refine tS (tR (tM rfl rfl (tA rfl rfl (tN (tT (tri_ret ?_))))))
   refine tri_inBlock_ret ?_
   refine tri_then_ret (tri_then_ret ?_)
   refine tri_inBlock_ret ?_
   refine tri_then_ret ?_
   refine tri_end A Suf.h rfl (.cons (rv_tmp rfl) .nil) ⟨?_, rfl, rfl⟩
   have e : l.findIdx p = i := (List.findIdx_eq hlt).2 ⟨by simpa [hlt] using h1, fun j hj => by have := hok j hj; simpa [Nat.lt_trans hj hlt] using this⟩
   unfold R11.idx
   rw [e, if_pos hlt]
   rfl
  ·refine tri_skip ?_
   refine tri_inBlock ?_
   refine tT (tR ?_)
   refine tri_v (by first | exact opv_add rfl rfl (w64 (by omega) (by omega))) rfl ?_
   refine tM rfl rfl (tN (tT ?_))
   refine tri_sub ?_ (hK (i + 1) ⟨by omega, fun j hj => ?_⟩ (by omega))
   ·exact ⟨rfl, rfl, rfl, rfl, rfl, trivial⟩
   ·by_cases e : j = i
    ·subst e
     exact h1
    ·exact hok j (by omega)
 ·refine tri_exit ?_
  refine tri_then_exit ?_
  refine tri_then_exit ?_
  refine tri_inBlock_hit rfl ?_
  refine tT (tS (tR (tA rfl rfl (tN (tT (tri_ret ?_))))))
  refine tri_end A Suf.h rfl (.cons (rv_tmp rfl) .nil) ⟨?_, rfl, rfl⟩
  have e : l.findIdx p = l.length := List.findIdx_eq_length.2 fun x hx => by
   obtain ⟨j, hj, rfl⟩ := List.getElem_of_mem hx
   have := hok j (by omega)
   simpa [hj] using this
  unfold R11.idx
  rw [if_neg (by omega)]
  rfl
end Go.GL

set_option linter.unusedVariables false
namespace Go.GL
open Go.Proofs
attribute [local irreducible] wpList Code.wp Exit.then Exit.inBlock Ends Tri TriH OpV OpG FnC epf wpAnyH
variable {A : List Asrt} {I : List Chunk}
set_option maxRecDepth 100000 in
theorem pick_place {c n : Int} (h0 : I64 c) (hn : 0 < n) : FnC Try.prog 30 [.int .i64 c, .int .i64 n].toArray A I (fun v A' I' => v = .int .i64 (pk c n) ∧ A = A' ∧ I = I') := by
 obtain ⟨h0, h1⟩ := h0
 refine fn_enter2 Try.func30 rfl Try.ntmps30 rfl fun w0 => ?_
 refine tS (tR (tA rfl rfl (tN (tT (tS (tS (tR ?_)))))))
 refine tM rfl rfl ?_
 refine tri_v (opv_lss rfl rfl) rfl ?_
 refine tN (tT ?_)
 refine tri_cond_dec rfl (fun h => ?_) (fun h => ?_)
 ·refine tR (tM rfl rfl ?_)
  refine tri_v (by first | exact opv_add rfl rfl (w64 (by omega) (by omega))) rfl ?_
  refine tri_v (by first | exact opv_negE rfl (by omega) (by omega)) rfl ?_
  refine tA rfl rfl (tN (tT (tS (tR (tM rfl rfl (tM rfl rfl ?_))))))
  refine tri_v (by first | exact opv_remE rfl rfl (by omega) (by omega) | exact opv_rem rfl rfl (by omega) rfl) rfl ?_
  refine tA rfl rfl (tN (tT (tri_ret ?_)))
  refine tri_end A Suf.h rfl (.cons (rv_tmp rfl) .nil) ⟨?_, rfl, rfl⟩
  rw [pk, if_pos h]; rfl
 ·refine tri_skip (tT (tS (tR (tM rfl rfl (tM rfl rfl ?_)))))
  refine tri_v (by first | exact opv_remE rfl rfl (by omega) (by omega) | exact opv_rem rfl rfl (by omega) rfl) rfl ?_
  refine tA rfl rfl (tN (tT (tri_ret ?_)))
  refine tri_end A Suf.h rfl (.cons (rv_tmp rfl) .nil) ⟨?_, rfl, rfl⟩
  rw [pk, if_neg h]; rfl
set_option maxRecDepth 100000 in
theorem pick_next1 {x last : Int} {b : Nat} {T : TypeId} : FnC Try.prog 31 [.int .i64 x, pt b 0].toArray (Box b [.int .i64 last] T :: A) I (fun v A' I' => v = .bool (decide (last < x)) ∧ Box b [.int .i64 last] T :: A = A' ∧ I = I') := by
 refine fn_enter2 Try.func31 rfl Try.ntmps31 rfl fun w0 => ?_
 refine tS (tR (tA rfl rfl (tN (tT (tS (tR (tM rfl rfl ?_)))))))
 refine tri_v (by first | exact opv_load1 rfl rfl rfl | exact opv_loadA rfl rfl rfl | exact opv_loadE1 rfl (by assumption) rfl (by omega) rfl rfl | exact opv_loadEA rfl (by assumption) rfl (by omega) rfl rfl | exact opv_loadRX1 rfl rfl (by omega) rfl rfl | exact opv_loadRXA rfl rfl (by omega) rfl rfl rfl | exact opv_loadIX rfl rfl (by omega) | exact opv_loadR1 rfl rfl rfl | exact opv_loadRA rfl rfl rfl rfl) rfl ?_
 refine tri_v (opv_gtr rfl rfl) rfl ?_
 refine tA rfl rfl (tN (tT (tri_ret ?_)))
 refine tri_end _ (by first | exact ⟨[], rfl⟩ | exact ⟨[_], rfl⟩ | exact ⟨[_, _], rfl⟩ | exact ⟨[_, _, _], rfl⟩ | exact ⟨[_, _, _, _], rfl⟩ | exact ⟨[_, _, _, _, _], rfl⟩ | exact ⟨[_, _, _, _, _, _], rfl⟩ | exact ⟨[_, _, _, _, _, _, _], rfl⟩ | exact ⟨[_, _, _, _, _, _, _, _], rfl⟩) rfl (.cons (rv_tmp rfl) .nil) ⟨rfl, rfl, rfl⟩
/-- Numbers that a machine can hold. -/
def Is (l : List Int) : Prop := ∀ i, i < l.length → I64 (l.getD i default)
set_option maxHeartbeats 1000000 in
set_option maxRecDepth 100000 in
theorem pick_next {picks left : List Int} {step last : Int} {a a2 : Option Addr} {cap cap2 : Nat} {E : TypeId} (hs : SlAt I a picks) (hp : Is picks) (hn : left.length ≤ 1000000) :
  FnC Try.prog 23 [.slice a picks.length cap, .int .i64 step, .slice a2 left.length cap2, .int .i64 last].toArray (Row a2 cap2 left.length E 1 (encs left) :: A) I (fun v A' I' => v = .int .i64 (R11.next picks step left last) ∧ Row a2 cap2 left.length E 1 (encs left) :: A = A' ∧ I ⊆ I') := by
 have hnx : R11.next picks step left last = if (R11.all left).length = 0 then -1 else if 0 ≤ step ∧ step < picks.length then (R11.all left).getD (pk (picks.getD step.toNat default) (R11.all left).length).toNat default else R11.round (R11.all left) last := rfl
 have hall : R11.all left = R11.allF 0 left := rfl
 have hal := R11.all_len left
 generalize R11.next picks step left last = res at *
 skip
 refine fn_enter4 Try.func23 rfl Try.ntmps23 rfl fun w0 => ?_
 refine tS (tR ?_)
 first | refine tri_g (opg_box_agg rfl) rfl ?_ | refine tri_g (opg_box1 rfl rfl) rfl ?_
 rintro _ _ _ ⟨b7, rfl, rfl, rfl⟩
 refine tA rfl rfl (tN (tT (tS (tR (tA rfl rfl (tN (tT ?_)))))))
 refine tS (tS (tR (tM rfl rfl ?_)))
 refine tri_v (opv_len rfl) rfl ?_
 refine tM rfl rfl (tN (tT ?_))
 refine tri_cut (fun F' A' J => ∃ (a1 : Option Addr) (c1 : Nat), F' = [(0, .slice a picks.length cap), (1, .int .i64 step), (3, .int .i64 last), (7, pt b7 0), (9, .slice a1 (R11.all left).length c1)] ∧ A' = Row a1 c1 (R11.all left).length 3 1 (encs (R11.all left)) :: Box b7 [.int .i64 last] 3 :: Row a2 cap2 left.length E 1 (encs left) :: A ∧ I = J) ?_ ?_
 ·refine tri_block ?_
  refine tri_nilRow (E := 3) (sz := 1) ?_
  refine tri_sub (F' := [(0, .slice a picks.length cap), (1, .int .i64 step), (3, .int .i64 last), (7, pt b7 0), (9, .slice none 0 0), (13, .slice a2 left.length cap2), (14, .int .i64 (left.length : Nat)), (15, .int .i64 (0 : Nat))]) ⟨rfl, rfl, rfl, rfl, rfl, rfl, rfl, rfl, trivial⟩ ?_
  refine loop_ind (G := Nat × Option Addr × Nat) (fun g => left.length - g.1) (fun g => g.1 ≤ left.length) (fun g => [(0, .slice a picks.length cap), (1, .int .i64 step), (3, .int .i64 last), (7, pt b7 0), (9, .slice g.2.1 (R11.allF 0 (left.take g.1)).length g.2.2), (13, .slice a2 left.length cap2), (14, .int .i64 (left.length : Nat)), (15, .int .i64 (g.1 : Nat))]) (fun g => Row g.2.1 g.2.2 (R11.allF 0 (left.take g.1)).length 3 1 (encs (R11.allF 0 (left.take g.1))) :: Box b7 [.int .i64 last] 3 :: Row a2 cap2 left.length E 1 (encs left) :: A) (fun _ => I) ?_ (0, none, 0) (by simp)
  rintro ⟨i, a1, c1⟩ hi K hK
  simp only at hi hK ⊢
  have hl1 := R11.allF_len (left.take i) 0
  rw [List.length_take] at hl1
  skip
  refine tS (tR ?_)
  refine tri_v (opv_lss rfl rfl) rfl ?_
  refine tN (tT (tS ?_))
  refine tri_cond_dec rfl (fun h => ?_) (fun h => ?_)
  ·have hlt : i < left.length := by omega
   have e : left.take (i + 1) = left.take i ++ [left.getD i default] := by
    rw [List.take_succ_eq_append_getElem hlt, show left.getD i default = left[i] by simp [hlt]]
   have el : 0 + (left.take i).length = i := by rw [List.length_take]; omega
   refine tri_skip (tT (tS (tri_block (tS (tR (tM rfl rfl ?_))))))
   refine tri_v (by first | exact opv_indexAddrA rfl rfl (by first | decide | omega) (by first | decide | omega) | exact opv_indexAddrSN rfl rfl (by omega) (by assumption) (by first | rfl | omega) | exact opv_indexAddrS rfl rfl (by omega) (by omega) (by assumption) (by first | rfl | omega) | exact opv_indexAddrE rfl (by assumption) (by omega) rfl (by first | decide | omega) (by first | decide | omega) | exact opv_indexAddrRN rfl rfl (by omega) | exact opv_indexAddrR rfl rfl (by omega) (by omega) | exact opv_indexAddrRA rfl (by omega) rfl (by first | decide | omega) (by first | decide | omega) | exact opv_indexAddrSP rfl rfl (by omega) (by omega)) rfl ?_
   refine tri_v (by first | exact opv_load1 rfl rfl rfl | exact opv_loadA rfl rfl rfl | exact opv_loadE1 rfl (by assumption) rfl (by omega) rfl rfl | exact opv_loadEA rfl (by assumption) rfl (by omega) rfl rfl | exact opv_loadRX1 rfl rfl (by omega) rfl rfl | exact opv_loadRXA rfl rfl (by omega) rfl rfl rfl | exact opv_loadIX rfl rfl (by omega) | exact opv_loadR1 rfl rfl rfl | exact opv_loadRA rfl rfl rfl rfl) rfl ?_
   refine tA rfl rfl (tA rfl rfl (tN (tT (tS (tR (tM rfl rfl ?_))))))
   refine tri_v (opv_gtr rfl rfl) rfl ?_
   refine tN (tT ?_)
   refine tri_cond_dec rfl (fun h5 => ?_) (fun h5 => ?_)
   ·have e2 : R11.allF 0 (left.take (i + 1)) = R11.allF 0 (left.take i) ++ [(i : Int)] := by
     rw [e, R11.allF_snoc, el, if_pos h5]
    refine tR (tM rfl rfl (tM rfl rfl ?_))
    refine tri_g (opg_buildSlice rfl rfl rfl rfl) rfl ?_
    rintro _ _ _ ⟨b24, rfl, rfl, rfl⟩
    refine tri_g (opg_appendB rfl rfl rfl rfl (by omega) rfl) rfl ?_
    rintro _ _ _ ⟨a3, cap3, rfl, rfl, rfl⟩
    refine tA rfl rfl (tN ?_)
    refine tri_inBlock ?_
    refine tT (tR ?_)
    refine tri_v (by first | exact opv_add rfl rfl (w64 (by omega) (by omega))) rfl ?_
    refine tM rfl rfl (tN (tT ?_))
    refine tri_drop ?_
    refine tri_rowEq (len' := (R11.allF 0 (left.take (i + 1))).length) (cells' := encs (R11.allF 0 (left.take (i + 1)))) (by rw [e2]; simp) (by rw [e2, encs_append]; rfl) ?_
    refine tri_sub ?_ (hK (i + 1, a3, cap3) (by simp only; omega) (by simp only; omega))
    exact ⟨rfl, rfl, rfl, rfl, by simp only [e2, List.length_append]; rfl, rfl, rfl, rfl, trivial⟩
   ·have e2 : R11.allF 0 (left.take (i + 1)) = R11.allF 0 (left.take i) := by
     rw [e, R11.allF_snoc, el, if_neg h5, List.append_nil]
    refine tri_skip ?_
    refine tri_inBlock ?_
    refine tT (tR ?_)
    refine tri_v (by first | exact opv_add rfl rfl (w64 (by omega) (by omega))) rfl ?_
    refine tM rfl rfl (tN (tT ?_))
    refine tri_rowEq (len' := (R11.allF 0 (left.take (i + 1))).length) (cells' := encs (R11.allF 0 (left.take (i + 1)))) (by rw [e2]) (by rw [e2]) ?_
    refine tri_sub ?_ (hK (i + 1, a1, c1) (by simp only; omega) (by simp only; omega))
    exact ⟨rfl, rfl, rfl, rfl, by simp only [e2]; rfl, rfl, rfl, rfl, trivial⟩
  ·have e : left.take i = left := List.take_of_length_le (by omega)
   rw [e] at hl1 ⊢
   refine tri_exit ?_
   refine tri_then_exit ?_
   refine tri_then_exit ?_
   refine tri_inBlock_hit rfl ?_
   refine tri_cutEnd _ ⟨a1, c1, rfl, rfl, rfl⟩ ⟨rfl, rfl, rfl, rfl, rfl, trivial⟩
 rintro _ _ _ ⟨a1, c1, rfl, rfl, rfl⟩
 refine tri_freezeRow (α := Int) rfl fun I1 hI1 hsa => ?_
 have hs1 := hs.mono hI1
 generalize R11.all left = al at *
 skip
 refine tT (tS (tS (tR (tM rfl rfl ?_))))
 refine tri_v (opv_len rfl) rfl ?_
 refine tri_v (by first | exact opv_eql rfl rfl | exact opv_eqlI rfl rfl rfl rfl rfl rfl | exact opv_eqlB rfl rfl | exact opv_eqlNil rfl rfl) rfl ?_
 refine tN (tT ?_)
 refine tri_cond_dec rfl (fun h1 => ?_) (fun h1 => ?_)
 ·refine tS (tR (tA rfl rfl (tN (tT (tri_ret (tri_then_ret ?_))))))
  rw [if_pos (by omega)] at hnx
  refine tri_end (Row a2 cap2 left.length E 1 (encs left) :: A) Suf.h rfl (.cons (rv_tmp rfl) .nil) ⟨by rw [hnx]; rfl, rfl, hI1⟩
 skip
 rw [if_neg (by omega)] at hnx
 refine tri_skip (tT (tS (tS ?_)))
 refine tri_cut (fun F' A' J => F' = [(0, .slice a picks.length cap), (1, .int .i64 step), (3, .int .i64 last), (7, pt b7 0), (9, .slice a1 al.length c1), (37, .bool (decide (0 ≤ step ∧ step < picks.length)))] ∧ A' = Box b7 [.int .i64 last] 3 :: Row a2 cap2 left.length E 1 (encs left) :: A ∧ I1 = J) ?_ ?_
 ·refine tR (tM rfl rfl ?_)
  refine tri_v (opv_geq rfl rfl) rfl ?_
  refine tM rfl rfl ?_
  refine tri_split rfl rfl (fun h2 => ?_) (fun h2 => ?_)
  ·refine tri_guard_run rfl rfl rfl (tM rfl rfl (tri_guard_run rfl rfl rfl (tM rfl rfl (tri_guard_run rfl rfl rfl ?_))))
   refine tri_v (opv_len rfl) rfl ?_
   refine tri_guard_run rfl rfl rfl ?_
   refine tri_v (opv_lss rfl rfl) rfl ?_
   refine tri_v (by first | exact opv_pick_t rfl rfl | exact opv_pick_f rfl rfl | exact opv_pick_bool rfl rfl rfl | exact opv_pick rfl rfl rfl) rfl ?_
   refine tN ?_
   refine tri_cutEnd _ ⟨rfl, rfl, rfl⟩ ⟨rfl, rfl, rfl, rfl, rfl, ?_, trivial⟩
   exact congrArg (fun x => some (Value.bool x)) (decide_eq_decide.2 ⟨fun h => h.2, fun h => ⟨h2, h⟩⟩).symm
  ·refine tri_guard_skip rfl rfl rfl rfl (tri_guard_skip rfl rfl rfl rfl (tri_guard_skip rfl rfl rfl rfl (tri_guard_skip rfl rfl rfl rfl ?_)))
   refine tri_v (by first | exact opv_pick_t rfl rfl | exact opv_pick_f rfl rfl | exact opv_pick_bool rfl rfl rfl | exact opv_pick rfl rfl rfl) rfl ?_
   refine tN ?_
   refine tri_cutEnd _ ⟨rfl, rfl, rfl⟩ ⟨rfl, rfl, rfl, rfl, rfl, ?_, trivial⟩
   exact congrArg (fun x => some (Value.bool x)) (decide_eq_false fun h => h2 h.1).symm
 rintro _ _ _ ⟨rfl, rfl, rfl⟩
 skip
 refine tT ?_
 refine tri_cond_dec rfl (fun h3 => ?_) (fun h3 => ?_)
 ·rw [if_pos h3] at hnx
  have hstep : step.toNat < picks.length := by omega
  have hpk := pk_bd (c := picks.getD step.toNat default) (n := al.length) (by omega)
  have hpi := hp step.toNat hstep
  refine tS (tR (tM rfl rfl (tM rfl rfl (tM rfl rfl ?_))))
  refine tri_v (by first | exact opv_indexAddrA rfl rfl (by first | decide | omega) (by first | decide | omega) | exact opv_indexAddrSN rfl rfl (by omega) (by assumption) (by first | rfl | omega) | exact opv_indexAddrS rfl rfl (by omega) (by omega) (by assumption) (by first | rfl | omega) | exact opv_indexAddrE rfl (by assumption) (by omega) rfl (by first | decide | omega) (by first | decide | omega) | exact opv_indexAddrRN rfl rfl (by omega) | exact opv_indexAddrR rfl rfl (by omega) (by omega) | exact opv_indexAddrRA rfl (by omega) rfl (by first | decide | omega) (by first | decide | omega) | exact opv_indexAddrSP rfl rfl (by omega) (by omega)) rfl ?_
  refine tri_v (by first | exact opv_load1 rfl rfl rfl | exact opv_loadA rfl rfl rfl | exact opv_loadE1 rfl (by assumption) rfl (by omega) rfl rfl | exact opv_loadEA rfl (by assumption) rfl (by omega) rfl rfl | exact opv_loadRX1 rfl rfl (by omega) rfl rfl | exact opv_loadRXA rfl rfl (by omega) rfl rfl rfl | exact opv_loadIX rfl rfl (by omega) | exact opv_loadR1 rfl rfl rfl | exact opv_loadRA rfl rfl rfl rfl) rfl ?_
  refine tM rfl rfl ?_
  refine tri_v (opv_len rfl) rfl ?_
  refine tri_g (opg_call (xs := [_, _]) rfl (pick_place hpi (by omega))) rfl ?_
  rintro _ _ _ ⟨rfl, rfl, rfl⟩
  refine tri_v (by first | exact opv_indexAddrA rfl rfl (by first | decide | omega) (by first | decide | omega) | exact opv_indexAddrSN rfl rfl (by omega) (by assumption) (by first | rfl | omega) | exact opv_indexAddrS rfl rfl (by omega) (by omega) (by assumption) (by first | rfl | omega) | exact opv_indexAddrE rfl (by assumption) (by omega) rfl (by first | decide | omega) (by first | decide | omega) | exact opv_indexAddrRN rfl rfl (by omega) | exact opv_indexAddrR rfl rfl (by omega) (by omega) | exact opv_indexAddrRA rfl (by omega) rfl (by first | decide | omega) (by first | decide | omega) | exact opv_indexAddrSP rfl rfl (by omega) (by omega)) rfl ?_
  refine tri_v (by first | exact opv_load1 rfl rfl rfl | exact opv_loadA rfl rfl rfl | exact opv_loadE1 rfl (by assumption) rfl (by omega) rfl rfl | exact opv_loadEA rfl (by assumption) rfl (by omega) rfl rfl | exact opv_loadRX1 rfl rfl (by omega) rfl rfl | exact opv_loadRXA rfl rfl (by omega) rfl rfl rfl | exact opv_loadIX rfl rfl (by omega) | exact opv_loadR1 rfl rfl rfl | exact opv_loadRA rfl rfl rfl rfl) rfl ?_
  refine tA rfl rfl (tN (tT (tri_ret (tri_then_ret ?_))))
  refine tri_end (Row a2 cap2 left.length E 1 (encs left) :: A) Suf.h rfl (.cons (rv_tmp rfl) .nil) ⟨by rw [hnx]; rfl, rfl, hI1⟩
 refine tri_skip (tT (tS (tS (tR (tM rfl rfl ?_)))))
 refine tri_v (opv_makeFunc (fs := []) (cs := [_]) (vf := []) (vc := [_]) rfl rfl) rfl ?_
 rw [if_neg h3] at hnx
 refine tri_g (opg_call (xs := [_, _]) rfl (slices_indexFunc (p := fun x => decide (last < x)) (ca := [pt b7 0]) (fun x _ => pick_next1) hsa (by omega))) rfl ?_
 rintro _ _ _ ⟨rfl, rfl, rfl⟩
 refine tA rfl rfl (tN (tT (tS ?_)))
 unfold R11.round at hnx
 have hix := R11.idx_lt (fun x => decide (last < x)) al
 generalize R11.idx (fun x => decide (last < x)) al = ix at *
 refine tri_cut (fun F' A' J => F' = [(9, .slice a1 al.length c1), (12, .int .i64 ix), (56, .bool (decide (0 ≤ ix ∧ 0 ≤ last)))] ∧ A' = Box b7 [.int .i64 last] 3 :: Row a2 cap2 left.length E 1 (encs left) :: A ∧ I1 = J) ?_ ?_
 ·refine tR (tM rfl rfl ?_)
  refine tri_v (opv_geq rfl rfl) rfl ?_
  refine tM rfl rfl ?_
  refine tri_split rfl rfl (fun h4 => ?_) (fun h4 => ?_)
  ·refine tri_guard_run rfl rfl rfl ?_
   refine tri_v (by first | exact opv_load1 rfl rfl rfl | exact opv_loadA rfl rfl rfl | exact opv_loadE1 rfl (by assumption) rfl (by omega) rfl rfl | exact opv_loadEA rfl (by assumption) rfl (by omega) rfl rfl | exact opv_loadRX1 rfl rfl (by omega) rfl rfl | exact opv_loadRXA rfl rfl (by omega) rfl rfl rfl | exact opv_loadIX rfl rfl (by omega) | exact opv_loadR1 rfl rfl rfl | exact opv_loadRA rfl rfl rfl rfl) rfl ?_
   refine tri_guard_run rfl rfl rfl ?_
   refine tri_v (opv_geq rfl rfl) rfl ?_
   refine tri_v (by first | exact opv_pick_t rfl rfl | exact opv_pick_f rfl rfl | exact opv_pick_bool rfl rfl rfl | exact opv_pick rfl rfl rfl) rfl ?_
   refine tN ?_
   refine tri_cutEnd _ ⟨rfl, rfl, rfl⟩ ⟨rfl, rfl, ?_, trivial⟩
   exact congrArg (fun x => some (Value.bool x)) (decide_eq_decide.2 ⟨fun h => h.2, fun h => ⟨h4, h⟩⟩).symm
  ·refine tri_guard_skip rfl rfl rfl rfl (tri_guard_skip rfl rfl rfl rfl ?_)
   refine tri_v (by first | exact opv_pick_t rfl rfl | exact opv_pick_f rfl rfl | exact opv_pick_bool rfl rfl rfl | exact opv_pick rfl rfl rfl) rfl ?_
   refine tN ?_
   refine tri_cutEnd _ ⟨rfl, rfl, rfl⟩ ⟨rfl, rfl, ?_, trivial⟩
   exact congrArg (fun x => some (Value.bool x)) (decide_eq_false fun h => h4 h.1).symm
 rintro _ _ _ ⟨rfl, rfl, rfl⟩
 skip
 refine tT ?_
 refine tri_cond_dec rfl (fun h5 => ?_) (fun h5 => ?_)
 ·rw [if_pos h5] at hnx
  refine tS (tR (tM rfl rfl (tM rfl rfl ?_)))
  refine tri_v (by first | exact opv_indexAddrA rfl rfl (by first | decide | omega) (by first | decide | omega) | exact opv_indexAddrSN rfl rfl (by omega) (by assumption) (by first | rfl | omega) | exact opv_indexAddrS rfl rfl (by omega) (by omega) (by assumption) (by first | rfl | omega) | exact opv_indexAddrE rfl (by assumption) (by omega) rfl (by first | decide | omega) (by first | decide | omega) | exact opv_indexAddrRN rfl rfl (by omega) | exact opv_indexAddrR rfl rfl (by omega) (by omega) | exact opv_indexAddrRA rfl (by omega) rfl (by first | decide | omega) (by first | decide | omega) | exact opv_indexAddrSP rfl rfl (by omega) (by omega)) rfl ?_
  refine tri_v (by first | exact opv_load1 rfl rfl rfl | exact opv_loadA rfl rfl rfl | exact opv_loadE1 rfl (by assumption) rfl (by omega) rfl rfl | exact opv_loadEA rfl (by assumption) rfl (by omega) rfl rfl | exact opv_loadRX1 rfl rfl (by omega) rfl rfl | exact opv_loadRXA rfl rfl (by omega) rfl rfl rfl | exact opv_loadIX rfl rfl (by omega) | exact opv_loadR1 rfl rfl rfl | exact opv_loadRA rfl rfl rfl rfl) rfl ?_
  refine tA rfl rfl (tN (tT (tri_ret (tri_then_ret ?_))))
  refine tri_end (Row a2 cap2 left.length E 1 (encs left) :: A) Suf.h rfl (.cons (rv_tmp rfl) .nil) ⟨by rw [hnx]; rfl, rfl, hI1⟩
 ·rw [if_neg h5] at hnx
  refine tri_skip (tT (tS (tR (tM rfl rfl ?_))))
  refine tri_v (by first | exact opv_indexAddrA rfl rfl (by first | decide | omega) (by first | decide | omega) | exact opv_indexAddrSN rfl rfl (by omega) (by assumption) (by first | rfl | omega) | exact opv_indexAddrS rfl rfl (by omega) (by omega) (by assumption) (by first | rfl | omega) | exact opv_indexAddrE rfl (by assumption) (by omega) rfl (by first | decide | omega) (by first | decide | omega) | exact opv_indexAddrRN rfl rfl (by omega) | exact opv_indexAddrR rfl rfl (by omega) (by omega) | exact opv_indexAddrRA rfl (by omega) rfl (by first | decide | omega) (by first | decide | omega) | exact opv_indexAddrSP rfl rfl (by omega) (by omega)) rfl ?_
  refine tri_v (by first | exact opv_load1 rfl rfl rfl | exact opv_loadA rfl rfl rfl | exact opv_loadE1 rfl (by assumption) rfl (by omega) rfl rfl | exact opv_loadEA rfl (by assumption) rfl (by omega) rfl rfl | exact opv_loadRX1 rfl rfl (by omega) rfl rfl | exact opv_loadRXA rfl rfl (by omega) rfl rfl rfl | exact opv_loadIX rfl rfl (by omega) | exact opv_loadR1 rfl rfl rfl | exact opv_loadRA rfl rfl rfl rfl) rfl ?_
  refine tA rfl rfl (tN (tT (tri_ret ?_)))
  refine tri_end (Row a2 cap2 left.length E 1 (encs left) :: A) Suf.h rfl (.cons (rv_tmp rfl) .nil) ⟨by rw [hnx]; rfl, rfl, hI1⟩
end Go.GL

set_option linter.unusedVariables false
namespace Go.GL
open Go.Proofs
attribute [local irreducible] wpList Code.wp Exit.then Exit.inBlock Ends Tri TriH OpV OpG FnC epf wpAnyH
variable {A : List Asrt} {I : List Chunk}
set_option maxRecDepth 100000 in
theorem slices_containsFunc {l : List Int} {p : Int → Bool} {f : FuncId} {ca : List Value} {a : Option Addr} {cap : Nat} [FnI Try.prog f] (hp : ∀ x ∈ l, FnC Try.prog f ([] ++ [Value.int .i64 x] ++ ca).toArray A I (fun v A' I' => v = .bool (p x) ∧ A = A' ∧ I = I')) (hs : SlAt I a l) (hn : l.length ≤ 1000000000) :
  FnC Try.prog 20 [.slice a l.length cap, .func (.func f) #[] ca.toArray].toArray A I (fun v A' I' => v = .bool (decide (0 ≤ R11.idx p l)) ∧ A = A' ∧ I = I') := by
 refine fn_enter2 Try.func20 rfl Try.ntmps20 rfl fun w0 => ?_
 refine tS (tR (tA rfl rfl (tN (tT (tS (tR (tM rfl rfl ?_)))))))
 refine tM rfl rfl ?_
 refine tri_g (opg_call (xs := [_, _]) rfl (slices_indexFunc hp hs hn)) rfl ?_
 rintro _ _ _ ⟨rfl, rfl, rfl⟩
 refine tri_v (opv_geq rfl rfl) rfl ?_
 refine tA rfl rfl (tN (tT (tri_ret ?_)))
 refine tri_end A Suf.h rfl (.cons (rv_tmp rfl) .nil) ⟨rfl, rfl, rfl⟩
theorem idx_any {p : Int → Bool} {l : List Int} : 0 ≤ R11.idx p l ↔ ∃ i, i < l.length ∧ p (l.getD i default) = true := by
 constructor
 ·intro h
  obtain ⟨h1, h2, _⟩ := R11.idx_some h
  exact ⟨_, h1, h2⟩
 ·rintro ⟨i, h1, h2⟩
  apply Decidable.byContradiction
  intro h
  have := R11.idx_none h _ (R11.getD_mem h1)
  rw [h2] at this
  cases this
end Go.GL

set_option linter.unusedVariables false
namespace Go.GL
open Go.Proofs
attribute [local irreducible] wpList Code.wp Exit.then Exit.inBlock Ends Tri TriH OpV OpG FnC epf wpAnyH
variable {A : List Asrt} {I : List Chunk}
set_option maxRecDepth 100000 in
theorem bits_mul64 {v : Int} (h0 : 0 ≤ v) (h1 : v ≤ 1000000) : FnC Try.prog 38 [.int .u64 1, .int .u64 v].toArray A I (fun r A' I' => r = .tuple [.int .u64 0, .int .u64 v].toArray ∧ A = A' ∧ I = I') := by
 refine fn_enter2 Try.func38 rfl Try.ntmps38 rfl fun w0 => ?_
 skip
 refine tS (tR (tA rfl rfl (tA rfl rfl (tN (tT (tS (tR ?_)))))))
 refine tM rfl rfl ?_
 refine tri_v (opv_and32 rfl rfl (by omega) (by omega)) rfl ?_
 refine tA rfl rfl (tN (tT (tS (tR (tM rfl rfl ?_)))))
 refine tri_v (opv_shr32 rfl rfl (by omega) (by omega)) rfl ?_
 refine tA rfl rfl (tN (tT (tS (tR (tM rfl rfl ?_)))))
 refine tri_v (opv_and32 rfl rfl (by omega) (by omega)) rfl ?_
 refine tA rfl rfl (tN (tT (tS (tR (tM rfl rfl ?_)))))
 refine tri_v (opv_shr32 rfl rfl (by omega) (by omega)) rfl ?_
 refine tA rfl rfl (tN (tT (tS (tR (tM rfl rfl (tM rfl rfl ?_))))))
 refine tri_v (opv_mul (z := v) rfl rfl (by rw [Int.one_mul]; exact wu64 (by omega) (by omega))) rfl ?_
 refine tA rfl rfl (tN (tT (tS (tR (tM rfl rfl (tM rfl rfl ?_))))))
 refine tri_v (opv_mul (z := 0) rfl rfl (by rw [Int.zero_mul]; rfl)) rfl ?_
 refine tM rfl rfl ?_
 refine tri_v (opv_shr32 rfl rfl (by omega) (by omega)) rfl ?_
 skip
 refine tri_v (opv_add (z := 0) rfl rfl rfl) rfl ?_
 refine tA rfl rfl (tN (tT (tS (tR (tM rfl rfl ?_)))))
 refine tri_v (opv_and32 rfl rfl (by omega) (by omega)) rfl ?_
 refine tA rfl rfl (tN (tT (tS (tR (tM rfl rfl ?_)))))
 refine tri_v (opv_shr32 rfl rfl (by omega) (by omega)) rfl ?_
 refine tA rfl rfl (tN (tT (tS (tR (tM rfl rfl (tM rfl rfl (tM rfl rfl ?_)))))))
 refine tri_v (opv_mul (z := 0) rfl rfl rfl) rfl ?_
 skip
 refine tri_v (opv_add (z := 0) rfl rfl rfl) rfl ?_
 refine tA rfl rfl (tN (tT (tS (tR (tM rfl rfl (tM rfl rfl ?_))))))
 refine tri_v (opv_mul (z := 0) rfl rfl rfl) rfl ?_
 refine tM rfl rfl ?_
 refine tri_v (opv_add (z := 0) rfl rfl rfl) rfl ?_
 refine tM rfl rfl ?_
 refine tri_v (opv_shr32 rfl rfl (by omega) (by omega)) rfl ?_
 skip
 refine tri_v (opv_add (z := 0) rfl rfl rfl) rfl ?_
 refine tA rfl rfl (tN (tT (tS (tR (tM rfl rfl (tM rfl rfl ?_))))))
 refine tri_v (opv_mul (z := v) rfl rfl (by rw [Int.one_mul]; exact wu64 (by omega) (by omega))) rfl ?_
 refine tA rfl rfl (tN (tT (tri_ret ?_)))
 refine tri_end A Suf.h rfl (.cons (rv_tmp rfl) (.cons (rv_tmp rfl) .nil)) ⟨rfl, rfl, rfl⟩
set_option maxRecDepth 100000 in
theorem bits_mul {v : Int} (h0 : 0 ≤ v) (h1 : v ≤ 1000000) : FnC Try.prog 29 [.int .u64 1, .int .u64 v].toArray A I (fun r A' I' => r = .tuple [.int .u64 0, .int .u64 v].toArray ∧ A = A' ∧ I = I') := by
 refine fn_enter2 Try.func29 rfl Try.ntmps29 rfl fun w0 => ?_
 skip
 refine tS (tR (tA rfl rfl (tA rfl rfl (tN (tT (tS ?_))))))
 refine tri_cond_false rfl ?_
 refine tri_skip (tT (tS (tR (tM rfl rfl (tM rfl rfl ?_)))))
 refine tri_g (opg_call (xs := [_, _]) rfl (bits_mul64 h0 h1)) rfl ?_
 rintro _ _ _ ⟨rfl, rfl, rfl⟩
 refine tM rfl rfl ?_
 refine tri_v (opv_extract rfl rfl) rfl ?_
 refine tri_v (opv_extract rfl rfl) rfl ?_
 refine tA rfl rfl (tA rfl rfl (tN (tT (tS (tR (tM rfl rfl (tM rfl rfl ?_)))))))
 refine tA rfl rfl (tA rfl rfl (tN (tT (tri_ret ?_))))
 refine tri_end A Suf.h rfl (.cons (rv_tmp rfl) (.cons (rv_tmp rfl) .nil)) ⟨rfl, rfl, rfl⟩
def onesTo (c k : Nat) : List Value := List.replicate k (Value.int .i64 1) ++ List.replicate (c - k) (Value.int .i64 0)
theorem ones_pre {c k m : Nat} (h : m ≤ k) : List.replicate m (Value.int .i64 1) <+: onesTo c k := by
 refine ⟨List.replicate (k - m) (Value.int .i64 1) ++ List.replicate (c - k) (Value.int .i64 0), ?_⟩
 unfold onesTo
 rw [← List.append_assoc, List.replicate_append_replicate, show m + (k - m) = k by omega]
theorem ones_splice {c k m : Nat} (h : m ≤ k) (h2 : k + m ≤ c) : (onesTo c k).take k ++ List.replicate m (Value.int .i64 1) ++ (onesTo c k).drop (k + m) = onesTo c (k + m) := by
 unfold onesTo
 rw [List.take_left' (by simp), ← List.drop_drop, List.drop_left' (by simp), List.drop_replicate, List.replicate_append_replicate, show c - k - m = c - (k + m) by omega]
theorem ones_all (c : Nat) : onesTo c c = encs (List.replicate c (1 : Int)) := by
 unfold onesTo
 rw [Nat.sub_self, List.replicate_zero, List.append_nil]
 induction c with
 | zero => rfl
 | succ c ih => rw [List.replicate_succ, List.replicate_succ, encs_cons, ← ih]; rfl
set_option maxHeartbeats 1000000 in
set_option maxRecDepth 100000 in
theorem slices_repeat1 {c : Nat} {a : Option Addr} {cap : Nat} (hs : SlAt I a [(1 : Int)]) (h1 : 1 ≤ c) (hc : c ≤ 1000) :
  FnC Try.prog 22 [.slice a 1 cap, .int .i64 (c : Int)].toArray A I (fun v A' I' => ∃ a', v = .slice a' c c ∧ A' = Row a' c c 3 1 (encs (List.replicate c (1 : Int))) :: A ∧ I = I') := by
 refine fn_enter2 Try.func22 rfl Try.ntmps22 rfl fun w0 => ?_
 refine tS (tR (tA rfl rfl (tN (tT (tS (tS (tR ?_)))))))
 refine tM rfl rfl ?_
 refine tri_v (opv_lss rfl rfl) rfl ?_
 refine tN (tT ?_)
 refine tri_cond_not rfl ((by omega)) ?_
 skip
 refine tri_skip (tT (tS (tR (tM rfl rfl ?_))))
 refine tri_v (opv_len rfl) rfl ?_
 refine tri_v (opv_convert (z := 1) rfl rfl) rfl ?_
 refine tM rfl rfl ?_
 refine tri_v (opv_convert rfl (wu64 (by omega) (by omega))) rfl ?_
 skip
 refine tri_g (opg_call (xs := [_, _]) rfl (bits_mul (v := (c : Int)) (by omega) (by omega))) rfl ?_
 rintro _ _ _ ⟨rfl, rfl, rfl⟩
 refine tM rfl rfl ?_
 refine tri_v (opv_extract rfl rfl) rfl ?_
 refine tri_v (opv_extract rfl rfl) rfl ?_
 refine tA rfl rfl (tA rfl rfl (tN (tT (tS (tS (tR (tM rfl rfl ?_)))))))
 refine tri_v (opv_gtr rfl rfl) rfl ?_
 refine tM rfl rfl ?_
 refine tri_false rfl rfl ((by decide)) ?_
 refine tri_guard_run rfl rfl rfl (tM rfl rfl (tri_guard_run rfl rfl rfl ?_))
 refine tri_v (opv_gtr rfl rfl) rfl ?_
 refine tri_v (by first | exact opv_pick_t rfl rfl | exact opv_pick_f rfl rfl | exact opv_pick_bool rfl rfl rfl | exact opv_pick rfl rfl rfl) rfl ?_
 refine tN (tT ?_)
 refine tri_cond_not rfl ((by omega)) ?_
 refine tri_skip (tT (tS (tR (tM rfl rfl ?_))))
 refine tri_v (opv_convert rfl (w64 (by omega) (by omega))) rfl ?_
 skip
 skip
 refine tri_g (opg_makeSlice rfl rfl rfl (by omega) (by omega) (by omega)) rfl ?_
 rintro _ _ _ ⟨a7, ha7, rfl, rfl, rfl⟩
 rw [show ((c : Nat) : Int).toNat = c from rfl]
 refine tri_rowPt ha7 fun b hb => ?_
 subst hb
 refine tA rfl rfl (tN (tT (tS (tR (tM rfl rfl (tM rfl rfl ?_))))))
 refine tri_g (opg_copyR (k := 1) (cs := [.int .i64 1]) rfl rfl rfl (by rw [if_pos h1]) rfl rfl (fun w hw => hs.cellsOf hw) (by omega)) rfl ?_
 rintro _ _ _ ⟨rfl, rfl, rfl⟩
 refine tA rfl rfl (tN (tT (tS (tri_block ?_))))
 have e0 : (List.replicate c (Value.int .i64 0)).take 0 ++ [Value.int .i64 1] ++ (List.replicate c (Value.int .i64 0)).drop (0 + 1) = onesTo c 1 := by
  unfold onesTo
  rw [List.drop_replicate]
  rfl
 rw [e0]
 refine tri_sub (F' := [(7, .slice (some ⟨b, 0, none⟩) c c), (8, .int .i64 ((1 : Nat) : Int))]) ⟨rfl, rfl, trivial⟩ ?_
 refine loop_ind (G := Nat) (fun k => c - k) (fun k => 1 ≤ k ∧ k ≤ c) (fun k => [(7, .slice (some ⟨b, 0, none⟩) c c), (8, .int .i64 (k : Nat))]) (fun k => Row (some ⟨b, 0, none⟩) c c 3 1 (onesTo c k) :: A) (fun _ => I) ?_ 1 ⟨by omega, by omega⟩
 rintro k ⟨hk1, hk⟩ K hK
 skip
 refine tS (tS (tR (tM rfl rfl (tM rfl rfl ?_))))
 refine tri_v (opv_len rfl) rfl ?_
 refine tri_v (opv_lss rfl rfl) rfl ?_
 refine tN (tT ?_)
 refine tri_cond_dec rfl (fun h => ?_) (fun h => ?_)
 ·have hkc : k < c := by omega
  obtain ⟨m, hm⟩ : ∃ m, m = if k ≤ c - k then k else c - k := ⟨_, rfl⟩
  have hmk : m ≤ k ∧ k + m ≤ c ∧ 1 ≤ m := by
   rw [hm]
   split <;> omega
  have elo : loA (some ⟨b, 0, none⟩) c k 1 = some ⟨b, k, none⟩ := by
   unfold loA
   rw [if_neg (by omega)]
   simp [add_pt]
  have tk : (k : Int).toNat = k := rfl
  skip
  refine tri_skip (tT (tri_block ?_))
  refine tri_draw [0, 1, 2, 3, 4, 5, 6, 7, 8, 9] rfl [_] rfl mixed ?_
  refine th_take rfl rfl (by kernel_rfl)  (opv_move rfl) ?_
  refine th_take rfl rfl (by kernel_rfl)  (opv_move rfl) ?_
  refine th_take rfl rfl (by kernel_rfl)  (opv_move rfl) ?_
  refine th_take rfl rfl (by kernel_rfl)  (opv_sliceLoN rfl rfl (by omega) (by omega)) ?_
  rw [tk, elo]
  refine th_take rfl rfl (by kernel_rfl)  (opv_move rfl) ?_
  refine th_take rfl rfl (by kernel_rfl)  (opv_move rfl) ?_
  refine th_take rfl rfl (by kernel_rfl)  (opv_sliceHiN rfl rfl (by omega) (by omega)) ?_
  rw [tk]
  skip
  refine th_one (by kernel_rfl) (step_m rfl rfl (opg_copyR (k := m) (cs := List.replicate m (.int .i64 1)) rfl rfl rfl hm (List.length_replicate) (List.all_eq_true.2 fun x hx => by rw [(List.mem_replicate.1 hx).2]; rfl) (fun w hw => row_cellsOf hw (ones_pre hmk.1)) hmk.2.1) ?_)
  rintro _ _ _ ⟨rfl, rfl, rfl⟩
  refine ⟨Suf.h, (by first | exact fun _ h => h | assumption | exact fun _ h => (by assumption : _ ⊆ _) ((by assumption : _ ⊆ _) h)), ?_⟩
  rw [ones_splice hmk.1 hmk.2.1]
  refine th_take rfl rfl (by kernel_rfl)  (by first | exact opv_add rfl rfl (w64 (by omega) (by omega))) ?_
  refine th_take rfl rfl (by kernel_rfl)  (opv_assign rfl) ?_
  refine th_done (by kernel_rfl) ?_
  refine tri_inBlock ?_
  refine tT ?_
  refine tri_sub ?_ (hK (k + m) ⟨by omega, by omega⟩ (by omega))
  exact ⟨rfl, rfl, trivial⟩
 ·have ek : k = c := by omega
  subst ek
  refine tri_exit ?_
  refine tri_then_exit ?_
  refine tri_then_exit ?_
  refine tri_inBlock_hit rfl ?_
  refine tT (tS (tR (tM rfl rfl (tA rfl rfl (tN (tT (tri_ret ?_)))))))
  refine tri_end _ (by first | exact ⟨[], rfl⟩ | exact ⟨[_], rfl⟩ | exact ⟨[_, _], rfl⟩ | exact ⟨[_, _, _], rfl⟩ | exact ⟨[_, _, _, _], rfl⟩ | exact ⟨[_, _, _, _, _], rfl⟩ | exact ⟨[_, _, _, _, _, _], rfl⟩ | exact ⟨[_, _, _, _, _, _, _], rfl⟩ | exact ⟨[_, _, _, _, _, _, _, _], rfl⟩) rfl (.cons (rv_tmp rfl) .nil) ⟨_, rfl, ?_, rfl⟩
  rw [ones_all]
end Go.GL

set_option linter.unusedVariables false
namespace Go.GL
open Go.Proofs
attribute [local irreducible] wpList Code.wp Exit.then Exit.inBlock Ends Tri TriH OpV OpG FnC epf wpAnyH
variable {A : List Asrt} {I : List Chunk}
namespace R19
/-- A value that is too great. -/
def oddB (x : Int) : Bool := decide (x < -1099511627776) || decide (1099511627776 < x)
/-- What may be run. -/
def good (p v : List Int) (nw : Int) : Prop := right p ∧ v.length = p.length ∧ 1 ≤ nw ∧ nw ≤ 64 ∧ ∀ t, t < v.length → -1099511627776 ≤ v.getD t default ∧ v.getD t default ≤ 1099511627776
end R19
structure RunG where
 n : Nat
 k : Crew
 ss : List Sl
 ow : Option Addr
 ww : Option Addr
 co : Nat
 cw : Nat
 last : Int
 dn : Nat → Bool
 J : List Chunk
theorem permR {x y o d c : Asrt} {A : List Asrt} : (x :: y :: o :: d :: c :: A).Perm (o :: d :: c :: y :: x :: A) :=
 (List.perm_append_comm (l₁ := [x, y]) (l₂ := [o, d, c])).append_right A |>.trans (((((List.Perm.swap y x A)).cons c).cons d).cons o)
theorem permS {o a b c d e : Asrt} {A : List Asrt} : (o :: a :: b :: c :: d :: e :: A).Perm (a :: b :: c :: d :: e :: o :: A) := (List.perm_middle (l₁ := [a, b, c, d, e])).symm
theorem permS' {o a b c d e : Asrt} {A : List Asrt} : (a :: b :: c :: d :: e :: o :: A).Perm (o :: a :: b :: c :: d :: e :: A) := List.perm_middle (l₁ := [a, b, c, d, e])
theorem pick_nextM {picks left : List Int} {m : Nat} {step last : Int} {a a2 : Option Addr} {cap cap2 : Nat} {E : TypeId} (hm : left.length = m) (hs : SlAt I a picks) (hp : Is picks) (hn : m ≤ 1000000) :
  FnC Try.prog 23 [.slice a picks.length cap, .int .i64 step, .slice a2 m cap2, .int .i64 last].toArray (Row a2 cap2 m E 1 (encs left) :: A) I (fun v A' I' => v = .int .i64 (R11.next picks step left last) ∧ Row a2 cap2 m E 1 (encs left) :: A = A' ∧ I ⊆ I') := by
 subst hm
 exact pick_next hs hp hn
namespace R19
/-- A crew at the start. -/
def crew0 (fs : List Frame) (W : Nat) : Crew := ⟨fs, false, [0] :: List.replicate (W - 1) [], 0, [], [], 0⟩
theorem CI.start {p v picks : List Int} {W : Nat} {fs : List Frame} (hr : right p) (hW : 1 ≤ W) (hf : Frames p v fs p.length) (hv : ∀ t, t < p.length → -1099511627776 ≤ v.getD t default ∧ v.getD t default ≤ 1099511627776) : CI p v picks W 0 fs (crew0 fs W) (-1) (fun _ => false) := by
 have h0 := hr.1
 refine ⟨rfl, rfl, rfl, rfl, rfl, rfl, rfl, ⟨hf.len, hf.par, fun t ht => ?_, fun t ht _ => ⟨fun h => (nomatch h), fun h => (nomatch h.1)⟩, fun t ht => ?_, 0, ?_⟩, fun u => ⟨rfl, rfl⟩⟩
 ·show (fs.getD t default).left = _
  rw [hf.left t ht]
  unfold cnt kids
  have e : ∀ l : List Int, l.filter (fun c => !(fun _ => false : Nat → Bool) c.toNat) = l := fun l => List.filter_eq_self.2 fun _ _ => rfl
  rw [e]
 ·have := hv t ht
  show _ ≤ (fs.getD t default).sum ∧ (fs.getD t default).sum ≤ _
  rw [hf.sum t ht]
  omega
 ·rw [sumTo_congr fun u hu => show amt (fun _ => false) (crew0 fs W).fs u = v.getD u default from ?_]
  ·omega
  ·unfold amt
   rw [if_neg (fun h => nomatch h.1)]
   exact hf.sum u hu
end R19
theorem reps_sl0 : ∀ n, reps n [.slice none 0 0] = encs (List.replicate n (⟨none, 0, 0⟩ : Sl))
 | 0 => rfl
 | n + 1 => by
  show [_] ++ reps n _ = _
  rw [reps_sl0 n, List.replicate_succ, encs_cons]
  rfl
theorem getD_rep {α : Type} [Inhabited α] {n i : Nat} {x : α} (h : i < n) : (List.replicate n x).getD i default = x := by
 rw [List.getD_eq_getElem?_getD, List.getElem?_replicate, if_pos h]
 rfl
set_option maxRecDepth 100000 in
theorem fork_run1 {x : Int} : FnC Try.prog 19 [.int .i64 x].toArray A I (fun r A' I' => r = .bool (R19.oddB x) ∧ A = A' ∧ I = I') := by
 refine fn_enter1 Try.func19 rfl Try.ntmps19 rfl fun w0 => ?_
 refine tS (tR (tA rfl rfl (tN (tT (tS (tR (tM rfl rfl ?_)))))))
 refine tri_v (opv_lss rfl rfl) rfl ?_
 refine tM rfl rfl ?_
 refine tri_split rfl rfl (fun h => ?_) (fun h => ?_)
 ·have e : R19.oddB x = true := by unfold R19.oddB; rw [decide_eq_true h]; rfl
  rw [e]
  refine tri_guard_skip rfl rfl rfl rfl (tri_guard_skip rfl rfl rfl rfl ?_)
  refine tri_v (by first | exact opv_pick_t rfl rfl | exact opv_pick_f rfl rfl | exact opv_pick_bool rfl rfl rfl | exact opv_pick rfl rfl rfl) rfl ?_
  refine tA rfl rfl (tN (tT (tri_ret ?_)))
  refine tri_end A Suf.h rfl (.cons (rv_tmp rfl) .nil) ⟨rfl, rfl, rfl⟩
 ·have e : R19.oddB x = decide (1099511627776 < x) := by unfold R19.oddB; rw [decide_eq_false h]; rfl
  rw [e]
  refine tri_guard_run rfl rfl rfl (tM rfl rfl (tri_guard_run rfl rfl rfl ?_))
  refine tri_v (opv_gtr rfl rfl) rfl ?_
  refine tri_v (by first | exact opv_pick_t rfl rfl | exact opv_pick_f rfl rfl | exact opv_pick_bool rfl rfl rfl | exact opv_pick rfl rfl rfl) rfl ?_
  refine tA rfl rfl (tN (tT (tri_ret ?_)))
  refine tri_end A Suf.h rfl (.cons (rv_tmp rfl) .nil) ⟨rfl, rfl, rfl⟩
set_option maxHeartbeats 4000000 in
set_option maxRecDepth 100000 in
theorem fork_run {p v picks : List Int} {a a2 a3 : Option Addr} {cap cap2 cap3 : Nat} {nw : Int} (hs : SlAt I a p) (hs2 : SlAt I a2 v) (hs3 : SlAt I a3 picks) (hk : Is picks) (hn : p.length ≤ 1000000000) :
  FnC Try.prog 15 [.slice a p.length cap, .slice a2 v.length cap2, .int .i64 nw, .slice a3 picks.length cap3].toArray A I (fun r A' I' =>
   (R19.good p v nw ∧ (∃ ao aw co cw, StA I' ao co (R19.mst p picks nw.toNat p.length).order ∧ StA I' aw cw (R19.mst p picks nw.toNat p.length).who ∧ r = .tuple [.agg [.int .i64 (R19.total v p.length), .slice ao p.length co, .slice aw p.length cw, .int .i64 (p.length : Nat)].toArray, .int .i64 0].toArray) ∨
    ¬ R19.good p v nw ∧ r = .tuple [.agg [.int .i64 0, .slice none 0 0, .slice none 0 0, .int .i64 0].toArray, .int .i64 1].toArray) ∧ A = A' ∧ I ⊆ I') := by
 skip
 refine fn_enter4 Try.func15 rfl Try.ntmps15 rfl fun w0 => ?_
 refine tS (tR ?_)
 refine tri_g opg_alloc rfl ?_
 rintro _ _ _ ⟨b8, rfl, rfl, rfl⟩
 refine tA rfl rfl (tN (tT (tS (tR (tA rfl rfl (tN (tT ?_)))))))
 refine tS (tS (tR (tM rfl rfl ?_)))
 refine tri_g (opg_call (xs := [_]) rfl (fork_right hs hn)) rfl ?_
 rintro _ _ _ ⟨rfl, rfl, rfl⟩
 refine tri_v (by first | exact opv_notD rfl | exact opv_not rfl) rfl ?_
 refine tM rfl rfl ?_
 refine tri_split rfl rfl (fun h1 => ?_) (fun h1 => ?_)
 ·have hb : ¬ R19.good p v nw := fun h => absurd (decide_eq_true h.1) (by simpa using h1)
  refine tri_guard_skip rfl rfl rfl rfl (tri_guard_skip rfl rfl rfl rfl (tri_guard_skip rfl rfl rfl rfl (tri_guard_skip rfl rfl rfl rfl (tri_guard_skip rfl rfl rfl rfl ?_))))
  refine tri_v (by first | exact opv_pick_t rfl rfl | exact opv_pick_f rfl rfl | exact opv_pick_bool rfl rfl rfl | exact opv_pick rfl rfl rfl) rfl ?_
  refine tM rfl rfl (tri_guard_skip rfl rfl rfl rfl (tri_guard_skip rfl rfl rfl rfl ?_))
  refine tri_v (by first | exact opv_pick_t rfl rfl | exact opv_pick_f rfl rfl | exact opv_pick_bool rfl rfl rfl | exact opv_pick rfl rfl rfl) rfl ?_
  refine tM rfl rfl (tri_guard_skip rfl rfl rfl rfl (tri_guard_skip rfl rfl rfl rfl ?_))
  refine tri_v (by first | exact opv_pick_t rfl rfl | exact opv_pick_f rfl rfl | exact opv_pick_bool rfl rfl rfl | exact opv_pick rfl rfl rfl) rfl ?_
  refine tM rfl rfl (tri_guard_skip rfl rfl rfl rfl (tri_guard_skip rfl rfl rfl rfl (tri_guard_skip rfl rfl rfl rfl ?_)))
  refine tri_v (by first | exact opv_pick_t rfl rfl | exact opv_pick_f rfl rfl | exact opv_pick_bool rfl rfl rfl | exact opv_pick rfl rfl rfl) rfl ?_
  refine tN (tT ?_)
  refine tri_cond_true rfl ?_
  refine tS (tR ?_)
  refine tri_v (by first | exact opv_buildS rfl rfl | exact opv_buildA rfl rfl) rfl ?_
  refine tri_g (opg_store rfl rfl rfl rfl rfl rfl) rfl ?_
  rintro _ _ _ ⟨rfl, rfl⟩
  refine tA rfl rfl (tN (tT (tri_ret (tri_then_ret ?_))))
  refine tri_end A Suf.h rfl (.cons (rv_cellA rfl rfl rfl) (.cons (rv_tmp rfl) .nil)) ⟨.inr ⟨hb, rfl⟩, rfl, fun _ h => h⟩
 ·have hr : R19.right p := by simpa using h1
  have hr1 := hr.1
  refine tri_guard_run rfl rfl rfl (tM rfl rfl (tri_guard_run rfl rfl rfl ?_))
  refine tri_v (opv_len rfl) rfl ?_
  refine tri_guard_run rfl rfl rfl (tM rfl rfl (tri_guard_run rfl rfl rfl ?_))
  refine tri_v (opv_len rfl) rfl ?_
  refine tri_guard_run rfl rfl rfl ?_
  refine tri_v (by first | exact opv_neq rfl rfl | exact opv_neqI rfl rfl rfl rfl rfl rfl | exact opv_neqB rfl rfl) rfl ?_
  refine tri_v (by first | exact opv_pick_t rfl rfl | exact opv_pick_f rfl rfl | exact opv_pick_bool rfl rfl rfl | exact opv_pick rfl rfl rfl) rfl ?_
  refine tM rfl rfl ?_
  refine tri_split rfl rfl (fun h2 => ?_) (fun h2 => ?_)
  ·have hb : ¬ R19.good p v nw := fun h => by have := h.2.1; omega
   refine tri_guard_skip rfl rfl rfl rfl (tri_guard_skip rfl rfl rfl rfl ?_)
   refine tri_v (by first | exact opv_pick_t rfl rfl | exact opv_pick_f rfl rfl | exact opv_pick_bool rfl rfl rfl | exact opv_pick rfl rfl rfl) rfl ?_
   refine tM rfl rfl (tri_guard_skip rfl rfl rfl rfl (tri_guard_skip rfl rfl rfl rfl ?_))
   refine tri_v (by first | exact opv_pick_t rfl rfl | exact opv_pick_f rfl rfl | exact opv_pick_bool rfl rfl rfl | exact opv_pick rfl rfl rfl) rfl ?_
   refine tM rfl rfl (tri_guard_skip rfl rfl rfl rfl (tri_guard_skip rfl rfl rfl rfl (tri_guard_skip rfl rfl rfl rfl ?_)))
   refine tri_v (by first | exact opv_pick_t rfl rfl | exact opv_pick_f rfl rfl | exact opv_pick_bool rfl rfl rfl | exact opv_pick rfl rfl rfl) rfl ?_
   refine tN (tT ?_)
   refine tri_cond_true rfl ?_
   refine tS (tR ?_)
   refine tri_v (by first | exact opv_buildS rfl rfl | exact opv_buildA rfl rfl) rfl ?_
   refine tri_g (opg_store rfl rfl rfl rfl rfl rfl) rfl ?_
   rintro _ _ _ ⟨rfl, rfl⟩
   refine tA rfl rfl (tN (tT (tri_ret (tri_then_ret ?_))))
   refine tri_end A Suf.h rfl (.cons (rv_cellA rfl rfl rfl) (.cons (rv_tmp rfl) .nil)) ⟨.inr ⟨hb, rfl⟩, rfl, fun _ h => h⟩
  ·have hvl : v.length = p.length := by omega
   refine tri_guard_run rfl rfl rfl (tM rfl rfl (tri_guard_run rfl rfl rfl ?_))
   refine tri_v (opv_lss rfl rfl) rfl ?_
   refine tri_v (by first | exact opv_pick_t rfl rfl | exact opv_pick_f rfl rfl | exact opv_pick_bool rfl rfl rfl | exact opv_pick rfl rfl rfl) rfl ?_
   refine tM rfl rfl ?_
   refine tri_split rfl rfl (fun h3 => ?_) (fun h3 => ?_)
   ·have hb : ¬ R19.good p v nw := fun h => by have := h.2.2.1; omega
    refine tri_guard_skip rfl rfl rfl rfl (tri_guard_skip rfl rfl rfl rfl ?_)
    refine tri_v (by first | exact opv_pick_t rfl rfl | exact opv_pick_f rfl rfl | exact opv_pick_bool rfl rfl rfl | exact opv_pick rfl rfl rfl) rfl ?_
    refine tM rfl rfl (tri_guard_skip rfl rfl rfl rfl (tri_guard_skip rfl rfl rfl rfl (tri_guard_skip rfl rfl rfl rfl ?_)))
    refine tri_v (by first | exact opv_pick_t rfl rfl | exact opv_pick_f rfl rfl | exact opv_pick_bool rfl rfl rfl | exact opv_pick rfl rfl rfl) rfl ?_
    refine tN (tT ?_)
    refine tri_cond_true rfl ?_
    refine tS (tR ?_)
    refine tri_v (by first | exact opv_buildS rfl rfl | exact opv_buildA rfl rfl) rfl ?_
    refine tri_g (opg_store rfl rfl rfl rfl rfl rfl) rfl ?_
    rintro _ _ _ ⟨rfl, rfl⟩
    refine tA rfl rfl (tN (tT (tri_ret (tri_then_ret ?_))))
    refine tri_end A Suf.h rfl (.cons (rv_cellA rfl rfl rfl) (.cons (rv_tmp rfl) .nil)) ⟨.inr ⟨hb, rfl⟩, rfl, fun _ h => h⟩
   ·refine tri_guard_run rfl rfl rfl (tM rfl rfl (tri_guard_run rfl rfl rfl ?_))
    refine tri_v (opv_gtr rfl rfl) rfl ?_
    refine tri_v (by first | exact opv_pick_t rfl rfl | exact opv_pick_f rfl rfl | exact opv_pick_bool rfl rfl rfl | exact opv_pick rfl rfl rfl) rfl ?_
    refine tM rfl rfl ?_
    refine tri_split rfl rfl (fun h4 => ?_) (fun h4 => ?_)
    ·have hb : ¬ R19.good p v nw := fun h => by have := h.2.2.2.1; omega
     refine tri_guard_skip rfl rfl rfl rfl (tri_guard_skip rfl rfl rfl rfl (tri_guard_skip rfl rfl rfl rfl ?_))
     refine tri_v (by first | exact opv_pick_t rfl rfl | exact opv_pick_f rfl rfl | exact opv_pick_bool rfl rfl rfl | exact opv_pick rfl rfl rfl) rfl ?_
     refine tN (tT ?_)
     refine tri_cond_true rfl ?_
     refine tS (tR ?_)
     refine tri_v (by first | exact opv_buildS rfl rfl | exact opv_buildA rfl rfl) rfl ?_
     refine tri_g (opg_store rfl rfl rfl rfl rfl rfl) rfl ?_
     rintro _ _ _ ⟨rfl, rfl⟩
     refine tA rfl rfl (tN (tT (tri_ret (tri_then_ret ?_))))
     refine tri_end A Suf.h rfl (.cons (rv_cellA rfl rfl rfl) (.cons (rv_tmp rfl) .nil)) ⟨.inr ⟨hb, rfl⟩, rfl, fun _ h => h⟩
    ·refine tri_guard_run rfl rfl rfl (tM rfl rfl (tri_guard_run rfl rfl rfl (tM rfl rfl (tri_guard_run rfl rfl rfl ?_))))
     refine tri_g (opg_call (xs := [_, _]) rfl (slices_containsFunc (p := R19.oddB) (ca := []) (fun x _ => fork_run1) hs2 (by omega))) rfl ?_
     rintro _ _ _ ⟨rfl, rfl, rfl⟩
     refine tri_v (by first | exact opv_pick_t rfl rfl | exact opv_pick_f rfl rfl | exact opv_pick_bool rfl rfl rfl | exact opv_pick rfl rfl rfl) rfl ?_
     refine tN (tT ?_)
     refine tri_cond_dec rfl (fun h5 => ?_) (fun h5 => ?_)
     ·have hb : ¬ R19.good p v nw := fun h => by
       obtain ⟨i, hi, ho⟩ := idx_any.1 h5
       have := h.2.2.2.2 i hi
       unfold R19.oddB at ho
       rw [Bool.or_eq_true, decide_eq_true_iff, decide_eq_true_iff] at ho
       omega
      refine tS (tR ?_)
      refine tri_v (by first | exact opv_buildS rfl rfl | exact opv_buildA rfl rfl) rfl ?_
      refine tri_g (opg_store rfl rfl rfl rfl rfl rfl) rfl ?_
      rintro _ _ _ ⟨rfl, rfl⟩
      refine tA rfl rfl (tN (tT (tri_ret (tri_then_ret ?_))))
      refine tri_end A Suf.h rfl (.cons (rv_cellA rfl rfl rfl) (.cons (rv_tmp rfl) .nil)) ⟨.inr ⟨hb, rfl⟩, rfl, fun _ h => h⟩
     ·have hvb : ∀ t, t < v.length → -1099511627776 ≤ v.getD t default ∧ v.getD t default ≤ 1099511627776 := fun t ht => by
       apply Decidable.byContradiction
       intro hc
       refine h5 (idx_any.2 ⟨t, ht, ?_⟩)
       unfold R19.oddB
       rw [Bool.or_eq_true, decide_eq_true_iff, decide_eq_true_iff]
       omega
      have hg : R19.good p v nw := ⟨hr, hvl, by omega, by omega, hvb⟩
      obtain ⟨W, rfl⟩ : ∃ W : Nat, nw = (W : Int) := ⟨nw.toNat, by omega⟩
      rw [Int.toNat_natCast]
      have hW1 : 1 ≤ W := by omega
      refine tri_skip (tT (tS ?_))
      skip
      refine tri_cut (fun F' A' J => ∃ (c : Nat) (af ad : Option Addr) (fs : List Frame), (af ≠ none ∧ ad ≠ none ∧ Frames p v fs p.length ∧ (∀ t, t < p.length → SlAt J (fs.getD t default).a (R19.kids p t)) ∧ I ⊆ J) ∧ F' = [(2, .int .i64 (W : Nat)), (3, .slice a3 picks.length cap3), (8, pt b8 0), (9, .int .i64 0), (11, pt c 0)] ∧ A' = Row ad W W 22 1 (reps W [.slice none 0 0]) :: Box c [.slice af p.length p.length, .bool false, .slice ad W W, .int .i64 0, .slice none 0 0, .slice none 0 0, .int .i64 0] 50 :: Row af p.length p.length 54 4 (encs fs) :: Box b8 [.int .i64 0, .slice none 0 0, .slice none 0 0, .int .i64 0] 30 :: A) ?_ ?_
      ·refine tri_draw [0, 1, 3, 2, 4, 5, 6, 7] rfl [] rfl mixed ?_
       refine th_take rfl rfl (by kernel_rfl)  (opv_move rfl) ?_
       refine th_take rfl rfl (by kernel_rfl)  (opv_move rfl) ?_
       refine th_take rfl rfl (by kernel_rfl)  (opv_move rfl) ?_
       refine th_two (j := 4) [2, 5, 6, 7] (by kernel_rfl) rfl ?_ ?_
       ·refine (step_m rfl rfl (opg_call (xs := [_, _]) rfl (fork_of hs hs2 hr hvl)) ?_)
        rintro _ _ J ⟨af, fs, haf, rfl, rfl, hfs, hkid, hJ⟩
        refine ⟨Suf.h, hJ, ?_⟩
        refine th_one (by kernel_rfl) (step_m rfl rfl (opg_makeSliceN rfl rfl rfl (by omega) (by omega)) ?_)
        rintro _ _ _ ⟨ad, had, rfl, rfl, rfl⟩
        refine ⟨Suf.h, (by first | exact fun _ h => h | assumption | exact fun _ h => (by assumption : _ ⊆ _) ((by assumption : _ ⊆ _) h)), ?_⟩
        refine th_take rfl rfl (by kernel_rfl)  (by first | exact opv_buildS rfl rfl | exact opv_buildA rfl rfl) ?_
        first | refine th_one (by kernel_rfl) (step_m rfl rfl (opg_box_agg rfl) ?_) | refine th_one (by kernel_rfl) (step_m rfl rfl (opg_box1 rfl rfl) ?_)
        rintro _ _ _ ⟨b44, rfl, rfl, rfl⟩
        refine ⟨Suf.h, (by first | exact fun _ h => h | assumption | exact fun _ h => (by assumption : _ ⊆ _) ((by assumption : _ ⊆ _) h)), ?_⟩
        refine th_take rfl rfl (by kernel_rfl)  (opv_assign rfl) ?_
        refine th_done (by kernel_rfl) ?_
        first | exact tri_perm (List.Perm.swap _ _ _) (tri_cutEnd _ ⟨_, af, ad, fs, ⟨haf, had, hfs, hkid, hJ⟩, rfl, rfl⟩ ⟨rfl, rfl, rfl, rfl, rfl, trivial⟩) | exact tri_pull2 (tri_cutEnd _ ⟨_, af, ad, fs, ⟨haf, had, hfs, hkid, hJ⟩, rfl, rfl⟩ ⟨rfl, rfl, rfl, rfl, rfl, trivial⟩)
       ·refine (step_m rfl rfl (opg_makeSliceN rfl rfl rfl (by omega) (by omega)) ?_)
        rintro _ _ _ ⟨ad, had, rfl, rfl, rfl⟩
        refine ⟨Suf.h, (by first | exact fun _ h => h | assumption | exact fun _ h => (by assumption : _ ⊆ _) ((by assumption : _ ⊆ _) h)), ?_⟩
        refine th_one (by kernel_rfl) (step_m rfl rfl (opg_call (xs := [_, _]) rfl (fork_of hs hs2 hr hvl)) ?_)
        rintro _ _ J ⟨af, fs, haf, rfl, rfl, hfs, hkid, hJ⟩
        refine ⟨Suf.h, hJ, ?_⟩
        refine th_take rfl rfl (by kernel_rfl)  (by first | exact opv_buildS rfl rfl | exact opv_buildA rfl rfl) ?_
        first | refine th_one (by kernel_rfl) (step_m rfl rfl (opg_box_agg rfl) ?_) | refine th_one (by kernel_rfl) (step_m rfl rfl (opg_box1 rfl rfl) ?_)
        rintro _ _ _ ⟨b44, rfl, rfl, rfl⟩
        refine ⟨Suf.h, (by first | exact fun _ h => h | assumption | exact fun _ h => (by assumption : _ ⊆ _) ((by assumption : _ ⊆ _) h)), ?_⟩
        refine th_take rfl rfl (by kernel_rfl)  (opv_assign rfl) ?_
        refine th_done (by kernel_rfl) ?_
        first | exact tri_perm (List.Perm.swap _ _ _) (tri_cutEnd _ ⟨_, af, ad, fs, ⟨haf, had, hfs, hkid, hJ⟩, rfl, rfl⟩ ⟨rfl, rfl, rfl, rfl, rfl, trivial⟩) | exact tri_pull2 (tri_cutEnd _ ⟨_, af, ad, fs, ⟨haf, had, hfs, hkid, hJ⟩, rfl, rfl⟩ ⟨rfl, rfl, rfl, rfl, rfl, trivial⟩)
      rintro _ _ _ ⟨c, af, ad, fs, ⟨haf, had, hfs, hkid, hJ⟩, rfl, rfl⟩
      refine tri_rowPt had fun bd ebd => ?_
      subst ebd
      refine tri_perm (List.Perm.trans (List.Perm.swap _ _ _) (List.Perm.trans ((List.Perm.swap _ _ _).cons _) (List.Perm.swap _ _ _))) ?_
      refine tri_rowPt haf fun bf ebf => ?_
      subst ebf
      refine tri_perm (List.Perm.trans (List.Perm.swap _ _ _) (List.Perm.trans ((List.Perm.swap _ _ _).cons _) (List.Perm.swap _ _ _))) ?_
      rw [reps_sl0]
      skip
      refine tT (tS (tR (tM rfl rfl ?_)))
      refine tri_v (by first | exact opv_nilCheckE rfl | exact opv_nilCheck rfl) rfl ?_
      refine tri_v (by first | exact opv_fieldAddr rfl rfl | exact opv_fieldAddrE rfl (by assumption) (by omega) rfl | exact opv_fieldAddrR rfl (by omega) rfl | exact opv_fieldAddrP rfl rfl rfl) rfl ?_
      refine tri_v (by first | exact opv_load1 rfl rfl rfl | exact opv_loadA rfl rfl rfl | exact opv_loadE1 rfl (by assumption) rfl (by omega) rfl rfl | exact opv_loadEA rfl (by assumption) rfl (by omega) rfl rfl | exact opv_loadRX1 rfl rfl (by omega) rfl rfl | exact opv_loadRXA rfl rfl (by omega) rfl rfl rfl | exact opv_loadIX rfl rfl (by omega) | exact opv_loadR1 rfl rfl rfl | exact opv_loadRA rfl rfl rfl rfl) rfl ?_
      refine tri_g (opg_buildSlice rfl rfl rfl rfl) rfl ?_
      rintro _ _ _ ⟨b49, rfl, rfl, rfl⟩
      refine tri_v (by first | exact opv_indexAddrA rfl rfl (by first | decide | omega) (by first | decide | omega) | exact opv_indexAddrSN rfl rfl (by omega) (by assumption) (by first | rfl | omega) | exact opv_indexAddrS rfl rfl (by omega) (by omega) (by assumption) (by first | rfl | omega) | exact opv_indexAddrE rfl (by assumption) (by omega) rfl (by first | decide | omega) (by first | decide | omega) | exact opv_indexAddrRN rfl rfl (by omega) | exact opv_indexAddrR rfl rfl (by omega) (by omega) | exact opv_indexAddrRA rfl (by omega) rfl (by first | decide | omega) (by first | decide | omega) | exact opv_indexAddrSP rfl rfl (by omega) (by omega)) rfl ?_
      refine tri_g (opg_storeRX (⟨some ⟨b49, 0, none⟩, 1, 1⟩ : Sl) rfl rfl rfl (by rw [List.length_replicate]; omega) (by rw [List.length_replicate]) rfl rfl rfl rfl) rfl ?_
      rintro _ _ _ ⟨rfl, rfl⟩
      refine tri_freezeBoxS [(0 : Int)] rfl fun J2 hJ2 hz => ?_
      refine tN (tT (tS (tR ?_)))
      refine tri_g (opg_buildSlice rfl rfl rfl rfl) rfl ?_
      rintro _ _ _ ⟨b51, rfl, rfl, rfl⟩
      refine tM rfl rfl ?_
      refine tri_freezeBoxS [(1 : Int)] rfl fun J3 hJ3 h1s => ?_
      refine tri_g (opg_call (xs := [_, _]) rfl (slices_repeat1 h1s hW1 (by omega))) rfl ?_
      rintro _ _ _ ⟨ao, rfl, rfl, rfl⟩
      have hd0 : Dqs J3 ((List.replicate W (⟨none, 0, 0⟩ : Sl)).set 0 ⟨some ⟨b49, 0, none⟩, 1, 1⟩) (R19.mst p picks W 0).D := by
       have e : (R19.mst p picks W 0).D = (List.replicate W ([] : List Int)).set 0 [0] := by
        obtain ⟨m, rfl⟩ : ∃ m, W = m + 1 := ⟨W - 1, by omega⟩
        rfl
       rw [e]
       refine Dqs.set ⟨by simp, fun i hi => ?_⟩ (s := ⟨some ⟨b49, 0, none⟩, 1, 1⟩) ⟨hz.mono hJ3, Nat.le_refl _⟩ rfl
       rw [List.length_replicate] at hi
       rw [getD_rep hi, getD_rep hi]
       exact ⟨StA.nil, rfl⟩
      have hI3 : I ⊆ J3 := fun _ h => hJ3 (hJ2 (hJ h))
      have hkd3 : ∀ t, t < p.length → SlAt J3 (fs.getD t default).a (R19.kids p t) := fun t ht => (hkid t ht).mono fun _ h => hJ3 (hJ2 h)
      have hci0 := R19.CI.start (picks := picks) (W := W) hr hW1 hfs (fun t ht => hvb t (by omega))
      refine tA rfl rfl (tN (tT (tS (tS (tR (tA rfl rfl (tN ?_)))))))
      refine tT ?_
      refine tri_cut (fun F' A' J => ∃ (k : Crew) (ss : List Sl) (ow ww : Option Addr) (co cw : Nat) (last : Int) (dn : Nat → Bool), (R19.CI p v picks W p.length fs k last dn ∧ I ⊆ J) ∧ F' = [(8, pt b8 0), (9, .int .i64 0), (11, pt c 0)] ∧ A' = Row ao W W 3 1 (encs (List.replicate W (1 : Int))) :: Row (some ⟨bd, 0, none⟩) W W 22 1 (encs ss) :: Box c [.slice (some ⟨bf, 0, none⟩) p.length p.length, .bool k.ends, .slice (some ⟨bd, 0, none⟩) W W, .int .i64 0, .slice ow k.order.length co, .slice ww k.who.length cw, .int .i64 k.steps] 50 :: Row ow co k.order.length 3 1 (encs k.order) :: Row ww cw k.who.length 3 1 (encs k.who) :: Row (some ⟨bf, 0, none⟩) p.length p.length 54 4 (encs k.fs) :: Box b8 [.int .i64 0, .slice none 0 0, .slice none 0 0, .int .i64 0] 30 :: A) ?_ ?_
      ·refine tri_block ?_
       refine tri_nilRow (E := 3) (sz := 1) ?_
       refine tri_nilRow (E := 3) (sz := 1) ?_
       refine tri_perm permR ?_
       refine tri_sub (F' := [(2, .int .i64 (W : Nat)), (3, .slice a3 picks.length cap3), (8, pt b8 0), (9, .int .i64 0), (11, pt c 0), (12, .slice ao W W), (13, .int .i64 (-1))]) ⟨rfl, rfl, rfl, rfl, rfl, rfl, rfl, trivial⟩ ?_
       refine loop_ind (G := RunG) (fun g => p.length - g.n) (fun g => g.n ≤ p.length ∧ R19.CI p v picks W g.n fs g.k g.last g.dn ∧ Dqs g.J g.ss g.k.D ∧ J3 ⊆ g.J) (fun g => [(2, .int .i64 (W : Nat)), (3, .slice a3 picks.length cap3), (8, pt b8 0), (9, .int .i64 0), (11, pt c 0), (12, .slice ao W W), (13, .int .i64 g.last)])
        (fun g => Row ao W W 3 1 (encs (List.replicate W (1 : Int))) :: Row (some ⟨bd, 0, none⟩) W W 22 1 (encs g.ss) :: Box c [.slice (some ⟨bf, 0, none⟩) p.length p.length, .bool g.k.ends, .slice (some ⟨bd, 0, none⟩) W W, .int .i64 0, .slice g.ow g.k.order.length g.co, .slice g.ww g.k.who.length g.cw, .int .i64 g.k.steps] 50 ::
         Row g.ow g.co g.k.order.length 3 1 (encs g.k.order) :: Row g.ww g.cw g.k.who.length 3 1 (encs g.k.who) :: Row (some ⟨bf, 0, none⟩) p.length p.length 54 4 (encs g.k.fs) :: Box b8 [.int .i64 0, .slice none 0 0, .slice none 0 0, .int .i64 0] 30 :: A)
        (fun g => g.J) ?_ ⟨0, R19.crew0 fs W, _, none, none, 0, 0, -1, fun _ => false, J3⟩ ⟨Nat.zero_le _, hci0, hd0, fun _ h => h⟩
       rintro ⟨n, k, ss, ow, ww, co, cw, last, dn, J4⟩ ⟨hnN, hci, hd, hJ4⟩ K hK
       simp only at hnN hci hd hJ4 hK ⊢
       have hmo := R19.MOk.run hr hW1 n hnN (picks := picks)
       have hends := hci.ends_iff hr hW1 hnN
       have hst := hci.steps
       skip
       refine tS (tS (tR (tM rfl rfl ?_)))
       refine tri_v (by first | exact opv_nilCheckE rfl | exact opv_nilCheck rfl) rfl ?_
       refine tri_v (by first | exact opv_fieldAddr rfl rfl | exact opv_fieldAddrE rfl (by assumption) (by omega) rfl | exact opv_fieldAddrR rfl (by omega) rfl | exact opv_fieldAddrP rfl rfl rfl) rfl ?_
       refine tri_v (by first | exact opv_fieldAddr rfl rfl | exact opv_fieldAddrE rfl (by assumption) (by omega) rfl | exact opv_fieldAddrR rfl (by omega) rfl | exact opv_fieldAddrP rfl rfl rfl) rfl ?_
       refine tri_v (by first | exact opv_load1 rfl rfl rfl | exact opv_loadA rfl rfl rfl | exact opv_loadE1 rfl (by assumption) rfl (by omega) rfl rfl | exact opv_loadEA rfl (by assumption) rfl (by omega) rfl rfl | exact opv_loadRX1 rfl rfl (by omega) rfl rfl | exact opv_loadRXA rfl rfl (by omega) rfl rfl rfl | exact opv_loadIX rfl rfl (by omega) | exact opv_loadR1 rfl rfl rfl | exact opv_loadRA rfl rfl rfl rfl) rfl ?_
       refine tri_v (by first | exact opv_notD rfl | exact opv_not rfl) rfl ?_
       refine tN (tT ?_)
       refine tri_cond rfl (fun h6 => ?_) (fun h6 => ?_)
       ·have hnlt : n < p.length := by
         rcases Nat.lt_or_ge n p.length with h | h
         ·exact h
         ·exact absurd (hends.2 (by omega)) (by simpa using h6)
        refine tri_skip (tT (tri_block (tS (tS (tR (tM rfl rfl ?_))))))
        refine tri_v (by first | exact opv_nilCheckE rfl | exact opv_nilCheck rfl) rfl ?_
        refine tri_v (by first | exact opv_fieldAddr rfl rfl | exact opv_fieldAddrE rfl (by assumption) (by omega) rfl | exact opv_fieldAddrR rfl (by omega) rfl | exact opv_fieldAddrP rfl rfl rfl) rfl ?_
        refine tri_v (by first | exact opv_fieldAddr rfl rfl | exact opv_fieldAddrE rfl (by assumption) (by omega) rfl | exact opv_fieldAddrR rfl (by omega) rfl | exact opv_fieldAddrP rfl rfl rfl) rfl ?_
        refine tri_v (by first | exact opv_load1 rfl rfl rfl | exact opv_loadA rfl rfl rfl | exact opv_loadE1 rfl (by assumption) rfl (by omega) rfl rfl | exact opv_loadEA rfl (by assumption) rfl (by omega) rfl rfl | exact opv_loadRX1 rfl rfl (by omega) rfl rfl | exact opv_loadRXA rfl rfl (by omega) rfl rfl rfl | exact opv_loadIX rfl rfl (by omega) | exact opv_loadR1 rfl rfl rfl | exact opv_loadRA rfl rfl rfl rfl) rfl ?_
        refine tri_v (by first | exact opv_eql rfl rfl | exact opv_eqlI rfl rfl rfl rfl rfl rfl | exact opv_eqlB rfl rfl | exact opv_eqlNil rfl rfl) rfl ?_
        refine tN (tT ?_)
        refine tri_cond_not rfl ((by omega)) ?_
        refine tri_skip (tT (tS (tR (tM rfl rfl (tM rfl rfl ?_)))))
        refine tri_v (by first | exact opv_nilCheckE rfl | exact opv_nilCheck rfl) rfl ?_
        refine tri_v (by first | exact opv_fieldAddr rfl rfl | exact opv_fieldAddrE rfl (by assumption) (by omega) rfl | exact opv_fieldAddrR rfl (by omega) rfl | exact opv_fieldAddrP rfl rfl rfl) rfl ?_
        refine tri_v (by first | exact opv_fieldAddr rfl rfl | exact opv_fieldAddrE rfl (by assumption) (by omega) rfl | exact opv_fieldAddrR rfl (by omega) rfl | exact opv_fieldAddrP rfl rfl rfl) rfl ?_
        refine tri_v (by first | exact opv_load1 rfl rfl rfl | exact opv_loadA rfl rfl rfl | exact opv_loadE1 rfl (by assumption) rfl (by omega) rfl rfl | exact opv_loadEA rfl (by assumption) rfl (by omega) rfl rfl | exact opv_loadRX1 rfl rfl (by omega) rfl rfl | exact opv_loadRXA rfl rfl (by omega) rfl rfl rfl | exact opv_loadIX rfl rfl (by omega) | exact opv_loadR1 rfl rfl rfl | exact opv_loadRA rfl rfl rfl rfl) rfl ?_
        refine tM rfl rfl (tM rfl rfl ?_)
        obtain ⟨hx0, hx1⟩ := R19.nxt_ok (picks := picks) (nw := W) (n := n) (last := last) hW1
        obtain ⟨hstep, hcs⟩ := hci.step hr hW1 hnlt
        obtain ⟨w, ew⟩ : ∃ w : Nat, R19.nxt picks W n last = (w : Int) := ⟨(R19.nxt picks W n last).toNat, by omega⟩
        have ew2 : R11.next picks k.steps (List.replicate W 1) last = (w : Int) := by rw [hst]; exact ew
        rw [ew, Int.toNat_natCast] at hcs
        refine tri_g (opg_call (xs := [_, _, _, _]) rfl (pick_nextM (by rw [List.length_replicate]) (hs3.mono fun _ h => hJ4 (hI3 h)) hk (by omega))) rfl ?_
        rintro _ _ J5 ⟨rfl, rfl, hJ5⟩
        rw [ew2]
        refine tri_perm permS ?_
        refine tA rfl rfl (tN (tT (tR (tM rfl rfl (tM rfl rfl ?_)))))
        have hDl : k.D.length = W := by rw [hci.D]; exact hmo.dl
        have hcr : CrewOk J5 p k ss := ⟨hd.mono hJ5, by omega, hci.fr.len, by omega, fun t ht => by rw [hci.fr.par t ht]; exact (R19.par_lt hr ht).1, fun t ht => by
          obtain ⟨e1, e2⟩ := hci.same t
          rw [e1, e2]
          exact ⟨(hkd3 t ht).mono fun _ h => hJ5 (hJ4 h), hfs.kid t ht⟩, fun i hi => by rw [hci.D]; have := hmo.at_le (i := i) (by omega); omega, by omega, by rw [hci.order, hci.who, hmo.ol, hmo.wl]; omega⟩
        obtain ⟨T, hT, hTl, _⟩ := hmo.take hr hnlt (w := w) (by omega)
        refine tri_g (opg_call (xs := [_, _]) rfl (fork_step (b := bf) (N := p.length) (w := w) hcr hDl (by omega) rfl (by rw [hci.D, hT]; omega))) rfl ?_
        rintro _ _ J6 ⟨ss', ow', ww', co', cw', rfl, hd', hJ6⟩
        refine tri_perm permS' ?_
        refine tN ?_
        refine tri_inBlock ?_
        refine tT ?_
        refine tri_sub ?_ (hK ⟨n + 1, R19.stepM p k w, ss', ow', ww', co', cw', w, hstep, J6⟩ ⟨by simp only; omega, hcs, hd', fun _ h => hJ6 (hJ5 (hJ4 h))⟩ (by simp only; omega))
        exact ⟨rfl, rfl, rfl, rfl, rfl, rfl, rfl, trivial⟩
       ·have hnN2 : n = p.length := hends.1 (by simpa using h6)
        subst hnN2
        refine tri_exit ?_
        refine tri_then_exit ?_
        refine tri_then_exit ?_
        refine tri_inBlock_hit rfl ?_
        exact tri_cutEnd _ ⟨k, ss, ow, ww, co, cw, last, dn, ⟨hci, fun _ h => hJ4 (hI3 h)⟩, rfl, rfl⟩ ⟨rfl, rfl, rfl, trivial⟩
      rintro _ _ J7 ⟨k, ss, ow, ww, co, cw, last, dn, ⟨hci, hJ7⟩, rfl, rfl⟩
      have hmo := R19.MOk.run hr hW1 p.length (Nat.le_refl _) (picks := picks)
      have hsum := hci.sums hr hW1 (fun t ht => hvb t (by omega))
      have hol : k.order.length = p.length := by rw [hci.order, hmo.ol]
      have hwl : k.who.length = p.length := by rw [hci.who, hmo.wl]
      have hfl := hci.fr.len
      have hst := hci.steps
      skip
      refine tT (tS (tR (tM rfl rfl (tM rfl rfl ?_))))
      refine tri_v (by first | exact opv_nilCheckE rfl | exact opv_nilCheck rfl) rfl ?_
      refine tri_v (by first | exact opv_fieldAddr rfl rfl | exact opv_fieldAddrE rfl (by assumption) (by omega) rfl | exact opv_fieldAddrR rfl (by omega) rfl | exact opv_fieldAddrP rfl rfl rfl) rfl ?_
      refine tri_v (by first | exact opv_fieldAddr rfl rfl | exact opv_fieldAddrE rfl (by assumption) (by omega) rfl | exact opv_fieldAddrR rfl (by omega) rfl | exact opv_fieldAddrP rfl rfl rfl) rfl ?_
      refine tri_v (by first | exact opv_load1 rfl rfl rfl | exact opv_loadA rfl rfl rfl | exact opv_loadE1 rfl (by assumption) rfl (by omega) rfl rfl | exact opv_loadEA rfl (by assumption) rfl (by omega) rfl rfl | exact opv_loadRX1 rfl rfl (by omega) rfl rfl | exact opv_loadRXA rfl rfl (by omega) rfl rfl rfl | exact opv_loadIX rfl rfl (by omega) | exact opv_loadR1 rfl rfl rfl | exact opv_loadRA rfl rfl rfl rfl) rfl ?_
      refine tri_v (by first | exact opv_indexAddrA rfl rfl (by first | decide | omega) (by first | decide | omega) | exact opv_indexAddrSN rfl rfl (by omega) (by assumption) (by first | rfl | omega) | exact opv_indexAddrS rfl rfl (by omega) (by omega) (by assumption) (by first | rfl | omega) | exact opv_indexAddrE rfl (by assumption) (by omega) rfl (by first | decide | omega) (by first | decide | omega) | exact opv_indexAddrRN rfl rfl (by omega) | exact opv_indexAddrR rfl rfl (by omega) (by omega) | exact opv_indexAddrRA rfl (by omega) rfl (by first | decide | omega) (by first | decide | omega) | exact opv_indexAddrSP rfl rfl (by omega) (by omega)) rfl ?_
      refine tri_v (by first | exact opv_fieldAddr rfl rfl | exact opv_fieldAddrE rfl (by assumption) (by omega) rfl | exact opv_fieldAddrR rfl (by omega) rfl | exact opv_fieldAddrP rfl rfl rfl) rfl ?_
      refine tri_v (opv_loadRX1 (v := .int .i64 (R19.total v p.length)) rfl rfl (by omega) rfl (by rw [← hsum]; rfl)) rfl ?_
      refine tri_v (by first | exact opv_nilCheckE rfl | exact opv_nilCheck rfl) rfl ?_
      refine tri_v (by first | exact opv_fieldAddr rfl rfl | exact opv_fieldAddrE rfl (by assumption) (by omega) rfl | exact opv_fieldAddrR rfl (by omega) rfl | exact opv_fieldAddrP rfl rfl rfl) rfl ?_
      refine tri_v (by first | exact opv_fieldAddr rfl rfl | exact opv_fieldAddrE rfl (by assumption) (by omega) rfl | exact opv_fieldAddrR rfl (by omega) rfl | exact opv_fieldAddrP rfl rfl rfl) rfl ?_
      refine tri_g (opg_store rfl rfl rfl rfl rfl rfl) rfl ?_
      rintro _ _ _ ⟨rfl, rfl⟩
      refine tN (tT (tS (tR (tM rfl rfl ?_))))
      refine tri_v (by first | exact opv_nilCheckE rfl | exact opv_nilCheck rfl) rfl ?_
      refine tri_v (by first | exact opv_fieldAddr rfl rfl | exact opv_fieldAddrE rfl (by assumption) (by omega) rfl | exact opv_fieldAddrR rfl (by omega) rfl | exact opv_fieldAddrP rfl rfl rfl) rfl ?_
      refine tri_v (by first | exact opv_load1 rfl rfl rfl | exact opv_loadA rfl rfl rfl | exact opv_loadE1 rfl (by assumption) rfl (by omega) rfl rfl | exact opv_loadEA rfl (by assumption) rfl (by omega) rfl rfl | exact opv_loadRX1 rfl rfl (by omega) rfl rfl | exact opv_loadRXA rfl rfl (by omega) rfl rfl rfl | exact opv_loadIX rfl rfl (by omega) | exact opv_loadR1 rfl rfl rfl | exact opv_loadRA rfl rfl rfl rfl) rfl ?_
      refine tri_g (opg_store rfl rfl rfl rfl rfl rfl) rfl ?_
      rintro _ _ _ ⟨rfl, rfl⟩
      refine tA rfl rfl (tN (tT (tri_ret ?_)))
      refine tri_drop (tri_drop (tri_drop ?_))
      refine tri_freezeRowC (xs := k.order) rfl fun J8 hJ8 hso => ?_
      refine tri_freezeRowC (xs := k.who) rfl fun J9 hJ9 hsw => ?_
      refine tri_end A Suf.h rfl (.cons (rv_cellA rfl rfl rfl) (.cons (rv_tmp rfl) .nil)) ⟨.inl ⟨hg, ow, ww, co, cw, ?_, ?_, ?_⟩, rfl, fun _ h => hJ9 (hJ8 (hJ7 h))⟩
      ·rw [← hci.order]
       exact hso.mono hJ9
      ·rw [← hci.who]
       exact hsw
      ·rw [hol, hwl, hst]
       rfl
end Go.GL

set_option linter.unusedVariables false
namespace Go.GL
open Go.Proofs
attribute [local irreducible] wpList Code.wp Exit.then Exit.inBlock Ends Tri TriH OpV OpG FnC epf wpAnyH
variable {A : List Asrt} {I : List Chunk}
set_option maxRecDepth 100000 in
theorem law19_pick {c n : Int} (h : I64 c) (hn : 0 < n) : FnC Try.prog 11 [.int .i64 c, .int .i64 n].toArray A I (fun v A' I' => v = .int .i64 (pk c n) ∧ A = A' ∧ I = I') := by
 obtain ⟨h0, h1⟩ := h
 refine fn_enter2 Try.func11 rfl Try.ntmps11 rfl fun w0 => ?_
 refine tS (tR (tA rfl rfl (tN (tT (tS (tS (tR ?_)))))))
 refine tM rfl rfl ?_
 refine tri_v (opv_lss rfl rfl) rfl ?_
 refine tN (tT ?_)
 refine tri_cond_dec rfl (fun h => ?_) (fun h => ?_)
 ·refine tR (tM rfl rfl ?_)
  refine tri_v (by first | exact opv_add rfl rfl (w64 (by omega) (by omega))) rfl ?_
  refine tri_v (by first | exact opv_negE rfl (by omega) (by omega)) rfl ?_
  refine tA rfl rfl (tN (tT (tS (tR (tM rfl rfl (tM rfl rfl ?_))))))
  refine tri_v (by first | exact opv_remE rfl rfl (by omega) (by omega) | exact opv_rem rfl rfl (by omega) rfl) rfl ?_
  refine tA rfl rfl (tN (tT (tri_ret ?_)))
  refine tri_end A Suf.h rfl (.cons (rv_tmp rfl) .nil) ⟨?_, rfl, rfl⟩
  rw [pk, if_pos h]; rfl
 ·refine tri_skip (tT (tS (tR (tM rfl rfl (tM rfl rfl ?_)))))
  refine tri_v (by first | exact opv_remE rfl rfl (by omega) (by omega) | exact opv_rem rfl rfl (by omega) rfl) rfl ?_
  refine tA rfl rfl (tN (tT (tri_ret ?_)))
  refine tri_end A Suf.h rfl (.cons (rv_tmp rfl) .nil) ⟨?_, rfl, rfl⟩
  rw [pk, if_neg h]; rfl
set_option maxHeartbeats 1000000 in
set_option maxRecDepth 100000 in
theorem law19_tree {raw : List Int} {a : Option Addr} {cap : Nat} (hs : SlAt I a raw) (hr : ∀ i, i < raw.length → I64 (raw.getD i default)) :
  FnC Try.prog 10 [.slice a raw.length cap].toArray A I (fun v A' I' => ∃ a' cap', v = .slice a' (R19.tree raw).length cap' ∧ SlAt I' a' (R19.tree raw) ∧ A = A' ∧ I ⊆ I') := by
 skip
 refine fn_enter1 Try.func10 rfl Try.ntmps10 rfl fun w0 => ?_
 refine tS (tR (tA rfl rfl (tN (tT (tS (tR ?_))))))
 refine tri_g (opg_buildSlice rfl rfl rfl rfl) rfl ?_
 rintro _ _ _ ⟨b5, rfl, rfl, rfl⟩
 refine tA rfl rfl (tN (tT (tS (tS (tR (tA rfl rfl (tN ?_)))))))
 refine tT (tri_block ?_)
 refine tri_boxRow (sz := 1) (k := 1) rfl ?_
 refine tri_sub (F' := [(0, .slice a raw.length cap), (3, .slice (some ⟨b5, 0, none⟩) (R19.treeF raw 0).length 1), (4, .int .i64 (0 : Nat))]) ⟨rfl, rfl, rfl, trivial⟩ ?_
 refine loop_ind (G := Nat × Option Addr × Nat) (fun g => 39 - g.1) (fun g => g.1 ≤ 39 ∧ g.1 ≤ raw.length) (fun g => [(0, .slice a raw.length cap), (3, .slice g.2.1 (R19.treeF raw g.1).length g.2.2), (4, .int .i64 (g.1 : Nat))]) (fun g => Row g.2.1 g.2.2 (R19.treeF raw g.1).length 3 1 (encs (R19.treeF raw g.1)) :: A) (fun _ => I) ?_ (0, some ⟨b5, 0, none⟩, 1) ⟨by simp, by simp⟩
 rintro ⟨i, a1, c1⟩ ⟨hi, hi2⟩ K hK
 simp only at hi hi2 hK ⊢
 have hl := R19.treeF_len raw i
 have fin : ¬ (i < raw.length ∧ i < 39) → R19.tree raw = R19.treeF raw i := by
  intro h
  unfold R19.tree
  congr 1
  split <;> omega
 skip
 refine tS (tS (tR (tM rfl rfl (tM rfl rfl ?_))))
 refine tri_v (opv_len rfl) rfl ?_
 refine tri_v (opv_lss rfl rfl) rfl ?_
 refine tM rfl rfl ?_
 refine tri_split rfl rfl (fun h => ?_) (fun h => ?_)
 ·refine tri_guard_run rfl rfl rfl (tM rfl rfl (tri_guard_run rfl rfl rfl ?_))
  refine tri_v (opv_lss rfl rfl) rfl ?_
  refine tri_v (by first | exact opv_pick_t rfl rfl | exact opv_pick_f rfl rfl | exact opv_pick_bool rfl rfl rfl | exact opv_pick rfl rfl rfl) rfl ?_
  refine tN (tT ?_)
  refine tri_cond_dec rfl (fun h2 => ?_) (fun h2 => ?_)
  ·have hI : I64 (raw.getD (i : Int).toNat default) := hr i (by omega)
   have hstep := R19.treeF_succ raw i
   refine tri_skip (tT (tS (tri_block (tR (tM rfl rfl (tM rfl rfl (tM rfl rfl ?_)))))))
   refine tri_v (by first | exact opv_indexAddrA rfl rfl (by first | decide | omega) (by first | decide | omega) | exact opv_indexAddrSN rfl rfl (by omega) (by assumption) (by first | rfl | omega) | exact opv_indexAddrS rfl rfl (by omega) (by omega) (by assumption) (by first | rfl | omega) | exact opv_indexAddrE rfl (by assumption) (by omega) rfl (by first | decide | omega) (by first | decide | omega) | exact opv_indexAddrRN rfl rfl (by omega) | exact opv_indexAddrR rfl rfl (by omega) (by omega) | exact opv_indexAddrRA rfl (by omega) rfl (by first | decide | omega) (by first | decide | omega) | exact opv_indexAddrSP rfl rfl (by omega) (by omega)) rfl ?_
   refine tri_v (by first | exact opv_load1 rfl rfl rfl | exact opv_loadA rfl rfl rfl | exact opv_loadE1 rfl (by assumption) rfl (by omega) rfl rfl | exact opv_loadEA rfl (by assumption) rfl (by omega) rfl rfl | exact opv_loadRX1 rfl rfl (by omega) rfl rfl | exact opv_loadRXA rfl rfl (by omega) rfl rfl rfl | exact opv_loadIX rfl rfl (by omega) | exact opv_loadR1 rfl rfl rfl | exact opv_loadRA rfl rfl rfl rfl) rfl ?_
   refine tM rfl rfl ?_
   refine tri_v (by first | exact opv_add rfl rfl (w64 (by omega) (by omega))) rfl ?_
   refine tri_g (opg_call (xs := [_, _]) rfl (law19_pick hI (by omega))) rfl ?_
   rintro _ _ _ ⟨rfl, rfl, rfl⟩
   refine tri_g (opg_buildSlice rfl rfl rfl rfl) rfl ?_
   rintro _ _ _ ⟨b24, rfl, rfl, rfl⟩
   refine tri_g (opg_appendB rfl rfl rfl rfl (by omega) rfl) rfl ?_
   rintro _ _ _ ⟨a3, c3, rfl, rfl, rfl⟩
   refine tA rfl rfl (tN ?_)
   refine tri_inBlock ?_
   refine tT (tR (tM rfl rfl ?_))
   refine tri_v (by first | exact opv_add rfl rfl (w64 (by omega) (by omega))) rfl ?_
   refine tA rfl rfl (tN (tT ?_))
   refine tri_drop ?_
   refine tri_rowEq (len' := (R19.treeF raw (i + 1)).length) (cells' := encs (R19.treeF raw (i + 1))) (by rw [hstep]; simp) (by rw [hstep, encs_append]; rfl) ?_
   refine tri_sub ?_ (hK (i + 1, a3, c3) (by simp only; omega) (by simp only; omega))
   exact ⟨rfl, by simp only [hstep, List.length_append]; rfl, rfl, trivial⟩
  ·have e := fin (by omega)
   rw [← e]
   refine tri_exit ?_
   refine tri_then_exit ?_
   refine tri_then_exit ?_
   refine tri_inBlock_hit rfl ?_
   refine tT (tS (tR (tM rfl rfl (tA rfl rfl (tN (tT (tri_ret ?_)))))))
   refine tri_freezeRow rfl fun I1 hI1 hs1 => ?_
   refine tri_end A Suf.h rfl (.cons (rv_tmp rfl) .nil) ⟨a1, c1, rfl, hs1, rfl, hI1⟩
 ·have e := fin (by omega)
  rw [← e]
  refine tri_guard_skip rfl rfl rfl rfl (tri_guard_skip rfl rfl rfl rfl ?_)
  refine tri_v (by first | exact opv_pick_t rfl rfl | exact opv_pick_f rfl rfl | exact opv_pick_bool rfl rfl rfl | exact opv_pick rfl rfl rfl) rfl ?_
  refine tN (tT ?_)
  refine tri_cond_false rfl ?_
  refine tri_exit ?_
  refine tri_then_exit ?_
  refine tri_then_exit ?_
  refine tri_inBlock_hit rfl ?_
  refine tT (tS (tR (tM rfl rfl (tA rfl rfl (tN (tT (tri_ret ?_)))))))
  refine tri_freezeRow rfl fun I1 hI1 hs1 => ?_
  refine tri_end A Suf.h rfl (.cons (rv_tmp rfl) .nil) ⟨a1, c1, rfl, hs1, rfl, hI1⟩
set_option maxHeartbeats 1000000 in
set_option maxRecDepth 100000 in
theorem law19_values {raw : List Int} {a : Option Addr} {cap n : Nat} (hs : SlAt I a raw) (hr : ∀ i, i < raw.length → I64 (raw.getD i default)) (hn : n ≤ 1000000) (hrl : raw.length ≤ 9223372036854775807) :
  FnC Try.prog 14 [.slice a raw.length cap, .int .i64 (n : Int)].toArray A I (fun v A' I' => ∃ a' cap', v = .slice a' (R19.vals raw n).length cap' ∧ SlAt I' a' (R19.vals raw n) ∧ A = A' ∧ I ⊆ I') := by
 skip
 refine fn_enter2 Try.func14 rfl Try.ntmps14 rfl fun w0 => ?_
 refine tS (tR (tA rfl rfl (tN (tT (tS (tR (tA rfl rfl ?_)))))))
 refine tN (tT (tS (tS (tR (tA rfl rfl (tN (tT ?_)))))))
 refine tri_block ?_
 refine tri_nilRow (E := 3) (sz := 1) ?_
 refine tri_sub (F' := [(0, .slice a raw.length cap), (1, .int .i64 (n : Int)), (5, .slice none (R19.vals raw 0).length 0), (6, .int .i64 (0 : Nat))]) ⟨rfl, rfl, rfl, rfl, trivial⟩ ?_
 refine loop_ind (G := Nat × Option Addr × Nat) (fun g => n - g.1) (fun g => g.1 ≤ n) (fun g => [(0, .slice a raw.length cap), (1, .int .i64 (n : Int)), (5, .slice g.2.1 (R19.vals raw g.1).length g.2.2), (6, .int .i64 (g.1 : Nat))]) (fun g => Row g.2.1 g.2.2 (R19.vals raw g.1).length 3 1 (encs (R19.vals raw g.1)) :: A) (fun _ => I) ?_ (0, none, 0) (by simp)
 rintro ⟨i, a1, c1⟩ hi K hK
 simp only at hi hK ⊢
 have hl := R19.vals_len raw i
 skip
 refine tS (tS (tR (tM rfl rfl (tM rfl rfl ?_))))
 refine tri_v (opv_lss rfl rfl) rfl ?_
 refine tN (tT ?_)
 refine tri_cond_dec rfl (fun h => ?_) (fun h => ?_)
 ·have hstep := R19.vals_succ raw i
  refine tri_skip (tT (tS (tri_block (tS (tR (tM rfl rfl (tA rfl rfl ?_)))))))
  refine tN (tT (tS (tS (tR (tM rfl rfl (tM rfl rfl ?_))))))
  refine tri_v (opv_len rfl) rfl ?_
  refine tri_v (opv_lss rfl rfl) rfl ?_
  refine tN (tT ?_)
  refine tri_cond_dec rfl (fun h2 => ?_) (fun h2 => ?_)
  ·have hI : I64 (raw.getD (i : Int).toNat default) := hr i (by omega)
   have ev : R19.valAt raw i = pk (raw.getD i default) 1000 - 300 := if_pos (by omega)
   have hb := pk_bd (c := raw.getD (i : Int).toNat default) (n := 1000) (by omega)
   refine tR (tM rfl rfl (tM rfl rfl ?_))
   refine tri_v (by first | exact opv_indexAddrA rfl rfl (by first | decide | omega) (by first | decide | omega) | exact opv_indexAddrSN rfl rfl (by omega) (by assumption) (by first | rfl | omega) | exact opv_indexAddrS rfl rfl (by omega) (by omega) (by assumption) (by first | rfl | omega) | exact opv_indexAddrE rfl (by assumption) (by omega) rfl (by first | decide | omega) (by first | decide | omega) | exact opv_indexAddrRN rfl rfl (by omega) | exact opv_indexAddrR rfl rfl (by omega) (by omega) | exact opv_indexAddrRA rfl (by omega) rfl (by first | decide | omega) (by first | decide | omega) | exact opv_indexAddrSP rfl rfl (by omega) (by omega)) rfl ?_
   refine tri_v (by first | exact opv_load1 rfl rfl rfl | exact opv_loadA rfl rfl rfl | exact opv_loadE1 rfl (by assumption) rfl (by omega) rfl rfl | exact opv_loadEA rfl (by assumption) rfl (by omega) rfl rfl | exact opv_loadRX1 rfl rfl (by omega) rfl rfl | exact opv_loadRXA rfl rfl (by omega) rfl rfl rfl | exact opv_loadIX rfl rfl (by omega) | exact opv_loadR1 rfl rfl rfl | exact opv_loadRA rfl rfl rfl rfl) rfl ?_
   refine tri_g (opg_call (xs := [_, _]) rfl (law19_pick hI (by omega))) rfl ?_
   rintro _ _ _ ⟨rfl, rfl, rfl⟩
   refine tri_v (by first | exact opv_sub rfl rfl (w64 (by omega) (by omega)) | exact opv_sub rfl rfl rfl) rfl ?_
   refine tA rfl rfl (tN (tT (tR (tM rfl rfl (tM rfl rfl ?_)))))
   refine tri_g (opg_buildSlice rfl rfl rfl rfl) rfl ?_
   rintro _ _ _ ⟨b26, rfl, rfl, rfl⟩
   refine tri_g (opg_appendB rfl rfl rfl rfl (by omega) rfl) rfl ?_
   rintro _ _ _ ⟨a3, c3, rfl, rfl, rfl⟩
   refine tA rfl rfl (tN ?_)
   refine tri_inBlock ?_
   refine tT (tR (tM rfl rfl ?_))
   refine tri_v (by first | exact opv_add rfl rfl (w64 (by omega) (by omega))) rfl ?_
   refine tA rfl rfl (tN (tT ?_))
   refine tri_drop ?_
   refine tri_rowEq (len' := (R19.vals raw (i + 1)).length) (cells' := encs (R19.vals raw (i + 1))) (by rw [hstep]; simp) (by rw [hstep, encs_append, ev]; rfl) ?_
   refine tri_sub ?_ (hK (i + 1, a3, c3) (by simp only; omega) (by simp only; omega))
   exact ⟨rfl, rfl, by simp only [hstep, List.length_append]; rfl, rfl, trivial⟩
  ·have ev : R19.valAt raw i = i := if_neg (by omega)
   refine tri_skip (tT (tR (tM rfl rfl (tM rfl rfl ?_))))
   refine tri_g (opg_buildSlice rfl rfl rfl rfl) rfl ?_
   rintro _ _ _ ⟨b26, rfl, rfl, rfl⟩
   refine tri_g (opg_appendB rfl rfl rfl rfl (by omega) rfl) rfl ?_
   rintro _ _ _ ⟨a3, c3, rfl, rfl, rfl⟩
   refine tA rfl rfl (tN ?_)
   refine tri_inBlock ?_
   refine tT (tR (tM rfl rfl ?_))
   refine tri_v (by first | exact opv_add rfl rfl (w64 (by omega) (by omega))) rfl ?_
   refine tA rfl rfl (tN (tT ?_))
   refine tri_drop ?_
   refine tri_rowEq (len' := (R19.vals raw (i + 1)).length) (cells' := encs (R19.vals raw (i + 1))) (by rw [hstep]; simp) (by rw [hstep, encs_append, ev]; rfl) ?_
   refine tri_sub ?_ (hK (i + 1, a3, c3) (by simp only; omega) (by simp only; omega))
   exact ⟨rfl, rfl, by simp only [hstep, List.length_append]; rfl, rfl, trivial⟩
 ·obtain rfl : i = n := by omega
  refine tri_exit ?_
  refine tri_then_exit ?_
  refine tri_then_exit ?_
  refine tri_inBlock_hit rfl ?_
  refine tT (tS (tR (tM rfl rfl (tA rfl rfl (tN (tT (tri_ret ?_)))))))
  refine tri_freezeRow rfl fun I1 hI1 hs1 => ?_
  refine tri_end A Suf.h rfl (.cons (rv_tmp rfl) .nil) ⟨a1, c1, rfl, hs1, rfl, hI1⟩
end Go.GL

set_option linter.unusedVariables false
namespace Go.GL
open Go.Proofs
attribute [local irreducible] wpList Code.wp Exit.then Exit.inBlock Ends Tri TriH OpV OpG FnC epf wpAnyH
variable {A : List Asrt} {I : List Chunk}
instance (p v : List Int) (nw : Int) : Decidable (R19.good p v nw) := inferInstanceAs (Decidable (_ ∧ _ ∧ _ ∧ _ ∧ _))
theorem fork_run_ok {p v picks : List Int} {a a2 a3 : Option Addr} {cap cap2 cap3 : Nat} {nw : Int} (hs : SlAt I a p) (hs2 : SlAt I a2 v) (hs3 : SlAt I a3 picks) (hk : Is picks) (hg : R19.good p v nw) :
  FnC Try.prog 15 [.slice a p.length cap, .slice a2 v.length cap2, .int .i64 nw, .slice a3 picks.length cap3].toArray A I (fun r A' I' =>
   ∃ ao aw co cw, r = .tuple [.agg [.int .i64 (R19.total v p.length), .slice ao p.length co, .slice aw p.length cw, .int .i64 (p.length : Nat)].toArray, .int .i64 0].toArray ∧ StA I' ao co (R19.mst p picks nw.toNat p.length).order ∧ StA I' aw cw (R19.mst p picks nw.toNat p.length).who ∧ A = A' ∧ I ⊆ I') :=
 (fork_run hs hs2 hs3 hk (by have := hg.1.1; omega)).mono fun r A' I' h => by
  obtain ⟨h | h, hA, hI⟩ := h
  ·obtain ⟨_, ao, aw, co, cw, h1, h2, h3⟩ := h
   exact ⟨ao, aw, co, cw, h3, h1, h2, hA, hI⟩
  ·exact absurd hg h.1
theorem fork_run_bad {p v picks : List Int} {a a2 a3 : Option Addr} {cap cap2 cap3 : Nat} {nw : Int} (hs : SlAt I a p) (hs2 : SlAt I a2 v) (hs3 : SlAt I a3 picks) (hk : Is picks) (hn : p.length ≤ 1000000000) (hg : ¬ R19.good p v nw) :
  FnC Try.prog 15 [.slice a p.length cap, .slice a2 v.length cap2, .int .i64 nw, .slice a3 picks.length cap3].toArray A I (fun r A' I' =>
   r = .tuple [.agg [.int .i64 0, .slice none 0 0, .slice none 0 0, .int .i64 0].toArray, .int .i64 1].toArray ∧ A = A' ∧ I ⊆ I') :=
 (fork_run hs hs2 hs3 hk hn).mono fun r A' I' h => by
  obtain ⟨h | h, hA, hI⟩ := h
  ·exact absurd h.1 hg
  ·exact ⟨h.2, hA, hI⟩
theorem is_small19 {l : List Int} (h : (l.all fun x => decide (-1000 ≤ x ∧ x ≤ 1000)) = true) : Is l := fun i hi => by
 have := List.all_eq_true.1 h _ (R11.getD_mem hi)
 have := of_decide_eq_true this
 unfold I64
 omega
set_option maxHeartbeats 4000000 in
set_option maxRecDepth 100000 in
theorem law19_awake : FnC Try.prog 9 #[] A I (fun v A' I' => v = .bool true ∧ A = A' ∧ I ⊆ I') := by
 have g1 : R19.good [-1, 0, 0] [1, 2, 3] 1 := by decide +kernel
 have g2 : R19.good [-1, 0, 0] [1, 2, 3] 2 := by decide +kernel
 have g3 : ¬ R19.good [-1, 1] [1, 2] 2 := by decide +kernel
 have e1 : (R19.mst [-1, 0, 0] [] (1 : Int).toNat ([-1, 0, 0] : List Int).length).order = [0, 2, 1] := by decide +kernel
 have e2 : (R19.mst [-1, 0, 0] [0, 1, 1] (2 : Int).toNat ([-1, 0, 0] : List Int).length).order = [0, 1, 2] := by decide +kernel
 have e3 : (R19.mst [-1, 0, 0] [0, 1, 1] (2 : Int).toNat ([-1, 0, 0] : List Int).length).who = [0, 1, 1] := by decide +kernel
 have r1 : decide (R19.right [-1, 0]) = true := by decide +kernel
 have r2 : decide (R19.right []) = false := by decide +kernel
 skip
 refine fn_enter0 Try.func9 rfl Try.ntmps9 rfl fun w0 => ?_
 refine tS (tR (tA rfl rfl (tN (tT (tS (tR ?_))))))
 refine tri_g (opg_buildSlice rfl rfl rfl rfl) rfl ?_
 rintro _ _ _ ⟨b8, rfl, rfl, rfl⟩
 refine tri_g (opg_buildSlice rfl rfl rfl rfl) rfl ?_
 rintro _ _ _ ⟨b9, rfl, rfl, rfl⟩
 refine tri_freezeBoxS ([1, 2, 3] : List Int) rfl fun I1 hI1 hs1 => ?_
 refine tri_freezeBoxS ([-1, 0, 0] : List Int) rfl fun I2 hI2 hs2 => ?_
 refine tri_g (opg_call (xs := [_, _, _, _]) rfl (fork_run_ok (p := [-1, 0, 0]) (v := [1, 2, 3]) (picks := []) hs2 (hs1.mono hI2) SlAt.nil (is_small19 rfl) g1)) rfl ?_
 rintro _ _ I3 ⟨o1, w1, c1, d1, rfl, ho1, hw1, rfl, hI3⟩
 rw [e1] at ho1
 refine tM rfl rfl ?_
 refine tri_v (opv_extract rfl rfl) rfl ?_
 refine tri_v (opv_extract rfl rfl) rfl ?_
 refine tri_g opg_alloc rfl ?_
 rintro _ _ _ ⟨b1, rfl, rfl, rfl⟩
 refine tri_g (opg_store rfl rfl rfl rfl rfl rfl) rfl ?_
 rintro _ _ _ ⟨rfl, rfl⟩
 refine tA rfl rfl (tN (tT (tS (tR ?_))))
 refine tri_g (opg_buildSlice rfl rfl rfl rfl) rfl ?_
 rintro _ _ _ ⟨b14, rfl, rfl, rfl⟩
 refine tri_g (opg_buildSlice rfl rfl rfl rfl) rfl ?_
 rintro _ _ _ ⟨b15, rfl, rfl, rfl⟩
 refine tri_g (opg_buildSlice rfl rfl rfl rfl) rfl ?_
 rintro _ _ _ ⟨b16, rfl, rfl, rfl⟩
 refine tri_freezeBoxS ([0, 1, 1] : List Int) rfl fun I4 hI4 hs4 => ?_
 refine tri_freezeBoxS ([1, 2, 3] : List Int) rfl fun I5 hI5 hs5 => ?_
 refine tri_freezeBoxS ([-1, 0, 0] : List Int) rfl fun I6 hI6 hs6 => ?_
 refine tri_g (opg_call (xs := [_, _, _, _]) rfl (fork_run_ok (p := [-1, 0, 0]) (v := [1, 2, 3]) (picks := [0, 1, 1]) hs6 (hs5.mono hI6) (hs4.mono fun _ h => hI6 (hI5 h)) (is_small19 rfl) g2)) rfl ?_
 rintro _ _ I7 ⟨o2, w2, c2, d2, rfl, ho2, hw2, rfl, hI7⟩
 rw [e2] at ho2
 rw [e3] at hw2
 refine tM rfl rfl ?_
 refine tri_v (opv_extract rfl rfl) rfl ?_
 refine tri_v (opv_extract rfl rfl) rfl ?_
 refine tri_g opg_alloc rfl ?_
 rintro _ _ _ ⟨b3, rfl, rfl, rfl⟩
 refine tri_g (opg_store rfl rfl rfl rfl rfl rfl) rfl ?_
 rintro _ _ _ ⟨rfl, rfl⟩
 refine tA rfl rfl (tN (tT (tS (tR ?_))))
 refine tri_g (opg_buildSlice rfl rfl rfl rfl) rfl ?_
 rintro _ _ _ ⟨b21, rfl, rfl, rfl⟩
 refine tri_g (opg_buildSlice rfl rfl rfl rfl) rfl ?_
 rintro _ _ _ ⟨b22, rfl, rfl, rfl⟩
 refine tri_freezeBoxS ([1, 2] : List Int) rfl fun I8 hI8 hs8 => ?_
 refine tri_freezeBoxS ([-1, 1] : List Int) rfl fun I9 hI9 hs9 => ?_
 refine tri_g (opg_call (xs := [_, _, _, _]) rfl (fork_run_bad (p := [-1, 1]) (v := [1, 2]) (picks := []) hs9 (hs8.mono hI9) SlAt.nil (is_small19 rfl) (by decide) g3)) rfl ?_
 rintro _ _ I10 ⟨rfl, rfl, hI10⟩
 have h3to10 : I3 ⊆ I10 := fun _ h => hI10 (hI9 (hI8 (hI7 (hI6 (hI5 (hI4 h))))))
 have h7to10 : I7 ⊆ I10 := fun _ h => hI10 (hI9 (hI8 h))
 refine tM rfl rfl ?_
 refine tri_v (opv_extract rfl rfl) rfl ?_
 refine tri_v (opv_extract rfl rfl) rfl ?_
 refine tri_g opg_alloc rfl ?_
 rintro _ _ _ ⟨b5, rfl, rfl, rfl⟩
 refine tri_g (opg_store rfl rfl rfl rfl rfl rfl) rfl ?_
 rintro _ _ _ ⟨rfl, rfl⟩
 refine tA rfl rfl (tN (tT (tS (tR (tM rfl rfl ?_)))))
 refine tri_v (by first | exact opv_eql rfl rfl | exact opv_eqlI rfl rfl rfl rfl rfl rfl | exact opv_eqlB rfl rfl | exact opv_eqlNil rfl rfl) rfl ?_
 refine tM rfl rfl ?_
 refine tri_true rfl rfl (rfl) ?_
 refine tri_guard_run rfl rfl rfl ?_
 refine tri_v (by first | exact opv_fieldAddr rfl rfl | exact opv_fieldAddrE rfl (by assumption) (by omega) rfl | exact opv_fieldAddrR rfl (by omega) rfl | exact opv_fieldAddrP rfl rfl rfl) rfl ?_
 refine tri_guard_run rfl rfl rfl ?_
 refine tri_v (by first | exact opv_load1 rfl rfl rfl | exact opv_loadA rfl rfl rfl | exact opv_loadE1 rfl (by assumption) rfl (by omega) rfl rfl | exact opv_loadEA rfl (by assumption) rfl (by omega) rfl rfl | exact opv_loadRX1 rfl rfl (by omega) rfl rfl | exact opv_loadRXA rfl rfl (by omega) rfl rfl rfl | exact opv_loadIX rfl rfl (by omega) | exact opv_loadR1 rfl rfl rfl | exact opv_loadRA rfl rfl rfl rfl) rfl ?_
 refine tri_guard_run rfl rfl rfl ?_
 refine tri_v (by first | exact opv_eql rfl rfl | exact opv_eqlI rfl rfl rfl rfl rfl rfl | exact opv_eqlB rfl rfl | exact opv_eqlNil rfl rfl) rfl ?_
 refine tri_v (by first | exact opv_pick_t rfl rfl | exact opv_pick_f rfl rfl | exact opv_pick_bool rfl rfl rfl | exact opv_pick rfl rfl rfl) rfl ?_
 refine tM rfl rfl ?_
 refine tri_true rfl rfl (rfl) ?_
 refine tri_guard_run rfl rfl rfl ?_
 refine tri_v (by first | exact opv_fieldAddr rfl rfl | exact opv_fieldAddrE rfl (by assumption) (by omega) rfl | exact opv_fieldAddrR rfl (by omega) rfl | exact opv_fieldAddrP rfl rfl rfl) rfl ?_
 refine tri_guard_run rfl rfl rfl ?_
 refine tri_v (by first | exact opv_load1 rfl rfl rfl | exact opv_loadA rfl rfl rfl | exact opv_loadE1 rfl (by assumption) rfl (by omega) rfl rfl | exact opv_loadEA rfl (by assumption) rfl (by omega) rfl rfl | exact opv_loadRX1 rfl rfl (by omega) rfl rfl | exact opv_loadRXA rfl rfl (by omega) rfl rfl rfl | exact opv_loadIX rfl rfl (by omega) | exact opv_loadR1 rfl rfl rfl | exact opv_loadRA rfl rfl rfl rfl) rfl ?_
 refine tri_guard_run rfl rfl rfl ?_
 refine tri_g (opg_buildSlice rfl rfl rfl rfl) rfl ?_
 rintro _ _ _ ⟨b36, rfl, rfl, rfl⟩
 refine tri_freezeBoxS ([0, 2, 1] : List Int) rfl fun I11 hI11 hs11 => ?_
 refine tri_guard_run rfl rfl rfl ?_
 refine tri_g (opg_call (xs := [_, _]) rfl (ref03_ints (l := [0, 2, 1]) (m := [0, 2, 1]) (ho1.sl.mono fun _ h => hI11 (h3to10 h)) hs11 (by decide))) rfl ?_
 rintro _ _ _ ⟨rfl, rfl, rfl⟩
 refine tri_v (by first | exact opv_pick_t rfl rfl | exact opv_pick_f rfl rfl | exact opv_pick_bool rfl rfl rfl | exact opv_pick rfl rfl rfl) rfl ?_
 refine tM rfl rfl ?_
 refine tri_true rfl rfl (rfl) ?_
 refine tri_guard_run rfl rfl rfl ?_
 refine tri_v (by first | exact opv_fieldAddr rfl rfl | exact opv_fieldAddrE rfl (by assumption) (by omega) rfl | exact opv_fieldAddrR rfl (by omega) rfl | exact opv_fieldAddrP rfl rfl rfl) rfl ?_
 refine tri_guard_run rfl rfl rfl ?_
 refine tri_v (by first | exact opv_load1 rfl rfl rfl | exact opv_loadA rfl rfl rfl | exact opv_loadE1 rfl (by assumption) rfl (by omega) rfl rfl | exact opv_loadEA rfl (by assumption) rfl (by omega) rfl rfl | exact opv_loadRX1 rfl rfl (by omega) rfl rfl | exact opv_loadRXA rfl rfl (by omega) rfl rfl rfl | exact opv_loadIX rfl rfl (by omega) | exact opv_loadR1 rfl rfl rfl | exact opv_loadRA rfl rfl rfl rfl) rfl ?_
 refine tri_guard_run rfl rfl rfl ?_
 refine tri_v (by first | exact opv_eql rfl rfl | exact opv_eqlI rfl rfl rfl rfl rfl rfl | exact opv_eqlB rfl rfl | exact opv_eqlNil rfl rfl) rfl ?_
 refine tri_v (by first | exact opv_pick_t rfl rfl | exact opv_pick_f rfl rfl | exact opv_pick_bool rfl rfl rfl | exact opv_pick rfl rfl rfl) rfl ?_
 refine tM rfl rfl ?_
 refine tri_true rfl rfl (rfl) ?_
 refine tri_guard_run rfl rfl rfl (tM rfl rfl (tri_guard_run rfl rfl rfl ?_))
 refine tri_v (by first | exact opv_eql rfl rfl | exact opv_eqlI rfl rfl rfl rfl rfl rfl | exact opv_eqlB rfl rfl | exact opv_eqlNil rfl rfl) rfl ?_
 refine tri_v (by first | exact opv_pick_t rfl rfl | exact opv_pick_f rfl rfl | exact opv_pick_bool rfl rfl rfl | exact opv_pick rfl rfl rfl) rfl ?_
 refine tM rfl rfl ?_
 refine tri_true rfl rfl (rfl) ?_
 refine tri_guard_run rfl rfl rfl ?_
 refine tri_v (by first | exact opv_fieldAddr rfl rfl | exact opv_fieldAddrE rfl (by assumption) (by omega) rfl | exact opv_fieldAddrR rfl (by omega) rfl | exact opv_fieldAddrP rfl rfl rfl) rfl ?_
 refine tri_guard_run rfl rfl rfl ?_
 refine tri_v (by first | exact opv_load1 rfl rfl rfl | exact opv_loadA rfl rfl rfl | exact opv_loadE1 rfl (by assumption) rfl (by omega) rfl rfl | exact opv_loadEA rfl (by assumption) rfl (by omega) rfl rfl | exact opv_loadRX1 rfl rfl (by omega) rfl rfl | exact opv_loadRXA rfl rfl (by omega) rfl rfl rfl | exact opv_loadIX rfl rfl (by omega) | exact opv_loadR1 rfl rfl rfl | exact opv_loadRA rfl rfl rfl rfl) rfl ?_
 refine tri_guard_run rfl rfl rfl ?_
 refine tri_v (by first | exact opv_eql rfl rfl | exact opv_eqlI rfl rfl rfl rfl rfl rfl | exact opv_eqlB rfl rfl | exact opv_eqlNil rfl rfl) rfl ?_
 refine tri_v (by first | exact opv_pick_t rfl rfl | exact opv_pick_f rfl rfl | exact opv_pick_bool rfl rfl rfl | exact opv_pick rfl rfl rfl) rfl ?_
 refine tM rfl rfl ?_
 refine tri_true rfl rfl (rfl) ?_
 refine tri_guard_run rfl rfl rfl ?_
 refine tri_v (by first | exact opv_fieldAddr rfl rfl | exact opv_fieldAddrE rfl (by assumption) (by omega) rfl | exact opv_fieldAddrR rfl (by omega) rfl | exact opv_fieldAddrP rfl rfl rfl) rfl ?_
 refine tri_guard_run rfl rfl rfl ?_
 refine tri_v (by first | exact opv_load1 rfl rfl rfl | exact opv_loadA rfl rfl rfl | exact opv_loadE1 rfl (by assumption) rfl (by omega) rfl rfl | exact opv_loadEA rfl (by assumption) rfl (by omega) rfl rfl | exact opv_loadRX1 rfl rfl (by omega) rfl rfl | exact opv_loadRXA rfl rfl (by omega) rfl rfl rfl | exact opv_loadIX rfl rfl (by omega) | exact opv_loadR1 rfl rfl rfl | exact opv_loadRA rfl rfl rfl rfl) rfl ?_
 refine tri_guard_run rfl rfl rfl ?_
 refine tri_g (opg_buildSlice rfl rfl rfl rfl) rfl ?_
 rintro _ _ _ ⟨b56, rfl, rfl, rfl⟩
 refine tri_freezeBoxS ([0, 1, 2] : List Int) rfl fun I12 hI12 hs12 => ?_
 refine tri_guard_run rfl rfl rfl ?_
 refine tri_g (opg_call (xs := [_, _]) rfl (ref03_ints (l := [0, 1, 2]) (m := [0, 1, 2]) (ho2.sl.mono fun _ h => hI12 (hI11 (h7to10 h))) hs12 (by decide))) rfl ?_
 rintro _ _ _ ⟨rfl, rfl, rfl⟩
 refine tri_v (by first | exact opv_pick_t rfl rfl | exact opv_pick_f rfl rfl | exact opv_pick_bool rfl rfl rfl | exact opv_pick rfl rfl rfl) rfl ?_
 refine tM rfl rfl ?_
 refine tri_true rfl rfl (rfl) ?_
 refine tri_guard_run rfl rfl rfl ?_
 refine tri_v (by first | exact opv_fieldAddr rfl rfl | exact opv_fieldAddrE rfl (by assumption) (by omega) rfl | exact opv_fieldAddrR rfl (by omega) rfl | exact opv_fieldAddrP rfl rfl rfl) rfl ?_
 refine tri_guard_run rfl rfl rfl ?_
 refine tri_v (by first | exact opv_load1 rfl rfl rfl | exact opv_loadA rfl rfl rfl | exact opv_loadE1 rfl (by assumption) rfl (by omega) rfl rfl | exact opv_loadEA rfl (by assumption) rfl (by omega) rfl rfl | exact opv_loadRX1 rfl rfl (by omega) rfl rfl | exact opv_loadRXA rfl rfl (by omega) rfl rfl rfl | exact opv_loadIX rfl rfl (by omega) | exact opv_loadR1 rfl rfl rfl | exact opv_loadRA rfl rfl rfl rfl) rfl ?_
 refine tri_guard_run rfl rfl rfl ?_
 refine tri_g (opg_buildSlice rfl rfl rfl rfl) rfl ?_
 rintro _ _ _ ⟨b62, rfl, rfl, rfl⟩
 refine tri_freezeBoxS ([0, 1, 1] : List Int) rfl fun I13 hI13 hs13 => ?_
 refine tri_guard_run rfl rfl rfl ?_
 refine tri_g (opg_call (xs := [_, _]) rfl (ref03_ints (l := [0, 1, 1]) (m := [0, 1, 1]) (hw2.sl.mono fun _ h => hI13 (hI12 (hI11 (h7to10 h)))) hs13 (by decide))) rfl ?_
 rintro _ _ _ ⟨rfl, rfl, rfl⟩
 refine tri_v (by first | exact opv_pick_t rfl rfl | exact opv_pick_f rfl rfl | exact opv_pick_bool rfl rfl rfl | exact opv_pick rfl rfl rfl) rfl ?_
 refine tM rfl rfl ?_
 refine tri_true rfl rfl (rfl) ?_
 refine tri_guard_run rfl rfl rfl (tM rfl rfl (tri_guard_run rfl rfl rfl ?_))
 refine tri_v (by first | exact opv_eql rfl rfl | exact opv_eqlI rfl rfl rfl rfl rfl rfl | exact opv_eqlB rfl rfl | exact opv_eqlNil rfl rfl) rfl ?_
 refine tri_v (by first | exact opv_pick_t rfl rfl | exact opv_pick_f rfl rfl | exact opv_pick_bool rfl rfl rfl | exact opv_pick rfl rfl rfl) rfl ?_
 refine tM rfl rfl ?_
 refine tri_true rfl rfl (rfl) ?_
 refine tri_guard_run rfl rfl rfl ?_
 refine tri_g (opg_buildSlice rfl rfl rfl rfl) rfl ?_
 rintro _ _ _ ⟨b70, rfl, rfl, rfl⟩
 refine tri_freezeBoxS ([-1, 0] : List Int) rfl fun I14 hI14 hs14 => ?_
 refine tri_guard_run rfl rfl rfl ?_
 refine tri_g (opg_call (xs := [_]) rfl (fork_right (l := [-1, 0]) hs14 (by decide))) rfl ?_
 rintro _ _ _ ⟨rfl, rfl, rfl⟩
 refine tri_v (by first | exact opv_pick_t rfl rfl | exact opv_pick_f rfl rfl | exact opv_pick_bool rfl rfl rfl | exact opv_pick rfl rfl rfl) rfl ?_
 refine tM rfl rfl ?_
 refine tri_true rfl rfl ((of_decide_eq_true r1)) ?_
 skip
 refine tri_guard_run rfl rfl rfl ?_
 refine tri_g (opg_call (xs := [_]) rfl (fork_right (l := []) SlAt.nil (by decide))) rfl ?_
 rintro _ _ _ ⟨rfl, rfl, rfl⟩
 rw [r2]
 refine tri_guard_run rfl rfl rfl ?_
 refine tri_v (by first | exact opv_notD rfl | exact opv_not rfl) rfl ?_
 refine tri_v (by first | exact opv_pick_t rfl rfl | exact opv_pick_f rfl rfl | exact opv_pick_bool rfl rfl rfl | exact opv_pick rfl rfl rfl) rfl ?_
 refine tA rfl rfl (tN (tT (tri_ret ?_)))
 refine tri_end A Suf.h rfl (.cons (rv_tmp rfl) .nil) ⟨rfl, rfl, fun _ h => hI14 (hI13 (hI12 (hI11 (h3to10 (hI3 (hI2 (hI1 h)))))))⟩
end Go.GL

set_option linter.unusedVariables false
namespace Go.GL
open Go.Proofs
attribute [local irreducible] wpList Code.wp Exit.then Exit.inBlock Ends Tri TriH OpV OpG FnC epf wpAnyH
variable {A : List Asrt} {I : List Chunk}
theorem tree_good {raw : List Int} {nw : Int} (h1 : 1 ≤ nw) (h2 : nw ≤ 64) : R19.good (R19.tree raw) (R19.tree raw) nw := by
 have hr := R19.tree_right raw
 have hl := R19.tree_len raw
 refine ⟨hr, rfl, h1, h2, fun t ht => ?_⟩
 have := R19.par_lt hr ht
 omega
theorem vals_good {raw vs : List Int} {nw : Int} (h1 : 1 ≤ nw) (h2 : nw ≤ 64) : R19.good (R19.tree raw) (R19.vals vs (R19.tree raw).length) nw := by
 have hr := R19.tree_right raw
 have hl := R19.tree_len raw
 refine ⟨hr, R19.vals_len _ _, h1, h2, fun t ht => ?_⟩
 rw [R19.vals_len] at ht
 have e : (R19.vals vs (R19.tree raw).length).getD t default = R19.valAt vs t := by
  unfold R19.vals
  rw [List.getD_eq_getElem?_getD, List.getElem?_map, List.getElem?_range ht]
  rfl
 rw [e]
 have := R19.valAt_bd vs t
 omega
set_option maxHeartbeats 2000000 in
set_option maxRecDepth 100000 in
theorem law19_ends {raw picks : List Int} {workers : Int} {a a2 : Option Addr} {cap cap2 : Nat} (hs : SlAt I a raw) (hr : Is raw) (hw : I64 workers) (hs2 : SlAt I a2 picks) (hk : Is picks) (hkl : picks.length ≤ 1000000000000000) :
  FnC Try.prog 5 [.slice a raw.length cap, .int .i64 workers, .slice a2 picks.length cap2].toArray A I (fun v A' I' => v = .bool true ∧ A = A' ∧ I ⊆ I') := by
 have hb := pk_bd (c := workers) (n := 9) (by omega)
 have htl := R19.tree_len raw
 have hg1 := tree_good (raw := raw) (nw := 1 + pk workers 9) (by omega) (by omega)
 have hg2 := tree_good (raw := raw) (nw := 1) (by omega) (by omega)
 skip
 refine fn_enter3 Try.func5 rfl Try.ntmps5 rfl fun w0 => ?_
 refine tS (tR (tA rfl rfl (tN (tT (tS (tR ?_))))))
 refine tri_g (opg_call (xs := []) rfl (law19_awake)) rfl ?_
 rintro _ _ I0 ⟨rfl, rfl, hI0⟩
 refine tA rfl rfl (tN (tT (tS (tR (tM rfl rfl ?_)))))
 refine tri_g (opg_call (xs := [_]) rfl (law19_tree (hs.mono hI0) hr)) rfl ?_
 rintro _ _ I1 ⟨a1, c1, rfl, hs1, rfl, hI1⟩
 generalize hp : R19.tree raw = p at *
 have hm : 0 ≤ (1 + pk workers 9) * (p.length : Int) ∧ (1 + pk workers 9) * (p.length : Int) ≤ 1000 ∧ (p.length : Int) ≤ (1 + pk workers 9) * (p.length : Int) := by
  have h9 : pk workers 9 = 0 ∨ pk workers 9 = 1 ∨ pk workers 9 = 2 ∨ pk workers 9 = 3 ∨ pk workers 9 = 4 ∨ pk workers 9 = 5 ∨ pk workers 9 = 6 ∨ pk workers 9 = 7 ∨ pk workers 9 = 8 := by omega
  rcases h9 with h | h | h | h | h | h | h | h | h <;> rw [h] <;> omega
 refine tA rfl rfl (tN (tT (tS (tR (tM rfl rfl ?_)))))
 refine tri_g (opg_call (xs := [_, _]) rfl (law19_pick hw (by omega))) rfl ?_
 rintro _ _ _ ⟨rfl, rfl, rfl⟩
 refine tri_v (by first | exact opv_add rfl rfl (w64 (by omega) (by omega))) rfl ?_
 refine tA rfl rfl (tN (tT (tS (tR (tM rfl rfl (tM rfl rfl (tM rfl rfl ?_)))))))
 refine tM rfl rfl ?_
 refine tri_g (opg_call (xs := [_, _, _, _]) rfl (fork_run_ok (picks := picks) hs1 hs1 (hs2.mono fun _ h => hI1 (hI0 h)) hk hg1)) rfl ?_
 rintro _ _ I2 ⟨o1, w1, c2, d1, rfl, ho1, hw1, rfl, hI2⟩
 refine tM rfl rfl ?_
 refine tri_v (opv_extract rfl rfl) rfl ?_
 refine tri_v (opv_extract rfl rfl) rfl ?_
 refine tri_g opg_alloc rfl ?_
 rintro _ _ _ ⟨b10, rfl, rfl, rfl⟩
 refine tri_g (opg_store rfl rfl rfl rfl rfl rfl) rfl ?_
 rintro _ _ _ ⟨rfl, rfl⟩
 refine tA rfl rfl (tN (tT (tS (tR (tM rfl rfl (tM rfl rfl (tM rfl rfl ?_)))))))
 refine tri_g (opg_call (xs := [_, _, _, _]) rfl (fork_run_ok (picks := picks) (hs1.mono hI2) (hs1.mono hI2) (hs2.mono fun _ h => hI2 (hI1 (hI0 h))) hk hg2)) rfl ?_
 rintro _ _ I3 ⟨o3, w3, c3, d3, rfl, ho3, hw3, rfl, hI3⟩
 refine tM rfl rfl ?_
 refine tri_v (opv_extract rfl rfl) rfl ?_
 refine tri_v (opv_extract rfl rfl) rfl ?_
 refine tri_g opg_alloc rfl ?_
 rintro _ _ _ ⟨b12, rfl, rfl, rfl⟩
 refine tri_g (opg_store rfl rfl rfl rfl rfl rfl) rfl ?_
 rintro _ _ _ ⟨rfl, rfl⟩
 refine tA rfl rfl (tN (tT (tS (tR (tM rfl rfl (tM rfl rfl ?_))))))
 refine tri_bool 36 rfl (fun _ => ?_) (fun h => absurd h (by decide))
 refine tri_guard_run rfl rfl rfl (tM rfl rfl (tri_guard_run rfl rfl rfl ?_))
 refine tri_v (by first | exact opv_eql rfl rfl | exact opv_eqlI rfl rfl rfl rfl rfl rfl | exact opv_eqlB rfl rfl | exact opv_eqlNil rfl rfl) rfl ?_
 refine tri_v (by first | exact opv_pick_t rfl rfl | exact opv_pick_f rfl rfl | exact opv_pick_bool rfl rfl rfl | exact opv_pick rfl rfl rfl) rfl ?_
 refine tM rfl rfl ?_
 refine tri_true rfl rfl (rfl) ?_
 refine tri_guard_run rfl rfl rfl (tM rfl rfl (tri_guard_run rfl rfl rfl ?_))
 refine tri_v (by first | exact opv_eql rfl rfl | exact opv_eqlI rfl rfl rfl rfl rfl rfl | exact opv_eqlB rfl rfl | exact opv_eqlNil rfl rfl) rfl ?_
 refine tri_v (by first | exact opv_pick_t rfl rfl | exact opv_pick_f rfl rfl | exact opv_pick_bool rfl rfl rfl | exact opv_pick rfl rfl rfl) rfl ?_
 refine tM rfl rfl ?_
 refine tri_true rfl rfl (rfl) ?_
 refine tri_guard_run rfl rfl rfl ?_
 refine tri_v (by first | exact opv_fieldAddr rfl rfl | exact opv_fieldAddrE rfl (by assumption) (by omega) rfl | exact opv_fieldAddrR rfl (by omega) rfl | exact opv_fieldAddrP rfl rfl rfl) rfl ?_
 refine tri_guard_run rfl rfl rfl ?_
 refine tri_v (by first | exact opv_load1 rfl rfl rfl | exact opv_loadA rfl rfl rfl | exact opv_loadE1 rfl (by assumption) rfl (by omega) rfl rfl | exact opv_loadEA rfl (by assumption) rfl (by omega) rfl rfl | exact opv_loadRX1 rfl rfl (by omega) rfl rfl | exact opv_loadRXA rfl rfl (by omega) rfl rfl rfl | exact opv_loadIX rfl rfl (by omega) | exact opv_loadR1 rfl rfl rfl | exact opv_loadRA rfl rfl rfl rfl) rfl ?_
 refine tri_guard_run rfl rfl rfl (tM rfl rfl (tri_guard_run rfl rfl rfl ?_))
 refine tri_v (opv_len rfl) rfl ?_
 refine tri_guard_run rfl rfl rfl ?_
 refine tri_v (opv_geq rfl rfl) rfl ?_
 refine tri_v (by first | exact opv_pick_t rfl rfl | exact opv_pick_f rfl rfl | exact opv_pick_bool rfl rfl rfl | exact opv_pick rfl rfl rfl) rfl ?_
 refine tM rfl rfl ?_
 refine tri_true rfl rfl ((by omega)) ?_
 refine tri_guard_run rfl rfl rfl ?_
 refine tri_v (by first | exact opv_fieldAddr rfl rfl | exact opv_fieldAddrE rfl (by assumption) (by omega) rfl | exact opv_fieldAddrR rfl (by omega) rfl | exact opv_fieldAddrP rfl rfl rfl) rfl ?_
 refine tri_guard_run rfl rfl rfl ?_
 refine tri_v (by first | exact opv_load1 rfl rfl rfl | exact opv_loadA rfl rfl rfl | exact opv_loadE1 rfl (by assumption) rfl (by omega) rfl rfl | exact opv_loadEA rfl (by assumption) rfl (by omega) rfl rfl | exact opv_loadRX1 rfl rfl (by omega) rfl rfl | exact opv_loadRXA rfl rfl (by omega) rfl rfl rfl | exact opv_loadIX rfl rfl (by omega) | exact opv_loadR1 rfl rfl rfl | exact opv_loadRA rfl rfl rfl rfl) rfl ?_
 refine tri_guard_run rfl rfl rfl (tM rfl rfl (tri_guard_run rfl rfl rfl ?_))
 refine tri_v (opv_len rfl) rfl ?_
 refine tri_guard_run rfl rfl rfl (tM rfl rfl (tri_guard_run rfl rfl rfl (tM rfl rfl (tri_guard_run rfl rfl rfl ?_))))
 refine tri_v (opv_len rfl) rfl ?_
 refine tri_guard_run rfl rfl rfl ?_
 refine tri_v (by first | exact opv_mul rfl rfl (w64 (by omega) (by omega)) | exact opv_mul rfl rfl (by assumption)) rfl ?_
 refine tri_guard_run rfl rfl rfl ?_
 refine tri_v (by first | exact opv_add rfl rfl (w64 (by omega) (by omega))) rfl ?_
 refine tri_guard_run rfl rfl rfl ?_
 refine tri_v (opv_leq rfl rfl) rfl ?_
 refine tri_v (by first | exact opv_pick_t rfl rfl | exact opv_pick_f rfl rfl | exact opv_pick_bool rfl rfl rfl | exact opv_pick rfl rfl rfl) rfl ?_
 refine tM rfl rfl ?_
 refine tri_true rfl rfl ((by omega)) ?_
 refine tri_guard_run rfl rfl rfl ?_
 refine tri_v (by first | exact opv_fieldAddr rfl rfl | exact opv_fieldAddrE rfl (by assumption) (by omega) rfl | exact opv_fieldAddrR rfl (by omega) rfl | exact opv_fieldAddrP rfl rfl rfl) rfl ?_
 refine tri_guard_run rfl rfl rfl ?_
 refine tri_v (by first | exact opv_load1 rfl rfl rfl | exact opv_loadA rfl rfl rfl | exact opv_loadE1 rfl (by assumption) rfl (by omega) rfl rfl | exact opv_loadEA rfl (by assumption) rfl (by omega) rfl rfl | exact opv_loadRX1 rfl rfl (by omega) rfl rfl | exact opv_loadRXA rfl rfl (by omega) rfl rfl rfl | exact opv_loadIX rfl rfl (by omega) | exact opv_loadR1 rfl rfl rfl | exact opv_loadRA rfl rfl rfl rfl) rfl ?_
 refine tri_guard_run rfl rfl rfl (tM rfl rfl (tri_guard_run rfl rfl rfl ?_))
 refine tri_v (opv_len rfl) rfl ?_
 refine tri_guard_run rfl rfl rfl ?_
 refine tri_v (by first | exact opv_eql rfl rfl | exact opv_eqlI rfl rfl rfl rfl rfl rfl | exact opv_eqlB rfl rfl | exact opv_eqlNil rfl rfl) rfl ?_
 refine tri_v (by first | exact opv_pick_t rfl rfl | exact opv_pick_f rfl rfl | exact opv_pick_bool rfl rfl rfl | exact opv_pick rfl rfl rfl) rfl ?_
 refine tM rfl rfl ?_
 refine tri_true rfl rfl (rfl) ?_
 refine tri_guard_run rfl rfl rfl ?_
 refine tri_v (by first | exact opv_fieldAddr rfl rfl | exact opv_fieldAddrE rfl (by assumption) (by omega) rfl | exact opv_fieldAddrR rfl (by omega) rfl | exact opv_fieldAddrP rfl rfl rfl) rfl ?_
 refine tri_guard_run rfl rfl rfl ?_
 refine tri_v (by first | exact opv_load1 rfl rfl rfl | exact opv_loadA rfl rfl rfl | exact opv_loadE1 rfl (by assumption) rfl (by omega) rfl rfl | exact opv_loadEA rfl (by assumption) rfl (by omega) rfl rfl | exact opv_loadRX1 rfl rfl (by omega) rfl rfl | exact opv_loadRXA rfl rfl (by omega) rfl rfl rfl | exact opv_loadIX rfl rfl (by omega) | exact opv_loadR1 rfl rfl rfl | exact opv_loadRA rfl rfl rfl rfl) rfl ?_
 refine tri_guard_run rfl rfl rfl ?_
 refine tri_v (by first | exact opv_fieldAddr rfl rfl | exact opv_fieldAddrE rfl (by assumption) (by omega) rfl | exact opv_fieldAddrR rfl (by omega) rfl | exact opv_fieldAddrP rfl rfl rfl) rfl ?_
 refine tri_guard_run rfl rfl rfl ?_
 refine tri_v (by first | exact opv_load1 rfl rfl rfl | exact opv_loadA rfl rfl rfl | exact opv_loadE1 rfl (by assumption) rfl (by omega) rfl rfl | exact opv_loadEA rfl (by assumption) rfl (by omega) rfl rfl | exact opv_loadRX1 rfl rfl (by omega) rfl rfl | exact opv_loadRXA rfl rfl (by omega) rfl rfl rfl | exact opv_loadIX rfl rfl (by omega) | exact opv_loadR1 rfl rfl rfl | exact opv_loadRA rfl rfl rfl rfl) rfl ?_
 refine tri_guard_run rfl rfl rfl ?_
 refine tri_v (by first | exact opv_eql rfl rfl | exact opv_eqlI rfl rfl rfl rfl rfl rfl | exact opv_eqlB rfl rfl | exact opv_eqlNil rfl rfl) rfl ?_
 refine tri_v (by first | exact opv_pick_t rfl rfl | exact opv_pick_f rfl rfl | exact opv_pick_bool rfl rfl rfl | exact opv_pick rfl rfl rfl) rfl ?_
 refine tA rfl rfl (tN (tT (tri_ret ?_)))
 refine tri_end A Suf.h rfl (.cons (rv_tmp rfl) .nil) ⟨?_, rfl, fun _ h => hI3 (hI2 (hI1 (hI0 h)))⟩
 exact congrArg Value.bool (decide_eq_true rfl)
end Go.GL

set_option linter.unusedVariables false
namespace Go.GL
/-- How many numbers a slice that is read may have. -/
theorem sized_len {H : Type} {P : Program} {ts : List TypeId} {ds : List (DataW H)} (h : (DataW.weightsEach P ts ds).all (· ≤ reachBytes) = true) {j : Nat} {t e : TypeId} {d : DataW H} (ht : ts[j]? = some t) (hd : ds[j]? = some d) (hu : P.underlying t = some (.slice e)) (hb : P.bytesOf e = 8) {n : Nat} (hn : n = dlen d) : n ≤ 17592186043904 := by
 subst hn
 cases d with
 | slice es sp =>
  have h1 := sized_slice h ht hd hu
  rw [hb] at h1
  have h2 : reachBytes = 140737488351232 := rfl
  show es.length ≤ _
  omega
 | _ => exact Nat.zero_le _
end Go.GL

set_option linter.unusedVariables false
namespace Go.GL
open Go.Proofs
theorem num_int : NumTy Try.prog 3 1 := NumTy.int
theorem laid : laidOutB Try.prog = true := by kernel_rfl
theorem own : ownKnob Try.prog.godebug = none := by kernel_rfl
theorem is_ok {l : List Int} (h : ∀ y ∈ l, DecOk y) : Is l := fun i hi => by
 obtain ⟨zs, h1, h2, h3⟩ := h _ (R11.getD_mem hi)
 rw [h3]
 match zs, h1 with
 | [a], _ => exact h2 a (by simp)
end Go.GL
