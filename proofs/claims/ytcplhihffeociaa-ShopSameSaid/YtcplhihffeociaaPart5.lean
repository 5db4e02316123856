/- Part 5: contracts of the functions that the law reaches: each answers as its model does. No condition beyond those that each theorem states. -/
import Derived.Test.YtcplhihffeociaaPart4
set_option linter.unusedVariables false
namespace Go.GL
open Go.Proofs
attribute [local irreducible] wpList Code.wp Exit.then Exit.inBlock Ends Tri TriH OpV OpG FnC epf wpAnyH
variable {A : List Asrt} {I : List Chunk}
set_option maxRecDepth 100000 in
/-- Where the first one is of which a function that is handed in is true. -/
theorem slices_indexFunc {l : List Int} {p : Int → Bool} {f : FuncId} {ca : List Value} {a : Option Addr} {cap : Nat} [FnI Try.prog f] (hp : ∀ x ∈ l, FnC Try.prog f ([] ++ [Value.int .i64 x] ++ ca).toArray A I (fun v A' I' => v = .bool (p x) ∧ A = A' ∧ I = I')) (hs : SlAt I a l) (hn : l.length ≤ 1000000000) :
  FnC Try.prog 70 [.slice a l.length cap, .func (.func f) #[] ca.toArray].toArray A I (fun v A' I' => v = .int .i64 (R11.idx p l) ∧ A = A' ∧ I = I') := by
 refine fn_enter2 Try.func70 rfl Try.ntmps70 rfl fun w0 => ?_
 refine tS (tR (tA rfl rfl (tN (tT (tS (tS (tR ?_)))))))
 refine tM rfl rfl ?_
 refine tri_v (opv_len rfl) rfl ?_
 refine tM rfl rfl (tN (tT (tri_block ?_)))
 refine tri_sub (F' := [(0, .slice a l.length cap), (1, .func (.func f) #[] ca.toArray), (6, .slice a l.length cap), (7, .int .i64 (l.length : Nat)), (8, .int .i64 (0 : Nat))]) ⟨rfl, rfl, rfl, rfl, rfl, trivial⟩ ?_
 refine loop_ind (G := Nat) (fun i => l.length - i) (fun i => i ≤ l.length ∧ ∀ j, j < i → p (l.getD j default) = false) (fun i => [(0, .slice a l.length cap), (1, .func (.func f) #[] ca.toArray), (6, .slice a l.length cap), (7, .int .i64 (l.length : Nat)), (8, .int .i64 (i : Nat))]) (fun _ => _) (fun _ => _) ?_ 0 ⟨by omega, fun j h => absurd h (by omega)⟩
 rintro i ⟨hi, hok⟩ K hK
 skip
 refine tS (tR (yC rfl rfl (tN (tT (tS ?_)))))
 refine tri_cond_dec rfl (fun h => ?_) (fun h => ?_)
 ·have hlt : i < l.length := by omega
  refine tri_skip (tT (tS (tri_block (tS (tR (tM rfl rfl (tA rfl rfl ?_)))))))
  refine tN (tT (tS (tR (tM rfl rfl (tM rfl rfl (tM rfl rfl ?_))))))
  refine tri_v (opv_indexAddrSN rfl rfl (by omega) (by assumption) rfl) rfl ?_
  refine tri_v (opv_loadE1 rfl (by assumption) rfl (by omega) rfl rfl) rfl ?_
  refine tri_g (opg_callv (xs := [_]) rfl rfl (hp (l.getD i default) (R11.getD_mem hlt))) rfl ?_
  rintro _ _ _ ⟨rfl, rfl, rfl⟩
  refine tN (tT ?_)
  refine tri_cond rfl (fun h1 => ?_) (fun h1 => ?_)
  ·refine tS (tR (tM rfl rfl (tA rfl rfl (tN (tT (tri_ret (tri_inBlock_ret ?_)))))))
   refine tri_then_ret (tri_then_ret (tri_inBlock_ret (tri_then_ret ?_)))
   refine tri_end A Suf.h rfl (.cons (rv_tmp rfl) .nil) ⟨?_, rfl, rfl⟩
   have e : l.findIdx p = i := (List.findIdx_eq hlt).2 ⟨by simpa [hlt] using h1, fun j hj => by have := hok j hj; simpa [Nat.lt_trans hj hlt] using this⟩
   unfold R11.idx
   rw [e, if_pos hlt]
   rfl
  ·refine tri_skip (tri_inBlock (tT (tR ?_)))
   refine yU rfl rfl ?_
   refine tM rfl rfl (tN (tT ?_))
   refine tri_sub ?_ (hK (i + 1) ⟨by omega, fun j hj => ?_⟩ (by omega))
   ·exact ⟨rfl, rfl, rfl, rfl, rfl, trivial⟩
   ·by_cases e : j = i
    ·subst e
     exact h1
    ·exact hok j (by omega)
 ·refine tri_exit ?_
  refine tri_then_exit (tri_then_exit ?_)
  refine tri_inBlock_hit rfl ?_
  refine tT (tS (tR (tA rfl rfl (tN (tT (tri_ret ?_))))))
  refine tri_end A Suf.h rfl (.cons (rv_tmp rfl) .nil) ⟨?_, rfl, rfl⟩
  have e : l.findIdx p = l.length := List.findIdx_eq_length.2 fun x hx => by
   obtain ⟨j, hj, rfl⟩ := List.getElem_of_mem hx
   have := hok j (by omega)
   simpa [hj] using this
  unfold R11.idx
  rw [if_neg (by omega)]
  rfl
end Go.GL


namespace Go.GL
open Go.Proofs
attribute [local irreducible] wpList Code.wp Exit.then Exit.inBlock Ends Tri TriH OpV OpG FnC epf wpAnyH
variable {A : List Asrt} {I : List Chunk}
set_option maxRecDepth 100000 in
theorem pick_place {c n : Int} (h0 : I64 c) (hn : 0 < n) : FnC Try.prog 69 [.int .i64 c, .int .i64 n].toArray A I (fun v A' I' => v = .int .i64 (pk c n) ∧ A = A' ∧ I = I') := by
 obtain ⟨h0, h1⟩ := h0
 refine fn_enter2 Try.func69 rfl Try.ntmps69 rfl fun w0 => ?_
 refine tS (tR (tA rfl rfl (tN (tT (tS (tS (tR ?_)))))))
 refine tM rfl rfl (yC rfl rfl (tN (tT ?_)))
 refine tri_cond_dec rfl (fun h => ?_) (fun h => ?_)
 ·refine tR (tM rfl rfl ?_)
  refine yU rfl rfl ?_
  refine tri_v (opv_negE rfl (by omega) (by omega)) rfl ?_
  refine tA rfl rfl (tN (tT (tS (tR (tM rfl rfl (tM rfl rfl ?_))))))
  refine tri_v (opv_remE rfl rfl (by omega) (by omega)) rfl ?_
  refine tA rfl rfl (tN (tT (tri_ret ?_)))
  refine tri_end A Suf.h rfl (.cons (rv_tmp rfl) .nil) ⟨?_, rfl, rfl⟩
  rw [pk, if_pos h]; rfl
 ·refine tri_skip (tT (tS (tR (tM rfl rfl (tM rfl rfl ?_)))))
  refine tri_v (opv_remE rfl rfl (by omega) (by omega)) rfl ?_
  refine tA rfl rfl (tN (tT (tri_ret ?_)))
  refine tri_end A Suf.h rfl (.cons (rv_tmp rfl) .nil) ⟨?_, rfl, rfl⟩
  rw [pk, if_neg h]; rfl
set_option maxRecDepth 100000 in
theorem pick_next1 {x last : Int} {b : Nat} {T : TypeId} : FnC Try.prog 71 [.int .i64 x, pt b 0].toArray (Box b [.int .i64 last] T :: A) I (fun v A' I' => v = .bool (decide (last < x)) ∧ Box b [.int .i64 last] T :: A = A' ∧ I = I') := by
 refine fn_enter2 Try.func71 rfl Try.ntmps71 rfl fun w0 => ?_
 refine tS (tR (tA rfl rfl (tN (tT (tS (tR (tM rfl rfl ?_)))))))
 refine yL rfl rfl ?_
 refine tri_v (opv_gtr rfl rfl) rfl ?_
 refine tA rfl rfl (tN (tT (tri_ret ?_)))
 refine tri_end _ (⟨[], rfl⟩) rfl (.cons (rv_tmp rfl) .nil) ⟨rfl, rfl, rfl⟩
/-- Numbers that a machine can hold. -/
def Is (l : List Int) : Prop := ∀ i, i < l.length → I64 (l.getD i default)
set_option maxHeartbeats 1000000 in
set_option maxRecDepth 100000 in
theorem pick_next {picks left : List Int} {step last : Int} {a a2 : Option Addr} {cap cap2 : Nat} {E : TypeId} (hs : SlAt I a picks) (hp : Is picks) (hn : left.length ≤ 1000000) :
  FnC Try.prog 50 [.slice a picks.length cap, .int .i64 step, .slice a2 left.length cap2, .int .i64 last].toArray (Row a2 cap2 left.length E 1 (encs left) :: A) I (fun v A' I' => v = .int .i64 (R11.next picks step left last) ∧ Row a2 cap2 left.length E 1 (encs left) :: A = A' ∧ I ⊆ I') := by
 have hnx : R11.next picks step left last = if (R11.all left).length = 0 then -1 else if 0 ≤ step ∧ step < picks.length then (R11.all left).getD (pk (picks.getD step.toNat default) (R11.all left).length).toNat default else R11.round (R11.all left) last := rfl
 have hall : R11.all left = R11.allF 0 left := rfl
 have hal := R11.all_len left
 generalize R11.next picks step left last = res at *
 skip
 refine fn_enter4 Try.func50 rfl Try.ntmps50 rfl fun w0 => ?_
 refine tS (tR ?_)
 refine tri_g (opg_box1 rfl rfl) rfl ?_
 rintro _ _ _ ⟨b7, rfl, rfl, rfl⟩
 refine tA rfl rfl (tN (tT (tS (tR (tA rfl rfl (tN (tT ?_)))))))
 refine tS (tS (tR (tM rfl rfl ?_)))
 refine tri_v (opv_len rfl) rfl ?_
 refine tM rfl rfl (tN (tT ?_))
 refine tri_cut (fun F' A' J => ∃ (a1 : Option Addr) (c1 : Nat), F' = [(0, .slice a picks.length cap), (1, .int .i64 step), (3, .int .i64 last), (7, pt b7 0), (9, .slice a1 (R11.all left).length c1)] ∧ A' = Row a1 c1 (R11.all left).length 3 1 (encs (R11.all left)) :: Box b7 [.int .i64 last] 3 :: Row a2 cap2 left.length E 1 (encs left) :: A ∧ I = J) ?_ ?_
 ·refine tri_block ?_
  refine tri_nilRow (E := 3) (sz := 1) ?_
  refine tri_sub (F' := [(0, .slice a picks.length cap), (1, .int .i64 step), (3, .int .i64 last), (7, pt b7 0), (9, .slice none 0 0), (13, .slice a2 left.length cap2), (14, .int .i64 (left.length : Nat)), (15, .int .i64 (0 : Nat))]) ⟨rfl, rfl, rfl, rfl, rfl, rfl, rfl, rfl, trivial⟩ ?_
  refine loop_ind (G := Nat × Option Addr × Nat) (fun g => left.length - g.1) (fun g => g.1 ≤ left.length) (fun g => [(0, .slice a picks.length cap), (1, .int .i64 step), (3, .int .i64 last), (7, pt b7 0), (9, .slice g.2.1 (R11.allF 0 (left.take g.1)).length g.2.2), (13, .slice a2 left.length cap2), (14, .int .i64 (left.length : Nat)), (15, .int .i64 (g.1 : Nat))]) (fun g => Row g.2.1 g.2.2 (R11.allF 0 (left.take g.1)).length 3 1 (encs (R11.allF 0 (left.take g.1))) :: Box b7 [.int .i64 last] 3 :: Row a2 cap2 left.length E 1 (encs left) :: A) (fun _ => I) ?_ (0, none, 0) (by simp)
  rintro ⟨i, a1, c1⟩ hi K hK
  simp only at hi hK ⊢
  have hl1 := R11.allF_len (left.take i) 0
  rw [List.length_take] at hl1
  skip
  refine tS (tR (yC rfl rfl (tN (tT (tS ?_)))))
  refine tri_cond_dec rfl (fun h => ?_) (fun h => ?_)
  ·have hlt : i < left.length := by omega
   have e : left.take (i + 1) = left.take i ++ [left.getD i default] := by
    rw [List.take_succ_eq_append_getElem hlt, show left.getD i default = left[i] by simp [hlt]]
   have el : 0 + (left.take i).length = i := by rw [List.length_take]; omega
   refine tri_skip (tT (tS (tri_block (tS (tR (tM rfl rfl ?_))))))
   refine tri_v (opv_indexAddrRN rfl rfl (by omega)) rfl ?_
   refine tri_v (opv_loadRX1 rfl rfl (by omega) rfl rfl) rfl ?_
   refine tA rfl rfl (tA rfl rfl (tN (tT (tS (tR (tM rfl rfl ?_))))))
   refine tri_v (opv_gtr rfl rfl) rfl ?_
   refine tN (tT ?_)
   refine tri_cond_dec rfl (fun h5 => ?_) (fun h5 => ?_)
   ·have e2 : R11.allF 0 (left.take (i + 1)) = R11.allF 0 (left.take i) ++ [(i : Int)] := by
     rw [e, R11.allF_snoc, el, if_pos h5]
    refine tR (tM rfl rfl (tM rfl rfl ?_))
    refine tri_g (opg_buildSlice rfl rfl rfl rfl) rfl ?_
    rintro _ _ _ ⟨b24, rfl, rfl, rfl⟩
    refine tri_g (opg_appendB rfl rfl rfl rfl (by omega) rfl) rfl ?_
    rintro _ _ _ ⟨a3, cap3, rfl, rfl, rfl⟩
    refine tA rfl rfl (tN (tri_inBlock (tT (tR ?_))))
    refine yU rfl rfl ?_
    refine tM rfl rfl (tN (tT ?_))
    refine tri_drop ?_
    refine tri_rowEq (len' := (R11.allF 0 (left.take (i + 1))).length) (cells' := encs (R11.allF 0 (left.take (i + 1)))) (by rw [e2]; simp) (by rw [e2, encs_append]; rfl) ?_
    refine tri_sub ?_ (hK (i + 1, a3, cap3) (by simp only; omega) (by simp only; omega))
    exact ⟨rfl, rfl, rfl, rfl, by simp only [e2, List.length_append]; rfl, rfl, rfl, rfl, trivial⟩
   ·have e2 : R11.allF 0 (left.take (i + 1)) = R11.allF 0 (left.take i) := by
     rw [e, R11.allF_snoc, el, if_neg h5, List.append_nil]
    refine tri_skip (tri_inBlock (tT (tR ?_)))
    refine yU rfl rfl ?_
    refine tM rfl rfl (tN (tT ?_))
    refine tri_rowEq (len' := (R11.allF 0 (left.take (i + 1))).length) (cells' := encs (R11.allF 0 (left.take (i + 1)))) (by rw [e2]) (by rw [e2]) ?_
    refine tri_sub ?_ (hK (i + 1, a1, c1) (by simp only; omega) (by simp only; omega))
    exact ⟨rfl, rfl, rfl, rfl, by simp only [e2]; rfl, rfl, rfl, rfl, trivial⟩
  ·have e : left.take i = left := List.take_of_length_le (by omega)
   rw [e] at hl1 ⊢
   refine tri_exit ?_
   refine tri_then_exit (tri_then_exit ?_)
   refine tri_inBlock_hit rfl ?_
   refine tri_cutEnd _ ⟨a1, c1, rfl, rfl, rfl⟩ ⟨rfl, rfl, rfl, rfl, rfl, trivial⟩
 rintro _ _ _ ⟨a1, c1, rfl, rfl, rfl⟩
 refine tri_freezeRow (α := Int) rfl fun I1 hI1 hsa => ?_
 have hs1 := hs.mono hI1
 generalize R11.all left = al at *
 skip
 refine tT (tS (tS (tR (tM rfl rfl ?_))))
 refine tri_v (opv_len rfl) rfl ?_
 refine tri_v (opv_eql rfl rfl) rfl ?_
 refine tN (tT ?_)
 refine tri_cond_dec rfl (fun h1 => ?_) (fun h1 => ?_)
 ·refine tS (tR (tA rfl rfl (tN (tT (tri_ret (tri_then_ret ?_))))))
  rw [if_pos (by omega)] at hnx
  refine tri_end (Row a2 cap2 left.length E 1 (encs left) :: A) Suf.h rfl (.cons (rv_tmp rfl) .nil) ⟨by rw [hnx]; rfl, rfl, hI1⟩
 skip
 rw [if_neg (by omega)] at hnx
 refine tri_skip (tT (tS (tS ?_)))
 refine tri_cut (fun F' A' J => F' = [(0, .slice a picks.length cap), (1, .int .i64 step), (3, .int .i64 last), (7, pt b7 0), (9, .slice a1 al.length c1), (37, .bool (decide (0 ≤ step ∧ step < picks.length)))] ∧ A' = Box b7 [.int .i64 last] 3 :: Row a2 cap2 left.length E 1 (encs left) :: A ∧ I1 = J) ?_ ?_
 ·refine tR (tM rfl rfl ?_)
  refine tri_v (opv_geq rfl rfl) rfl ?_
  refine tM rfl rfl ?_
  refine tri_split rfl rfl (fun h2 => ?_) (fun h2 => ?_)
  ·refine yR rfl rfl (tM rfl rfl (yR rfl rfl (tM rfl rfl (yR rfl rfl ?_))))
   refine tri_v (opv_len rfl) rfl ?_
   refine yR rfl rfl (yC rfl rfl ?_)
   refine tri_v (opv_pick_t rfl rfl) rfl ?_
   refine tN ?_
   refine tri_cutEnd _ ⟨rfl, rfl, rfl⟩ ⟨rfl, rfl, rfl, rfl, rfl, ?_, trivial⟩
   exact congrArg (fun x => some (Value.bool x)) (decide_eq_decide.2 ⟨fun h => h.2, fun h => ⟨h2, h⟩⟩).symm
  ·refine tri_guard_skip rfl rfl rfl rfl (tri_guard_skip rfl rfl rfl rfl (tri_guard_skip rfl rfl rfl rfl (tri_guard_skip rfl rfl rfl rfl ?_)))
   refine tri_v (opv_pick_f rfl rfl) rfl ?_
   refine tN ?_
   refine tri_cutEnd _ ⟨rfl, rfl, rfl⟩ ⟨rfl, rfl, rfl, rfl, rfl, ?_, trivial⟩
   exact congrArg (fun x => some (Value.bool x)) (decide_eq_false fun h => h2 h.1).symm
 rintro _ _ _ ⟨rfl, rfl, rfl⟩
 skip
 refine tT ?_
 refine tri_cond_dec rfl (fun h3 => ?_) (fun h3 => ?_)
 ·rw [if_pos h3] at hnx
  have hstep : step.toNat < picks.length := by omega
  have hpk := pk_bd (c := picks.getD step.toNat default) (n := al.length) (by omega)
  have hpi := hp step.toNat hstep
  refine tS (tR (tM rfl rfl (tM rfl rfl (tM rfl rfl ?_))))
  refine tri_v (opv_indexAddrS rfl rfl (by omega) (by omega) (by assumption) rfl) rfl ?_
  refine tri_v (opv_loadE1 rfl (by assumption) rfl (by omega) rfl rfl) rfl ?_
  refine tM rfl rfl ?_
  refine tri_v (opv_len rfl) rfl ?_
  refine tri_g (opg_call (xs := [_, _]) rfl (pick_place hpi (by omega))) rfl ?_
  rintro _ _ _ ⟨rfl, rfl, rfl⟩
  refine tri_v (opv_indexAddrS rfl rfl (by omega) (by omega) (by assumption) rfl) rfl ?_
  refine tri_v (opv_loadE1 rfl (by assumption) rfl (by omega) rfl rfl) rfl ?_
  refine tA rfl rfl (tN (tT (tri_ret (tri_then_ret ?_))))
  refine tri_end (Row a2 cap2 left.length E 1 (encs left) :: A) Suf.h rfl (.cons (rv_tmp rfl) .nil) ⟨by rw [hnx]; rfl, rfl, hI1⟩
 refine tri_skip (tT (tS (tS (tR (tM rfl rfl ?_)))))
 refine tri_v (opv_makeFunc (fs := []) (cs := [_]) (vf := []) (vc := [_]) rfl rfl) rfl ?_
 rw [if_neg h3] at hnx
 refine tri_g (opg_call (xs := [_, _]) rfl (slices_indexFunc (p := fun x => decide (last < x)) (ca := [pt b7 0]) (fun x _ => pick_next1) hsa (by omega))) rfl ?_
 rintro _ _ _ ⟨rfl, rfl, rfl⟩
 refine tA rfl rfl (tN (tT (tS ?_)))
 unfold R11.round at hnx
 have hix := R11.idx_lt (fun x => decide (last < x)) al
 generalize R11.idx (fun x => decide (last < x)) al = ix at *
 refine tri_cut (fun F' A' J => F' = [(9, .slice a1 al.length c1), (12, .int .i64 ix), (56, .bool (decide (0 ≤ ix ∧ 0 ≤ last)))] ∧ A' = Box b7 [.int .i64 last] 3 :: Row a2 cap2 left.length E 1 (encs left) :: A ∧ I1 = J) ?_ ?_
 ·refine tR (tM rfl rfl ?_)
  refine tri_v (opv_geq rfl rfl) rfl ?_
  refine tM rfl rfl ?_
  refine tri_split rfl rfl (fun h4 => ?_) (fun h4 => ?_)
  ·refine yR rfl rfl ?_
   refine yL rfl rfl ?_
   refine yR rfl rfl ?_
   refine tri_v (opv_geq rfl rfl) rfl ?_
   refine tri_v (opv_pick_t rfl rfl) rfl ?_
   refine tN ?_
   refine tri_cutEnd _ ⟨rfl, rfl, rfl⟩ ⟨rfl, rfl, ?_, trivial⟩
   exact congrArg (fun x => some (Value.bool x)) (decide_eq_decide.2 ⟨fun h => h.2, fun h => ⟨h4, h⟩⟩).symm
  ·refine tri_guard_skip rfl rfl rfl rfl (tri_guard_skip rfl rfl rfl rfl ?_)
   refine tri_v (opv_pick_f rfl rfl) rfl ?_
   refine tN ?_
   refine tri_cutEnd _ ⟨rfl, rfl, rfl⟩ ⟨rfl, rfl, ?_, trivial⟩
   exact congrArg (fun x => some (Value.bool x)) (decide_eq_false fun h => h4 h.1).symm
 rintro _ _ _ ⟨rfl, rfl, rfl⟩
 skip
 refine tT ?_
 refine tri_cond_dec rfl (fun h5 => ?_) (fun h5 => ?_)
 ·rw [if_pos h5] at hnx
  refine tS (tR (tM rfl rfl (tM rfl rfl ?_)))
  refine tri_v (opv_indexAddrS rfl rfl (by omega) (by omega) (by assumption) rfl) rfl ?_
  refine tri_v (opv_loadE1 rfl (by assumption) rfl (by omega) rfl rfl) rfl ?_
  refine tA rfl rfl (tN (tT (tri_ret (tri_then_ret ?_))))
  refine tri_end (Row a2 cap2 left.length E 1 (encs left) :: A) Suf.h rfl (.cons (rv_tmp rfl) .nil) ⟨by rw [hnx]; rfl, rfl, hI1⟩
 ·rw [if_neg h5] at hnx
  refine tri_skip (tT (tS (tR (tM rfl rfl ?_))))
  refine tri_v (opv_indexAddrS rfl rfl (by omega) (by omega) (by assumption) rfl) rfl ?_
  refine tri_v (opv_loadE1 rfl (by assumption) rfl (by omega) rfl rfl) rfl ?_
  refine tA rfl rfl (tN (tT (tri_ret ?_)))
  refine tri_end (Row a2 cap2 left.length E 1 (encs left) :: A) Suf.h rfl (.cons (rv_tmp rfl) .nil) ⟨by rw [hnx]; rfl, rfl, hI1⟩
end Go.GL


namespace Go.GL
open Go.Proofs
attribute [local irreducible] wpList Code.wp Exit.then Exit.inBlock Ends Tri TriH OpV OpG FnC epf wpAnyH
variable {A : List Asrt} {I : List Chunk}
set_option maxRecDepth 100000 in
theorem bits_mul64 {v : Int} (h0 : 0 ≤ v) (h1 : v ≤ 1000000) : FnC Try.prog 80 [.int .u64 1, .int .u64 v].toArray A I (fun r A' I' => r = .tuple [.int .u64 0, .int .u64 v].toArray ∧ A = A' ∧ I = I') := by
 refine fn_enter2 Try.func80 rfl Try.ntmps80 rfl fun w0 => ?_
 skip
 refine tS (tR (tA rfl rfl (tA rfl rfl (tN (tT (tS (tR ?_)))))))
 refine tM rfl rfl ?_
 refine tri_v (opv_and32 rfl rfl (by omega) (by omega)) rfl ?_
 refine tA rfl rfl (tN (tT (tS (tR (tM rfl rfl ?_)))))
 refine tri_v (opv_shr32 rfl rfl (by omega) (by omega)) rfl ?_
 refine tA rfl rfl (tN (tT (tS (tR (tM rfl rfl ?_)))))
 refine tri_v (opv_and32 rfl rfl (by omega) (by omega)) rfl ?_
 refine tA rfl rfl (tN (tT (tS (tR (tM rfl rfl ?_)))))
 refine tri_v (opv_shr32 rfl rfl (by omega) (by omega)) rfl ?_
 refine tA rfl rfl (tN (tT (tS (tR (tM rfl rfl (tM rfl rfl ?_))))))
 refine tri_v (opv_mul (z := v) rfl rfl (by rw [Int.one_mul]; exact wu64 (by omega) (by omega))) rfl ?_
 refine tA rfl rfl (tN (tT (tS (tR (tM rfl rfl (tM rfl rfl ?_))))))
 refine tri_v (opv_mul (z := 0) rfl rfl (by rw [Int.zero_mul]; rfl)) rfl ?_
 refine tM rfl rfl ?_
 refine tri_v (opv_shr32 rfl rfl (by omega) (by omega)) rfl ?_
 skip
 refine tri_v (opv_add (z := 0) rfl rfl rfl) rfl ?_
 refine tA rfl rfl (tN (tT (tS (tR (tM rfl rfl ?_)))))
 refine tri_v (opv_and32 rfl rfl (by omega) (by omega)) rfl ?_
 refine tA rfl rfl (tN (tT (tS (tR (tM rfl rfl ?_)))))
 refine tri_v (opv_shr32 rfl rfl (by omega) (by omega)) rfl ?_
 refine tA rfl rfl (tN (tT (tS (tR (tM rfl rfl (tM rfl rfl (tM rfl rfl ?_)))))))
 refine tri_v (opv_mul (z := 0) rfl rfl rfl) rfl ?_
 skip
 refine tri_v (opv_add (z := 0) rfl rfl rfl) rfl ?_
 refine tA rfl rfl (tN (tT (tS (tR (tM rfl rfl (tM rfl rfl ?_))))))
 refine tri_v (opv_mul (z := 0) rfl rfl rfl) rfl ?_
 refine tM rfl rfl ?_
 refine tri_v (opv_add (z := 0) rfl rfl rfl) rfl ?_
 refine tM rfl rfl ?_
 refine tri_v (opv_shr32 rfl rfl (by omega) (by omega)) rfl ?_
 skip
 refine tri_v (opv_add (z := 0) rfl rfl rfl) rfl ?_
 refine tA rfl rfl (tN (tT (tS (tR (tM rfl rfl (tM rfl rfl ?_))))))
 refine tri_v (opv_mul (z := v) rfl rfl (by rw [Int.one_mul]; exact wu64 (by omega) (by omega))) rfl ?_
 refine tA rfl rfl (tN (tT (tri_ret ?_)))
 refine tri_end A Suf.h rfl (.cons (rv_tmp rfl) (.cons (rv_tmp rfl) .nil)) ⟨rfl, rfl, rfl⟩
set_option maxRecDepth 100000 in
theorem bits_mul {v : Int} (h0 : 0 ≤ v) (h1 : v ≤ 1000000) : FnC Try.prog 68 [.int .u64 1, .int .u64 v].toArray A I (fun r A' I' => r = .tuple [.int .u64 0, .int .u64 v].toArray ∧ A = A' ∧ I = I') := by
 refine fn_enter2 Try.func68 rfl Try.ntmps68 rfl fun w0 => ?_
 skip
 refine tS (tR (tA rfl rfl (tA rfl rfl (tN (tT (tS ?_))))))
 refine tri_cond_false rfl ?_
 refine tri_skip (tT (tS (tR (tM rfl rfl (tM rfl rfl ?_)))))
 refine tri_g (opg_call (xs := [_, _]) rfl (bits_mul64 h0 h1)) rfl ?_
 rintro _ _ _ ⟨rfl, rfl, rfl⟩
 refine tM rfl rfl ?_
 refine tri_v (opv_extract rfl rfl) rfl ?_
 refine tri_v (opv_extract rfl rfl) rfl ?_
 refine tA rfl rfl (tA rfl rfl (tN (tT (tS (tR (tM rfl rfl (tM rfl rfl ?_)))))))
 refine tA rfl rfl (tA rfl rfl (tN (tT (tri_ret ?_))))
 refine tri_end A Suf.h rfl (.cons (rv_tmp rfl) (.cons (rv_tmp rfl) .nil)) ⟨rfl, rfl, rfl⟩
def onesTo (c k : Nat) : List Value := List.replicate k (Value.int .i64 1) ++ List.replicate (c - k) (Value.int .i64 0)
theorem ones_pre {c k m : Nat} (h : m ≤ k) : List.replicate m (Value.int .i64 1) <+: onesTo c k := by
 refine ⟨List.replicate (k - m) (Value.int .i64 1) ++ List.replicate (c - k) (Value.int .i64 0), ?_⟩
 unfold onesTo
 rw [← List.append_assoc, List.replicate_append_replicate, show m + (k - m) = k by omega]
theorem ones_splice {c k m : Nat} (h : m ≤ k) (h2 : k + m ≤ c) : (onesTo c k).take k ++ List.replicate m (Value.int .i64 1) ++ (onesTo c k).drop (k + m) = onesTo c (k + m) := by
 unfold onesTo
 rw [List.take_left' (by simp), ← List.drop_drop, List.drop_left' (by simp), List.drop_replicate, List.replicate_append_replicate, show c - k - m = c - (k + m) by omega]
theorem ones_all (c : Nat) : onesTo c c = encs (List.replicate c (1 : Int)) := by
 unfold onesTo
 rw [Nat.sub_self, List.replicate_zero, List.append_nil]
 induction c with
 | zero => rfl
 | succ c ih => rw [List.replicate_succ, List.replicate_succ, encs_cons, ← ih]; rfl
set_option maxHeartbeats 1000000 in
set_option maxRecDepth 100000 in
theorem slices_repeat1 {c : Nat} {a : Option Addr} {cap : Nat} (hs : SlAt I a [(1 : Int)]) (h1 : 1 ≤ c) (hc : c ≤ 1000) :
  FnC Try.prog 49 [.slice a 1 cap, .int .i64 (c : Int)].toArray A I (fun v A' I' => ∃ a', v = .slice a' c c ∧ A' = Row a' c c 3 1 (encs (List.replicate c (1 : Int))) :: A ∧ I = I') := by
 refine fn_enter2 Try.func49 rfl Try.ntmps49 rfl fun w0 => ?_
 refine tS (tR (tA rfl rfl (tN (tT (tS (tS (tR ?_)))))))
 refine tM rfl rfl (yC rfl rfl (tN (tT ?_)))
 refine tri_cond_not rfl (by omega) ?_
 skip
 refine tri_skip (tT (tS (tR (tM rfl rfl ?_))))
 refine tri_v (opv_len rfl) rfl ?_
 refine tri_v (opv_convert (z := 1) rfl rfl) rfl ?_
 refine tM rfl rfl ?_
 refine tri_v (opv_convert rfl (wu64 (by omega) (by omega))) rfl ?_
 skip
 refine tri_g (opg_call (xs := [_, _]) rfl (bits_mul (v := (c : Int)) (by omega) (by omega))) rfl ?_
 rintro _ _ _ ⟨rfl, rfl, rfl⟩
 refine tM rfl rfl ?_
 refine tri_v (opv_extract rfl rfl) rfl ?_
 refine tri_v (opv_extract rfl rfl) rfl ?_
 refine tA rfl rfl (tA rfl rfl (tN (tT (tS (tS (tR (tM rfl rfl ?_)))))))
 refine tri_v (opv_gtr rfl rfl) rfl ?_
 refine tM rfl rfl ?_
 refine tri_false rfl rfl (by decide) ?_
 refine yR rfl rfl (tM rfl rfl (yR rfl rfl ?_))
 refine tri_v (opv_gtr rfl rfl) rfl ?_
 refine tri_v (opv_pick_f rfl rfl) rfl ?_
 refine tN (tT ?_)
 refine tri_cond_not rfl (by omega) ?_
 refine tri_skip (tT (tS (tR (tM rfl rfl ?_))))
 refine tri_v (opv_convert rfl (w64 (by omega) (by omega))) rfl ?_
 skip
 skip
 refine tri_g (opg_makeSlice rfl rfl rfl (by omega) (by omega) (by omega)) rfl ?_
 rintro _ _ _ ⟨a7, ha7, rfl, rfl, rfl⟩
 rw [show ((c : Nat) : Int).toNat = c from rfl]
 refine tri_rowPt ha7 fun b hb => ?_
 subst hb
 refine tA rfl rfl (tN (tT (tS (tR (tM rfl rfl (tM rfl rfl ?_))))))
 refine tri_g (opg_copyR (k := 1) (cs := [.int .i64 1]) rfl rfl rfl (by rw [if_pos h1]) rfl rfl (fun w hw => hs.cellsOf hw) (by omega)) rfl ?_
 rintro _ _ _ ⟨rfl, rfl, rfl⟩
 refine tA rfl rfl (tN (tT (tS (tri_block ?_))))
 have e0 : (List.replicate c (Value.int .i64 0)).take 0 ++ [Value.int .i64 1] ++ (List.replicate c (Value.int .i64 0)).drop (0 + 1) = onesTo c 1 := by
  unfold onesTo
  rw [List.drop_replicate]
  rfl
 rw [e0]
 refine tri_sub (F' := [(7, .slice (some ⟨b, 0, none⟩) c c), (8, .int .i64 ((1 : Nat) : Int))]) ⟨rfl, rfl, trivial⟩ ?_
 refine loop_ind (G := Nat) (fun k => c - k) (fun k => 1 ≤ k ∧ k ≤ c) (fun k => [(7, .slice (some ⟨b, 0, none⟩) c c), (8, .int .i64 (k : Nat))]) (fun k => Row (some ⟨b, 0, none⟩) c c 3 1 (onesTo c k) :: A) (fun _ => I) ?_ 1 ⟨by omega, by omega⟩
 rintro k ⟨hk1, hk⟩ K hK
 skip
 refine tS (tS (tR (tM rfl rfl (tM rfl rfl ?_))))
 refine tri_v (opv_len rfl) rfl ?_
 refine yC rfl rfl (tN (tT ?_))
 refine tri_cond_dec rfl (fun h => ?_) (fun h => ?_)
 ·have hkc : k < c := by omega
  obtain ⟨m, hm⟩ : ∃ m, m = if k ≤ c - k then k else c - k := ⟨_, rfl⟩
  have hmk : m ≤ k ∧ k + m ≤ c ∧ 1 ≤ m := by
   rw [hm]
   split <;> omega
  have elo : loA (some ⟨b, 0, none⟩) c k 1 = some ⟨b, k, none⟩ := by
   unfold loA
   rw [if_neg (by omega)]
   simp [add_pt]
  have tk : (k : Int).toNat = k := rfl
  skip
  refine tri_skip (tT (tri_block ?_))
  refine tri_draw [0, 1, 2, 3, 4, 5, 6, 7, 8, 9] rfl [_] rfl mixed ?_
  refine yM rfl rfl (yM rfl rfl (yM rfl rfl ?_))
  refine th_take rfl rfl (by kernel_rfl)  (opv_sliceLoN rfl rfl (by omega) (by omega)) ?_
  rw [tk, elo]
  refine yM rfl rfl (yM rfl rfl ?_)
  refine th_take rfl rfl (by kernel_rfl)  (opv_sliceHiN rfl rfl (by omega) (by omega)) ?_
  rw [tk]
  skip
  refine th_one (by kernel_rfl) (step_m rfl rfl (opg_copyR (k := m) (cs := List.replicate m (.int .i64 1)) rfl rfl rfl hm (List.length_replicate) (List.all_eq_true.2 fun x hx => by rw [(List.mem_replicate.1 hx).2]; rfl) (fun w hw => row_cellsOf hw (ones_pre hmk.1)) hmk.2.1) ?_)
  rintro _ _ _ ⟨rfl, rfl, rfl⟩
  refine ⟨Suf.h, (fun _ h => h), ?_⟩
  rw [ones_splice hmk.1 hmk.2.1]
  refine th_take rfl rfl (by kernel_rfl)  (opv_add rfl rfl (w64 (by omega) (by omega))) ?_
  refine yA rfl rfl (yD (tri_inBlock (tT ?_)))
  refine tri_sub ?_ (hK (k + m) ⟨by omega, by omega⟩ (by omega))
  exact ⟨rfl, rfl, trivial⟩
 ·have ek : k = c := by omega
  subst ek
  refine tri_exit ?_
  refine tri_then_exit (tri_then_exit ?_)
  refine tri_inBlock_hit rfl ?_
  refine tT (tS (tR (tM rfl rfl (tA rfl rfl (tN (tT (tri_ret ?_)))))))
  refine tri_end _ (⟨[], rfl⟩) rfl (.cons (rv_tmp rfl) .nil) ⟨_, rfl, ?_, rfl⟩
  rw [ones_all]
end Go.GL


namespace Go.GL
open Go.Proofs
attribute [local irreducible] wpList Code.wp Exit.then Exit.inBlock Ends Tri TriH OpV OpG FnC epf wpAnyH
variable {A : List Asrt} {I : List Chunk}
theorem pick_nextM {picks left : List Int} {m : Nat} {step last : Int} {a a2 : Option Addr} {cap cap2 : Nat} {E : TypeId} (hm : left.length = m) (hs : SlAt I a picks) (hp : Is picks) (hn : m ≤ 1000000) :
  FnC Try.prog 50 [.slice a picks.length cap, .int .i64 step, .slice a2 m cap2, .int .i64 last].toArray (Row a2 cap2 m E 1 (encs left) :: A) I (fun v A' I' => v = .int .i64 (R11.next picks step left last) ∧ Row a2 cap2 m E 1 (encs left) :: A = A' ∧ I ⊆ I') := by
 subst hm
 exact pick_next hs hp hn
theorem R21.run_succ (room : Int) (W : Nat) (picks : List Int) (f n : Nat) (last : Int) (s : R21.Ms) {w : Nat} (hw : R19.nxt picks W n last = (w : Int)) : R21.run room W picks (f + 1) n last s = if (R21.step room s w).2 ≠ 0 then ((R21.step room s w).1, 0, (R21.step room s w).2) else if (R21.step room s w).1.done then ((R21.step room s w).1, (n : Int) + 1, 0) else R21.run room W picks f (n + 1) (w : Int) (R21.step room s w).1 := by
 rw [R21.run, hw]
 rfl
/-- What a crew's run comes to. -/
def CwE2 (bc bx mb db bq cd : Nat) (room : Int) (r : R21.Ms × Int × Int) (A : List Asrt) (I : List Chunk) : Value → List Asrt → List Chunk → Prop :=
 fun v A' I' => v = .tuple [.int .i64 r.2.1, .int .i64 r.2.2].toArray ∧ ∃ h' s', A' = CwA bc bx mb db (some ⟨bq, 0, none⟩) cd room h' s' A ∧ (r.2.2 = 0 → s' = r.1 ∧ CwOk h' s') ∧ I ⊆ I'
structure RunInv (room : Int) (W b : Nat) (picks : List Int) (R : R21.Ms × Int × Int) (I : List Chunk) (n : Nat) (last : Int) (h : Hp) (s : R21.Ms) (J : List Chunk) : Prop where
 hn : n ≤ 100000
 ok : CwOk h s
 m : R21.MOk room W (b + 9 * n) s
 eq : R = R21.run room W picks (100000 - n) n last s
 l0 : -1 ≤ last
 l1 : last < W
 I : I ⊆ J
set_option maxHeartbeats 4000000 in
set_option maxRecDepth 100000 in
theorem crew_run {bc bx mb db bq cd W b : Nat} {room : Int} {h : Hp} {s : R21.Ms} {picks : List Int} {a : Option Addr} {cap : Nat} {R : R21.Ms × Int × Int} (ok : CwOk h s) (m : R21.MOk room W b s) (hW1 : 1 ≤ W) (hW : W ≤ 64) (hb : b ≤ 1000) (hs : SlAt I a picks) (hk : Is picks) (hR : R21.run room W picks 100000 0 (-1) s = R) :
  FnC Try.prog 30 [pt bc 0, .slice a picks.length cap].toArray (CwA bc bx mb db (some ⟨bq, 0, none⟩) cd room h s A) I (CwE2 bc bx mb db bq cd room R A I) := by
 have hdl := m.dl
 subst hdl
 skip
 skip
 refine fn_enter2 Try.func30 rfl Try.ntmps30 rfl fun w0 => ?_
 refine tS (tR (tA rfl rfl (tA rfl rfl (tN (tT (tS (tR ?_)))))))
 refine tri_g (opg_buildSlice rfl rfl rfl rfl) rfl ?_
 rintro _ _ _ ⟨b10, rfl, rfl, rfl⟩
 refine tM rfl rfl ?_
 refine tri_v (opv_nilCheck rfl) rfl ?_
 refine yF rfl ?_
 refine yL rfl rfl ?_
 refine tri_v (opv_len rfl) rfl ?_
 refine tri_freezeBoxS [(1 : Int)] rfl fun J1 hJ1 h1s => ?_
 refine tri_g (opg_call (xs := [_, _]) rfl (slices_repeat1 h1s hW1 (by omega))) rfl ?_
 rintro _ _ _ ⟨ao, rfl, rfl, rfl⟩
 have inv0 : RunInv room s.D.length b picks R I 0 (-1) h s J1 := ⟨by omega, ok, m, hR.symm, by omega, by omega, hJ1⟩
 refine tA rfl rfl (tN (tT (tS (tS (tR (tA rfl rfl (tA rfl rfl ?_)))))))
 refine tN (tT (tri_block ?_))
 refine tri_sub (F' := [(0, pt bc 0), (1, .slice a picks.length cap), (6, .slice ao s.D.length s.D.length), (7, .int .i64 (0 : Nat)), (8, .int .i64 (-1))]) ⟨rfl, rfl, rfl, rfl, rfl, trivial⟩ ?_
 refine loop_ind (G := Nat × Int × Hp × R21.Ms × List Chunk) (fun g => 100000 - g.1) (fun g => RunInv room s.D.length b picks R I g.1 g.2.1 g.2.2.1 g.2.2.2.1 g.2.2.2.2) (fun g => [(0, pt bc 0), (1, .slice a picks.length cap), (6, .slice ao s.D.length s.D.length), (7, .int .i64 (g.1 : Nat)), (8, .int .i64 g.2.1)]) (fun g => Row ao s.D.length s.D.length 3 1 (encs (List.replicate s.D.length (1 : Int))) :: CwA bc bx mb db (some ⟨bq, 0, none⟩) cd room g.2.2.1 g.2.2.2.1 A) (fun g => g.2.2.2.2) ?_ (0, -1, h, s, J1) inv0
 rintro ⟨n, last, h1, s1, J2⟩ inv K hK
 simp only at inv hK ⊢
 have hn := inv.hn
 have hl0 := inv.l0
 have hl1 := inv.l1
 have hI2 := inv.I
 have eq := inv.eq
 skip
 refine tS (tS (tR (tM rfl rfl (yC rfl rfl (tN (tT ?_))))))
 refine tri_cond_dec rfl (fun hc => ?_) (fun hc => ?_)
 ·obtain ⟨hx0, hx1⟩ := R19.nxt_ok (picks := picks) (nw := s.D.length) (n := n) (last := last) hW1
  obtain ⟨w, ew⟩ : ∃ w : Nat, R19.nxt picks s.D.length n last = (w : Int) := ⟨(R19.nxt picks s.D.length n last).toNat, by omega⟩
  have ew2 : R11.next picks n (List.replicate s.D.length 1) last = (w : Int) := ew
  rw [show 100000 - n = (100000 - (n + 1)) + 1 by omega, R21.run_succ _ _ _ _ _ _ _ ew] at eq
  refine tri_skip (tT (tS (tri_block (tS (tR (tM rfl rfl (tM rfl rfl ?_)))))))
  refine tM rfl rfl (tM rfl rfl ?_)
  refine tri_g (opg_call (xs := [_, _, _, _]) rfl (pick_nextM (by rw [List.length_replicate]) (hs.mono hI2) hk (by omega))) rfl ?_
  rintro _ _ J5 ⟨rfl, rfl, hJ5⟩
  rw [ew2]
  refine tri_perm perm9' ?_
  refine tA rfl rfl (tN (tT (tS (tS (tR (tM rfl rfl (tM rfl rfl ?_)))))))
  refine tri_g (opg_call (xs := [_, _]) rfl (crew_step (h := h1) (s := s1) (w := w) inv.ok inv.m (by omega) hW (by omega))) rfl ?_
  rintro _ _ J6 ⟨rfl, h2, s2, rfl, hx, hJ6⟩
  obtain ⟨r, hr⟩ : ∃ r, R21.step room s1 w = r := ⟨_, rfl⟩
  have hm2 := inv.m.step (w := w) (by omega)
  rw [hr] at hx hm2 eq ⊢
  have hI6 : I ⊆ J6 := fun _ h => hJ6 (hJ5 (hI2 h))
  refine tA rfl rfl (tN (tT (tS (tR (tM rfl rfl ?_)))))
  refine tri_v (opv_neq rfl rfl) rfl ?_
  refine tN (tT ?_)
  refine tri_cond_dec rfl (fun he => ?_) (fun he => ?_)
  ·have eq2 : R = (r.1, 0, r.2) := eq.trans (if_pos he)
   rw [eq2]
   refine tS (tR (tM rfl rfl (tA rfl rfl (tA rfl rfl (tN (tT (tri_ret ?_)))))))
   refine tri_then_ret (tri_inBlock_ret (tri_then_ret (tri_then_ret (tri_inBlock_ret (tri_then_ret ?_)))))
   refine tri_perm (A := ?a1_0 :: ?a1_1 :: ?a1_2 :: ?a1_3 :: ?a1_4 :: ?a1_5 :: ?a1_6 :: ?a1_7 :: ?a1_8 :: ?a1_9 :: ?T1) (B := ?a1_9 :: ?a1_0 :: ?a1_1 :: ?a1_2 :: ?a1_3 :: ?a1_4 :: ?a1_5 :: ?a1_6 :: ?a1_7 :: ?a1_8 :: ?T1) (by exact permL [9, 0, 1, 2, 3, 4, 5, 6, 7, 8] [?a1_0, ?a1_1, ?a1_2, ?a1_3, ?a1_4, ?a1_5, ?a1_6, ?a1_7, ?a1_8, ?a1_9] ?T1 (by decide) rfl) ?_
   refine tri_drop ?_
   refine tri_end _ (⟨[], rfl⟩) rfl (.cons (rv_tmp rfl) (.cons (rv_tmp rfl) .nil)) ⟨rfl, h2, s2, rfl, fun k => absurd k he, hI6⟩
  ·have he0 : r.2 = 0 := Decidable.not_not.1 he
   have eq2 := eq.trans (if_neg he)
   obtain ⟨rfl, ok2⟩ := hx he0
   have hm2 := hm2 he0
   refine tri_skip (tT (tS (tR (tM rfl rfl ?_))))
   refine tri_v (opv_nilCheck rfl) rfl ?_
   refine yF rfl ?_
   refine yL rfl rfl ?_
   refine tN (tT ?_)
   refine tri_cond rfl (fun hd => ?_) (fun hd => ?_)
   ·rw [if_pos hd] at eq2
    rw [eq2]
    refine tS (tR (tM rfl rfl ?_))
    refine yU rfl rfl ?_
    refine tA rfl rfl (tA rfl rfl (tN (tT (tri_ret (tri_inBlock_ret (tri_then_ret (tri_then_ret ?_)))))))
    refine tri_inBlock_ret (tri_then_ret ?_)
    refine tri_perm (A := ?a2_0 :: ?a2_1 :: ?a2_2 :: ?a2_3 :: ?a2_4 :: ?a2_5 :: ?a2_6 :: ?a2_7 :: ?a2_8 :: ?a2_9 :: ?T2) (B := ?a2_9 :: ?a2_0 :: ?a2_1 :: ?a2_2 :: ?a2_3 :: ?a2_4 :: ?a2_5 :: ?a2_6 :: ?a2_7 :: ?a2_8 :: ?T2) (by exact permL [9, 0, 1, 2, 3, 4, 5, 6, 7, 8] [?a2_0, ?a2_1, ?a2_2, ?a2_3, ?a2_4, ?a2_5, ?a2_6, ?a2_7, ?a2_8, ?a2_9] ?T2 (by decide) rfl) ?_
    refine tri_drop ?_
    refine tri_end _ (⟨[], rfl⟩) rfl (.cons (rv_tmp rfl) (.cons (rv_tmp rfl) .nil)) ⟨rfl, h2, r.1, rfl, fun _ => ⟨rfl, ok2⟩, hI6⟩
   ·rw [if_neg (by rw [hd]; decide)] at eq2
    refine tri_skip (tri_inBlock (tT (tR (tM rfl rfl ?_))))
    refine yU rfl rfl ?_
    refine tA rfl rfl (tN (tT ?_))
    refine tri_perm (A := ?a3_0 :: ?a3_1 :: ?a3_2 :: ?a3_3 :: ?a3_4 :: ?a3_5 :: ?a3_6 :: ?a3_7 :: ?a3_8 :: ?a3_9 :: ?T3) (B := ?a3_9 :: ?a3_0 :: ?a3_1 :: ?a3_2 :: ?a3_3 :: ?a3_4 :: ?a3_5 :: ?a3_6 :: ?a3_7 :: ?a3_8 :: ?T3) (by exact permL [9, 0, 1, 2, 3, 4, 5, 6, 7, 8] [?a3_0, ?a3_1, ?a3_2, ?a3_3, ?a3_4, ?a3_5, ?a3_6, ?a3_7, ?a3_8, ?a3_9] ?T3 (by decide) rfl) ?_
    refine tri_sub ?_ (hK (n + 1, (w : Int), h2, r.1, J6) ⟨by simp only; omega, ok2, hm2.mono (by simp only; omega), eq2, by simp only; omega, by simp only; omega, hI6⟩ (by simp only; omega))
    exact ⟨rfl, rfl, rfl, rfl, rfl, trivial⟩
 ·have hn0 : 100000 - n = 0 := by omega
  rw [hn0] at eq
  have eq2 : R = (s1, 0, 3) := eq
  rw [eq2]
  refine tri_drop ?_
  refine tri_exit ?_
  refine tri_then_exit (tri_then_exit ?_)
  refine tri_inBlock_hit rfl ?_
  refine tT (tS (tR (tA rfl rfl (tA rfl rfl (tN (tT (tri_ret ?_)))))))
  refine tri_end _ (⟨[], rfl⟩) rfl (.cons (rv_tmp rfl) (.cons (rv_tmp rfl) .nil)) ⟨rfl, h1, s1, rfl, fun k => absurd (show (3 : Int) = 0 from k) (by decide), hI2⟩
end Go.GL


namespace Go.GL
open Go.Proofs
attribute [local irreducible] wpList Code.wp Exit.then Exit.inBlock Ends Tri TriH OpV OpG FnC epf wpAnyH
variable {A : List Asrt} {I : List Chunk}
/-- What a leap of many tells. -/
def LpPost (r : R21.Lp) (A : List Asrt) (I : List Chunk) : Value → List Asrt → List Chunk → Prop :=
 fun v A' I' => ∃ a' cap', v = .tuple [.agg [.slice a' r.ns.length cap', .int .i64 r.room, .int .i64 r.node, .int .i64 r.steps, .int .i64 r.tasks].toArray, .int .i64 r.err].toArray ∧ StA I' a' cap' r.ns ∧ A = A' ∧ I ⊆ I'
theorem R21.reps_sl : ∀ n, reps n [.slice none 0 0] = encs (List.replicate n (⟨none, 0, 0⟩ : Sl))
 | 0 => rfl
 | n + 1 => by
  rw [List.replicate_succ]
  show [.slice none 0 0] ++ reps n _ = _
  rw [R21.reps_sl n]
  rfl
theorem R21.rep_at {α : Type} [Inhabited α] {n i : Nat} {x : α} (h : i < n) : (List.replicate n x).getD i default = x := by
 rw [List.getD_eq_getElem?_getD, List.getElem?_replicate, if_pos h]
 rfl
def R21.empty (ns : List Node) (D : List (List Int)) : R21.Ms := ⟨ns, [], D, [], 0, false⟩
theorem R21.start_eq {ns : List Node} {W : Nat} (hW : 1 ≤ W) (n j : Int) : R21.add (R21.empty ns (List.replicate W [])) 0 (R21.tk0 n j (-1) 0) = R21.start ns W n j := by
 obtain ⟨m, rfl⟩ : ∃ m, W = m + 1 := ⟨W - 1, by omega⟩
 rfl
theorem R21.start_ok {ns : List Node} {room n j : Int} {W : Nat} (hW : 1 ≤ W) (hr : R6.right ns room) (hn : R6.inS ns n) (hl : 1 ≤ (R6.nd ns n).lv) : R21.MOk room W 1 (R21.start ns W n j) := by
 obtain ⟨m, rfl⟩ : ∃ m, W = m + 1 := ⟨W - 1, by omega⟩
 refine ⟨hr, by simp [R21.start], Nat.le_refl _, fun k hk => ?_, fun i hi => ?_⟩
 ·cases k with
  | zero =>
   refine ⟨Nat.le_refl _, fun x hx => ?_⟩
   have : x = 0 := by simpa [R21.start] using hx
   rw [this]
   exact ⟨Int.le_refl _, by show (0 : Int) < ((1 : Nat) : Int); decide⟩
  | succ k =>
   have e : (R21.start ns (m + 1) n j).D.getD (k + 1) default = [] := by
    show (List.replicate m ([] : List Int)).getD k default = []
    exact R21.rep_at (by omega)
   rw [e]
   exact ⟨by simp, fun x hx => by cases hx⟩
 ·have : i = 0 := by
   have : i < 1 := hi
   omega
  subst this
  exact ⟨⟨hn, hl⟩, fun k => absurd (show (0 : Int) ≤ -1 from k) (by decide), ⟨show (0 : Int) ≤ 0 by decide, show (0 : Int) ≤ 8 by decide⟩, .inl rfl⟩
theorem R21.leap_bad {ns : List Node} {room n j W : Int} {picks : List Int} (h : ¬ R21.good ns room n j W) : R21.leap ns room n j W picks = ⟨[], 0, 0, 0, 0, 1⟩ := if_neg h
set_option maxHeartbeats 4000000 in
set_option maxRecDepth 100000 in
theorem shop_leap {ns : List Node} {a a2 : Option Addr} {cap cap2 : Nat} {room n j nw : Int} {picks : List Int} (hs : StA I a cap ns) (hn : ns.length ≤ 1000000000) (hs2 : SlAt I a2 picks) (hk : Is picks) :
  FnC Try.prog 12 [storeV a ns.length cap room, .int .i64 n, .int .i64 j, .int .i64 nw, .slice a2 picks.length cap2].toArray A I (LpPost (R21.leap ns room n j nw picks) A I) := by
 have hsl := hs.sl
 skip
 skip
 refine fn_enter5 Try.func12 rfl Try.ntmps12 rfl fun w0 => ?_
 refine tS (tR ?_)
 refine tri_g (opg_box_agg rfl) rfl ?_
 rintro _ _ _ ⟨b5, rfl, rfl, rfl⟩
 refine tri_g opg_alloc rfl ?_
 rintro _ _ _ ⟨b10, rfl, rfl, rfl⟩
 refine tA rfl rfl (tN (tT (tS (tR ?_))))
 refine yB rfl rfl ?_
 refine tM rfl rfl ?_
 refine tri_g (opg_call (xs := [_, _, _]) rfl (base_of hs hn)) rfl ?_
 rintro v1 A1 I1 hR
 rcases hR with ⟨hmay, bx, mb, a1, c1, es, rfl, rfl, hix, rfl⟩ | ⟨hno, p, rfl, rfl, rfl⟩
 ·obtain ⟨hr, ⟨hn0, hn1⟩, hl2⟩ := hmay
  have hl2' : 2 ≤ (ns.getD n.toNat default).lv := hl2
  have hlb : (ns.getD n.toNat default).lv ≤ 42 := (hr.good (r2 := room) (by have := hr.1.2.1; omega)).mod.nd ⟨hn0, hn1⟩ |>.2.1
  refine tM rfl rfl ?_
  refine tri_v (opv_extract rfl rfl) rfl ?_
  refine tri_v (opv_extract rfl rfl) rfl ?_
  refine tri_g opg_alloc rfl ?_
  rintro _ _ _ ⟨b12, rfl, rfl, rfl⟩
  refine yG rfl rfl rfl rfl rfl rfl ?_
  rintro _ _ _ ⟨rfl, rfl⟩
  refine tA rfl rfl (tN (tT (tS (tS (tR (tM rfl rfl ?_))))))
  refine tri_v (opv_not rfl) rfl ?_
  refine tM rfl rfl ?_
  refine tri_bool 25 rfl (fun h => absurd h (by decide)) (fun _ => ?_)
  refine yR rfl rfl (tM rfl rfl (yR rfl rfl (yC rfl rfl ?_)))
  refine tri_v (opv_pick_f rfl rfl) rfl ?_
  refine tM rfl rfl ?_
  refine tri_split rfl rfl (fun h1 => ?_) (fun h1 => ?_)
  ·have hb : ¬ R21.good ns room n j nw := fun h => by have := h.2.1; omega
   rw [R21.leap_bad hb]
   refine tri_guard_skip rfl rfl rfl rfl (tri_guard_skip rfl rfl rfl rfl (tri_guard_skip rfl rfl rfl rfl (tri_guard_skip rfl rfl rfl rfl (tri_guard_skip rfl rfl rfl rfl (tri_guard_skip rfl rfl rfl rfl (tri_guard_skip rfl rfl rfl rfl (tri_guard_skip rfl rfl rfl rfl ?_)))))))
   refine tri_guard_skip rfl rfl rfl rfl ?_
   refine tri_v (opv_pick_t rfl rfl) rfl ?_
   refine tM rfl rfl (tri_guard_skip rfl rfl rfl rfl (tri_guard_skip rfl rfl rfl rfl ?_))
   refine tri_v (opv_pick_t rfl rfl) rfl ?_
   refine tM rfl rfl (tri_guard_skip rfl rfl rfl rfl (tri_guard_skip rfl rfl rfl rfl ?_))
   refine tri_v (opv_pick_t rfl rfl) rfl ?_
   refine tN (tT ?_)
   refine tri_cond_true rfl ?_
   refine tS (tR ?_)
   refine tri_v (opv_buildS rfl rfl) rfl ?_
   refine yG rfl rfl rfl rfl rfl rfl ?_
   rintro _ _ _ ⟨rfl, rfl⟩
   refine tA rfl rfl (tN (tT (tri_ret (tri_then_ret ?_))))
   refine tri_end A Suf.h rfl (.cons (rv_cellA rfl rfl rfl) (.cons (rv_tmp rfl) .nil)) ⟨none, 0, rfl, StA.nil, rfl, fun _ h => h⟩
  ·refine yR rfl rfl (tM rfl rfl (yR rfl rfl (yF rfl (yR rfl rfl ?_))))
   refine yL rfl rfl ?_
   refine yR rfl rfl (tM rfl rfl (yR rfl rfl ?_))
   refine tri_v (opv_indexAddrS rfl rfl (by omega) (by omega) (by assumption) rfl) rfl ?_
   refine yR rfl rfl ?_
   refine tri_v (opv_fieldAddrE rfl (by assumption) (by omega) rfl) rfl ?_
   refine yR rfl rfl ?_
   refine tri_v (opv_loadE1 rfl (by assumption) rfl (by omega) rfl rfl) rfl ?_
   refine yR rfl rfl ?_
   refine tri_v (opv_sub rfl rfl (w64 (by omega) (by omega))) rfl ?_
   refine yR rfl rfl ?_
   refine tri_v (opv_gtr rfl rfl) rfl ?_
   refine tri_v (opv_pick_f rfl rfl) rfl ?_
   refine tM rfl rfl ?_
   refine tri_split rfl rfl (fun h3 => ?_) (fun h3 => ?_)
   ·have hb : ¬ R21.good ns room n j nw := fun h => by have := h.2.2.1; change _ ≤ (ns.getD n.toNat default).lv - 2 at this; omega
    rw [R21.leap_bad hb]
    refine tri_guard_skip rfl rfl rfl rfl (tri_guard_skip rfl rfl rfl rfl ?_)
    refine tri_v (opv_pick_t rfl rfl) rfl ?_
    refine tM rfl rfl (tri_guard_skip rfl rfl rfl rfl (tri_guard_skip rfl rfl rfl rfl ?_))
    refine tri_v (opv_pick_t rfl rfl) rfl ?_
    refine tN (tT ?_)
    refine tri_cond_true rfl ?_
    refine tS (tR ?_)
    refine tri_v (opv_buildS rfl rfl) rfl ?_
    refine yG rfl rfl rfl rfl rfl rfl ?_
    rintro _ _ _ ⟨rfl, rfl⟩
    refine tA rfl rfl (tN (tT (tri_ret (tri_then_ret ?_))))
    refine tri_end A Suf.h rfl (.cons (rv_cellA rfl rfl rfl) (.cons (rv_tmp rfl) .nil)) ⟨none, 0, rfl, StA.nil, rfl, fun _ h => h⟩
   ·refine yR rfl rfl (tM rfl rfl (yR rfl rfl (yC rfl rfl ?_)))
    refine tri_v (opv_pick_f rfl rfl) rfl ?_
    refine tM rfl rfl ?_
    refine tri_split rfl rfl (fun h4 => ?_) (fun h4 => ?_)
    ·have hb : ¬ R21.good ns room n j nw := fun h => by have := h.2.2.2.1; omega
     rw [R21.leap_bad hb]
     refine tri_guard_skip rfl rfl rfl rfl (tri_guard_skip rfl rfl rfl rfl ?_)
     refine tri_v (opv_pick_t rfl rfl) rfl ?_
     refine tN (tT ?_)
     refine tri_cond_true rfl ?_
     refine tS (tR ?_)
     refine tri_v (opv_buildS rfl rfl) rfl ?_
     refine yG rfl rfl rfl rfl rfl rfl ?_
     rintro _ _ _ ⟨rfl, rfl⟩
     refine tA rfl rfl (tN (tT (tri_ret (tri_then_ret ?_))))
     refine tri_end A Suf.h rfl (.cons (rv_cellA rfl rfl rfl) (.cons (rv_tmp rfl) .nil)) ⟨none, 0, rfl, StA.nil, rfl, fun _ h => h⟩
    ·refine yR rfl rfl (tM rfl rfl (yR rfl rfl ?_))
     refine tri_v (opv_gtr rfl rfl) rfl ?_
     refine tri_v (opv_pick_f rfl rfl) rfl ?_
     refine tN (tT ?_)
     refine tri_cond_dec rfl (fun h5 => ?_) (fun h5 => ?_)
     ·have hb : ¬ R21.good ns room n j nw := fun h => by have := h.2.2.2.2; omega
      rw [R21.leap_bad hb]
      refine tS (tR ?_)
      refine tri_v (opv_buildS rfl rfl) rfl ?_
      refine yG rfl rfl rfl rfl rfl rfl ?_
      rintro _ _ _ ⟨rfl, rfl⟩
      refine tA rfl rfl (tN (tT (tri_ret (tri_then_ret ?_))))
      refine tri_end A Suf.h rfl (.cons (rv_cellA rfl rfl rfl) (.cons (rv_tmp rfl) .nil)) ⟨none, 0, rfl, StA.nil, rfl, fun _ h => h⟩
     ·have hg : R21.good ns room n j nw := ⟨⟨hr, ⟨hn0, hn1⟩, hl2⟩, by omega, by show _ ≤ (ns.getD n.toNat default).lv - 2; omega, by omega, by omega⟩
      obtain ⟨W, rfl⟩ : ∃ W : Nat, nw = (W : Int) := ⟨nw.toNat, by omega⟩
      have hW1 : 1 ≤ W := by omega
      refine tri_skip (tT (tS ?_))
      skip
      refine tri_cut (fun F' A' J => ∃ (bc db : Nat) (ad : Option Addr), ad ≠ none ∧ F' = [(1, .int .i64 n), (2, .int .i64 j), (4, .slice a2 picks.length cap2), (10, pt b10 0), (14, pt bc 0)] ∧ A'.Perm (Box bc [pt bx 0, .slice none 0 0, .slice ad W W, .map (some db), .int .i64 0, .bool false] 76 :: Row ad W W 27 1 (reps W [.slice none 0 0]) :: MapA Try.prog 79 db [] :: Box b12 [pt bx 0] 68 :: IxA bx mb a1 c1 ns room es (Box b10 [.slice none 0 0, .int .i64 0, .int .i64 0, .int .i64 0, .int .i64 0] 34 :: Box b5 [.slice a ns.length cap, .int .i64 room] 26 :: A)) ∧ I = J) ?_ ?_
      ·refine tri_draw [0, 1, 2, 3, 4, 5, 6] rfl [] rfl mixed ?_
       refine th_take rfl rfl (by kernel_rfl)  (opv_loadA rfl rfl rfl) ?_
       refine yM rfl rfl ?_
       refine th_two (j := 3) [2, 4, 5, 6] (by kernel_rfl) rfl ?_ ?_
       ·refine (step_m rfl rfl (opg_makeSliceN (m := W) rfl rfl rfl (by omega) (by omega)) ?_)
        rintro _ _ _ ⟨ad, had, rfl, rfl, rfl⟩
        refine ⟨Suf.h, (fun _ h => h), ?_⟩
        refine th_one (by kernel_rfl) (step_m rfl rfl opg_makeMap ?_)
        rintro _ _ _ ⟨b52, rfl, rfl, rfl⟩
        refine ⟨Suf.h, (fun _ h => h), ?_⟩
        refine th_take rfl rfl (by kernel_rfl)  (opv_buildS rfl rfl) ?_
        refine th_one (by kernel_rfl) (step_m rfl rfl (opg_box_agg rfl) ?_)
        rintro _ _ _ ⟨b54, rfl, rfl, rfl⟩
        refine ⟨Suf.h, (fun _ h => h), ?_⟩
        refine yA rfl rfl (yD ?_)
        refine tri_cutEnd _ ⟨_, _, ad, had, rfl, ((List.Perm.swap _ _ _).cons _), rfl⟩ ⟨rfl, rfl, rfl, rfl, rfl, trivial⟩
       ·refine (step_m rfl rfl opg_makeMap ?_)
        rintro _ _ _ ⟨b52, rfl, rfl, rfl⟩
        refine ⟨Suf.h, (fun _ h => h), ?_⟩
        refine th_one (by kernel_rfl) (step_m rfl rfl (opg_makeSliceN (m := W) rfl rfl rfl (by omega) (by omega)) ?_)
        rintro _ _ _ ⟨ad, had, rfl, rfl, rfl⟩
        refine ⟨Suf.h, (fun _ h => h), ?_⟩
        refine th_take rfl rfl (by kernel_rfl)  (opv_buildS rfl rfl) ?_
        refine th_one (by kernel_rfl) (step_m rfl rfl (opg_box_agg rfl) ?_)
        rintro _ _ _ ⟨b54, rfl, rfl, rfl⟩
        refine ⟨Suf.h, (fun _ h => h), ?_⟩
        refine yA rfl rfl (yD ?_)
        refine tri_cutEnd _ ⟨_, _, ad, had, rfl, (List.Perm.refl _), rfl⟩ ⟨rfl, rfl, rfl, rfl, rfl, trivial⟩
      rintro _ _ _ ⟨bc, db, ad, had, rfl, hperm, rfl⟩
      skip
      refine tri_perm hperm ?_
      clear hperm
      refine tri_perm (List.Perm.swap _ _ _) ?_
      refine tri_rowPt had fun bq ebd => ?_
      subst ebd
      rw [R21.reps_sl]
      have e0 := R21.start_eq (ns := ns) hW1 n j
      have m0 := R21.start_ok (room := room) (n := n) (j := j) hW1 hr ⟨hn0, hn1⟩ (by omega)
      have el : R21.leap ns room n j (W : Int) picks = if (R21.run room W picks 100000 0 (-1) (R21.start ns W n j)).2.2 ≠ 0 then ⟨[], 0, 0, 0, 0, (R21.run room W picks 100000 0 (-1) (R21.start ns W n j)).2.2⟩ else ⟨(R21.run room W picks 100000 0 (-1) (R21.start ns W n j)).1.ns, room, (R21.run room W picks 100000 0 (-1) (R21.start ns W n j)).1.node, (R21.run room W picks 100000 0 (-1) (R21.start ns W n j)).2.1, (R21.run room W picks 100000 0 (-1) (R21.start ns W n j)).1.ts.length, 0⟩ := by
       unfold R21.leap
       rw [if_pos hg, Int.toNat_natCast]
      rw [el]
      clear el
      obtain ⟨D0, hD0⟩ : ∃ D0 : List (List Int), D0 = List.replicate W [] := ⟨_, rfl⟩
      have hlD : D0.length = W := by rw [hD0, List.length_replicate]
      have hDe : ∀ k, k < D0.length → D0.getD k default = [] := fun k hk => by rw [hD0]; exact R21.rep_at (by omega)
      rw [← hD0] at e0
      clear hD0
      subst hlD
      refine tri_perm (A := ?a1_0 :: ?a1_1 :: ?a1_2 :: ?a1_3 :: ?a1_4 :: ?a1_5 :: ?a1_6 :: ?a1_7 :: ?a1_8 :: ?T1) (B := ?a1_4 :: ?a1_5 :: ?a1_6 :: ?a1_1 :: ?a1_0 :: ?a1_2 :: ?a1_3 :: ?a1_7 :: ?a1_8 :: ?T1) (by exact permL [4, 5, 6, 1, 0, 2, 3, 7, 8] [?a1_0, ?a1_1, ?a1_2, ?a1_3, ?a1_4, ?a1_5, ?a1_6, ?a1_7, ?a1_8] ?T1 (by decide) rfl) ?_
      refine tri_nilRow (E := 113) (sz := 1) ?_
      refine tri_starsNil (L := dqS (List.replicate D0.length ⟨none, 0, 0⟩) D0) ?_ ?_
      ·intro r hr'
       obtain ⟨k, hk', rfl⟩ := List.mem_map.1 hr'
       have hk2 := List.mem_range.1 hk'
       unfold dqA
       rw [hDe k hk2, R21.rep_at hk2]
       exact ⟨rfl, .inl ⟨rfl, rfl, rfl, rfl⟩⟩
      refine tri_starsNil (L := tkS [] []) (fun r hr' => by simp [tkS] at hr') ?_
      refine tri_perm (A := ?a2_0 :: ?a2_1 :: ?a2_2 :: ?a2_3 :: ?a2_4 :: ?a2_5 :: ?a2_6 :: ?a2_7 :: ?a2_8 :: ?a2_9 :: ?a2_10 :: ?a2_11 :: ?T2) (B := ?a2_3 :: ?a2_4 :: ?a2_5 :: ?a2_6 :: ?a2_2 :: ?a2_7 :: ?a2_8 :: ?a2_0 :: ?a2_1 :: ?a2_9 :: ?a2_10 :: ?a2_11 :: ?T2) (by exact permL [3, 4, 5, 6, 2, 7, 8, 0, 1, 9, 10, 11] [?a2_0, ?a2_1, ?a2_2, ?a2_3, ?a2_4, ?a2_5, ?a2_6, ?a2_7, ?a2_8, ?a2_9, ?a2_10, ?a2_11] ?T2 (by decide) rfl) ?_
      have ok0 : CwOk ⟨a1, c1, es, [], none, 0, [], List.replicate D0.length ⟨none, 0, 0⟩⟩ (R21.empty ns D0) := ⟨hix, MemK.nil, rfl, List.length_replicate, fun k hk' => by
       show ((List.replicate D0.length (⟨none, 0, 0⟩ : Sl)).getD k default).len = (D0.getD k default).length
       rw [hDe k hk', R21.rep_at (show k < D0.length from hk')]
       rfl⟩
      refine tT (tS (tR (tM rfl rfl (tM rfl rfl (tM rfl rfl ?_)))))
      refine tri_v (opv_buildS rfl rfl) rfl ?_
      refine tri_v (opv_buildS rfl rfl) rfl ?_
      refine tri_g (opg_call (xs := [_, _, _]) rfl ((crew_add (h := ⟨a1, c1, es, [], none, 0, [], List.replicate D0.length ⟨none, 0, 0⟩⟩) (s := R21.empty ns D0) (t := R21.tk0 n j (-1) 0) (w := 0) ok0 hW1 (by show ([] : List Tk).length ≤ 1000000000; decide) (by show (D0.getD 0 default).length ≤ _; rw [hDe 0 hW1]; decide)))) rfl ?_
      rintro _ _ I2 ⟨h1', ok1, rfl, hI2⟩
      rw [e0] at ok1 ⊢
      obtain ⟨R, hR⟩ : ∃ R, R21.run room D0.length picks 100000 0 (-1) (R21.start ns D0.length n j) = R := ⟨_, rfl⟩
      rw [hR]
      refine tN (tT (tS (tR (tM rfl rfl (tM rfl rfl ?_)))))
      refine tri_g (opg_call (xs := [_, _]) rfl (crew_run (b := 1) (h := h1') (s := R21.start ns D0.length n j) ok1 m0 hW1 (by omega) (by omega) (hs2.mono hI2) hk hR)) rfl ?_
      rintro _ _ I3 ⟨rfl, h2', s2, rfl, hx, hI3⟩
      have hI03 : I ⊆ I3 := fun _ h => hI3 (hI2 h)
      refine tM rfl rfl ?_
      refine tri_v (opv_extract rfl rfl) rfl ?_
      refine tri_v (opv_extract rfl rfl) rfl ?_
      refine tA rfl rfl (tA rfl rfl (tN (tT (tS (tS (tR (tM rfl rfl ?_)))))))
      refine tri_v (opv_neq rfl rfl) rfl ?_
      refine tN (tT ?_)
      refine tri_cond_dec rfl (fun h6 => ?_) (fun h6 => ?_)
      ·rw [if_pos h6]
       refine tS (tR ?_)
       refine tri_v (opv_buildS rfl rfl) rfl ?_
       refine tM rfl rfl ?_
       refine yG rfl rfl rfl rfl rfl rfl ?_
       rintro _ _ _ ⟨rfl, rfl⟩
       refine tA rfl rfl (tN (tT (tri_ret (tri_then_ret ?_))))
       refine tri_end A Suf.h rfl (.cons (rv_cellA rfl rfl rfl) (.cons (rv_tmp rfl) .nil)) ⟨none, 0, rfl, StA.nil, rfl, hI03⟩
      ·rw [if_neg h6]
       obtain ⟨rfl, ok2⟩ := hx (Decidable.not_not.1 h6)
       refine tri_perm (A := ?a3_0 :: ?a3_1 :: ?a3_2 :: ?a3_3 :: ?a3_4 :: ?a3_5 :: ?a3_6 :: ?a3_7 :: ?a3_8 :: ?a3_9 :: ?a3_10 :: ?a3_11 :: ?T3) (B := ?a3_10 :: ?a3_0 :: ?a3_1 :: ?a3_2 :: ?a3_3 :: ?a3_4 :: ?a3_5 :: ?a3_6 :: ?a3_7 :: ?a3_8 :: ?a3_9 :: ?a3_11 :: ?T3) (by exact permL [10, 0, 1, 2, 3, 4, 5, 6, 7, 8, 9, 11] [?a3_0, ?a3_1, ?a3_2, ?a3_3, ?a3_4, ?a3_5, ?a3_6, ?a3_7, ?a3_8, ?a3_9, ?a3_10, ?a3_11] ?T3 (by decide) rfl) ?_
       skip
       refine tri_skip (tT (tS ?_))
       refine tri_draw [0, 1, 2, 3, 4, 5, 6, 7, 8, 9, 10, 11, 12, 13, 14, 15, 16, 17, 18, 19, 20] rfl [_] rfl mixed ?_
       refine yM rfl rfl (yn rfl rfl (yf rfl rfl (yf rfl rfl ?_)))
       refine yl rfl rfl rfl ?_
       refine yn rfl rfl (yf rfl rfl ?_)
       refine th_take rfl rfl (by kernel_rfl)  (opv_loadA rfl rfl rfl) ?_
       refine yM rfl rfl (yn rfl rfl (yf rfl rfl ?_))
       refine yl rfl rfl rfl ?_
       refine yM rfl rfl (yM rfl rfl (yn rfl rfl (yf rfl rfl ?_)))
       refine yl rfl rfl rfl ?_
       refine th_take rfl rfl (by kernel_rfl)  (opv_len rfl) ?_
       refine th_take rfl rfl (by kernel_rfl)  (opv_buildS rfl rfl) ?_
       refine th_one (by kernel_rfl) (step_m rfl rfl (opg_store rfl rfl rfl rfl rfl rfl) ?_)
       rintro _ _ _ ⟨rfl, rfl⟩
       refine ⟨Suf.h, (fun _ h => h), ?_⟩
       refine yA rfl rfl (yD (tT (tri_ret ?_)))
       refine tri_perm (A := ?a4_0 :: ?a4_1 :: ?a4_2 :: ?T4) (B := ?a4_2 :: ?a4_0 :: ?a4_1 :: ?T4) (by exact permL [2, 0, 1] [?a4_0, ?a4_1, ?a4_2] ?T4 (by decide) rfl) ?_
       refine tri_freezeRowC (α := Node) rfl fun I4 hI4 hs4 => ?_
       refine tri_end A Suf.h rfl (.cons (rv_cellA rfl rfl rfl) (.cons (rv_tmp rfl) .nil)) ⟨h2'.a, h2'.cap, rfl, hs4, rfl, fun _ h => hI4 (hI03 h)⟩
 ·have hb : ¬ R21.good ns room n j nw := fun h => hno h.1
  rw [R21.leap_bad hb]
  refine tM rfl rfl ?_
  refine tri_v (opv_extract rfl rfl) rfl ?_
  refine tri_v (opv_extract rfl rfl) rfl ?_
  refine tri_g opg_alloc rfl ?_
  rintro _ _ _ ⟨b12, rfl, rfl, rfl⟩
  refine yG rfl rfl rfl rfl rfl rfl ?_
  rintro _ _ _ ⟨rfl, rfl⟩
  refine tA rfl rfl (tN (tT (tS (tS (tR (tM rfl rfl ?_))))))
  refine tri_v (opv_not rfl) rfl ?_
  refine tM rfl rfl ?_
  refine tri_bool 25 rfl (fun _ => ?_) (fun h => absurd h (by decide))
  refine tri_guard_skip rfl rfl rfl rfl (tri_guard_skip rfl rfl rfl rfl ?_)
  refine tri_v (opv_pick_t rfl rfl) rfl ?_
  refine tM rfl rfl (tri_guard_skip rfl rfl rfl rfl (tri_guard_skip rfl rfl rfl rfl (tri_guard_skip rfl rfl rfl rfl (tri_guard_skip rfl rfl rfl rfl (tri_guard_skip rfl rfl rfl rfl (tri_guard_skip rfl rfl rfl rfl (tri_guard_skip rfl rfl rfl rfl ?_)))))))
  refine tri_guard_skip rfl rfl rfl rfl (tri_guard_skip rfl rfl rfl rfl ?_)
  refine tri_v (opv_pick_t rfl rfl) rfl ?_
  refine tM rfl rfl (tri_guard_skip rfl rfl rfl rfl (tri_guard_skip rfl rfl rfl rfl ?_))
  refine tri_v (opv_pick_t rfl rfl) rfl ?_
  refine tM rfl rfl (tri_guard_skip rfl rfl rfl rfl (tri_guard_skip rfl rfl rfl rfl ?_))
  refine tri_v (opv_pick_t rfl rfl) rfl ?_
  refine tN (tT ?_)
  refine tri_cond_true rfl ?_
  refine tS (tR ?_)
  refine tri_v (opv_buildS rfl rfl) rfl ?_
  refine yG rfl rfl rfl rfl rfl rfl ?_
  rintro _ _ _ ⟨rfl, rfl⟩
  refine tA rfl rfl (tN (tT (tri_ret (tri_then_ret ?_))))
  refine tri_end A Suf.h rfl (.cons (rv_cellA rfl rfl rfl) (.cons (rv_tmp rfl) .nil)) ⟨none, 0, rfl, StA.nil, rfl, fun _ h => h⟩
end Go.GL


namespace Go.GL
namespace RL
def three : List Cell := [⟨0, 0⟩, ⟨1, 0⟩, ⟨2, 0⟩]
def awM21 : List Node × Int × Int := R7.make [R6.n0, R6.n1] 90 three 3
def awA21 : R21.Lp := R21.leap awM21.1 90 awM21.2.1 1 1 []
def awB21 : R21.Lp := R21.leap awM21.1 90 awM21.2.1 0 3 [2, 1, 0, 1, 2]
def awC21 : R21.Lp := R21.leap awM21.1 90 awM21.2.1 2 1 []
set_option maxRecDepth 100000 in
theorem aw21_ok : awM21.1.length ≤ 1000
  ∧ (0 ≤ awA21.node ∧ awA21.node < awA21.ns.length ∧ awA21.err = 0 ∧ awA21.tasks = 14 ∧ awA21.steps = 16 ∧ (awA21.ns.getD awA21.node.toNat default).lv = 2)
  ∧ (0 ≤ awB21.node ∧ awB21.node < awB21.ns.length ∧ awB21.err = 0 ∧ awB21.tasks = 5)
  ∧ awC21.err = 1 := by
 refine ⟨by decide +kernel, by decide +kernel, by decide +kernel, by decide +kernel⟩
end RL
end Go.GL


namespace Go.GL
open Go.Proofs
attribute [local irreducible] wpList Code.wp Exit.then Exit.inBlock Ends Tri TriH OpV OpG FnC epf wpAnyH
variable {A : List Asrt} {I : List Chunk}
set_option maxRecDepth 100000 in
theorem law21_pick {c n : Int} (h : I64 c) (hn : 0 < n) : FnC Try.prog 11 [.int .i64 c, .int .i64 n].toArray A I (fun v A' I' => v = .int .i64 (pk c n) ∧ A = A' ∧ I = I') := by
 obtain ⟨h0, h1⟩ := h
 skip
 skip
 refine fn_enter2 Try.func11 rfl Try.ntmps11 rfl fun w0 => ?_
 refine tS (tR (tA rfl rfl (tN (tT (tS (tS (tR ?_)))))))
 refine tM rfl rfl (yC rfl rfl (tN (tT ?_)))
 refine tri_cond_dec rfl (fun h => ?_) (fun h => ?_)
 ·refine tR (tM rfl rfl ?_)
  refine yU rfl rfl ?_
  refine tri_v (opv_negE rfl (by omega) (by omega)) rfl ?_
  refine tA rfl rfl (tN (tT (tS (tR (tM rfl rfl (tM rfl rfl ?_))))))
  refine tri_v (opv_remE rfl rfl (by omega) (by omega)) rfl ?_
  refine tA rfl rfl (tN (tT (tri_ret ?_)))
  refine tri_end A Suf.h rfl (.cons (rv_tmp rfl) .nil) ⟨?_, rfl, rfl⟩
  rw [pk, if_pos h]; rfl
 ·refine tri_skip (tT (tS (tR (tM rfl rfl (tM rfl rfl ?_)))))
  refine tri_v (opv_remE rfl rfl (by omega) (by omega)) rfl ?_
  refine tA rfl rfl (tN (tT (tri_ret ?_)))
  refine tri_end A Suf.h rfl (.cons (rv_tmp rfl) .nil) ⟨?_, rfl, rfl⟩
  rw [pk, if_neg h]; rfl
theorem ref06_newS {room : Int} {p : List Node × Int} (h : R6.new room = p) : FnC Try.prog 25 [.int .i64 room].toArray A I (fun v A' I' => ∃ a' cap', v = storeV a' p.1.length cap' p.2 ∧ StA I' a' cap' p.1 ∧ A = A' ∧ I ⊆ I') := by
 subst h
 exact ref06_new
theorem ref07_makeS {ns : List Node} {a bb : Option Addr} {cap cap2 : Nat} {room lv : Int} {l : List Cell} {p : List Node × Int × Int} (hs : StA I a cap ns) (hn : ns.length ≤ 1000000000) (hr : R6.Rng ns) (hsl : SlAt I bb l) (hnl : l.length ≤ 1000000000) (h : R7.make ns room l lv = p) :
  FnC Try.prog 24 [storeV a ns.length cap room, .slice bb l.length cap2, .int .i64 lv].toArray A I (StoreR p room A I) := by
 subst h
 exact ref07_make hs hn hr hsl hnl
theorem shop_leapR {ns : List Node} {a a2 : Option Addr} {cap cap2 : Nat} {room n j nw : Int} {picks : List Int} {r : R21.Lp} (hs : StA I a cap ns) (hn : ns.length ≤ 1000000000) (hs2 : SlAt I a2 picks) (hk : Is picks) (hr : R21.leap ns room n j nw picks = r) :
  FnC Try.prog 12 [storeV a ns.length cap room, .int .i64 n, .int .i64 j, .int .i64 nw, .slice a2 picks.length cap2].toArray A I (LpPost r A I) := by
 subst hr
 exact shop_leap hs hn hs2 hk
namespace R21
end R21
set_option maxHeartbeats 2000000 in
set_option maxRecDepth 100000 in
theorem law21_awake : FnC Try.prog 9 #[] A I (fun v A' I' => v = .bool true ∧ A = A' ∧ I ⊆ I') := by
 obtain ⟨hml, ⟨a1, a2, a3, a4, a5, a6⟩, ⟨g1, g2, g3, g4⟩, e1⟩ := RL.aw21_ok
 have eN : R6.new 90 = ([R6.n0, R6.n1], 90) := by decide
 obtain ⟨M, eM⟩ : ∃ M, RL.awM21 = M := ⟨_, rfl⟩
 obtain ⟨rA, eA⟩ : ∃ M, RL.awA21 = M := ⟨_, rfl⟩
 obtain ⟨rB, eB⟩ : ∃ M, RL.awB21 = M := ⟨_, rfl⟩
 obtain ⟨rC, eC⟩ : ∃ M, RL.awC21 = M := ⟨_, rfl⟩
 have eM' : R7.make [R6.n0, R6.n1] 90 RL.three 3 = M := eM
 have eA' : R21.leap M.1 90 M.2.1 1 1 [] = rA := by rw [← eM]; exact eA
 have eB' : R21.leap M.1 90 M.2.1 0 3 [2, 1, 0, 1, 2] = rB := by rw [← eM]; exact eB
 have eC' : R21.leap M.1 90 M.2.1 2 1 [] = rC := by rw [← eM]; exact eC
 rw [eM] at hml
 rw [eA] at a1 a2 a3 a4 a5 a6
 rw [eB] at g1 g2 g3 g4
 rw [eC] at e1
 have hml : M.1.length ≤ 1000000000 := by omega
 have i5 : Is [2, 1, 0, 1, 2] := fun i hi => by
  rcases (by have : i < 5 := hi; omega : i = 0 ∨ i = 1 ∨ i = 2 ∨ i = 3 ∨ i = 4) with rfl | rfl | rfl | rfl | rfl <;> exact ⟨by decide, by decide⟩
 have i0 : Is [] := fun i h => absurd h (Nat.not_lt_zero i)
 skip
 refine fn_enter0 Try.func9 rfl Try.ntmps9 rfl fun w0 => ?_
 refine tS (tR (tA rfl rfl (tN (tT (tS (tR ?_))))))
 refine tri_g (opg_call (xs := [_]) rfl (ref06_newS eN)) rfl ?_
 rintro _ _ I0 ⟨x0, y0, rfl, hs0, rfl, hI0⟩
 refine tri_v (opv_buildS rfl rfl) rfl ?_
 refine tri_v (opv_buildS rfl rfl) rfl ?_
 refine tri_v (opv_buildS rfl rfl) rfl ?_
 refine tri_g (opg_buildSlice rfl rfl rfl rfl) rfl ?_
 rintro _ _ _ ⟨b15, rfl, rfl, rfl⟩
 refine tri_freezeBoxS RL.three rfl fun I1 hI1 hs1 => ?_
 refine tri_g (opg_call (xs := [_, _, _]) rfl (ref07_makeS (hs0.mono hI1) (by decide) (by unfold R6.Rng; decide) hs1 (by decide) eM')) rfl ?_
 rintro _ _ I2 ⟨x2, y2, rfl, hs2, rfl, hI2⟩
 refine tM rfl rfl ?_
 refine tri_v (opv_extract rfl rfl) rfl ?_
 refine tri_v (opv_extract rfl rfl) rfl ?_
 refine tri_v (opv_extract rfl rfl) rfl ?_
 refine tri_g opg_alloc rfl ?_
 rintro _ _ _ ⟨b1, rfl, rfl, rfl⟩
 refine yG rfl rfl rfl rfl rfl rfl ?_
 rintro _ _ _ ⟨rfl, rfl⟩
 refine tA rfl rfl (tA rfl rfl (tN (tT (tS (tR ?_)))))
 refine yB rfl rfl ?_
 refine tM rfl rfl ?_
 refine tri_g (opg_call (xs := [_, _, _, _, _]) rfl (shop_leapR (picks := []) hs2 hml SlAt.nil i0 eA')) rfl ?_
 rintro _ _ I3 ⟨x3, y3, rfl, hs3, rfl, hI3⟩
 have h23 := hs2.mono hI3
 refine tM rfl rfl ?_
 refine tri_v (opv_extract rfl rfl) rfl ?_
 refine tri_v (opv_extract rfl rfl) rfl ?_
 refine tri_g opg_alloc rfl ?_
 rintro _ _ _ ⟨b4, rfl, rfl, rfl⟩
 refine yG rfl rfl rfl rfl rfl rfl ?_
 rintro _ _ _ ⟨rfl, rfl⟩
 refine tA rfl rfl (tN (tT (tS (tR ?_))))
 refine yB rfl rfl ?_
 refine tM rfl rfl ?_
 refine tri_g (opg_buildSlice rfl rfl rfl rfl) rfl ?_
 rintro _ _ _ ⟨b29, rfl, rfl, rfl⟩
 refine tri_freezeBoxS [(2 : Int), 1, 0, 1, 2] rfl fun I4 hI4 hs4 => ?_
 refine tri_g (opg_call (xs := [_, _, _, _, _]) rfl (shop_leapR (h23.mono hI4) hml hs4 i5 eB')) rfl ?_
 rintro _ _ I5 ⟨x5, y5, rfl, hs5, rfl, hI5⟩
 have h25 := (h23.mono hI4).mono hI5
 refine tM rfl rfl ?_
 refine tri_v (opv_extract rfl rfl) rfl ?_
 refine tri_v (opv_extract rfl rfl) rfl ?_
 refine tri_g opg_alloc rfl ?_
 rintro _ _ _ ⟨b6, rfl, rfl, rfl⟩
 refine yG rfl rfl rfl rfl rfl rfl ?_
 rintro _ _ _ ⟨rfl, rfl⟩
 refine tA rfl rfl (tN (tT (tS (tR ?_))))
 refine yB rfl rfl ?_
 refine tM rfl rfl ?_
 refine tri_g (opg_call (xs := [_, _, _, _, _]) rfl (shop_leapR (picks := []) h25 hml SlAt.nil i0 eC')) rfl ?_
 rintro _ _ I6 ⟨x6, y6, rfl, hs6, rfl, hI6⟩
 have sA : SlAt I6 x3 rA.ns := (((hs3.mono hI4).mono hI5).mono hI6).sl
 refine tM rfl rfl ?_
 refine tri_v (opv_extract rfl rfl) rfl ?_
 refine tri_v (opv_extract rfl rfl) rfl ?_
 refine tri_g opg_alloc rfl ?_
 rintro _ _ _ ⟨b8, rfl, rfl, rfl⟩
 refine yG rfl rfl rfl rfl rfl rfl ?_
 rintro _ _ _ ⟨rfl, rfl⟩
 refine tA rfl rfl (tN (tT (tS (tS (tR (yF rfl ?_))))))
 refine yL rfl rfl ?_
 refine yF rfl (yF rfl ?_)
 refine yL rfl rfl ?_
 refine tri_v (opv_len rfl) rfl ?_
 refine tri_v (opv_geq rfl rfl) rfl ?_
 refine tM rfl rfl ?_
 refine tri_false rfl rfl (by omega) ?_
 refine yR rfl rfl (yF rfl (yR rfl rfl ?_))
 refine yL rfl rfl ?_
 refine yR rfl rfl (yF rfl (yR rfl rfl (yF rfl (yR rfl rfl ?_))))
 refine yL rfl rfl ?_
 refine yR rfl rfl ?_
 refine tri_v (opv_len rfl) rfl ?_
 refine yR rfl rfl ?_
 refine tri_v (opv_geq rfl rfl) rfl ?_
 refine tri_v (opv_pick_f rfl rfl) rfl ?_
 refine tM rfl rfl ?_
 refine tri_false rfl rfl (by omega) ?_
 refine yR rfl rfl (yF rfl (yR rfl rfl ?_))
 refine yL rfl rfl ?_
 refine yR rfl rfl (yC rfl rfl ?_)
 refine tri_v (opv_pick_f rfl rfl) rfl ?_
 refine tM rfl rfl ?_
 refine tri_false rfl rfl (by omega) ?_
 refine yR rfl rfl (yF rfl (yR rfl rfl ?_))
 refine yL rfl rfl ?_
 refine yR rfl rfl (yC rfl rfl ?_)
 refine tri_v (opv_pick_f rfl rfl) rfl ?_
 refine tN (tT ?_)
 refine tri_cond_not rfl (by omega) ?_
 refine tri_skip (tT (tS (tR (tM rfl rfl ?_))))
 refine tri_v (opv_eql rfl rfl) rfl ?_
 refine tM rfl rfl ?_
 refine tri_true rfl rfl (a3) ?_
 refine yR rfl rfl (yF rfl (yR rfl rfl ?_))
 refine yL rfl rfl ?_
 refine yR rfl rfl ?_
 refine tri_v (opv_eql rfl rfl) rfl ?_
 refine tri_v (opv_pick_t rfl rfl) rfl ?_
 refine tM rfl rfl ?_
 refine tri_true rfl rfl (a4) ?_
 refine yR rfl rfl (yF rfl (yR rfl rfl ?_))
 refine yL rfl rfl ?_
 refine yR rfl rfl ?_
 refine tri_v (opv_eql rfl rfl) rfl ?_
 refine tri_v (opv_pick_t rfl rfl) rfl ?_
 refine tM rfl rfl ?_
 refine tri_true rfl rfl (a5) ?_
 refine yR rfl rfl (tM rfl rfl (yR rfl rfl ?_))
 refine tri_v (opv_eql rfl rfl) rfl ?_
 refine tri_v (opv_pick_t rfl rfl) rfl ?_
 refine tM rfl rfl ?_
 refine tri_true rfl rfl (g3) ?_
 refine yR rfl rfl (yF rfl (yR rfl rfl ?_))
 refine yL rfl rfl ?_
 refine yR rfl rfl ?_
 refine tri_v (opv_eql rfl rfl) rfl ?_
 refine tri_v (opv_pick_t rfl rfl) rfl ?_
 refine tM rfl rfl ?_
 refine tri_true rfl rfl (g4) ?_
 refine yR rfl rfl (tM rfl rfl (yR rfl rfl ?_))
 refine tri_v (opv_eql rfl rfl) rfl ?_
 refine tri_v (opv_pick_t rfl rfl) rfl ?_
 refine tM rfl rfl ?_
 refine tri_true rfl rfl (e1) ?_
 refine yR rfl rfl (yF rfl (yR rfl rfl (yF rfl (yR rfl rfl ?_))))
 refine yL rfl rfl ?_
 refine yR rfl rfl (yF rfl (yR rfl rfl ?_))
 refine yL rfl rfl ?_
 refine yR rfl rfl ?_
 refine tri_v (opv_indexAddrS rfl rfl (by omega) (by omega) (by assumption) rfl) rfl ?_
 refine yR rfl rfl ?_
 refine tri_v (opv_fieldAddrE rfl (by assumption) (by omega) rfl) rfl ?_
 refine yR rfl rfl ?_
 refine tri_v (opv_loadE1 rfl (by assumption) rfl (by omega) rfl rfl) rfl ?_
 refine yR rfl rfl ?_
 refine tri_v (opv_eql rfl rfl) rfl ?_
 refine tri_v (opv_pick_t rfl rfl) rfl ?_
 refine tA rfl rfl (tN (tT (tri_ret ?_)))
 refine tri_end A Suf.h rfl (.cons (rv_tmp rfl) .nil) ⟨congrArg Value.bool (decide_eq_true a6), rfl, fun _ h => hI6 (hI5 (hI4 (hI3 (hI2 (hI1 (hI0 h))))))⟩
end Go.GL


namespace Go.GL
/-! ### What is made of cells -/
namespace R7
open R6
def deadB (ns : List Node) (j : Nat) : Bool := ns.any fun x => decide (x.lv = (j : Int) ∧ x.pop = 0)
/-- Of how many levels there is no node yet in which all is dead. -/
def E (ns : List Node) : Nat → Nat
 | 0 => 0
 | L + 1 => E ns L + if deadB ns (L + 1) = true then 0 else 1
theorem deadB_iff {ns : List Node} {j : Nat} : deadB ns j = true ↔ ∃ n, IsN ns j n ∧ (nd ns n).pop = 0 := by
 unfold deadB
 rw [List.any_eq_true]
 constructor
 ·rintro ⟨x, hx, h⟩
  obtain ⟨i, hi, rfl⟩ := List.getElem_of_mem hx
  have h' := of_decide_eq_true h
  have e : nd ns (i : Int) = ns[i] := by simp [nd, hi]
  exact ⟨i, ⟨⟨by omega, by omega⟩, by rw [e]; exact h'.1⟩, by rw [e]; exact h'.2⟩
 ·rintro ⟨n, ⟨⟨h0, h1⟩, h2⟩, h3⟩
  have hlt : n.toNat < ns.length := by omega
  have e : nd ns n = ns[n.toNat] := by simp [nd, hlt]
  rw [e] at h2 h3
  exact ⟨_, List.getElem_mem hlt, by simp [h2, h3]⟩
theorem deadB_pre {ns ms : List Node} (h : ns <+: ms) {j : Nat} (hd : deadB ns j = true) : deadB ms j = true := by
 obtain ⟨t, rfl⟩ := h
 unfold deadB at *
 rw [List.any_append, hd]; rfl
theorem E_pre {ns ms : List Node} (h : ns <+: ms) : ∀ L, E ms L ≤ E ns L
 | 0 => Nat.le_refl _
 | L + 1 => by
  have := E_pre h L
  simp only [E]
  by_cases hd : deadB ns (L + 1) = true
  ·rw [if_pos hd, if_pos (deadB_pre h hd)]; omega
  ·rw [if_neg hd]; split <;> omega
theorem E_new {ns ms : List Node} (h : ns <+: ms) {j : Nat} (h0 : ¬ deadB ns (j + 1) = true) (h1 : deadB ms (j + 1) = true) : ∀ L, j < L → E ms L + 1 ≤ E ns L
 | 0, hj => absurd hj (by omega)
 | L + 1, hj => by
  simp only [E]
  by_cases e : j = L
  ·subst e
   have := E_pre h j
   rw [if_neg h0, if_pos h1]; omega
  ·have := E_new h h0 h1 L (by omega)
   by_cases hd : deadB ns (L + 1) = true
   ·rw [if_pos hd, if_pos (deadB_pre h hd)]; omega
   ·rw [if_neg hd]; split <;> omega
theorem E_le (ns : List Node) : ∀ L, E ns L ≤ L
 | 0 => Nat.le_refl _
 | L + 1 => by have := E_le ns L; simp only [E]; split <;> omega
theorem E_pos {ns : List Node} {j L : Nat} (hj : j < L) (h0 : ¬ deadB ns (j + 1) = true) : 1 ≤ E ns L := by
 induction L with
 | zero => omega
 | succ L ih =>
  simp only [E]
  by_cases e : j = L
  ·subst e; rw [if_neg h0]; omega
  ·have := ih (by omega); omega
/-- A node of a level is made; it cost so many nodes, and what was dead of the levels to L. -/
structure Mk (ns : List Node) (L cost lv : Nat) (ms : List Node) (m : Int) : Prop where
 wf : Wf ms
 pre : ns <+: ms
 is : IsN ms lv m
 len : ms.length + E ms L ≤ ns.length + E ns L + cost
theorem fit4_of {ns : List Node} {lv : Nat} (hl : lv + 1 ≤ 42) {a b c d : Int} (ha : IsN ns lv a) (hb : IsN ns lv b) (hc : IsN ns lv c) (hd : IsN ns lv d) : fit4 ns a b c d := by
 refine ⟨ha.1, ⟨hb.1, ?_⟩, ⟨hc.1, ?_⟩, ⟨hd.1, ?_⟩, ?_⟩
 ·rw [hb.2, ha.2]
 ·rw [hc.2, ha.2]
 ·rw [hd.2, ha.2]
 ·rw [ha.2]; omega
theorem dead_found {ns : List Node} (h : Wf ns) {j : Nat} {n d : Int} (hn : IsN ns j n) (hp : (nd ns n).pop = 0) (hd : IsN ns (j + 1) d) (hdp : (nd ns d).pop = 0) : R6.at_ ns [n, n, n, n] = d := by
 obtain ⟨a, b, c, e⟩ := kids4 h hd
 obtain ⟨a', b', c', e'⟩ := (dead_kids h hd).1 hdp
 have := h.at_ hd.1 (by rw [hd.2]; omega)
 unfold Node.kids at this
 rwa [dead_uniq h a hn a' hp, dead_uniq h b hn b' hp, dead_uniq h c hn c' hp, dead_uniq h e hn e' hp] at this
theorem emptyF_ok {room : Int} {L : Nat} (hL : L ≤ 42) : ∀ (k : Nat) (ns : List Node) (n : Int) (j : Nat), Wf ns → IsN ns j n → (nd ns n).pop = 0 → j + k ≤ L → ((ns.length + E ns L : Nat) : Int) ≤ room →
  ∃ ms m, emptyF room k ns n = (ms, m, 0) ∧ Mk ns L 0 (j + k) ms m ∧ (nd ms m).pop = 0
 | 0, ns, n, j, h, hn, hp, hj, hr => ⟨ns, n, rfl, ⟨h, List.prefix_refl _, hn, Nat.le_refl _⟩, hp⟩
 | k + 1, ns, n, j, h, hn, hp, hj, hr => by
  have hf := fit4_of (by omega) hn hn hn hn
  have hroom : 0 ≤ R6.at_ ns [n, n, n, n] ∨ (ns.length : Int) < room := by
   by_cases hd : deadB ns (j + 1) = true
   ·obtain ⟨d, hd1, hd2⟩ := deadB_iff.1 hd
    rw [dead_found h hn hp hd1 hd2]; exact .inl hd1.1.1
   ·have := E_pos (L := L) (by omega) hd
    exact .inr (by omega)
  obtain ⟨ms, m, e, ok⟩ := put_ok h hf hroom
  have him : IsN ms (j + 1) m := ⟨ok.mem, by rw [ok.lv, hn.2]; omega⟩
  have hpm : (nd ms m).pop = 0 := by rw [ok.nd]; exact (pop4_zero (by omega) (by omega) (by omega) (by omega)).2 ⟨hp, hp, hp, hp⟩
  have hlen : ms.length + E ms L ≤ ns.length + E ns L := by
   by_cases hd : deadB ns (j + 1) = true
   ·obtain ⟨d, hd1, hd2⟩ := deadB_iff.1 hd
    have hat := dead_found h hn hp hd1 hd2
    have : put ns room n n n n = (ns, d, 0) := put_again h hf hd1.1 (by rw [hd1.2]; omega) (by rw [← hat]; exact (at_found (by rw [hat]; exact hd1.1.1)).2.2)
    rw [this] at e
    cases e
    exact Nat.le_refl _
   ·have := E_new ok.pre hd (deadB_iff.2 ⟨m, him, hpm⟩) L (by omega)
    have := ok.len
    omega
  obtain ⟨ms2, m2, e2, ok2, hp2⟩ := emptyF_ok (room := room) hL k ms m (j + 1) ok.wf him hpm (by omega) (by omega)
  refine ⟨ms2, m2, ?_, ⟨ok2.wf, ok.pre.trans ok2.pre, by rw [show j + (k + 1) = j + 1 + k by omega]; exact ok2.is, by have := ok2.len; omega⟩, hp2⟩
  simp only [emptyF, e]
  rw [if_neg (by omega)]
  exact e2
theorem empty_ok {room : Int} {L : Nat} (hL : L ≤ 42) {ns : List Node} {lv : Nat} (h : Wf ns) (hlv : lv ≤ L) (hr : ((ns.length + E ns L : Nat) : Int) ≤ room) : ∃ ms m, empty ns room lv = (ms, m, 0) ∧ Mk ns L 0 lv ms m ∧ (nd ms m).pop = 0 := by
 have := emptyF_ok (room := room) hL lv ns 0 0 h ⟨h.in0, by rw [h.nd0]; rfl⟩ (by rw [h.nd0]; rfl) (by omega) hr
 unfold empty
 simpa using this
/-! #### the quarters of a list of cells -/
def qx' (h : Int) (c : Cell) : Nat := qx h c
theorem part_sum (h : Int) (l : List Cell) : (part h 0 l).length + (part h 1 l).length + (part h 2 l).length + (part h 3 l).length = l.length := by
 induction l with
 | nil => rfl
 | cons c l ih =>
  unfold part at *
  simp only [List.length_map] at *
  have hk : qx h c = 0 ∨ qx h c = 1 ∨ qx h c = 2 ∨ qx h c = 3 := by unfold qx; split <;> split <;> simp
  rcases hk with e | e | e | e <;> simp only [List.filter_cons, e] <;> simp <;> omega
theorem part_in {lv : Nat} {l : List Cell} (hb : ∀ c ∈ l, inQ (lv + 1) c.x c.y) (k : Nat) : ∀ c ∈ part (2 ^ lv) k l, inQ lv c.x c.y := by
 intro c hc
 obtain ⟨d, hd, rfl⟩ := List.mem_map.1 hc
 have := hb d (List.mem_filter.1 hd).1
 unfold inQ at *
 rw [p2s] at this
 have := p2pos lv
 unfold qc
 simp only
 split <;> split <;> omega
theorem mem_part {lv : Nat} {l : List Cell} (hb : ∀ c ∈ l, inQ (lv + 1) c.x c.y) {x y : Int} (hq : inQ lv x y) :
  ((⟨x, y⟩ : Cell) ∈ part (2 ^ lv) 0 l ↔ (⟨x, y⟩ : Cell) ∈ l) ∧ ((⟨x, y⟩ : Cell) ∈ part (2 ^ lv) 1 l ↔ (⟨x + 2 ^ lv, y⟩ : Cell) ∈ l) ∧ ((⟨x, y⟩ : Cell) ∈ part (2 ^ lv) 2 l ↔ (⟨x, y + 2 ^ lv⟩ : Cell) ∈ l) ∧ ((⟨x, y⟩ : Cell) ∈ part (2 ^ lv) 3 l ↔ (⟨x + 2 ^ lv, y + 2 ^ lv⟩ : Cell) ∈ l) := by
 have hp := p2pos lv
 unfold inQ at hq
 have key : ∀ k (X Y : Int), qx (2 ^ lv) ⟨X, Y⟩ = k → qc (2 ^ lv) ⟨X, Y⟩ = ⟨x, y⟩ → (∀ c ∈ l, qx (2 ^ lv) c = k → qc (2 ^ lv) c = ⟨x, y⟩ → c = ⟨X, Y⟩) → ((⟨x, y⟩ : Cell) ∈ part (2 ^ lv) k l ↔ (⟨X, Y⟩ : Cell) ∈ l) := by
  intro k X Y h1 h2 h3
  unfold part
  rw [List.mem_map]
  constructor
  ·rintro ⟨c, hc, e⟩
   obtain ⟨hc1, hc2⟩ := List.mem_filter.1 hc
   have := h3 c hc1 (by simpa using hc2) e
   rwa [this] at hc1
  ·intro hm
   exact ⟨_, List.mem_filter.2 ⟨hm, by simp [h1]⟩, h2⟩
 refine ⟨key 0 x y ?_ ?_ ?_, key 1 _ _ ?_ ?_ ?_, key 2 _ _ ?_ ?_ ?_, key 3 _ _ ?_ ?_ ?_⟩
 all_goals simp only [qx, qc]
 all_goals first
  | (rintro ⟨cx, cy⟩ hc; have := hb _ hc; unfold inQ at this; simp only [Cell.mk.injEq] at *; intro h1 h2; revert h1 h2; split <;> split <;> intro h1 h2 <;> omega)
  | (split <;> split <;> omega)
  | (simp only [Cell.mk.injEq]; constructor <;> split <;> omega)
end R7
end Go.GL


namespace Go.GL
namespace R7
open R6
theorem build_nl (room : Int) (lv : Nat) (ns : List Node) : build room lv ns [] = empty ns room lv := by cases lv <;> rfl
theorem build_sc (room : Int) (lv : Nat) (ns : List Node) {l : List Cell} (h : l ≠ []) {a0 a1 a2 a3 : List Node} {m0 m1 m2 m3 : Int} (h0 : build room lv ns (part (2 ^ lv) 0 l) = (a0, m0, 0)) (h1 : build room lv a0 (part (2 ^ lv) 1 l) = (a1, m1, 0)) (h2 : build room lv a1 (part (2 ^ lv) 2 l) = (a2, m2, 0)) (h3 : build room lv a2 (part (2 ^ lv) 3 l) = (a3, m3, 0)) :
  build room (lv + 1) ns l = R6.put a3 room m0 m1 m2 m3 := by
 cases l with
 | nil => exact absurd rfl h
 | cons c l =>
  simp only [build, h0, h1, h2, h3]
  rfl
theorem al_put {ns ms : List Node} {lv : Nat} {a b c d m : Int} (h : Wf ns) (ha : IsN ns lv a) (hb : IsN ns lv b) (hc : IsN ns lv c) (hd : IsN ns lv d) (ok : PutOk ns a b c d ms m) (x y : Int) :
  al ms (lv + 1) m x y = if y < 2 ^ lv then (if x < 2 ^ lv then al ns lv a x y else al ns lv b (x - 2 ^ lv) y) else (if x < 2 ^ lv then al ns lv c x (y - 2 ^ lv) else al ns lv d (x - 2 ^ lv) (y - 2 ^ lv)) := by
 simp only [al, ok.nd, mk4]
 rw [al_pre h ok.pre _ _ _ _ ha, al_pre h ok.pre _ _ _ _ hb, al_pre h ok.pre _ _ _ _ hc, al_pre h ok.pre _ _ _ _ hd]
theorem build_ok {room : Int} {L : Nat} (hL : L ≤ 42) : ∀ (lv : Nat) (ns : List Node) (l : List Cell), lv ≤ L → Wf ns → (∀ c ∈ l, inQ lv c.x c.y) → ((ns.length + E ns L + l.length * lv : Nat) : Int) ≤ room →
  ∃ ms m, build room lv ns l = (ms, m, 0) ∧ Mk ns L (l.length * lv) lv ms m ∧ ∀ x y, inQ lv x y → al ms lv m x y = decide ((⟨x, y⟩ : Cell) ∈ l)
 | lv, ns, [], hlv, h, hb, hr => by
  obtain ⟨ms, m, e, ok, hp⟩ := empty_ok (room := room) hL h hlv (by simpa using hr)
  refine ⟨ms, m, by rw [build_nl]; exact e, ?_, fun x y _ => ?_⟩
  ·simpa using ok
  ·rw [al_dead ok.wf lv m x y ok.is hp]; simp
 | 0, ns, c :: l, hlv, h, hb, hr => by
  refine ⟨ns, 1, rfl, ⟨h, List.prefix_refl _, ⟨h.in1, by rw [h.nd1]; rfl⟩, by omega⟩, fun x y hq => ?_⟩
  have hc := hb c List.mem_cons_self
  unfold inQ at hq hc
  simp only [Int.pow_zero] at hq hc
  have e : (⟨x, y⟩ : Cell) = c := by cases c; simp only [Cell.mk.injEq] at *; omega
  rw [e]
  simp [al]
 | lv + 1, ns, c :: l, hlv, h, hb, hr => by
  have hne : c :: l ≠ [] := by simp
  generalize hls : c :: l = ls at *
  have hpl := part_sum (2 ^ lv) ls
  have hlpos : 1 ≤ ls.length := by rw [← hls]; simp
  have hpb := part_in hb
  have hmul : (part (2 ^ lv) 0 ls).length * lv + (part (2 ^ lv) 1 ls).length * lv + (part (2 ^ lv) 2 ls).length * lv + (part (2 ^ lv) 3 ls).length * lv = ls.length * lv := by rw [← Nat.add_mul, ← Nat.add_mul, ← Nat.add_mul, hpl]
  have hmul2 : ls.length * (lv + 1) = ls.length * lv + ls.length := Nat.mul_succ _ _
  rw [hmul2] at hr
  obtain ⟨a0, m0, e0, k0, s0⟩ := build_ok (room := room) hL lv ns (part (2 ^ lv) 0 ls) (by omega) h (hpb 0) (by omega)
  have l0 := k0.len
  obtain ⟨a1, m1, e1, k1, s1⟩ := build_ok (room := room) hL lv a0 (part (2 ^ lv) 1 ls) (by omega) k0.wf (hpb 1) (by omega)
  have l1 := k1.len
  obtain ⟨a2, m2, e2, k2, s2⟩ := build_ok (room := room) hL lv a1 (part (2 ^ lv) 2 ls) (by omega) k1.wf (hpb 2) (by omega)
  have l2 := k2.len
  obtain ⟨a3, m3, e3, k3, s3⟩ := build_ok (room := room) hL lv a2 (part (2 ^ lv) 3 ls) (by omega) k2.wf (hpb 3) (by omega)
  have l3 := k3.len
  have i0 : IsN a3 lv m0 := ((k0.is.pre k1.pre).pre k2.pre).pre k3.pre
  have i1 : IsN a3 lv m1 := (k1.is.pre k2.pre).pre k3.pre
  have i2 : IsN a3 lv m2 := k2.is.pre k3.pre
  have i3 : IsN a3 lv m3 := k3.is
  obtain ⟨ms, m, e, ok⟩ := put_ok k3.wf (room := room) (fit4_of (by omega) i0 i1 i2 i3) (.inr (by omega))
  refine ⟨ms, m, by rw [build_sc room lv ns hne e0 e1 e2 e3]; exact e, ⟨ok.wf, ((((k0.pre.trans k1.pre).trans k2.pre).trans k3.pre).trans ok.pre), ⟨ok.mem, by rw [ok.lv, i0.2]; omega⟩, ?_⟩, fun x y hq => ?_⟩
  ·have := E_pre ok.pre L
   have := ok.len
   omega
  ·rw [al_put k3.wf i0 i1 i2 i3 ok]
   obtain ⟨q0, q1, q2, q3⟩ := inQ_succ hq
   by_cases hy : y < 2 ^ lv
   ·rw [if_pos hy]
    by_cases hx : x < 2 ^ lv
    ·rw [if_pos hx, al_pre k2.wf k3.pre _ _ _ _ ((k0.is.pre k1.pre).pre k2.pre), al_pre k1.wf k2.pre _ _ _ _ (k0.is.pre k1.pre), al_pre k0.wf k1.pre _ _ _ _ k0.is, s0 _ _ (q0 hy hx)]
     exact decide_eq_decide.2 (mem_part hb (q0 hy hx)).1
    ·rw [if_neg hx, al_pre k2.wf k3.pre _ _ _ _ (k1.is.pre k2.pre), al_pre k1.wf k2.pre _ _ _ _ k1.is, s1 _ _ (q1 hy hx)]
     have := (mem_part hb (q1 hy hx)).2.1
     rw [show x - 2 ^ lv + 2 ^ lv = x by omega] at this
     exact decide_eq_decide.2 this
   ·rw [if_neg hy]
    by_cases hx : x < 2 ^ lv
    ·rw [if_pos hx, al_pre k2.wf k3.pre _ _ _ _ k2.is, s2 _ _ (q2 hy hx)]
     have := (mem_part hb (q2 hy hx)).2.2.1
     rw [show y - 2 ^ lv + 2 ^ lv = y by omega] at this
     exact decide_eq_decide.2 this
    ·rw [if_neg hx, s3 _ _ (q3 hy hx)]
     have := (mem_part hb (q3 hy hx)).2.2.2
     rw [show y - 2 ^ lv + 2 ^ lv = y by omega, show x - 2 ^ lv + 2 ^ lv = x by omega] at this
     exact decide_eq_decide.2 this
theorem side_succ (lv : Nat) : side ((lv + 1 : Nat) : Int) = 2 ^ lv := by
 unfold side
 have : (((lv + 1 : Nat) : Int) - 1).toNat = lv := by omega
 rw [this]
/-- What 'make' comes to. -/
theorem make_ok {ns : List Node} {room : Int} {l : List Cell} {lv : Nat} {L : Nat} (hL : L ≤ 42) (hlv : lv + 1 ≤ L) (h : R6.right ns room) (hl : R1.right l) (hb : ∀ c ∈ l, inL ((lv + 1 : Nat) : Int) c) (hr : ((ns.length + E ns L + l.length * (lv + 1) : Nat) : Int) ≤ room) :
  ∃ ms m, make ns room l ((lv + 1 : Nat) : Int) = (ms, m, 0) ∧ Mk ns L (l.length * (lv + 1)) (lv + 1) ms m ∧ ∀ c : Cell, inL ((lv + 1 : Nat) : Int) c → al ms (lv + 1) m (c.x + 2 ^ lv) (c.y + 2 ^ lv) = decide (c ∈ l) := by
 have hw := (right_iff.1 h).2
 have hs := side_succ lv
 have hp := p2pos lv
 have hcb : ∀ c ∈ corner (side ((lv + 1 : Nat) : Int)) l, inQ (lv + 1) c.x c.y := fun c hc => by
  obtain ⟨d, hd, rfl⟩ := List.mem_map.1 hc
  have := hb d hd
  unfold inL at this
  rw [hs] at this
  unfold inQ
  rw [p2s, hs]
  simp only
  omega
 obtain ⟨ms, m, e, ok, sem⟩ := build_ok (room := room) hL (lv + 1) ns (corner (side ((lv + 1 : Nat) : Int)) l) hlv hw hcb (by unfold corner; rw [List.length_map]; exact hr)
 have hlen : (corner (side ((lv + 1 : Nat) : Int)) l).length = l.length := by unfold corner; rw [List.length_map]
 rw [hlen] at ok
 refine ⟨ms, m, ?_, ok, fun c hc => ?_⟩
 ·unfold make
  rw [if_pos ⟨h, by omega, by omega, hl⟩, if_pos (fun i hi => ?_)]
  ·have e3 : ((lv + 1 : Nat) : Int).toNat = lv + 1 := by omega
   rw [e3, e]
   simp
  ·have e4 : R1.g l i = l[i] := by simp [R1.g, hi]
   rw [e4]; exact hb _ (List.getElem_mem hi)
 ·unfold inL at hc
  rw [hs] at hc
  rw [sem _ _ (by unfold inQ; rw [p2s]; omega)]
  refine decide_eq_decide.2 ?_
  unfold corner
  rw [List.mem_map, hs]
  constructor
  ·rintro ⟨d, hd, e⟩
   have : d = c := by cases d; cases c; simp only [Cell.mk.injEq] at *; omega
   rwa [this] at hd
  ·intro hc
   exact ⟨c, hc, rfl⟩
/-- What 'of' tells. -/
theorem mem_of {ns : List Node} (h : Wf ns) {lv : Nat} {n : Int} (hn : IsN ns (lv + 1) n) (c : Cell) : c ∈ of ns n ↔ inL ((lv + 1 : Nat) : Int) c ∧ al ns (lv + 1) n (c.x + 2 ^ lv) (c.y + 2 ^ lv) = true := by
 unfold of
 have hs := side_succ lv
 have e3 : ((lv + 1 : Nat) : Int).toNat = lv + 1 := by omega
 rw [hn.2, e3, mem_flat h _ _ _ _ hn, hs]
 simp only
 rw [show c.x - -2 ^ lv = c.x + 2 ^ lv by omega, show c.y - -2 ^ lv = c.y + 2 ^ lv by omega]
 unfold inQ inL
 rw [hs, p2s]
 constructor
 ·rintro ⟨q, k⟩; exact ⟨by omega, k⟩
 ·rintro ⟨q, k⟩; exact ⟨by omega, k⟩
end R7
end Go.GL


namespace Go.GL
open R6 R7
/-! ### What the laws' squares are -/
namespace RL
theorem new_wf : Wf [n0, n1] := ⟨by decide, rfl, rfl, fun i hi h2 => absurd hi (by simp; omega)⟩
theorem cell16_bd (r : Cell) : -8 ≤ (cell16 r).x ∧ (cell16 r).x < 8 ∧ -8 ≤ (cell16 r).y ∧ (cell16 r).y < 8 := by
 have a := pk_bd (c := r.x) (n := 16) (by omega)
 have b := pk_bd (c := r.y) (n := 16) (by omega)
 unfold cell16
 simp only
 omega
theorem mem_set {raw : List Cell} {c : Cell} (h : c ∈ set raw) : -8 ≤ c.x ∧ c.x < 8 ∧ -8 ≤ c.y ∧ c.y < 8 := by
 unfold set at h
 rw [R1.mem_puts] at h
 obtain ⟨r, _, rfl⟩ := List.mem_map.1 h
 exact cell16_bd r
theorem p8 {lv : Nat} (h : 3 ≤ lv) : (8:Int) ≤ 2 ^ lv := by
 have h2 : (2:Nat) ^ 3 ≤ 2 ^ lv := Nat.pow_le_pow_right (by omega) h
 have h3 : (2:Int) ^ lv = ((2 ^ lv : Nat) : Int) := by simp
 rw [h3]; omega
/-- The raw square: a node of the set's cells. -/
structure Sq (c : Int) (nodes : List Five) (raw : List Cell) (level : Int) (lv : Nat) (ms : List Node) (m : Int) : Prop where
 lv3 : 3 ≤ lv ∧ lv ≤ 6
 lve : ((lv + 1 : Nat) : Int) = 4 + pk level 4
 eq : square c nodes raw level = (ms, m, 0)
 wf : Wf ms
 is : IsN ms (lv + 1) m
 len : (ms.length : Int) ≤ room c + 427
 pre : store (room c) nodes <+: ms
 sem : ∀ d : Cell, inL ((lv + 1 : Nat) : Int) d → al ms (lv + 1) m (d.x + 2 ^ lv) (d.y + 2 ^ lv) = decide (d ∈ set raw)
end RL
/-! ### Sixteen and nine -/
namespace R8
theorem s16_is {ns : List Node} (h : Wf ns) {lv : Nat} {n : Int} (hn : IsN ns (lv + 2) n) : ∀ i : Int, 0 ≤ i → i < 16 → IsN ns lv (g (s16 ns n) i) := by
 obtain ⟨a, b, c, d⟩ := kids4 h hn
 obtain ⟨a0, a1, a2, a3⟩ := kids4 h a
 obtain ⟨b0, b1, b2, b3⟩ := kids4 h b
 obtain ⟨c0, c1, c2, c3⟩ := kids4 h c
 obtain ⟨d0, d1, d2, d3⟩ := kids4 h d
 intro i h0 h16
 obtain ⟨k, rfl⟩ : ∃ k : Nat, i = k := ⟨i.toNat, by omega⟩
 have hk : k < 16 := by omega
 unfold g s16
 rw [Int.toNat_natCast]
 match k, hk with
 | 0, _ => exact a0
 | 1, _ => exact a1
 | 2, _ => exact b0
 | 3, _ => exact b1
 | 4, _ => exact a2
 | 5, _ => exact a3
 | 6, _ => exact b2
 | 7, _ => exact b3
 | 8, _ => exact c0
 | 9, _ => exact c1
 | 10, _ => exact d0
 | 11, _ => exact d1
 | 12, _ => exact c2
 | 13, _ => exact c3
 | 14, _ => exact d2
 | 15, _ => exact d3
/-- A square of the sixteen. -/
def sqK (l : List Int) (y x : Int) : List Int := [g l (4 * y + x), g l (4 * y + x + 1), g l (4 * y + x + 4), g l (4 * y + x + 5)]
/-- A node that is a square of the sixteen. -/
structure IsSq (ms : List Node) (lv : Nat) (l : List Int) (y x m : Int) : Prop where
 is : IsN ms (lv + 1) m
 kids : (nd ms m).kids = sqK l y x
theorem IsSq.pre {ns ms : List Node} (hp : ns <+: ms) {lv : Nat} {l : List Int} {y x m : Int} (h : IsSq ns lv l y x m) : IsSq ms lv l y x m := ⟨h.is.pre hp, by rw [nd_pre hp h.is.1]; exact h.kids⟩
/-- Nine squares. -/
structure Nine9 (ns : List Node) (room : Int) (lv : Nat) (l : List Int) (ms : List Node) (q0 q1 q2 q3 q4 q5 q6 q7 q8 : Int) : Prop where
 wf : Wf ms
 pre : ns <+: ms
 len : ms.length ≤ ns.length + 9
 s0 : IsSq ms lv l 0 0 q0
 s1 : IsSq ms lv l 0 1 q1
 s2 : IsSq ms lv l 0 2 q2
 s3 : IsSq ms lv l 1 0 q3
 s4 : IsSq ms lv l 1 1 q4
 s5 : IsSq ms lv l 1 2 q5
 s6 : IsSq ms lv l 2 0 q6
 s7 : IsSq ms lv l 2 1 q7
 s8 : IsSq ms lv l 2 2 q8
end R8
end Go.GL


namespace Go.GL
open R6 R7
namespace R8
theorem IsSq.k {ms : List Node} {lv : Nat} {l : List Int} {y x m : Int} (h : IsSq ms lv l y x m) : (nd ms m).k0 = g l (4 * y + x) ∧ (nd ms m).k1 = g l (4 * y + x + 1) ∧ (nd ms m).k2 = g l (4 * y + x + 4) ∧ (nd ms m).k3 = g l (4 * y + x + 5) := by
 have := h.kids
 unfold Node.kids sqK at this
 simpa using this
end R8
namespace RL
open R8
end RL
end Go.GL


namespace Go.GL
open R6 R7
namespace R8
def b2i (b : Bool) : Int := if b = true then 1 else 0
/-- How many of the eight about a place are alive. -/
def cnt (f : Int → Int → Bool) (y x : Int) : Int := b2i (f (x - 1) (y - 1)) + b2i (f x (y - 1)) + b2i (f (x + 1) (y - 1)) + b2i (f (x - 1) y) + b2i (f (x + 1) y) + b2i (f (x - 1) (y + 1)) + b2i (f x (y + 1)) + b2i (f (x + 1) (y + 1))
/-- A place behind a generation. -/
def nx (f : Int → Int → Bool) (y x : Int) : Bool := R2.lives (f x y) (cnt f y x)
theorem g16_al {ns : List Node} (h : Wf ns) {n : Int} (hn : IsN ns 2 n) {x y : Int} (hx : 0 ≤ x ∧ x ≤ 3) (hy : 0 ≤ y ∧ y ≤ 3) : g (s16 ns n) (4 * y + x) = b2i (al ns 2 n x y) := by
 have hz := fun i a b => isN0 h (s16_is (lv := 0) h hn i a b)
 have key : ∀ k : Int, (k = 0 ∨ k = 1) → k = b2i (decide (k = 1)) := by rintro k (rfl | rfl) <;> rfl
 have e := key _ (hz (4 * y + x) (by omega) (by omega))
 rw [e]
 congr 1
 simp only [al]
 rcases (by omega : x = 0 ∨ x = 1 ∨ x = 2 ∨ x = 3) with rfl | rfl | rfl | rfl <;> rcases (by omega : y = 0 ∨ y = 1 ∨ y = 2 ∨ y = 3) with rfl | rfl | rfl | rfl <;> rfl
theorem b2i_one (b : Bool) : decide (b2i b = 1) = b := by cases b <;> rfl
theorem bit_nx {ns : List Node} (h : Wf ns) {n : Int} (hn : IsN ns 2 n) {x y : Int} (hx : 1 ≤ x ∧ x ≤ 2) (hy : 1 ≤ y ∧ y ≤ 2) : bit (s16 ns n) y x = b2i (nx (al ns 2 n) y x) := by
 unfold bit nx
 rw [g16_al h hn (by omega) (by omega), b2i_one]
 have e : about (s16 ns n) y x 9 = cnt (al ns 2 n) y x := by
  have gg : ∀ i : Int, ∀ X Y : Int, 0 ≤ X ∧ X ≤ 3 → 0 ≤ Y ∧ Y ≤ 3 → i = 4 * Y + X → g (s16 ns n) i = b2i (al ns 2 n X Y) := fun i X Y a b e => by rw [e]; exact g16_al h hn a b
  have hab : about (s16 ns n) y x 9 = (((((((((0 + g (s16 ns n) (4 * (y + ((0 : Nat) : Int) / 3 - 1) + x + ((0 : Nat) : Int) % 3 - 1)) + g (s16 ns n) (4 * (y + ((1 : Nat) : Int) / 3 - 1) + x + ((1 : Nat) : Int) % 3 - 1)) + g (s16 ns n) (4 * (y + ((2 : Nat) : Int) / 3 - 1) + x + ((2 : Nat) : Int) % 3 - 1)) + g (s16 ns n) (4 * (y + ((3 : Nat) : Int) / 3 - 1) + x + ((3 : Nat) : Int) % 3 - 1)) + 0) + g (s16 ns n) (4 * (y + ((5 : Nat) : Int) / 3 - 1) + x + ((5 : Nat) : Int) % 3 - 1)) + g (s16 ns n) (4 * (y + ((6 : Nat) : Int) / 3 - 1) + x + ((6 : Nat) : Int) % 3 - 1)) + g (s16 ns n) (4 * (y + ((7 : Nat) : Int) / 3 - 1) + x + ((7 : Nat) : Int) % 3 - 1)) + g (s16 ns n) (4 * (y + ((8 : Nat) : Int) / 3 - 1) + x + ((8 : Nat) : Int) % 3 - 1)) := rfl
  rw [hab, gg (4 * (y + ((0 : Nat) : Int) / 3 - 1) + x + ((0 : Nat) : Int) % 3 - 1) (x - 1) (y - 1) (by omega) (by omega) (by omega), gg (4 * (y + ((1 : Nat) : Int) / 3 - 1) + x + ((1 : Nat) : Int) % 3 - 1) x (y - 1) (by omega) (by omega) (by omega), gg (4 * (y + ((2 : Nat) : Int) / 3 - 1) + x + ((2 : Nat) : Int) % 3 - 1) (x + 1) (y - 1) (by omega) (by omega) (by omega), gg (4 * (y + ((3 : Nat) : Int) / 3 - 1) + x + ((3 : Nat) : Int) % 3 - 1) (x - 1) y (by omega) (by omega) (by omega), gg (4 * (y + ((5 : Nat) : Int) / 3 - 1) + x + ((5 : Nat) : Int) % 3 - 1) (x + 1) y (by omega) (by omega) (by omega), gg (4 * (y + ((6 : Nat) : Int) / 3 - 1) + x + ((6 : Nat) : Int) % 3 - 1) (x - 1) (y + 1) (by omega) (by omega) (by omega), gg (4 * (y + ((7 : Nat) : Int) / 3 - 1) + x + ((7 : Nat) : Int) % 3 - 1) x (y + 1) (by omega) (by omega) (by omega), gg (4 * (y + ((8 : Nat) : Int) / 3 - 1) + x + ((8 : Nat) : Int) % 3 - 1) (x + 1) (y + 1) (by omega) (by omega) (by omega)]
  unfold cnt
  omega
 rw [e]
 rfl
theorem isN_b2i {ns : List Node} (h : Wf ns) (b : Bool) : IsN ns 0 (b2i b) := by
 cases b
 ·exact ⟨h.in0, by rw [show b2i false = 0 from rfl, h.nd0]; rfl⟩
 ·exact ⟨h.in1, by rw [show b2i true = 1 from rfl, h.nd1]; rfl⟩
/-- What a step's node is. -/
structure Stp (ms : List Node) (f : Int → Int → Bool) (m : Int) : Prop where
 is : IsN ms 1 m
 kids : (nd ms m).kids = [b2i (nx f 1 1), b2i (nx f 1 2), b2i (nx f 2 1), b2i (nx f 2 2)]
theorem Stp.pre {ns ms : List Node} (hp : ns <+: ms) {f : Int → Int → Bool} {m : Int} (h : Stp ns f m) : Stp ms f m := ⟨h.is.pre hp, by rw [nd_pre hp h.is.1]; exact h.kids⟩
theorem Stp.uniq {ns : List Node} (h : Wf ns) {f f' : Int → Int → Bool} {m m' : Int} (a : Stp ns f m) (b : Stp ns f' m') (e : ∀ y x, nx f y x = nx f' y x) : m = m' := by
 refine h.uniq a.is.1 b.is.1 (by rw [a.is.2]; decide) (by rw [b.is.2]; decide) ?_
 rw [a.kids, b.kids, e, e, e, e]
/-- Only what is of the sixteen counts. -/
theorem nx_congr {f f' : Int → Int → Bool} (h : ∀ x y, 0 ≤ x ∧ x ≤ 3 → 0 ≤ y ∧ y ≤ 3 → f x y = f' x y) {y x : Int} (hx : 1 ≤ x ∧ x ≤ 2) (hy : 1 ≤ y ∧ y ≤ 2) : nx f y x = nx f' y x := by
 unfold nx cnt
 rw [h x y (by omega) (by omega), h (x - 1) (y - 1) (by omega) (by omega), h x (y - 1) (by omega) (by omega), h (x + 1) (y - 1) (by omega) (by omega), h (x - 1) y (by omega) (by omega), h (x + 1) y (by omega) (by omega), h (x - 1) (y + 1) (by omega) (by omega), h x (y + 1) (by omega) (by omega), h (x + 1) (y + 1) (by omega) (by omega)]
end R8
namespace RL
def cell4 (r : Cell) : Cell := ⟨pk r.x 4 - 2, pk r.y 4 - 2⟩
def turn (c : Cell) : Cell := ⟨-1 - c.x, -1 - c.y⟩
def small (raw : List Cell) : List Cell := R1.puts ((raw.take 16).map cell4)
def smallT (raw : List Cell) : List Cell := R1.puts ((raw.take 16).map fun r => turn (cell4 r))
theorem puts_le (l : List Cell) : (R1.puts l).length ≤ l.length := by
 have key : ∀ (l acc : List Cell), (l.foldl R1.put acc).length ≤ acc.length + l.length := by
  intro l
  induction l with
  | nil => intro acc; simp
  | cons c l ih =>
   intro acc
   have h1 := ih (R1.put acc c)
   have h2 := R1.put_len acc c
   simp only [List.foldl_cons, List.length_cons]
   omega
 simpa [R1.puts] using key l []
end RL
end Go.GL


namespace Go.GL
open R6 R7
namespace R8
theorem s16_pre {ns ms : List Node} (h : Wf ns) (hp : ns <+: ms) {lv : Nat} {n : Int} (hn : IsN ns (lv + 2) n) : s16 ms n = s16 ns n := by
 obtain ⟨a, b, c, d⟩ := kids4 h hn
 unfold s16
 rw [nd_pre hp hn.1, nd_pre hp a.1, nd_pre hp b.1, nd_pre hp c.1, nd_pre hp d.1]
theorem putSq_again {ns : List Node} {room : Int} {lv : Nat} (hl : lv + 1 ≤ 42) (h : Wf ns) {l : List Int} (hi : ∀ i : Int, 0 ≤ i → i < 16 → IsN ns lv (g l i)) {y x m : Int} (hy : 0 ≤ y ∧ y ≤ 2) (hx : 0 ≤ x ∧ x ≤ 2) (hm : IsSq ns lv l y x m) : putSq ns room l y x = (ns, m, 0) :=
 put_again h (fit4_of hl (hi (4 * y + x) (by omega) (by omega)) (hi (4 * y + x + 1) (by omega) (by omega)) (hi (4 * y + x + 4) (by omega) (by omega)) (hi (4 * y + x + 5) (by omega) (by omega))) hm.is.1 (by rw [hm.is.2]; omega) hm.kids
theorem nine_again {ns : List Node} {room n : Int} {lv : Nat} (h : R6.right ns room) (hn : IsN ns (lv + 2) n) {q0 q1 q2 q3 q4 q5 q6 q7 q8 : Int} (s0 : IsSq ns lv (s16 ns n) 0 0 q0) (s1 : IsSq ns lv (s16 ns n) 0 1 q1) (s2 : IsSq ns lv (s16 ns n) 0 2 q2) (s3 : IsSq ns lv (s16 ns n) 1 0 q3) (s4 : IsSq ns lv (s16 ns n) 1 1 q4) (s5 : IsSq ns lv (s16 ns n) 1 2 q5) (s6 : IsSq ns lv (s16 ns n) 2 0 q6) (s7 : IsSq ns lv (s16 ns n) 2 1 q7) (s8 : IsSq ns lv (s16 ns n) 2 2 q8) :
  nine ns room n = (ns, [q0, q1, q2, q3, q4, q5, q6, q7, q8], 0) := by
 have hw := (right_iff.1 h).2
 have hlv := (hw.lvb hn.1).2
 rw [hn.2] at hlv
 have hi := s16_is hw hn
 have hb : lv + 1 ≤ 42 := by omega
 unfold nine
 rw [if_pos ⟨h, hn.1, by rw [hn.2]; omega⟩]
 unfold all
 have e := fun {y x m : Int} (hy : 0 ≤ y ∧ y ≤ 2) (hx : 0 ≤ x ∧ x ≤ 2) (hm : IsSq ns lv (s16 ns n) y x m) => putSq_again (room := room) hb hw hi hy hx hm
 simp only [e (by omega) (by omega) s0, e (by omega) (by omega) s1, e (by omega) (by omega) s2, e (by omega) (by omega) s3, e (by omega) (by omega) s4, e (by omega) (by omega) s5, e (by omega) (by omega) s6, e (by omega) (by omega) s7, e (by omega) (by omega) s8]
 simp
end R8
namespace RL
open R8
end RL
end Go.GL


namespace Go.GL
open R6 R7
namespace R7
def kid (ns : List Node) (n j : Int) : Int := (nd ns n).kids.getD j.toNat default
theorem al_kid (ns : List Node) {lv : Nat} {n x y : Int} (hq : inQ lv x y) {a b : Int} (ha : a = 0 ∨ a = 1) (hb : b = 0 ∨ b = 1) : al ns (lv + 1) n (x + a * 2 ^ lv) (y + b * 2 ^ lv) = al ns lv (kid ns n (2 * b + a)) x y := by
 unfold inQ at hq
 simp only [al]
 rcases ha with rfl | rfl <;> rcases hb with rfl | rfl <;> simp only [Int.zero_mul, Int.one_mul, Int.add_zero]
 ·rw [if_pos (by omega), if_pos (by omega)]; rfl
 ·rw [if_neg (by omega), if_pos (by omega), show y + 2 ^ lv - 2 ^ lv = y by omega]; rfl
 ·rw [if_pos (by omega), if_neg (by omega), show x + 2 ^ lv - 2 ^ lv = x by omega]; rfl
 ·rw [if_neg (by omega), if_neg (by omega), show x + 2 ^ lv - 2 ^ lv = x by omega, show y + 2 ^ lv - 2 ^ lv = y by omega]; rfl
end R7
namespace R8
theorem g_kid (ns : List Node) (n : Int) {a b c d : Int} (ha : a = 0 ∨ a = 1) (hb : b = 0 ∨ b = 1) (hc : c = 0 ∨ c = 1) (hd : d = 0 ∨ d = 1) : g (s16 ns n) (4 * (2 * b + d) + (2 * a + c)) = kid ns (kid ns n (2 * b + a)) (2 * d + c) := by
 rcases ha with rfl | rfl <;> rcases hb with rfl | rfl <;> rcases hc with rfl | rfl <;> rcases hd with rfl | rfl <;> rfl
theorem al16 (ns : List Node) {lv : Nat} {n x y : Int} (hq : inQ lv x y) {X Y : Int} (hX : 0 ≤ X ∧ X ≤ 3) (hY : 0 ≤ Y ∧ Y ≤ 3) : al ns (lv + 2) n (x + X * 2 ^ lv) (y + Y * 2 ^ lv) = al ns lv (g (s16 ns n) (4 * Y + X)) x y := by
 obtain ⟨a, c, ha, hc, rfl⟩ : ∃ a c : Int, (a = 0 ∨ a = 1) ∧ (c = 0 ∨ c = 1) ∧ X = 2 * a + c := ⟨X / 2, X % 2, by omega, by omega, by omega⟩
 obtain ⟨b, d, hb, hd, rfl⟩ : ∃ b d : Int, (b = 0 ∨ b = 1) ∧ (d = 0 ∨ d = 1) ∧ Y = 2 * b + d := ⟨Y / 2, Y % 2, by omega, by omega, by omega⟩
 rw [g_kid ns n ha hb hc hd, ← al_kid ns hq hc hd]
 have hq2 : inQ (lv + 1) (x + c * 2 ^ lv) (y + d * 2 ^ lv) := by
  unfold inQ at *
  rw [p2s]
  rcases hc with rfl | rfl <;> rcases hd with rfl | rfl <;> omega
 rw [← al_kid ns hq2 ha hb, p2s]
 congr 1
 ·rcases ha with rfl | rfl <;> rcases hc with rfl | rfl <;> omega
 ·rcases hb with rfl | rfl <;> rcases hd with rfl | rfl <;> omega
theorem IsSq.kid {ms : List Node} {lv : Nat} {l : List Int} {y x m : Int} (h : IsSq ms lv l y x m) {a b : Int} (ha : a = 0 ∨ a = 1) (hb : b = 0 ∨ b = 1) : R7.kid ms m (2 * b + a) = g l (4 * (y + b) + (x + a)) := by
 unfold R7.kid
 rw [h.kids]
 unfold sqK
 rcases ha with rfl | rfl <;> rcases hb with rfl | rfl
 ·show g l (4 * y + x) = _; congr 1; omega
 ·show g l (4 * y + x + 4) = _; congr 1; omega
 ·show g l (4 * y + x + 1) = _; congr 1; omega
 ·show g l (4 * y + x + 5) = _; congr 1; omega
end R8
namespace RL
open R8
/-- The square's cells are the raw set. -/
theorem Sq.mem {c : Int} {nodes : List Five} {raw : List Cell} {level : Int} {lv : Nat} {ms : List Node} {m : Int} (h : Sq c nodes raw level lv ms m) (d : Cell) : d ∈ R7.of ms m ↔ d ∈ set raw := by
 rw [mem_of h.wf h.is]
 constructor
 ·rintro ⟨h1, h2⟩
  rw [h.sem d h1] at h2
  simpa using h2
 ·intro hd
  have h8 := p8 (lv := lv) h.lv3.1
  have hb := mem_set hd
  have hin : inL ((lv + 1 : Nat) : Int) d := by unfold inL; rw [side_succ]; omega
  exact ⟨hin, by rw [h.sem d hin]; simpa using hd⟩
end RL
end Go.GL


namespace Go.GL
open R6 R7
/-! ### A leap stands for what stands in the middle behind so many generations -/
namespace R9
/-- One generation of all cells. -/
def gen (f : Int → Int → Bool) : Int → Int → Bool := fun x y => R8.nx f y x
def gens : Nat → (Int → Int → Bool) → Int → Int → Bool
 | 0, f => f
 | m + 1, f => gens m (gen f)
theorem gens_add : ∀ (a b : Nat) (f : Int → Int → Bool), gens (a + b) f = gens b (gens a f)
 | 0, b, f => by rw [Nat.zero_add]; rfl
 | a + 1, b, f => by
  rw [show a + 1 + b = (a + b) + 1 by omega]
  show gens (a + b) (gen f) = gens b (gens a (gen f))
  exact gens_add a b (gen f)
/-- A node stands for a part of the plane. -/
def Std (ns : List Node) (lv : Nat) (n : Int) (f : Int → Int → Bool) (ox oy : Int) : Prop := IsN ns lv n ∧ ∀ x y, inQ lv x y → al ns lv n x y = f (x + ox) (y + oy)
theorem Std.pre {ns ms : List Node} (h : Wf ns) (hp : ns <+: ms) {lv : Nat} {n : Int} {f : Int → Int → Bool} {ox oy : Int} (hs : Std ns lv n f ox oy) : Std ms lv n f ox oy :=
 ⟨hs.1.pre hp, fun x y hq => by rw [al_pre h hp lv n x y hs.1]; exact hs.2 x y hq⟩
theorem Std.back {ns ms : List Node} (h : Wf ns) (hp : ns <+: ms) {lv : Nat} {n : Int} {f : Int → Int → Bool} {ox oy : Int} (hn : IsN ns lv n) (hs : Std ms lv n f ox oy) : Std ns lv n f ox oy :=
 ⟨hn, fun x y hq => by rw [← al_pre h hp lv n x y hn]; exact hs.2 x y hq⟩
theorem Std.self {ns : List Node} {lv : Nat} {n : Int} (hn : IsN ns lv n) : Std ns lv n (al ns lv n) 0 0 := ⟨hn, fun x y _ => by rw [Int.add_zero, Int.add_zero]⟩
theorem Std.at {ns : List Node} {lv : Nat} {n : Int} {f : Int → Int → Bool} {ox oy ox' oy' : Int} (h : Std ns lv n f ox oy) (hx : ox = ox') (hy : oy = oy') : Std ns lv n f ox' oy' := by
 subst hx
 subst hy
 exact h
/-- Four that stand side by side. -/
theorem std_put {ns : List Node} (h : Wf ns) {room q0 q1 q2 q3 : Int} {lv : Nat} {f : Int → Int → Bool} {ox oy : Int} (h0 : Std ns lv q0 f ox oy) (h1 : Std ns lv q1 f (ox + 2 ^ lv) oy) (h2 : Std ns lv q2 f ox (oy + 2 ^ lv)) (h3 : Std ns lv q3 f (ox + 2 ^ lv) (oy + 2 ^ lv)) (he : (put ns room q0 q1 q2 q3).2.2 = 0) :
  Std (put ns room q0 q1 q2 q3).1 (lv + 1) (put ns room q0 q1 q2 q3).2.1 f ox oy := by
 have hf : fit4 ns q0 q1 q2 q3 := Decidable.byContradiction fun hf => by
  unfold put at he; rw [if_neg hf] at he; cases he
 have hr : 0 ≤ R6.at_ ns [q0, q1, q2, q3] ∨ (ns.length : Int) < room := Decidable.byContradiction fun hr => by
  unfold put at he
  rw [if_pos hf, if_neg (by omega), if_pos (by omega)] at he
  cases he
 obtain ⟨ms, m, e, ok⟩ := put_ok h hf hr
 rw [e]
 refine ⟨⟨ok.mem, by rw [ok.lv, h0.1.2]; omega⟩, fun x y hq => ?_⟩
 have hk := ok.nd
 show al ms (lv + 1) m x y = _
 simp only [al]
 rw [hk]
 show (if y < 2 ^ lv then (if x < 2 ^ lv then al ms lv q0 x y else al ms lv q1 (x - 2 ^ lv) y) else (if x < 2 ^ lv then al ms lv q2 x (y - 2 ^ lv) else al ms lv q3 (x - 2 ^ lv) (y - 2 ^ lv))) = _
 obtain ⟨a, b, c, d⟩ := inQ_succ hq
 by_cases hy : y < 2 ^ lv
 ·rw [if_pos hy]
  by_cases hx : x < 2 ^ lv
  ·rw [if_pos hx, al_pre h ok.pre lv _ _ _ h0.1, h0.2 _ _ (a hy hx)]
  ·rw [if_neg hx, al_pre h ok.pre lv _ _ _ h1.1, h1.2 _ _ (b hy hx)]
   congr 1
   omega
 ·rw [if_neg hy]
  by_cases hx : x < 2 ^ lv
  ·rw [if_pos hx, al_pre h ok.pre lv _ _ _ h2.1, h2.2 _ _ (c hy hx)]
   congr 1
   omega
  ·rw [if_neg hx, al_pre h ok.pre lv _ _ _ h3.1, h3.2 _ _ (d hy hx)]
   congr 1 <;> omega
/-- The sixteen. -/
theorem std_s16 {ns : List Node} (h : Wf ns) {lv : Nat} {n : Int} {f : Int → Int → Bool} {ox oy : Int} (hs : Std ns (lv + 2) n f ox oy) {X Y : Int} (hX : 0 ≤ X ∧ X ≤ 3) (hY : 0 ≤ Y ∧ Y ≤ 3) : Std ns lv (R8.g (R8.s16 ns n) (4 * Y + X)) f (ox + X * 2 ^ lv) (oy + Y * 2 ^ lv) := by
 refine ⟨s16_isN h hs.1 _ (by omega) (by omega), fun x y hq => ?_⟩
 rw [← R8.al16 ns hq hX hY, hs.2 _ _ ?_]
 ·congr 1 <;> omega
 ·unfold inQ at *
  have hpos := p2pos lv
  rw [p2s, p2s]
  have e0 : X = 0 ∨ X = 1 ∨ X = 2 ∨ X = 3 := by omega
  have e1 : Y = 0 ∨ Y = 1 ∨ Y = 2 ∨ Y = 3 := by omega
  rcases e0 with rfl | rfl | rfl | rfl <;> rcases e1 with rfl | rfl | rfl | rfl <;> omega
/-- A square of the sixteen. -/
theorem std_sq {ns ms : List Node} (h : Wf ns) (hm : Wf ms) (hp : ns <+: ms) {room : Int} {lv : Nat} {n : Int} {f : Int → Int → Bool} {ox oy : Int} (hs : Std ns (lv + 2) n f ox oy) {y x : Int} (hy : 0 ≤ y ∧ y ≤ 2) (hx : 0 ≤ x ∧ x ≤ 2) (he : (R8.putSq ms room (R8.s16 ns n) y x).2.2 = 0) :
  Std (R8.putSq ms room (R8.s16 ns n) y x).1 (lv + 1) (R8.putSq ms room (R8.s16 ns n) y x).2.1 f (ox + x * 2 ^ lv) (oy + y * 2 ^ lv) := by
 have k := fun {X Y : Int} (hX : 0 ≤ X ∧ X ≤ 3) (hY : 0 ≤ Y ∧ Y ≤ 3) => (std_s16 h hs hX hY).pre h hp
 unfold R8.putSq at he ⊢
 have k1 := k (X := x + 1) (Y := y) (by omega) (by omega)
 have k2 := k (X := x) (Y := y + 1) (by omega) (by omega)
 have k3 := k (X := x + 1) (Y := y + 1) (by omega) (by omega)
 rw [show 4 * y + (x + 1) = 4 * y + x + 1 by omega] at k1
 rw [show 4 * (y + 1) + x = 4 * y + x + 4 by omega] at k2
 rw [show 4 * (y + 1) + (x + 1) = 4 * y + x + 5 by omega] at k3
 rw [Int.add_mul, Int.one_mul, ← Int.add_assoc] at k1 k2 k3
 refine std_put hm (k (by omega) (by omega)) k1 k2 ?_ he
 rw [Int.add_mul, Int.one_mul, ← Int.add_assoc] at k3
 exact k3
theorem midS_std {room : Int} {s : LS} (h : Lk room s) {lv : Nat} {n : Int} {f : Int → Int → Bool} {ox oy : Int} (hs : Std s.ns (lv + 2) n f ox oy) (he : (midS room s n).2.2 = 0) : Std (midS room s n).1.ns (lv + 1) (midS room s n).2.1 f (ox + 2 ^ lv) (oy + 2 ^ lv) := by
 have := std_sq (room := room) h.wf h.wf (List.prefix_refl _) hs (y := 1) (x := 1) (by omega) (by omega) he
 rw [Int.one_mul] at this
 exact this
theorem gen_at (f : Int → Int → Bool) (ox oy x y : Int) : R8.nx (fun a b => f (a + ox) (b + oy)) y x = gen f (x + ox) (y + oy) := by
 unfold gen R8.nx R8.cnt
 dsimp only
 rw [show x - 1 + ox = x + ox - 1 by omega, show y - 1 + oy = y + oy - 1 by omega, show x + 1 + ox = x + ox + 1 by omega, show y + 1 + oy = y + oy + 1 by omega]
theorem std_b2i {ns : List Node} (h : Wf ns) {b : Bool} {f : Int → Int → Bool} {ox oy : Int} (he : f ox oy = b) : Std ns 0 (R8.b2i b) f ox oy := by
 refine ⟨R8.isN_b2i h b, fun x y hq => ?_⟩
 unfold inQ at hq
 have e1 : x = 0 := by have := hq.2.1; simp at this; omega
 have e2 : y = 0 := by have := hq.2.2.2; simp at this; omega
 subst e1
 subst e2
 rw [Int.zero_add, Int.zero_add, he]
 exact R8.b2i_one b
theorem oneS_std {room : Int} {s : LS} (h : Lk room s) {n : Int} {f : Int → Int → Bool} {ox oy : Int} (hs : Std s.ns 2 n f ox oy) (he : (oneS room s n).2.2 = 0) : Std (oneS room s n).1.ns 1 (oneS room s n).2.1 (gen f) (ox + 1) (oy + 1) := by
 have key : ∀ x y : Int, 1 ≤ x ∧ x ≤ 2 → 1 ≤ y ∧ y ≤ 2 → R8.bit (R8.s16 s.ns n) y x = R8.b2i (gen f (x + ox) (y + oy)) := fun x y hx hy => by
  rw [R8.bit_nx h.wf hs.1 hx hy, ← gen_at]
  congr 1
  refine R8.nx_congr (fun a b ha hb => hs.2 a b ?_) hx hy
  unfold inQ
  have : (2 : Int) ^ 2 = 4 := rfl
  omega
 have he2 : (R6.put s.ns room (R8.bit (R8.s16 s.ns n) 1 1) (R8.bit (R8.s16 s.ns n) 1 2) (R8.bit (R8.s16 s.ns n) 2 1) (R8.bit (R8.s16 s.ns n) 2 2)).2.2 = 0 := he
 show Std (R6.put s.ns room (R8.bit (R8.s16 s.ns n) 1 1) (R8.bit (R8.s16 s.ns n) 1 2) (R8.bit (R8.s16 s.ns n) 2 1) (R8.bit (R8.s16 s.ns n) 2 2)).1 1 (R6.put s.ns room (R8.bit (R8.s16 s.ns n) 1 1) (R8.bit (R8.s16 s.ns n) 1 2) (R8.bit (R8.s16 s.ns n) 2 1) (R8.bit (R8.s16 s.ns n) 2 2)).2.1 _ _ _
 rw [key 1 1 (by omega) (by omega), key 2 1 (by omega) (by omega), key 1 2 (by omega) (by omega), key 2 2 (by omega) (by omega)] at he2 ⊢
 have p0 : (2 : Int) ^ 0 = 1 := rfl
 refine std_put h.wf (lv := 0) (std_b2i h.wf ?_) (std_b2i h.wf ?_) (std_b2i h.wf ?_) (std_b2i h.wf ?_) he2
 ·congr 1 <;> omega
 ·rw [p0]; congr 1 <;> omega
 ·rw [p0]; congr 1 <;> omega
 ·rw [p0]; congr 1 <;> omega
end R9
end Go.GL


namespace Go.GL
open R6 R7
namespace R9
/-- The nine. -/
theorem all_std {ns : List Node} {room : Int} (h : R6.right ns room) {lv : Nat} {n : Int} {f : Int → Int → Bool} {ox oy : Int} (hs : Std ns (lv + 2) n f ox oy) (he : (R8.all ns room n).2.2 = 0) :
  ∀ i : Nat, i < 9 → Std (R8.all ns room n).1 (lv + 1) ((R8.all ns room n).2.1.getD i default) f (ox + ((i % 3 : Nat) : Int) * 2 ^ lv) (oy + ((i / 3 : Nat) : Int) * 2 ^ lv) := by
 have hw := (right_iff.1 h).2
 unfold R8.all at he ⊢
 dsimp only at he ⊢
 have key := fun {ms : List Node} (hr : R6.right ms room) (hp : ns <+: ms) {y x : Int} (hy : 0 ≤ y ∧ y ≤ 2) (hx : 0 ≤ x ∧ x ≤ 2) (he : (R8.putSq ms room (R8.s16 ns n) y x).2.2 = 0) => std_sq (room := room) hw (right_iff.1 hr).2 hp hs hy hx he
 have kr := fun {ms : List Node} (hr : R6.right ms room) (y x : Int) => right_put hr (R8.g (R8.s16 ns n) (4 * y + x)) (R8.g (R8.s16 ns n) (4 * y + x + 1)) (R8.g (R8.s16 ns n) (4 * y + x + 4)) (R8.g (R8.s16 ns n) (4 * y + x + 5))
 have kr : ∀ {ms : List Node}, R6.right ms room → ∀ y x : Int, R6.right (R8.putSq ms room (R8.s16 ns n) y x).1 room ∧ ms <+: (R8.putSq ms room (R8.s16 ns n) y x).1 := fun hr y x => kr hr y x
 generalize R8.s16 ns n = l at *
 by_cases e0 : (R8.putSq ns room l 0 0).2.2 = 0
 case neg => rw [if_pos e0] at he; exact absurd he e0
 rw [if_neg (by simpa using e0)] at he ⊢
 have i0 := key h (List.prefix_refl _) (by omega) (by omega) e0
 obtain ⟨r0, p0⟩ := kr h 0 0
 generalize R8.putSq ns room l 0 0 = P0 at *
 by_cases e1 : (R8.putSq P0.1 room l 0 1).2.2 = 0
 case neg => rw [if_pos e1] at he; exact absurd he e1
 rw [if_neg (by simpa using e1)] at he ⊢
 have i1 := key r0 p0 (by omega) (by omega) e1
 obtain ⟨r1, p1⟩ := kr r0 0 1
 generalize R8.putSq P0.1 room l 0 1 = P1 at *
 have t1 := p0.trans p1
 by_cases e2 : (R8.putSq P1.1 room l 0 2).2.2 = 0
 case neg => rw [if_pos e2] at he; exact absurd he e2
 rw [if_neg (by simpa using e2)] at he ⊢
 have i2 := key r1 t1 (by omega) (by omega) e2
 obtain ⟨r2, p2⟩ := kr r1 0 2
 generalize R8.putSq P1.1 room l 0 2 = P2 at *
 have t2 := t1.trans p2
 by_cases e3 : (R8.putSq P2.1 room l 1 0).2.2 = 0
 case neg => rw [if_pos e3] at he; exact absurd he e3
 rw [if_neg (by simpa using e3)] at he ⊢
 have i3 := key r2 t2 (by omega) (by omega) e3
 obtain ⟨r3, p3⟩ := kr r2 1 0
 generalize R8.putSq P2.1 room l 1 0 = P3 at *
 have t3 := t2.trans p3
 by_cases e4 : (R8.putSq P3.1 room l 1 1).2.2 = 0
 case neg => rw [if_pos e4] at he; exact absurd he e4
 rw [if_neg (by simpa using e4)] at he ⊢
 have i4 := key r3 t3 (by omega) (by omega) e4
 obtain ⟨r4, p4⟩ := kr r3 1 1
 generalize R8.putSq P3.1 room l 1 1 = P4 at *
 have t4 := t3.trans p4
 by_cases e5 : (R8.putSq P4.1 room l 1 2).2.2 = 0
 case neg => rw [if_pos e5] at he; exact absurd he e5
 rw [if_neg (by simpa using e5)] at he ⊢
 have i5 := key r4 t4 (by omega) (by omega) e5
 obtain ⟨r5, p5⟩ := kr r4 1 2
 generalize R8.putSq P4.1 room l 1 2 = P5 at *
 have t5 := t4.trans p5
 by_cases e6 : (R8.putSq P5.1 room l 2 0).2.2 = 0
 case neg => rw [if_pos e6] at he; exact absurd he e6
 rw [if_neg (by simpa using e6)] at he ⊢
 have i6 := key r5 t5 (by omega) (by omega) e6
 obtain ⟨r6, p6⟩ := kr r5 2 0
 generalize R8.putSq P5.1 room l 2 0 = P6 at *
 have t6 := t5.trans p6
 by_cases e7 : (R8.putSq P6.1 room l 2 1).2.2 = 0
 case neg => rw [if_pos e7] at he; exact absurd he e7
 rw [if_neg (by simpa using e7)] at he ⊢
 have i7 := key r6 t6 (by omega) (by omega) e7
 obtain ⟨r7, p7⟩ := kr r6 2 1
 generalize R8.putSq P6.1 room l 2 1 = P7 at *
 have t7 := t6.trans p7
 by_cases e8 : (R8.putSq P7.1 room l 2 2).2.2 = 0
 case neg => rw [if_pos e8] at he; exact absurd he e8
 rw [if_neg (by simpa using e8)] at he ⊢
 have i8 := key r7 t7 (by omega) (by omega) e8
 obtain ⟨r8, p8⟩ := kr r7 2 2
 generalize R8.putSq P7.1 room l 2 2 = P8 at *
 have w0 := (right_iff.1 r0).2
 have w1 := (right_iff.1 r1).2
 have w2 := (right_iff.1 r2).2
 have w3 := (right_iff.1 r3).2
 have w4 := (right_iff.1 r4).2
 have w5 := (right_iff.1 r5).2
 have w6 := (right_iff.1 r6).2
 have w7 := (right_iff.1 r7).2
 intro i hi
 match i, hi with
 | 0, _ => exact i0.pre w0 (((((((p1.trans p2).trans p3).trans p4).trans p5).trans p6).trans p7).trans p8)
 | 1, _ => exact i1.pre w1 ((((((p2.trans p3).trans p4).trans p5).trans p6).trans p7).trans p8)
 | 2, _ => exact i2.pre w2 (((((p3.trans p4).trans p5).trans p6).trans p7).trans p8)
 | 3, _ => exact i3.pre w3 ((((p4.trans p5).trans p6).trans p7).trans p8)
 | 4, _ => exact i4.pre w4 (((p5.trans p6).trans p7).trans p8)
 | 5, _ => exact i5.pre w5 ((p6.trans p7).trans p8)
 | 6, _ => exact i6.pre w6 (p7.trans p8)
 | 7, _ => exact i7.pre w7 p8
 | 8, _ => exact i8
/-- What is kept is true. -/
def MS (s : LS) : Prop := ∀ p ∈ s.mm, ∃ k : Nat, (0 ≤ p.2.1 ∧ p.2.1 ≤ k) ∧ IsN s.ns (k + 2) p.1 ∧ IsN s.ns (k + 1) p.2.2 ∧ ∀ f ox oy, Std s.ns (k + 2) p.1 f ox oy → Std s.ns (k + 1) p.2.2 (gens (2 ^ p.2.1.toNat) f) (ox + 2 ^ k) (oy + 2 ^ k)
theorem MS.pre {s : LS} {ms : List Node} (hw : Wf s.ns) (h : MS s) (hp : s.ns <+: ms) : MS ⟨ms, s.mm⟩ := fun p hm => by
 obtain ⟨k, h1, h2, h3, h4⟩ := h p hm
 exact ⟨k, h1, h2.pre hp, h3.pre hp, fun f ox oy hs => (h4 f ox oy (hs.back hw hp h2)).pre hw hp⟩
theorem mapS_std {room : Int} {f : LS → Int → L9} (C D : Nat → List Node → Int → Prop) (hC : ∀ i ns ms q, Wf ns → ns <+: ms → C i ns q → C i ms q) (hD : ∀ i ns ms q, Wf ns → ns <+: ms → D i ns q → D i ms q)
  (hf : ∀ i s q, Lk room s → MS s → C i s.ns q → (f s q).2.2 = 0 → Lk room (f s q).1 ∧ s.ns <+: (f s q).1.ns ∧ MS (f s q).1 ∧ D i (f s q).1.ns (f s q).2.1) : ∀ (qs : List Int) (b : Nat) (s : LS), Lk room s → MS s → (∀ i, i < qs.length → C (b + i) s.ns (qs.getD i default)) → (mapS f s qs).2.2 = 0 →
  Lk room (mapS f s qs).1 ∧ s.ns <+: (mapS f s qs).1.ns ∧ MS (mapS f s qs).1 ∧ (mapS f s qs).2.1.length = qs.length ∧ ∀ i, i < qs.length → D (b + i) (mapS f s qs).1.ns ((mapS f s qs).2.1.getD i default)
 | [], b, s, h, hm, _, _ => ⟨h, List.prefix_refl _, hm, rfl, fun i hi => absurd hi (Nat.not_lt_zero _)⟩
 | q :: qs, b, s, h, hm, hq, he => by
  unfold mapS at he ⊢
  by_cases h0 : (f s q).2.2 = 0
  ·rw [if_neg (by simpa using h0)] at he ⊢
   obtain ⟨g1, g2, g3, g4⟩ := hf b s q h hm (hq 0 (by simp)) h0
   obtain ⟨a1, a2, a3, a4, a5⟩ := mapS_std C D hC hD hf qs (b + 1) (f s q).1 g1 g3 (fun i hi => hC _ _ _ _ h.wf g2 (by
    have := hq (i + 1) (by simp only [List.length_cons]; omega)
    rw [show b + 1 + i = b + (i + 1) by omega]
    exact this)) he
   refine ⟨a1, g2.trans a2, a3, by simp [a4], fun i hi => ?_⟩
   cases i with
   | zero => exact hD _ _ _ _ g1.wf a2 g4
   | succ i =>
    have := a5 i (by simp only [List.length_cons] at hi; omega)
    rw [show b + (i + 1) = b + 1 + i by omega]
    exact this
  ·rw [if_pos h0] at he
   exact absurd he h0
/-- What a leap that is right does. -/
def LpOk (room : Int) (k : Nat) (lp : LS → Int → Int → L9) : Prop := ∀ s q j, Lk room s → MS s → IsN s.ns (k + 2) q → 0 ≤ j ∧ j ≤ (k : Int) → (lp s q j).2.2 = 0 →
 Lk room (lp s q j).1 ∧ s.ns <+: (lp s q j).1.ns ∧ MS (lp s q j).1 ∧ ∀ f ox oy, Std s.ns (k + 2) q f ox oy → Std (lp s q j).1.ns (k + 1) (lp s q j).2.1 (gens (2 ^ j.toNat) f) (ox + 2 ^ k) (oy + 2 ^ k)
theorem p2s' (k : Nat) : (2 : Int) ^ (k + 1) = 2 * 2 ^ k := by rw [p2s]; omega
theorem half_std {room : Int} {k : Nat} {lp : LS → Int → Int → L9} (hlp : LpOk room k lp) {full : Bool} {s : LS} {n j : Int} {f : Int → Int → Bool} {ox oy : Int} (h : Lk room s) (hm : MS s) (hs : Std s.ns (k + 3) n f ox oy) (hj : full = true → j = k + 1) (he : (half lp room full s n j).2.2 = 0) :
  Lk room (half lp room full s n j).1 ∧ s.ns <+: (half lp room full s n j).1.ns ∧ MS (half lp room full s n j).1 ∧ (half lp room full s n j).2.1.length = 9 ∧ ∀ i : Nat, i < 9 → Std (half lp room full s n j).1.ns (k + 1) ((half lp room full s n j).2.1.getD i default) (if full = true then gens (2 ^ k) f else f) (ox + ((i % 3 : Nat) : Int) * 2 ^ (k + 1) + 2 ^ k) (oy + ((i / 3 : Nat) : Int) * 2 ^ (k + 1) + 2 ^ k) := by
 unfold half at he ⊢
 by_cases e0 : (R8.all s.ns room n).2.2 = 0
 case neg => rw [if_pos e0] at he; exact absurd he e0
 rw [if_neg (by simpa using e0)] at he ⊢
 obtain ⟨r0, p0, l0, _⟩ := all_gd h.right hs.1 e0
 have hall := all_std h.right hs e0
 obtain ⟨m1, m2, m3, m4, m5⟩ := mapS_std (room := room) (f := halfF lp room full j) (fun i ns q => Std ns (k + 2) q f (ox + ((i % 3 : Nat) : Int) * 2 ^ (k + 1)) (oy + ((i / 3 : Nat) : Int) * 2 ^ (k + 1)))
  (fun i ns q => Std ns (k + 1) q (if full = true then gens (2 ^ k) f else f) (ox + ((i % 3 : Nat) : Int) * 2 ^ (k + 1) + 2 ^ k) (oy + ((i / 3 : Nat) : Int) * 2 ^ (k + 1) + 2 ^ k))
  (fun i ns ms q hw hp hq => hq.pre hw hp) (fun i ns ms q hw hp hq => hq.pre hw hp) (fun i t q ht hmt hq he => by
   unfold halfF at he ⊢
   cases full
   ·have he : (midS room t q).2.2 = 0 := he
    show Lk room (midS room t q).1 ∧ t.ns <+: (midS room t q).1.ns ∧ MS (midS room t q).1 ∧ Std (midS room t q).1.ns (k + 1) (midS room t q).2.1 f _ _
    have g := midS_gd ht hq.1 he
    exact ⟨g.lk, g.pre, hmt.pre ht.wf g.pre, midS_std ht hq he⟩
   ·have hj1 : j - 1 = (k : Int) := by have := hj rfl; omega
    have he : (lp t q (j - 1)).2.2 = 0 := he
    show Lk room (lp t q (j - 1)).1 ∧ t.ns <+: (lp t q (j - 1)).1.ns ∧ MS (lp t q (j - 1)).1 ∧ Std (lp t q (j - 1)).1.ns (k + 1) (lp t q (j - 1)).2.1 (gens (2 ^ k) f) _ _
    rw [hj1] at he ⊢
    obtain ⟨g1, g2, g3, g4⟩ := hlp t q k ht hmt hq.1 ⟨by omega, by omega⟩ he
    exact ⟨g1, g2, g3, g4 _ _ _ hq⟩) (R8.all s.ns room n).2.1 0 ⟨(R8.all s.ns room n).1, s.mm⟩ ⟨r0, h.mem.pre p0⟩ (hm.pre h.wf p0) (fun i hi => by rw [Nat.zero_add]; exact hall i (by omega)) he
 exact ⟨m1, p0.trans m2, m3, by rw [m4, l0], fun i hi => by have := m5 i (by omega); rwa [Nat.zero_add] at this⟩
theorem far_std {room : Int} {k : Nat} {lp : LS → Int → Int → L9} (hlp : LpOk room k lp) {s : LS} {n j : Int} {f : Int → Int → Bool} {ox oy : Int} (h : Lk room s) (hm : MS s) (hs : Std s.ns (k + 3) n f ox oy) (hj : 0 ≤ j ∧ j ≤ (k : Int) + 1) (he : (far lp room (decide (j = k + 1)) s n j).2.2 = 0) :
  MS (far lp room (decide (j = k + 1)) s n j).1 ∧ Std (far lp room (decide (j = k + 1)) s n j).1.ns (k + 2) (far lp room (decide (j = k + 1)) s n j).2.1 (gens (2 ^ j.toNat) f) (ox + 2 ^ (k + 1)) (oy + 2 ^ (k + 1)) := by
 obtain ⟨full, hfull⟩ : ∃ full, decide (j = (k : Int) + 1) = full := ⟨_, rfl⟩
 have hf1 : full = true → j = k + 1 := fun e => by rw [e] at hfull; exact of_decide_eq_true hfull
 have hf2 : ¬ full = true → j ≤ k := fun e => by
  have : full = false := by simpa using e
  rw [this] at hfull
  have := of_decide_eq_false hfull
  omega
 rw [hfull] at he ⊢
 unfold far at he ⊢
 have hpk := p2s' k
 refine bindM_gd (P := fun r => MS r.1 ∧ Std r.1.ns (k + 2) r.2.1 _ _ _) he fun e1 he => ?_
 obtain ⟨r1, p1, n1, l1, i1⟩ := half_std (full := full) hlp h hm hs hf1 e1
 generalize half lp room full s n j = R1 at *
 generalize hF1 : (if full = true then gens (2 ^ k) f else f) = f1 at *
 refine bindM_gd (P := fun r => MS r.1 ∧ Std r.1.ns (k + 2) r.2.1 _ _ _) he fun e2 he => ?_
 obtain ⟨r2, p2, n2, l2, i2⟩ := mapS_std (room := room) (f := fourP room R1.2.1) (fun i ns q => q = ((3 * (i / 2) + i % 2 : Nat) : Int) ∧ i < 4 ∧ ∀ i' : Nat, i' < 9 → Std ns (k + 1) (R1.2.1.getD i' default) f1 (ox + ((i' % 3 : Nat) : Int) * 2 ^ (k + 1) + 2 ^ k) (oy + ((i' / 3 : Nat) : Int) * 2 ^ (k + 1) + 2 ^ k))
  (fun i ns q => Std ns (k + 2) q f1 (ox + ((i % 2 : Nat) : Int) * 2 ^ (k + 1) + 2 ^ k) (oy + ((i / 2 : Nat) : Int) * 2 ^ (k + 1) + 2 ^ k))
  (fun i ns ms q hw hp hq => ⟨hq.1, hq.2.1, fun i' hi' => (hq.2.2 i' hi').pre hw hp⟩) (fun i ns ms q hw hp hq => hq.pre hw hp) (fun i t q ht hmt hq he => by
   obtain ⟨rfl, hi4, hst⟩ := hq
   have he2 : (put t.ns room (R8.g R1.2.1 ((3 * (i / 2) + i % 2 : Nat) : Int)) (R8.g R1.2.1 (((3 * (i / 2) + i % 2 : Nat) : Int) + 1)) (R8.g R1.2.1 (((3 * (i / 2) + i % 2 : Nat) : Int) + 3)) (R8.g R1.2.1 (((3 * (i / 2) + i % 2 : Nat) : Int) + 4))).2.2 = 0 := he
   have g := putS_gd ht (hst (3 * (i / 2) + i % 2) (by omega)).1 he
   refine ⟨g.lk, g.pre, hmt.pre ht.wf g.pre, ?_⟩
   have h0 := hst (3 * (i / 2) + i % 2) (by omega)
   have h1 := hst (3 * (i / 2) + i % 2 + 1) (by omega)
   have h2 := hst (3 * (i / 2) + i % 2 + 3) (by omega)
   have h3 := hst (3 * (i / 2) + i % 2 + 4) (by omega)
   refine std_put ht.wf (h0.at ?_ ?_) (h1.at ?_ ?_) (h2.at ?_ ?_) (h3.at ?_ ?_) he2
   all_goals
    match i, hi4 with
    | 0, _ => simp only [Nat.reduceDiv, Nat.reduceMod, Nat.reduceMul, Nat.reduceAdd] <;> omega
    | 1, _ => simp only [Nat.reduceDiv, Nat.reduceMod, Nat.reduceMul, Nat.reduceAdd] <;> omega
    | 2, _ => simp only [Nat.reduceDiv, Nat.reduceMod, Nat.reduceMul, Nat.reduceAdd] <;> omega
    | 3, _ => simp only [Nat.reduceDiv, Nat.reduceMod, Nat.reduceMul, Nat.reduceAdd] <;> omega) fourE 0 R1.1 r1 n1 (fun i hi => by
   have hi4 : i < 4 := hi
   rw [Nat.zero_add]
   refine ⟨?_, hi4, i1⟩
   match i, hi4 with
   | 0, _ => rfl
   | 1, _ => rfl
   | 2, _ => rfl
   | 3, _ => rfl) e2
 have l2 : (mapS (fourP room R1.2.1) R1.1 fourE).2.1.length = 4 := l2
 generalize mapS (fourP room R1.2.1) R1.1 fourE = R2 at *
 refine bindM_gd (P := fun r => MS r.1 ∧ Std r.1.ns (k + 2) r.2.1 _ _ _) he fun e3 he => ?_
 obtain ⟨j', hj'⟩ : ∃ j', (if full = true then j - 1 else j) = j' := ⟨_, rfl⟩
 have hjb : 0 ≤ j' ∧ j' ≤ (k : Int) := by
  rw [← hj']
  by_cases e : full = true
  ·have := hf1 e
   rw [if_pos e]
   omega
  ·have := hf2 e
   rw [if_neg e]
   omega
 have hgen : gens (2 ^ j'.toNat) f1 = gens (2 ^ j.toNat) f := by
  rw [← hj', ← hF1]
  by_cases e : full = true
  ·have hjk := hf1 e
   rw [if_pos e, if_pos e, ← gens_add, show (j - 1).toNat = k by omega, show j.toNat = k + 1 by omega, Nat.pow_succ]
   congr 1
   omega
  ·rw [if_neg e, if_neg e]
 rw [hj'] at e3 he ⊢
 obtain ⟨r3, p3, n3, l3, i3⟩ := mapS_std (room := room) (f := lastF lp j') (fun i ns q => Std ns (k + 2) q f1 (ox + ((i % 2 : Nat) : Int) * 2 ^ (k + 1) + 2 ^ k) (oy + ((i / 2 : Nat) : Int) * 2 ^ (k + 1) + 2 ^ k))
  (fun i ns q => Std ns (k + 1) q (gens (2 ^ j.toNat) f) (ox + ((i % 2 : Nat) : Int) * 2 ^ (k + 1) + 2 ^ (k + 1)) (oy + ((i / 2 : Nat) : Int) * 2 ^ (k + 1) + 2 ^ (k + 1)))
  (fun i ns ms q hw hp hq => hq.pre hw hp) (fun i ns ms q hw hp hq => hq.pre hw hp) (fun i t q ht hmt hq he => by
   have he : (lp t q j').2.2 = 0 := he
   show Lk room (lp t q j').1 ∧ t.ns <+: (lp t q j').1.ns ∧ MS (lp t q j').1 ∧ Std (lp t q j').1.ns (k + 1) (lp t q j').2.1 _ _ _
   obtain ⟨g1, g2, g3, g4⟩ := hlp t q j' ht hmt hq.1 hjb he
   have := g4 _ _ _ hq
   rw [hgen] at this
   exact ⟨g1, g2, g3, this.at (by omega) (by omega)⟩) R2.2.1 0 R2.1 r2 n2 (fun i hi => by
   rw [Nat.zero_add]
   have := i2 i (by rw [l2] at hi; exact hi)
   rwa [Nat.zero_add] at this) e3
 rw [l2] at l3 i3
 generalize mapS (lastF lp j') R2.1 R2.2.1 = R3 at *
 have he2 : (put R3.1.ns room (R8.g R3.2.1 ((0 : Nat) : Int)) (R8.g R3.2.1 ((1 : Nat) : Int)) (R8.g R3.2.1 ((2 : Nat) : Int)) (R8.g R3.2.1 ((3 : Nat) : Int))).2.2 = 0 := he
 have h0 := i3 0 (by omega)
 have h1 := i3 1 (by omega)
 have h2 := i3 2 (by omega)
 have h3 := i3 3 (by omega)
 have g := putS_gd r3 (lv := k + 1) h0.1 he
 refine ⟨n3.pre r3.wf g.pre, ?_⟩
 refine std_put r3.wf (h0.at ?_ ?_) (h1.at ?_ ?_) (h2.at ?_ ?_) (h3.at ?_ ?_) he2
 all_goals (simp only [Nat.reduceDiv, Nat.reduceMod, Nat.zero_add]; omega)
theorem keep_std {room : Int} {s : LS} {n j : Int} {r : L9} {k : Nat} (h : Lk room s) (hj : 0 ≤ j ∧ j ≤ (k : Int)) (hn : IsN s.ns (k + 2) n) (he : (keep n j r).2.2 = 0) (hg : r.2.2 = 0 → Gd room s r (k + 1)) (hm : r.2.2 = 0 → MS r.1) (hf : r.2.2 = 0 → ∀ f ox oy, Std s.ns (k + 2) n f ox oy → Std r.1.ns (k + 1) r.2.1 (gens (2 ^ j.toNat) f) (ox + 2 ^ k) (oy + 2 ^ k)) :
  MS (keep n j r).1 ∧ ∀ f ox oy, Std s.ns (k + 2) n f ox oy → Std (keep n j r).1.ns (k + 1) (keep n j r).2.1 (gens (2 ^ j.toNat) f) (ox + 2 ^ k) (oy + 2 ^ k) := by
 unfold keep at he ⊢
 by_cases e : r.2.2 = 0
 case neg => rw [if_pos e] at he; exact absurd he e
 rw [if_neg (by simpa using e)]
 obtain ⟨a, b, c⟩ := hg e
 refine ⟨fun p hp => ?_, hf e⟩
 rcases List.mem_append.1 hp with hp | hp
 ·exact hm e p hp
 ·rw [List.mem_singleton.1 hp]
  exact ⟨k, hj, hn.pre b, c, fun f ox oy hs => hf e f ox oy (hs.back h.wf b hn)⟩
theorem leap_ok {room : Int} : ∀ k, LpOk room k (leap room k)
 | 0, s, n, j, h, hm, hn, hj, he => by
  have g := leap_gd 0 s n j h hn he
  refine ⟨g.lk, g.pre, ?_⟩
  unfold leap at he ⊢
  cases hl : look9 s.mm n j with
  | some to =>
   refine ⟨hm, fun f ox oy hs => ?_⟩
   obtain ⟨k', h1, h2, h3, h4⟩ := hm _ (look9_mem hl)
   have e : k' = 0 := by
    have a := h2.2
    have b := hn.2
    simp only at a
    omega
   subst e
   exact h4 f ox oy hs
  | none =>
   rw [hl] at he
   refine keep_std h hj hn he (fun e => oneS_gd h e) (fun e => hm.pre h.wf (oneS_gd h e).pre) fun e f ox oy hs => ?_
   obtain rfl : j = 0 := by omega
   exact oneS_std h hs e
 | k + 1, s, n, j, h, hm, hn, hj, he => by
  have g := leap_gd (k + 1) s n j h hn he
  refine ⟨g.lk, g.pre, ?_⟩
  unfold leap at he ⊢
  cases hl : look9 s.mm n j with
  | some to =>
   refine ⟨hm, fun f ox oy hs => ?_⟩
   obtain ⟨k', h1, h2, h3, h4⟩ := hm _ (look9_mem hl)
   have e : k' = k + 1 := by
    have a := h2.2
    have b := hn.2
    simp only at a
    omega
   subst e
   exact h4 f ox oy hs
  | none =>
   rw [hl] at he
   have hjk : 0 ≤ j ∧ j ≤ (k : Int) + 1 := by omega
   exact keep_std h hj hn he (fun e => far_gd (fun s q j hs hq he => leap_gd k s q j hs hq he) h hn e) (fun e => (far_std (leap_ok k) h hm (Std.self hn) hjk e).1) fun e f ox oy hs => (far_std (leap_ok k) h hm hs hjk e).2
end R9
end Go.GL


namespace Go.GL
open R6 R7
namespace R21
open R8 (g s16 IsSq bit s16_pre)
/-- A node of the level lv + 1 with these four kids. -/
structure P4 (ns : List Node) (lv : Nat) (q0 q1 q2 q3 m : Int) : Prop where
 is : IsN ns (lv + 1) m
 kids : (nd ns m).kids = [q0, q1, q2, q3]
theorem P4.pre {ns ms : List Node} (hp : ns <+: ms) {lv : Nat} {q0 q1 q2 q3 m : Int} (h : P4 ns lv q0 q1 q2 q3 m) : P4 ms lv q0 q1 q2 q3 m := ⟨h.is.pre hp, by rw [nd_pre hp h.is.1]; exact h.kids⟩
theorem P4.fn {ns : List Node} (hw : Wf ns) {lv : Nat} {q0 q1 q2 q3 m m' : Int} (h : P4 ns lv q0 q1 q2 q3 m) (h' : P4 ns lv q0 q1 q2 q3 m') : m = m' :=
 hw.uniq h.is.1 h'.is.1 (by rw [h.is.2]; omega) (by rw [h'.is.2]; omega) (by rw [h.kids, h'.kids])
theorem P4.kidsN {ns : List Node} (hw : Wf ns) {lv : Nat} {q0 q1 q2 q3 m : Int} (h : P4 ns lv q0 q1 q2 q3 m) : IsN ns lv q0 ∧ IsN ns lv q1 ∧ IsN ns lv q2 ∧ IsN ns lv q3 := by
 have key : ∀ q ∈ [q0, q1, q2, q3], IsN ns lv q := fun q hq => by
  have hl : (nd ns m).lv ≠ 0 := by rw [h.is.2]; omega
  obtain ⟨a, _, b⟩ := hw.kid h.is.1 hl (q := q) (by rw [h.kids]; exact hq)
  exact ⟨a, by rw [b, h.is.2]; omega⟩
 exact ⟨key _ (by simp), key _ (by simp), key _ (by simp), key _ (by simp)⟩
theorem P4.again {ns : List Node} (hw : Wf ns) {room : Int} {lv : Nat} {q0 q1 q2 q3 m : Int} (h : P4 ns lv q0 q1 q2 q3 m) : R6.put ns room q0 q1 q2 q3 = (ns, m, 0) := by
 obtain ⟨k0, k1, k2, k3⟩ := h.kidsN hw
 have hl : lv + 1 ≤ 42 := by
  have := (hw.lvb h.is.1).2
  rw [h.is.2] at this
  omega
 exact put_again hw (fit4_of hl k0 k1 k2 k3) h.is.1 (by rw [h.is.2]; omega) h.kids
theorem IsSq.fn21 {ns : List Node} (hw : Wf ns) {lv : Nat} {l : List Int} {y x m m' : Int} (h : IsSq ns lv l y x m) (h' : IsSq ns lv l y x m') : m = m' :=
 hw.uniq h.is.1 h'.is.1 (by rw [h.is.2]; omega) (by rw [h'.is.2]; omega) (by rw [h.kids, h'.kids])
/-- The nine squares of a node of the level k + 3. -/
structure Nine9 (ns : List Node) (k : Nat) (n : Int) (qs : List Int) : Prop where
 len : qs.length = 9
 sq : ∀ p : Nat, p < 9 → IsSq ns (k + 1) (s16 ns n) ((p / 3 : Nat) : Int) ((p % 3 : Nat) : Int) (qs.getD p default)
def e4 (i : Nat) : Int := R9.fourE.getD i default
/-- Four of nine. -/
structure Four4 (ns : List Node) (k : Nat) (rs ls : List Int) : Prop where
 len : ls.length = 4
 sq : ∀ i : Nat, i < 4 → P4 ns (k + 1) (g rs (e4 i)) (g rs (e4 i + 1)) (g rs (e4 i + 3)) (g rs (e4 i + 4)) (ls.getD i default)
theorem Nine9.pre {ns ms : List Node} (hw : Wf ns) (hp : ns <+: ms) {k : Nat} {n : Int} (hn : IsN ns (k + 3) n) {qs : List Int} (h : Nine9 ns k n qs) : Nine9 ms k n qs :=
 ⟨h.len, fun p hp9 => by rw [s16_pre hw hp hn]; exact (h.sq p hp9).pre hp⟩
theorem Four4.pre {ns ms : List Node} (hp : ns <+: ms) {k : Nat} {rs ls : List Int} (h : Four4 ns k rs ls) : Four4 ms k rs ls := ⟨h.len, fun i hi => (h.sq i hi).pre hp⟩
/-- All that a leap of (n, j) needs is there, and it tells m. -/
def Cl (ns : List Node) : Nat → Int → Int → Int → Prop
 | 0, n, j, m => IsN ns 2 n ∧ P4 ns 0 (bit (s16 ns n) 1 1) (bit (s16 ns n) 1 2) (bit (s16 ns n) 2 1) (bit (s16 ns n) 2 2) m
 | k + 1, n, j, m => IsN ns (k + 3) n ∧ ∃ qs rs ls ss : List Int, Nine9 ns k n qs ∧ (rs.length = 9 ∧ ∀ p : Nat, p < 9 → if j = (k : Int) + 1 then Cl ns k (qs.getD p default) (j - 1) (rs.getD p default) else IsSq ns k (s16 ns (qs.getD p default)) 1 1 (rs.getD p default)) ∧ Four4 ns k rs ls ∧
   (ss.length = 4 ∧ ∀ i : Nat, i < 4 → Cl ns k (ls.getD i default) (if j = (k : Int) + 1 then j - 1 else j) (ss.getD i default)) ∧ P4 ns (k + 1) (g ss 0) (g ss 1) (g ss 2) (g ss 3) m
theorem Cl.isN {ns : List Node} : ∀ {k : Nat} {n j m : Int}, Cl ns k n j m → IsN ns (k + 2) n ∧ IsN ns (k + 1) m
 | 0, n, j, m, h => ⟨h.1, h.2.is⟩
 | k + 1, n, j, m, h => ⟨h.1, by obtain ⟨_, _, _, _, _, _, _, _, _, hp⟩ := h; exact hp.is⟩
theorem Cl.pre {ns ms : List Node} (hw : Wf ns) (hp : ns <+: ms) : ∀ {k : Nat} {n j m : Int}, Cl ns k n j m → Cl ms k n j m
 | 0, n, j, m, h => by
  refine ⟨h.1.pre hp, ?_⟩
  rw [s16_pre hw hp (lv := 0) h.1]
  exact h.2.pre hp
 | k + 1, n, j, m, h => by
  obtain ⟨hn, qs, rs, ls, ss, h9, ⟨hr, hrs⟩, h4, ⟨hs, hss⟩, hm⟩ := h
  refine ⟨hn.pre hp, qs, rs, ls, ss, h9.pre hw hp hn, ⟨hr, fun p hp9 => ?_⟩, h4.pre hp, ⟨hs, fun i hi => (hss i hi).pre hw hp⟩, hm.pre hp⟩
  have := hrs p hp9
  split
  ·rename_i hj
   rw [if_pos hj] at this
   exact this.pre hw hp
  ·rename_i hj
   rw [if_neg hj] at this
   rw [s16_pre hw hp (lv := k) (h9.sq p hp9).is]
   exact this.pre hp
theorem getD_ext9 {n : Nat} {a b : List Int} (ha : a.length = n) (hb : b.length = n) (h : ∀ i : Nat, i < n → a.getD i default = b.getD i default) : a = b := by
 apply List.ext_getElem (by omega)
 intro i h1 h2
 have := h i (by omega)
 simpa [h1, h2] using this
theorem Cl.fn {ns : List Node} (hw : Wf ns) : ∀ {k : Nat} {n j m m' : Int}, Cl ns k n j m → Cl ns k n j m' → m = m'
 | 0, n, j, m, m', h, h' => h.2.fn hw h'.2
 | k + 1, n, j, m, m', h, h' => by
  obtain ⟨hn, qs, rs, ls, ss, h9, ⟨hr, hrs⟩, h4, ⟨hs, hss⟩, hm⟩ := h
  obtain ⟨_, qs', rs', ls', ss', h9', ⟨hr', hrs'⟩, h4', ⟨hs', hss'⟩, hm'⟩ := h'
  obtain rfl : qs = qs' := getD_ext9 h9.len h9'.len fun p hp => IsSq.fn21 hw (h9.sq p hp) (h9'.sq p hp)
  obtain rfl : rs = rs' := getD_ext9 hr hr' fun p hp => by
   have a := hrs p hp
   have b := hrs' p hp
   split at a
   ·rename_i hj
    rw [if_pos hj] at b
    exact a.fn hw b
   ·rename_i hj
    rw [if_neg hj] at b
    exact IsSq.fn21 hw a b
  obtain rfl : ls = ls' := getD_ext9 h4.len h4'.len fun i hi => (h4.sq i hi).fn hw (h4'.sq i hi)
  obtain rfl : ss = ss' := getD_ext9 hs hs' fun i hi => (hss i hi).fn hw (hss' i hi)
  exact hm.fn hw hm'
end R21
end Go.GL


namespace Go.GL
open R6 R7
namespace R21
open R8 (g s16 IsSq bit s16_pre)
open R9 (Memo LS look9 mapS bindM)
def MemC (ns : List Node) (mm : Memo) : Prop := ∀ p ∈ mm, ∃ k, Cl ns k p.1 p.2.1 p.2.2
theorem look_in : ∀ {mm : Memo} {n j x : Int}, look9 mm n j = some x → (n, j, x) ∈ mm
 | p :: mm, n, j, x, h => by
  unfold look9 at h
  split at h
  ·rename_i e
   injection h with h
   obtain ⟨p1, p2, p3⟩ := p
   obtain ⟨rfl, rfl⟩ := e
   simp only at h
   subst h
   exact List.mem_cons_self
  ·exact List.mem_cons_of_mem _ (look_in h)
theorem MemC.hit {ns : List Node} (hw : Wf ns) {mm : Memo} (h : MemC ns mm) {k : Nat} {n j m x : Int} (hc : Cl ns k n j m) (hl : look9 mm n j = some x) : x = m := by
 obtain ⟨k', hk⟩ := h _ (look_in hl)
 have e1 := hk.isN.1.2
 have e2 := hc.isN.1.2
 simp only at e1
 obtain rfl : k' = k := by omega
 exact hk.fn hw hc
theorem mapS_cl {ns : List Node} {f : LS → Int → R9.L9} : ∀ (qs rs : List Int), qs.length = rs.length → (∀ i : Nat, i < qs.length → ∀ mm, MemC ns mm → ∃ mm', f ⟨ns, mm⟩ (qs.getD i default) = (⟨ns, mm'⟩, rs.getD i default, 0) ∧ MemC ns mm') → ∀ mm, MemC ns mm → ∃ mm', mapS f ⟨ns, mm⟩ qs = (⟨ns, mm'⟩, rs, 0) ∧ MemC ns mm'
 | [], [], _, _, mm, hm => ⟨mm, rfl, hm⟩
 | q :: qs, r :: rs, hl, hf, mm, hm => by
  obtain ⟨m1, e1, h1⟩ := hf 0 (by simp) mm hm
  obtain ⟨m2, e2, h2⟩ := mapS_cl qs rs (by simpa using hl) (fun i hi => hf (i + 1) (by simpa using hi)) m1 h1
  have e1' : f ⟨ns, mm⟩ q = (⟨ns, m1⟩, r, 0) := e1
  refine ⟨m2, ?_, h2⟩
  unfold mapS
  rw [e1']
  dsimp only
  rw [if_neg (by simp), e2]
theorem list9 {l : List Int} (h : l.length = 9) : ∃ q0 q1 q2 q3 q4 q5 q6 q7 q8, l = [q0, q1, q2, q3, q4, q5, q6, q7, q8] := by
 match l, h with
 | [q0, q1, q2, q3, q4, q5, q6, q7, q8], _ => exact ⟨q0, q1, q2, q3, q4, q5, q6, q7, q8, rfl⟩
theorem Nine9.all {ns : List Node} {room : Int} (hr : R6.right ns room) {k : Nat} {n : Int} (hn : IsN ns (k + 3) n) {qs : List Int} (h : Nine9 ns k n qs) : R8.all ns room n = (ns, qs, 0) := by
 obtain ⟨q0, q1, q2, q3, q4, q5, q6, q7, q8, rfl⟩ := list9 h.len
 have := R8.nine_again (lv := k + 1) hr hn (h.sq 0 (by decide)) (h.sq 1 (by decide)) (h.sq 2 (by decide)) (h.sq 3 (by decide)) (h.sq 4 (by decide)) (h.sq 5 (by decide)) (h.sq 6 (by decide)) (h.sq 7 (by decide)) (h.sq 8 (by decide))
 unfold R8.nine at this
 rw [if_pos ⟨hr, hn.1, by rw [hn.2]; omega⟩] at this
 exact this
/-- Chapter 9's leap makes nothing in a store where all is there. -/
theorem Cl.leap {ns : List Node} {room : Int} (hr : R6.right ns room) : ∀ (k : Nat) {n j m : Int}, Cl ns k n j m → ∀ mm, MemC ns mm → ∃ mm', R9.leap room k ⟨ns, mm⟩ n j = (⟨ns, mm'⟩, m, 0) ∧ MemC ns mm'
 | 0, n, j, m, hc, mm, hm => by
  have hw := (right_iff.1 hr).2
  unfold R9.leap
  cases ho : look9 mm n j with
  | some x =>
   rw [hm.hit hw hc ho]
   exact ⟨mm, rfl, hm⟩
  | none =>
   have e : R9.oneS room ⟨ns, mm⟩ n = (⟨ns, mm⟩, m, 0) := by
    unfold R9.oneS R8.one
    simp only
    rw [hc.2.again hw]
   unfold R9.keep
   rw [e]
   exact ⟨mm ++ [(n, j, m)], rfl, fun p hp => by
    rcases List.mem_append.1 hp with hp | hp
    ·exact hm p hp
    ·rw [List.mem_singleton.1 hp]; exact ⟨0, hc⟩⟩
 | k + 1, n, j, m, hc, mm, hm => by
  have hw := (right_iff.1 hr).2
  unfold R9.leap
  cases ho : look9 mm n j with
  | some x =>
   rw [hm.hit hw hc ho]
   exact ⟨mm, rfl, hm⟩
  | none =>
   have hc0 := hc
   obtain ⟨hn, qs, rs, ls, ss, h9, ⟨hrl, hrs⟩, h4, ⟨hsl, hss⟩, hp⟩ := hc
   have key : ∃ mm', R9.far (R9.leap room k) room (decide (j = (k : Int) + 1)) ⟨ns, mm⟩ n j = (⟨ns, mm'⟩, m, 0) ∧ MemC ns mm' := by
    have eh : ∃ mm', R9.half (R9.leap room k) room (decide (j = (k : Int) + 1)) ⟨ns, mm⟩ n j = (⟨ns, mm'⟩, rs, 0) ∧ MemC ns mm' := by
     unfold R9.half
     simp only
     rw [h9.all hr hn]
     simp only [ne_eq, not_true_eq_false, if_false]
     refine mapS_cl qs rs (by rw [h9.len, hrl]) (fun i hi mm1 hm1 => ?_) mm hm
     have hi9 : i < 9 := by rw [← h9.len]; exact hi
     have hri := hrs i hi9
     unfold R9.halfF
     by_cases hj : j = (k : Int) + 1
     ·rw [if_pos (by simpa using hj)]
      rw [if_pos hj] at hri
      exact Cl.leap hr k hri mm1 hm1
     ·rw [if_neg (by simpa using hj)]
      rw [if_neg hj] at hri
      refine ⟨mm1, ?_, hm1⟩
      have hq : IsN ns (k + 2) (qs.getD i default) := (h9.sq i hi9).is
      have hlv := (hw.lvb hq.1).2
      rw [hq.2] at hlv
      have := R8.putSq_again (room := room) (by omega) hw (R8.s16_is hw hq) (y := 1) (x := 1) (by omega) (by omega) hri
      unfold R9.midS R9.putS
      unfold R8.putSq at this
      simp only at this ⊢
      have e5 : (4 * 1 + 1 : Int) = 5 := rfl
      rw [show (4 * 1 + 1 : Int) = 5 from rfl, show (5 + 1 : Int) = 6 from rfl, show (5 + 4 : Int) = 9 from rfl, show (5 + 5 : Int) = 10 from rfl] at this
      rw [this]
    obtain ⟨m1, e1, h1⟩ := eh
    have e2 : ∃ mm', mapS (R9.fourP room rs) ⟨ns, m1⟩ R9.fourE = (⟨ns, mm'⟩, ls, 0) ∧ MemC ns mm' := by
     refine mapS_cl R9.fourE ls (by rw [h4.len]; rfl) (fun i hi mm1 hm1 => ?_) m1 h1
     refine ⟨mm1, ?_, hm1⟩
     have := (h4.sq i hi).again hw (room := room)
     unfold R9.fourP R9.putS
     unfold e4 at this
     simp only
     rw [this]
    obtain ⟨m2, e2, h2⟩ := e2
    have e3 : ∃ mm', mapS (R9.lastF (R9.leap room k) (if decide (j = (k : Int) + 1) = true then j - 1 else j)) ⟨ns, m2⟩ ls = (⟨ns, mm'⟩, ss, 0) ∧ MemC ns mm' := by
     refine mapS_cl ls ss (by rw [h4.len, hsl]) (fun i hi mm1 hm1 => ?_) m2 h2
     have := hss i (by rw [← h4.len]; exact hi)
     unfold R9.lastF
     simp only [decide_eq_true_eq]
     exact Cl.leap hr k this mm1 hm1
    obtain ⟨m3, e3, h3⟩ := e3
    refine ⟨m3, ?_, h3⟩
    unfold R9.far
    rw [e1, R9.bindM_ok rfl]
    simp only
    rw [e2, R9.bindM_ok rfl]
    simp only
    rw [e3, R9.bindM_ok rfl]
    unfold R9.put4 R9.putS
    simp only
    rw [hp.again hw]
   obtain ⟨m1, e1, h1⟩ := key
   unfold R9.keep
   rw [e1]
   exact ⟨m1 ++ [(n, j, m)], rfl, fun p hp => by
    rcases List.mem_append.1 hp with hp | hp
    ·exact h1 p hp
    ·rw [List.mem_singleton.1 hp]; exact ⟨k + 1, hc0⟩⟩
end R21
end Go.GL


namespace Go.GL
open R6 R7
namespace R21
open R8 (g s16 IsSq bit s16_pre)
open R9 (Memo LS look9)
/-- Four nodes are put: there they are, or the store is full. -/
theorem put4 {ns : List Node} {room : Int} (hr : R6.right ns room) {lv : Nat} (hl : lv + 1 ≤ 42) {q0 q1 q2 q3 : Int} (h0 : IsN ns lv q0) (h1 : IsN ns lv q1) (h2 : IsN ns lv q2) (h3 : IsN ns lv q3) :
  (∃ ms m, R6.put ns room q0 q1 q2 q3 = (ms, m, 0) ∧ R6.right ms room ∧ ns <+: ms ∧ P4 ms lv q0 q1 q2 q3 m) ∨ (R6.put ns room q0 q1 q2 q3).2.2 = 40 := by
 have hw := (right_iff.1 hr).2
 have hf := fit4_of hl h0 h1 h2 h3
 by_cases hc : 0 ≤ R6.at_ ns [q0, q1, q2, q3] ∨ (ns.length : Int) < room
 ·obtain ⟨ms, m, e, ok⟩ := put_ok hw hf hc
  have h := R9.right_put hr q0 q1 q2 q3
  rw [e] at h
  exact .inl ⟨ms, m, e, h.1, h.2, ⟨⟨ok.mem, by rw [ok.lv, h0.2]; omega⟩, ok.kids⟩⟩
 ·right
  unfold R6.put
  rw [if_pos hf, if_neg (by omega), if_pos (by omega)]
/-! ### Parts -/
def newT (i : Nat) (j : Int) : Nat → List Int → List Tk
 | _, [] => []
 | k, n :: l => tk0 n j i k :: newT i j (k + 1) l
theorem newT_len (i : Nat) (j : Int) : ∀ (l : List Int) (k : Nat), (newT i j k l).length = l.length
 | [], k => rfl
 | n :: l, k => by simp [newT, newT_len i j l]
theorem newT_at (i : Nat) (j : Int) : ∀ (l : List Int) (k c : Nat), c < l.length → (newT i j k l).getD c default = tk0 (l.getD c default) j i ((k + c : Nat) : Int)
 | [], k, c, h => absurd h (Nat.not_lt_zero c)
 | n :: l, k, 0, h => rfl
 | n :: l, k, c + 1, h => by
  have := newT_at i j l (k + 1) c (by simpa using h)
  show (newT i j (k + 1) l).getD c default = _
  rw [this, show k + 1 + c = k + (c + 1) by omega]
  rfl
theorem push_perm {D : List (List Int)} {w : Nat} (hw : w < D.length) (x : Int) : (push D w x).flatten.Perm (x :: D.flatten) := by
 obtain ⟨r, h1, h2⟩ := R19.flat_set hw
 unfold push
 refine (h2 _).trans (List.Perm.trans ?_ (h1.symm.cons _))
 rw [List.append_assoc]
 exact List.perm_middle
def news (N c : Nat) : List Int := (List.range c).map fun i => ((N + i : Nat) : Int)
theorem news_succ (N c : Nat) : news N (c + 1) = (N : Int) :: news (N + 1) c := by
 unfold news
 rw [List.range_succ_eq_map, List.map_cons, List.map_map]
 congr 1
 apply List.map_congr_left
 intro i _
 simp only [Function.comp]
 congr 1
 omega
structure PartsEq (w i : Nat) (j : Int) (k : Nat) (l : List Int) (s s' : Ms) : Prop where
 ts : s'.ts = s.ts ++ newT i j k l
 ns : s'.ns = s.ns
 kp : s'.kp = s.kp
 node : s'.node = s.node
 done : s'.done = s.done
 dl : s'.D.length = s.D.length
 D : s'.D.flatten.Perm (news s.ts.length l.length ++ s.D.flatten)
theorem parts_eq (w i : Nat) (j : Int) : ∀ (l : List Int) (k : Nat) (s : Ms), w < s.D.length → PartsEq w i j k l s (parts w i j k l s)
 | [], k, s, hw => ⟨by simp [parts, newT], rfl, rfl, rfl, rfl, rfl, .refl _⟩
 | n :: l, k, s, hw => by
  have hl : (add s w (tk0 n j i k)).D.length = s.D.length := by simp [add, push]
  obtain ⟨h1, h2, h3, h4, h5, h6, h7⟩ := parts_eq w i j l (k + 1) (add s w (tk0 n j i k)) (by rw [hl]; exact hw)
  unfold parts
  refine ⟨?_, h2, h3, h4, h5, h6.trans hl, ?_⟩
  ·rw [h1]
   simp [add, newT]
  ·refine h7.trans ?_
   have e : (add s w (tk0 n j i k)).ts.length = s.ts.length + 1 := by simp [add]
   rw [e, List.length_cons, news_succ]
   refine ((push_perm hw (s.ts.length : Int)).append_left _).trans ?_
   exact List.perm_middle
/-! ### What the machine keeps to -/
def res (t : Tk) (p : Nat) : Int := [t.r0, t.r1, t.r2, t.r3, t.r4, t.r5, t.r6, t.r7, t.r8].getD p default
theorem res_set (t : Tk) {p q : Nat} (hp : p < 9) (hq : q < 9) (v : Int) : res (setR t (p : Int) v) q = if q = p then v else res t q := by
 rcases (by omega : p = 0 ∨ p = 1 ∨ p = 2 ∨ p = 3 ∨ p = 4 ∨ p = 5 ∨ p = 6 ∨ p = 7 ∨ p = 8) with rfl | rfl | rfl | rfl | rfl | rfl | rfl | rfl | rfl <;>
  (rcases (by omega : q = 0 ∨ q = 1 ∨ q = 2 ∨ q = 3 ∨ q = 4 ∨ q = 5 ∨ q = 6 ∨ q = 7 ∨ q = 8) with rfl | rfl | rfl | rfl | rfl | rfl | rfl | rfl | rfl <;> rfl)
abbrev tk (s : Ms) (i : Nat) : Tk := s.ts.getD i default
structure Kd (ts : List Tk) (T : Nat → Bool) (i : Nat) (l : List Nat) : Prop where
 nd : l.Nodup
 mem : ∀ c, c ∈ l ↔ c < ts.length ∧ (ts.getD c default).of_ = (i : Int) ∧ T c = false
def Rs (ns : List Node) (k : Nat) (j : Int) (qs rs : List Int) : Prop := rs.length = 9 ∧ ∀ p : Nat, p < 9 → if j = (k : Int) + 1 then Cl ns k (qs.getD p default) (j - 1) (rs.getD p default) else IsSq ns k (s16 ns (qs.getD p default)) 1 1 (rs.getD p default)
theorem Rs.pre {ns ms : List Node} (hw : Wf ns) (hp : ns <+: ms) {k : Nat} {n j : Int} {qs rs : List Int} (h9 : Nine9 ns k n qs) (h : Rs ns k j qs rs) : Rs ms k j qs rs := by
 refine ⟨h.1, fun p hp9 => ?_⟩
 have := h.2 p hp9
 split
 ·rename_i hj
  rw [if_pos hj] at this
  exact this.pre hw hp
 ·rename_i hj
  rw [if_neg hj] at this
  rw [s16_pre hw hp (lv := k) (h9.sq p hp9).is]
  exact this.pre hp
/-- What a task that waits asks for. -/
structure St (ns : List Node) (t : Tk) (k : Nat) (gs : List Int) (jj : Int) : Prop where
 is : IsN ns (k + 3) t.n
 j0 : 0 ≤ t.j
 j1 : t.j ≤ k + 1
 of : (t.wt = 9 ∧ t.j = (k : Int) + 1 ∧ Nine9 ns k t.n gs ∧ jj = t.j - 1) ∨ (t.wt = 4 ∧ ∃ qs rs, Nine9 ns k t.n qs ∧ Rs ns k t.j qs rs ∧ Four4 ns k rs gs ∧ jj = if t.j = (k : Int) + 1 then t.j - 1 else t.j)
theorem St.pre {ns ms : List Node} (hw : Wf ns) (hp : ns <+: ms) {t : Tk} {k : Nat} {gs : List Int} {jj : Int} (h : St ns t k gs jj) : St ms t k gs jj := by
 refine ⟨h.is.pre hp, h.j0, h.j1, ?_⟩
 rcases h.of with ⟨a, b, c, d⟩ | ⟨a, qs, rs, b, c, d, e⟩
 ·exact .inl ⟨a, b, c.pre hw hp h.is, d⟩
 ·exact .inr ⟨a, qs, rs, b.pre hw hp h.is, c.pre hw hp b, d.pre hp, e⟩
structure Wt (ns : List Node) (ts : List Tk) (T : Nat → Bool) (i k : Nat) (gs : List Int) (jj : Int) (l : List Nat) : Prop where
 st : St ns (ts.getD i default) k gs jj
 len : (gs.length : Int) = (ts.getD i default).wt
 kd : Kd ts T i l
 lf : (ts.getD i default).lf = l.length
 kid : ∀ c ∈ l, ∃ p : Nat, (ts.getD c default).pl = p ∧ p < gs.length ∧ (ts.getD c default).n = gs.getD p default ∧ (ts.getD c default).j = jj
 res : ∀ p : Nat, p < gs.length → (∃ c ∈ l, (ts.getD c default).pl = (p : Int)) ∨ Cl ns k (gs.getD p default) jj (res (ts.getD i default) p)
structure GI (room : Int) (b : Nat) (n0 j0 : Int) (k0 : Nat) (s : Ms) (T : Nat → Bool) (x : Int) : Prop where
 right : R6.right s.ns room
 len : s.ts.length ≤ b
 pos : 0 < s.ts.length
 fresh : ∀ c, s.ts.length ≤ c → T c = false
 root : (tk s 0).of_ = -1 ∧ (tk s 0).n = n0 ∧ (tk s 0).j = j0
 T0 : T 0 = false
 rlv : IsN s.ns (k0 + 2) n0
 lv : ∀ i : Nat, i < s.ts.length → T i = false → ∃ k : Nat, IsN s.ns (k + 2) (tk s i).n ∧ 0 ≤ (tk s i).j ∧ (tk s i).j ≤ k
 par : ∀ c : Nat, 0 < c → c < s.ts.length → T c = false → ∃ p : Nat, (tk s c).of_ = p ∧ p < c ∧ T p = false ∧ (tk s p).wt ≠ 0
 new : ∀ i : Nat, i < s.ts.length → T i = false → (tk s i).wt = 0 → ∀ c : Nat, c < s.ts.length → (tk s c).of_ = (i : Int) → T c = true
 wt : ∀ i : Nat, i < s.ts.length → T i = false → (tk s i).wt ≠ 0 → ∃ k gs jj l, Wt s.ns s.ts T i k gs jj l
 nd : s.D.flatten.Nodup
 dq : ∀ y : Int, y ∈ s.D.flatten ↔ y ≠ x ∧ ∃ i : Nat, y = (i : Int) ∧ i < s.ts.length ∧ T i = false ∧ ((tk s i).wt = 0 ∨ (tk s i).lf = 0)
 mem : MemC s.ns s.kp
 done : s.done = false
/-- There is always a task in some deque. -/
theorem GI.busy {room : Int} {b : Nat} {n0 j0 : Int} {k0 : Nat} {s : Ms} {T : Nat → Bool} (h : GI room b n0 j0 k0 s T (-1)) : s.D.flatten ≠ [] := by
 intro he
 have key : ∀ m i : Nat, s.ts.length - i = m → i < s.ts.length → T i = false → False := by
  intro m
  induction m using Nat.strongRecOn with
  | ind m ih =>
   intro i hm hi hT
   have hnd := fun y => h.dq y
   have h1 : ¬ ((tk s i).wt = 0 ∨ (tk s i).lf = 0) := fun hc => by
    have := (h.dq (i : Int)).2 ⟨by omega, i, rfl, hi, hT, hc⟩
    rw [he] at this
    cases this
   obtain ⟨k, gs, jj, l, w⟩ := h.wt i hi hT (fun e => h1 (.inl e))
   have hl : l ≠ [] := fun e => h1 (.inr (by
    have := w.lf
    rw [e] at this
    exact this))
   obtain ⟨c, hc⟩ := List.exists_mem_of_ne_nil l hl
   obtain ⟨c1, c2, c3⟩ := (w.kd.mem c).1 hc
   have c0 : 0 < c := Nat.pos_of_ne_zero fun e => by
    subst e
    have := h.root.1
    rw [show (s.ts.getD 0 default).of_ = (i : Int) from c2] at this
    omega
   obtain ⟨p, p1, p2, _⟩ := h.par c c0 c1 c3
   have : p = i := by
    have e : (s.ts.getD c default).of_ = (p : Int) := p1
    rw [c2] at e
    omega
   subst this
   exact ih (s.ts.length - c) (by omega) c rfl c1 c3
 exact key _ 0 rfl h.pos h.T0
theorem GI.take {room : Int} {b : Nat} {n0 j0 : Int} {k0 : Nat} {s : Ms} {T : Nat → Bool} (h : GI room b n0 j0 k0 s T (-1)) {w : Nat} (hw : w < s.D.length) :
  ∃ i : Nat, (R19.takeM s.D w).1 = (i : Int) ∧ i < s.ts.length ∧ T i = false ∧ ((tk s i).wt = 0 ∨ (tk s i).lf = 0) ∧ GI room b n0 j0 k0 { s with D := (R19.takeM s.D w).2 } T (i : Int) ∧ (R19.takeM s.D w).2.length = s.D.length := by
 obtain ⟨hp, hl⟩ := R19.takeM_perm hw h.busy
 generalize R19.takeM s.D w = x at *
 have hx : x.1 ∈ s.D.flatten := hp.mem_iff.2 List.mem_cons_self
 obtain ⟨_, i, e, hi, hT, hc⟩ := (h.dq x.1).1 hx
 rw [e] at hp
 have hnd := (hp.nodup_iff).1 h.nd
 obtain ⟨hn1, hn2⟩ := List.nodup_cons.1 hnd
 refine ⟨i, e, hi, hT, hc, ⟨h.right, h.len, h.pos, h.fresh, h.root, h.T0, h.rlv, h.lv, h.par, h.new, h.wt, hn2, fun y => ?_, h.mem, h.done⟩, hl⟩
 constructor
 ·intro hy
  refine ⟨fun e => hn1 (by rw [← e]; exact hy), ?_⟩
  exact ((h.dq y).1 (hp.mem_iff.2 (List.mem_cons_of_mem _ hy))).2
 ·rintro ⟨hne, i', e', a, b', c⟩
  have := (h.dq y).2 ⟨by omega, i', e', a, b', c⟩
  rcases List.mem_cons.1 (hp.mem_iff.1 this) with h1 | h1
  ·exact absurd h1 hne
  ·exact h1
end R21
end Go.GL


namespace Go.GL
open R6 R7
namespace R21
open R8 (g s16 IsSq bit s16_pre)
open R9 (Memo LS look9)
theorem getD_setT {α : Type} [Inhabited α] {l : List α} {i j : Nat} {v : α} (hi : i < l.length) : (l.set i v).getD j default = if j = i then v else l.getD j default := by
 rw [List.getD_eq_getElem?_getD, List.getElem?_set, List.getD_eq_getElem?_getD]
 by_cases h : i = j
 ·subst h
  simp [hi]
 ·rw [if_neg h, if_neg (by omega)]
theorem setR_same (t : Tk) (p v : Int) : (setR t p v).of_ = t.of_ ∧ (setR t p v).pl = t.pl ∧ (setR t p v).n = t.n ∧ (setR t p v).j = t.j ∧ (setR t p v).wt = t.wt ∧ (setR t p v).lf = t.lf := by
 unfold setR
 repeat' split
 all_goals exact ⟨rfl, rfl, rfl, rfl, rfl, rfl⟩
theorem Wt.pre {ns ms : List Node} (hw : Wf ns) (hp : ns <+: ms) {ts : List Tk} {T : Nat → Bool} {i k : Nat} {gs : List Int} {jj : Int} {l : List Nat} (h : Wt ns ts T i k gs jj l) : Wt ms ts T i k gs jj l :=
 ⟨h.st.pre hw hp, h.len, h.kd, h.lf, h.kid, fun p hp' => by
  rcases h.res p hp' with a | a
  ·exact .inl a
  ·exact .inr (a.pre hw hp)⟩
theorem MemC.pre {ns ms : List Node} (hw : Wf ns) (hp : ns <+: ms) {mm : Memo} (h : MemC ns mm) : MemC ms mm := fun p hp' => by
 obtain ⟨k, hk⟩ := h p hp'
 exact ⟨k, hk.pre hw hp⟩
theorem GI.store {room : Int} {b : Nat} {n0 j0 : Int} {k0 : Nat} {s : Ms} {T : Nat → Bool} {x : Int} (h : GI room b n0 j0 k0 s T x) {ms : List Node} (hr : R6.right ms room) (hp : s.ns <+: ms) : GI room b n0 j0 k0 { s with ns := ms } T x := by
 have hw := (right_iff.1 h.right).2
 refine ⟨hr, h.len, h.pos, h.fresh, h.root, h.T0, h.rlv.pre hp, fun i hi hT => ?_, h.par, h.new, fun i hi hT hw' => ?_, h.nd, h.dq, h.mem.pre hw hp, h.done⟩
 ·obtain ⟨k, a, b'⟩ := h.lv i hi hT
  exact ⟨k, a.pre hp, b'⟩
 ·obtain ⟨k, gs, jj, l, w⟩ := h.wt i hi hT hw'
  exact ⟨k, gs, jj, l, w.pre hw hp⟩
theorem St.gsN {ns : List Node} {t : Tk} {k : Nat} {gs : List Int} {jj : Int} (h : St ns t k gs jj) {p : Nat} (hp : p < gs.length) : IsN ns (k + 2) (gs.getD p default) := by
 rcases h.of with ⟨_, _, c, _⟩ | ⟨_, qs, rs, _, _, d, _⟩
 ·exact (c.sq p (by rw [← c.len]; exact hp)).is
 ·exact (d.sq p (by rw [← d.len]; exact hp)).is
theorem St.len9 {ns : List Node} {t : Tk} {k : Nat} {gs : List Int} {jj : Int} (h : St ns t k gs jj) : gs.length ≤ 9 ∧ 0 < gs.length ∧ (gs.length : Int) = t.wt := by
 rcases h.of with ⟨a, _, c, _⟩ | ⟨a, qs, rs, _, _, d, _⟩
 ·have := c.len; omega
 ·have := d.len; omega
theorem St.jj {ns : List Node} {t : Tk} {k : Nat} {gs : List Int} {jj : Int} (h : St ns t k gs jj) : 0 ≤ jj ∧ jj ≤ k := by
 have := h.j0
 have := h.j1
 rcases h.of with ⟨_, b, _, d⟩ | ⟨_, qs, rs, _, _, _, d⟩
 ·omega
 ·rw [d]; split <;> omega
theorem St.of_eq {ns : List Node} {t u : Tk} {k : Nat} {gs : List Int} {jj : Int} (h : St ns t k gs jj) (e1 : u.n = t.n) (e2 : u.j = t.j) (e3 : u.wt = t.wt) : St ns u k gs jj := by
 obtain ⟨a, b, c, d⟩ := h
 rw [← e1] at a d
 rw [← e2] at b c d
 rw [← e3] at d
 exact ⟨a, b, c, d⟩
def upd (T : Nat → Bool) (i : Nat) : Nat → Bool := fun c => if c = i then true else T c
theorem upd_false {T : Nat → Bool} {i c : Nat} : upd T i c = false ↔ c ≠ i ∧ T c = false := by
 unfold upd
 by_cases h : c = i <;> simp [h]
theorem keep_mem {ns : List Node} {kp : Memo} (h : MemC ns kp) {k : Nat} {n j m : Int} (hc : Cl ns k n j m) : MemC ns (keep kp n j m) := by
 unfold keep
 split
 ·exact h
 ·intro p hp
  rcases List.mem_append.1 hp with hp | hp
  ·exact h p hp
  ·rw [List.mem_singleton.1 hp]; exact ⟨k, hc⟩
/-- The root tells: that is the end. -/
theorem GI.tell0 {room : Int} {b : Nat} {n0 j0 : Int} {k0 : Nat} {s : Ms} {T : Nat → Bool} {x : Int} (h : GI room b n0 j0 k0 s T x) (w : Nat) (m : Int) : (tell s w 0 m).done = true ∧ (tell s w 0 m).node = m ∧ (tell s w 0 m).ns = s.ns ∧ (tell s w 0 m).ts = s.ts := by
 have := h.root.1
 unfold tell
 dsimp only
 rw [if_pos (by rw [show (s.ts.getD 0 default).of_ = -1 from this]; decide)]
 exact ⟨rfl, rfl, rfl, rfl⟩
/-- Another task tells. -/
theorem GI.tell {room : Int} {b : Nat} {n0 j0 : Int} {k0 : Nat} {s : Ms} {T : Nat → Bool} {i : Nat} (h : GI room b n0 j0 k0 s T (i : Int)) (hb : b ≤ 1000000000) (hi0 : 0 < i) (hi : i < s.ts.length) (hT : T i = false) (hk : ∀ c : Nat, c < s.ts.length → (tk s c).of_ = (i : Int) → T c = true) {k : Nat} {m : Int} (hm : Cl s.ns k (tk s i).n (tk s i).j m) {w : Nat} (hw : w < s.D.length) :
  ∃ p u, (tell s w i m).ts = s.ts.set p u ∧ p < i ∧ T p = false ∧ u.n = (tk s p).n ∧ u.wt = (tk s p).wt ∧ (tell s w i m).ns = s.ns ∧ (tell s w i m).D.length = s.D.length ∧ GI room b n0 j0 k0 (tell s w i m) (upd T i) (-1) := by
 obtain ⟨p, hof, hpi, hTp, hwp⟩ := h.par i hi0 hi hT
 have hp : p < s.ts.length := by omega
 obtain ⟨kk, gs, jj, l, W⟩ := h.wt p hp hTp hwp
 have hil : i ∈ l := (W.kd.mem i).2 ⟨hi, hof, hT⟩
 obtain ⟨pp, hpl, hpg, hn, hj⟩ := W.kid i hil
 obtain ⟨g9, g0, gw⟩ := W.st.len9
 have hl1 : 0 < l.length := List.length_pos_of_mem hil
 have hll : l.length ≤ b := by
  have := nodup_le l (List.range s.ts.length) W.kd.nd (fun c hc => List.mem_range.2 ((W.kd.mem c).1 hc).1)
  rw [List.length_range] at this
  have := h.len
  omega
 have hcl : Cl s.ns kk (gs.getD pp default) jj m := by
  have e1 := (W.st.gsN hpg).2
  have e2 := hm.isN.1.2
  rw [show (tk s i).n = gs.getD pp default from hn] at e2 hm
  rw [show (tk s i).j = jj from hj] at hm
  obtain rfl : k = kk := by omega
  exact hm
 obtain ⟨u, hu⟩ : ∃ u, less (setR (tk s p) (tk s i).pl m) = u := ⟨_, rfl⟩
 obtain ⟨r1, r2, r3, r4, r5, r6⟩ := setR_same (tk s p) (tk s i).pl m
 have u1 : u.of_ = (tk s p).of_ := by rw [← hu]; exact r1
 have u2 : u.pl = (tk s p).pl := by rw [← hu]; exact r2
 have u3 : u.n = (tk s p).n := by rw [← hu]; exact r3
 have u4 : u.j = (tk s p).j := by rw [← hu]; exact r4
 have u5 : u.wt = (tk s p).wt := by rw [← hu]; exact r5
 have u6 : u.lf = ((l.length - 1 : Nat) : Int) := by
  rw [← hu]
  show IntKind.i64.wrap ((setR (tk s p) (tk s i).pl m).lf - 1) = _
  rw [r6, show (tk s p).lf = (l.length : Int) from W.lf, w64 (by omega) (by omega)]
  omega
 have u7 : ∀ q : Nat, q < 9 → res u q = if q = pp then m else res (tk s p) q := fun q hq => by
  rw [← hu]
  show res (setR (tk s p) (tk s i).pl m) q = _
  rw [show (tk s i).pl = (pp : Int) from hpl]
  exact res_set _ (by omega) hq m
 have etell : R21.tell s w i m = { s with kp := keep s.kp (tk s i).n (tk s i).j m, ts := s.ts.set p u, D := if u.lf = 0 then push s.D w (p : Int) else s.D } := by
  unfold R21.tell
  dsimp only
  rw [if_neg (by rw [show (s.ts.getD i default).of_ = (p : Int) from hof]; omega), show (s.ts.getD i default).of_ = (p : Int) from hof, Int.toNat_natCast, hu]
 have hs : ∀ c : Nat, (s.ts.set p u).getD c default = if c = p then u else s.ts.getD c default := fun c => getD_setT hp
 have f1 : ∀ c : Nat, ((s.ts.set p u).getD c default).of_ = (tk s c).of_ := fun c => by rw [hs]; split <;> simp_all
 have f2 : ∀ c : Nat, ((s.ts.set p u).getD c default).pl = (tk s c).pl := fun c => by rw [hs]; split <;> simp_all
 have f3 : ∀ c : Nat, ((s.ts.set p u).getD c default).n = (tk s c).n := fun c => by rw [hs]; split <;> simp_all
 have f4 : ∀ c : Nat, ((s.ts.set p u).getD c default).j = (tk s c).j := fun c => by rw [hs]; split <;> simp_all
 have f5 : ∀ c : Nat, ((s.ts.set p u).getD c default).wt = (tk s c).wt := fun c => by rw [hs]; split <;> simp_all
 have hpf : (p : Int) ∉ s.D.flatten := fun hin => by
  obtain ⟨_, i', e, _, _, c⟩ := (h.dq _).1 hin
  obtain rfl : i' = p := by omega
  rcases c with c | c
  ·exact hwp c
  ·rw [show (tk s i').lf = (l.length : Int) from W.lf] at c
   omega
 rw [etell]
 refine ⟨p, u, rfl, hpi, hTp, u3, u5, rfl, ?_, ?_⟩
 ·simp only
  split
  ·simp [push]
  ·rfl
 refine ⟨h.right, by simp only [List.length_set]; exact h.len, by simp only [List.length_set]; exact h.pos, fun c hc => ?_, ?_, upd_false.2 ⟨by omega, h.T0⟩, h.rlv, fun c hc hTc => ?_, fun c c0 hc hTc => ?_, fun c hc hTc hwc d hd hod => ?_, fun c hc hTc hwc => ?_, ?_, fun y => ?_, keep_mem h.mem hm, h.done⟩
 ·simp only [List.length_set] at hc
  exact upd_false.2 ⟨by omega, h.fresh c hc⟩
 ·refine ⟨(f1 0).trans h.root.1, (f3 0).trans h.root.2.1, (f4 0).trans h.root.2.2⟩
 ·simp only [List.length_set] at hc
  obtain ⟨k', a, b1, b2⟩ := h.lv c hc (upd_false.1 hTc).2
  refine ⟨k', ?_, ?_, ?_⟩
  ·show IsN s.ns (k' + 2) ((s.ts.set p u).getD c default).n
   rw [f3]; exact a
  ·show 0 ≤ ((s.ts.set p u).getD c default).j
   rw [f4]; exact b1
  ·show ((s.ts.set p u).getD c default).j ≤ k'
   rw [f4]; exact b2
 ·simp only [List.length_set] at hc
  obtain ⟨q, a1, a2, a3, a4⟩ := h.par c c0 hc (upd_false.1 hTc).2
  refine ⟨q, (f1 c).trans a1, a2, upd_false.2 ⟨fun e => ?_, a3⟩, by show ((s.ts.set p u).getD q default).wt ≠ 0; rw [f5]; exact a4⟩
  subst e
  have := hk c hc a1
  rw [(upd_false.1 hTc).2] at this
  cases this
 ·simp only [List.length_set] at hc hd
  have := h.new c hc (upd_false.1 hTc).2 ((f5 c).symm.trans hwc) d hd ((f1 d).symm.trans hod)
  unfold upd
  rw [this]
  simp
 ·simp only [List.length_set] at hc
  obtain ⟨hci, hTc'⟩ := upd_false.1 hTc
  have hwc' : (tk s c).wt ≠ 0 := by
   rw [← f5 c]; exact hwc
  by_cases hcp : c = p
  ·subst hcp
   refine ⟨kk, gs, jj, l.erase i, ?_, ?_, ⟨W.kd.nd.erase i, fun d => ?_⟩, ?_, fun d hd => ?_, fun q hq => ?_⟩
   ·exact W.st.of_eq (f3 c) (f4 c) (f5 c)
   ·show (gs.length : Int) = ((s.ts.set c u).getD c default).wt
    rw [f5]; exact W.len
   ·rw [W.kd.nd.mem_erase_iff, W.kd.mem, List.length_set, f1, upd_false]
    constructor
    ·rintro ⟨a, b1, b2, b3⟩; exact ⟨b1, b2, a, b3⟩
    ·rintro ⟨b1, b2, a, b3⟩; exact ⟨a, b1, b2, b3⟩
   ·show ((s.ts.set c u).getD c default).lf = _
    rw [hs, if_pos rfl, u6, List.length_erase_of_mem hil]
   ·obtain ⟨q, a1, a2, a3, a4⟩ := W.kid d (List.mem_of_mem_erase hd)
    exact ⟨q, (f2 d).trans a1, a2, (f3 d).trans a3, (f4 d).trans a4⟩
   ·by_cases hqp : q = pp
    ·right
     show Cl s.ns kk (gs.getD q default) jj (res ((s.ts.set c u).getD c default) q)
     rw [hs, if_pos rfl, u7 q (by omega), if_pos hqp, hqp]
     exact hcl
    ·rcases W.res q hq with ⟨d, hd, hdp⟩ | hc'
     ·left
      refine ⟨d, (W.kd.nd.mem_erase_iff).2 ⟨fun e => ?_, hd⟩, (f2 d).trans hdp⟩
      subst e
      rw [hpl] at hdp
      omega
     ·right
      show Cl s.ns kk (gs.getD q default) jj (res ((s.ts.set c u).getD c default) q)
      rw [hs, if_pos rfl, u7 q (by omega), if_neg hqp]
      exact hc'
  ·obtain ⟨k2, gs2, jj2, l2, W2⟩ := h.wt c hc hTc' hwc'
   have ec : (s.ts.set p u).getD c default = s.ts.getD c default := by rw [hs, if_neg hcp]
   refine ⟨k2, gs2, jj2, l2, by show St s.ns ((s.ts.set p u).getD c default) k2 gs2 jj2; rw [ec]; exact W2.st, by show _ = ((s.ts.set p u).getD c default).wt; rw [ec]; exact W2.len, ⟨W2.kd.nd, fun d => ?_⟩, by show ((s.ts.set p u).getD c default).lf = _; rw [ec]; exact W2.lf, fun d hd => ?_, fun q hq => ?_⟩
   ·rw [W2.kd.mem, List.length_set, f1, upd_false]
    constructor
    ·rintro ⟨b1, b2, b3⟩
     refine ⟨b1, b2, fun e => ?_, b3⟩
     subst e
     rw [show (s.ts.getD d default).of_ = (p : Int) from hof] at b2
     omega
    ·rintro ⟨b1, b2, _, b3⟩; exact ⟨b1, b2, b3⟩
   ·obtain ⟨q, a1, a2, a3, a4⟩ := W2.kid d hd
    exact ⟨q, (f2 d).trans a1, a2, (f3 d).trans a3, (f4 d).trans a4⟩
   ·rcases W2.res q hq with ⟨d, hd, hdp⟩ | hc'
    ·exact .inl ⟨d, hd, (f2 d).trans hdp⟩
    ·right
     show Cl s.ns k2 (gs2.getD q default) jj2 (res ((s.ts.set p u).getD c default) q)
     rw [ec]
     exact hc'
 ·simp only
  split
  ·exact ((push_perm hw (p : Int)).nodup_iff).2 (List.nodup_cons.2 ⟨hpf, h.nd⟩)
  ·exact h.nd
 ·have lfs : ∀ c : Nat, c ≠ p → ((s.ts.set p u).getD c default).lf = (tk s c).lf := fun c hc => by rw [hs, if_neg hc]
  have lfp : ((s.ts.set p u).getD p default).lf = u.lf := by rw [hs, if_pos rfl]
  have hmem : y ∈ (if u.lf = 0 then push s.D w (p : Int) else s.D).flatten ↔ (u.lf = 0 ∧ y = p) ∨ y ∈ s.D.flatten := by
   split
   ·rename_i h0
    rw [(push_perm hw (p : Int)).mem_iff, List.mem_cons]
    simp [h0]
   ·rename_i h0
    simp [h0]
  show y ∈ (if u.lf = 0 then push s.D w (p : Int) else s.D).flatten ↔ _
  rw [hmem]
  constructor
  ·rintro (⟨h0, rfl⟩ | hy)
   ·exact ⟨by omega, p, rfl, by simp only [List.length_set]; exact hp, upd_false.2 ⟨by omega, hTp⟩, .inr (lfp.trans h0)⟩
   ·obtain ⟨a1, i', e, a2, a3, a4⟩ := (h.dq y).1 hy
    have hip : i' ≠ p := fun e' => hpf (by rw [← e', ← e]; exact hy)
    refine ⟨by omega, i', e, by simp only [List.length_set]; exact a2, upd_false.2 ⟨fun e' => a1 (by rw [e, e']), a3⟩, ?_⟩
    rcases a4 with a4 | a4
    ·exact .inl ((f5 i').trans a4)
    ·exact .inr ((lfs i' hip).trans a4)
  ·rintro ⟨a1, i', e, a2, a3, a4⟩
   simp only [List.length_set] at a2
   obtain ⟨b1, b2⟩ := upd_false.1 a3
   by_cases hip : i' = p
   ·left
    subst hip
    refine ⟨?_, e⟩
    rcases a4 with a4 | a4
    ·exact absurd ((f5 i').symm.trans a4) hwp
    ·exact lfp.symm.trans a4
   ·right
    refine (h.dq y).2 ⟨by omega, i', e, a2, b2, ?_⟩
    rcases a4 with a4 | a4
    ·exact .inl ((f5 i').symm.trans a4)
    ·exact .inr ((lfs i' hip).symm.trans a4)
end R21
end Go.GL


namespace Go.GL
open R6 R7
namespace R21
open R8 (g s16 IsSq bit s16_pre)
open R9 (Memo LS look9)
theorem mem_news {N c : Nat} {y : Int} : y ∈ news N c ↔ ∃ q : Nat, q < c ∧ y = ((N + q : Nat) : Int) := by
 unfold news
 rw [List.mem_map]
 constructor
 ·rintro ⟨q, hq, e⟩; exact ⟨q, List.mem_range.1 hq, e.symm⟩
 ·rintro ⟨q, hq, e⟩; exact ⟨q, List.mem_range.2 hq, e.symm⟩
theorem news_nd (N c : Nat) : (news N c).Nodup := by
 unfold news
 rw [List.Nodup, List.pairwise_map]
 exact (List.nodup_range (n := c)).imp fun h e => h (by omega)
/-- A task waits for parts. -/
theorem GI.wait {room : Int} {b : Nat} {n0 j0 : Int} {k0 : Nat} {s : Ms} {T : Nat → Bool} {i : Nat} (h : GI room b n0 j0 k0 s T (i : Int)) (hi : i < s.ts.length) (hT : T i = false) (hk : ∀ c : Nat, c < s.ts.length → (tk s c).of_ = (i : Int) → T c = true) {k : Nat} {gs : List Int} {jj : Int} {t : Tk} (et : t = { tk s i with wt := gs.length, lf := gs.length }) (st : St s.ns t k gs jj) {w : Nat} (hw : w < s.D.length) :
  (R21.wait s w i jj gs).ts = s.ts.set i t ++ newT i jj 0 gs ∧ (R21.wait s w i jj gs).ns = s.ns ∧ (R21.wait s w i jj gs).D.length = s.D.length ∧ GI room (b + 9) n0 j0 k0 (R21.wait s w i jj gs) T (-1) := by
 obtain ⟨p1, p2, p3, p4, p5, p6, p7⟩ := parts_eq w i jj gs 0 { s with ts := s.ts.set i t } hw
 obtain ⟨g9, g0, _⟩ := st.len9
 obtain ⟨jj0, jj1⟩ := st.jj
 have ewt : R21.wait s w i jj gs = parts w i jj 0 gs { s with ts := s.ts.set i t } := by rw [et]; rfl
 rw [ewt]
 generalize parts w i jj 0 gs { s with ts := s.ts.set i t } = s' at *
 simp only [List.length_set] at p1 p2 p3 p5 p6 p7
 have t1 : t.n = (tk s i).n := by rw [et]
 have t2 : t.j = (tk s i).j := by rw [et]
 have t3 : t.of_ = (tk s i).of_ := by rw [et]
 have t4 : t.pl = (tk s i).pl := by rw [et]
 have t5 : t.wt = gs.length := by rw [et]
 have t6 : t.lf = gs.length := by rw [et]
 obtain ⟨N, hN⟩ : ∃ N, s.ts.length = N := ⟨_, rfl⟩
 have hl : s'.ts.length = N + gs.length := by rw [p1, List.length_append, List.length_set, newT_len, hN]
 have old : ∀ c : Nat, c < N → tk s' c = if c = i then t else tk s c := fun c hc => by
  show s'.ts.getD c default = _
  rw [p1, List.getD_eq_getElem?_getD, List.getElem?_append_left (by rw [List.length_set]; omega), ← List.getD_eq_getElem?_getD, getD_setT hi]
 have nw : ∀ q : Nat, q < gs.length → tk s' (N + q) = tk0 (gs.getD q default) jj i (q : Int) := fun q hq => by
  show s'.ts.getD (N + q) default = _
  rw [p1, List.getD_eq_getElem?_getD, List.getElem?_append_right (by rw [List.length_set]; omega), List.length_set, hN, show N + q - N = q by omega, ← List.getD_eq_getElem?_getD, newT_at _ _ _ _ _ hq, Nat.zero_add]
 have nw' : ∀ c : Nat, N ≤ c → c < N + gs.length → tk s' c = tk0 (gs.getD (c - N) default) jj i ((c - N : Nat) : Int) := fun c h1 h2 => by
  have := nw (c - N) (by omega)
  rw [show N + (c - N) = c by omega] at this
  exact this
 have f1 : ∀ c : Nat, c < N → (tk s' c).of_ = (tk s c).of_ := fun c hc => by rw [old c hc]; split; (rename_i e; rw [e]; exact t3); rfl
 have f2 : ∀ c : Nat, c < N → (tk s' c).pl = (tk s c).pl := fun c hc => by rw [old c hc]; split; (rename_i e; rw [e]; exact t4); rfl
 have f3 : ∀ c : Nat, c < N → (tk s' c).n = (tk s c).n := fun c hc => by rw [old c hc]; split; (rename_i e; rw [e]; exact t1); rfl
 have f4 : ∀ c : Nat, c < N → (tk s' c).j = (tk s c).j := fun c hc => by rw [old c hc]; split; (rename_i e; rw [e]; exact t2); rfl
 have fi : ∀ c : Nat, c < N → c ≠ i → tk s' c = tk s c := fun c hc hci => by rw [old c hc, if_neg hci]
 have fii : tk s' i = t := by rw [old i (by omega), if_pos rfl]
 have hfr := h.fresh
 rw [hN] at hfr
 refine ⟨p1, p2, p6, ?_⟩
 refine ⟨by rw [p2]; exact h.right, by rw [hl]; have := h.len; omega, by rw [hl]; have := h.pos; omega, fun c hc => hfr c (by omega), ?_, h.T0, by rw [p2]; exact h.rlv, fun c hc hTc => ?_, fun c c0 hc hTc => ?_, fun c hc hTc hwc d hd hod => ?_, fun c hc hTc hwc => ?_, ?_, fun y => ?_, by rw [p2, p3]; exact h.mem, by rw [p5]; exact h.done⟩
 ·have hp := h.pos
  exact ⟨(f1 0 (by omega)).trans h.root.1, (f3 0 (by omega)).trans h.root.2.1, (f4 0 (by omega)).trans h.root.2.2⟩
 ·rw [hl] at hc
  rw [p2]
  by_cases hcN : c < N
  ·rw [f3 c hcN, f4 c hcN]
   exact h.lv c (by omega) hTc
  ·rw [nw' c (by omega) hc]
   exact ⟨k, st.gsN (by omega), jj0, jj1⟩
 ·rw [hl] at hc
  by_cases hcN : c < N
  ·obtain ⟨q, a1, a2, a3, a4⟩ := h.par c c0 (by omega) hTc
   refine ⟨q, (f1 c hcN).trans a1, a2, a3, ?_⟩
   by_cases hq : q = i
   ·subst hq
    rw [fii, t5]
    omega
   ·rw [fi q (by omega) hq]; exact a4
  ·refine ⟨i, by rw [nw' c (by omega) hc]; rfl, by omega, hT, ?_⟩
   rw [fii, t5]
   omega
 ·rw [hl] at hc hd
  cases hTd : T d with
  | true => rfl
  | false =>
   exfalso
   by_cases hdN : d < N
   ·by_cases hcN : c < N
    ·by_cases hci : c = i
     ·subst hci
      rw [fii, t5] at hwc
      omega
     ·rw [fi c hcN hci] at hwc
      have := h.new c (by omega) hTc hwc d (by omega) ((f1 d hdN).symm.trans hod)
      rw [this] at hTd
      cases hTd
    ·by_cases hd0 : d = 0
     ·subst hd0
      have := h.root.1
      rw [← f1 0 hdN, hod] at this
      omega
     ·obtain ⟨q, a1, a2, _⟩ := h.par d (by omega) (by omega) hTd
      rw [f1 d hdN, a1] at hod
      omega
   ·rw [nw' d (by omega) hd] at hod
    have e : (i : Int) = (c : Int) := hod
    obtain rfl : i = c := by omega
    rw [fii, t5] at hwc
    omega
 ·rw [hl] at hc
  by_cases hcN : c < N
  ·by_cases hci : c = i
   ·subst hci
    refine ⟨k, gs, jj, (List.range gs.length).map fun q => N + q, ?_, ?_, ⟨?_, fun d => ?_⟩, ?_, fun d hd => ?_, fun q hq => .inl ⟨N + q, List.mem_map.2 ⟨q, List.mem_range.2 hq, rfl⟩, ?_⟩⟩
    ·show St s'.ns (tk s' c) k gs jj
     rw [fii, p2]; exact st
    ·show (gs.length : Int) = (tk s' c).wt
     rw [fii, t5]
    ·rw [List.Nodup, List.pairwise_map]
     exact (List.nodup_range (n := gs.length)).imp fun h e => h (by omega)
    ·rw [List.mem_map]
     constructor
     ·rintro ⟨q, hq, rfl⟩
      have hq := List.mem_range.1 hq
      exact ⟨by omega, by show (tk s' (N + q)).of_ = _; rw [nw q hq]; rfl, hfr _ (by omega)⟩
     ·rintro ⟨a1, a2, a3⟩
      rw [hl] at a1
      by_cases hdN : d < N
      ·have := hk d (by omega) ((f1 d hdN).symm.trans a2)
       rw [this] at a3
       cases a3
      ·exact ⟨d - N, List.mem_range.2 (by omega), by omega⟩
    ·show (tk s' c).lf = _
     rw [fii, t6, List.length_map, List.length_range]
    ·obtain ⟨q, hq, rfl⟩ := List.mem_map.1 hd
     have hq := List.mem_range.1 hq
     refine ⟨q, ?_, hq, ?_, ?_⟩
     ·show (tk s' (N + q)).pl = _
      rw [nw q hq]; rfl
     ·show (tk s' (N + q)).n = _
      rw [nw q hq]; rfl
     ·show (tk s' (N + q)).j = _
      rw [nw q hq]; rfl
    ·show (tk s' (N + q)).pl = _
     rw [nw q hq]; rfl
   ·have ec := fi c hcN hci
    rw [ec] at hwc
    obtain ⟨k2, gs2, jj2, l2, W2⟩ := h.wt c (by omega) hTc hwc
    refine ⟨k2, gs2, jj2, l2, by show St s'.ns (tk s' c) k2 gs2 jj2; rw [ec, p2]; exact W2.st, by show _ = (tk s' c).wt; rw [ec]; exact W2.len, ⟨W2.kd.nd, fun d => ?_⟩, by show (tk s' c).lf = _; rw [ec]; exact W2.lf, fun d hd => ?_, fun q hq => ?_⟩
    ·rw [W2.kd.mem, hl, hN]
     constructor
     ·rintro ⟨b1, b2, b3⟩
      exact ⟨by omega, (f1 d b1).trans b2, b3⟩
     ·rintro ⟨b1, b2, b3⟩
      by_cases hdN : d < N
      ·exact ⟨hdN, (f1 d hdN).symm.trans b2, b3⟩
      ·have e : (tk s' d).of_ = (c : Int) := b2
       rw [nw' d (by omega) b1] at e
       have e : (i : Int) = (c : Int) := e
       omega
    ·obtain ⟨q, a1, a2, a3, a4⟩ := W2.kid d hd
     have hdN : d < N := by have := ((W2.kd.mem d).1 hd).1; omega
     exact ⟨q, (f2 d hdN).trans a1, a2, (f3 d hdN).trans a3, (f4 d hdN).trans a4⟩
    ·rcases W2.res q hq with ⟨d, hd, hdp⟩ | hc'
     ·have hdN : d < N := by have := ((W2.kd.mem d).1 hd).1; omega
      exact .inl ⟨d, hd, (f2 d hdN).trans hdp⟩
     ·right
      show Cl s'.ns k2 (gs2.getD q default) jj2 (res (tk s' c) q)
      rw [ec, p2]
      exact hc'
  ·rw [nw' c (by omega) hc] at hwc
   exact absurd rfl hwc
 ·rw [p7.nodup_iff, List.nodup_append]
  refine ⟨news_nd _ _, h.nd, fun a ha b' hb e => ?_⟩
  subst e
  obtain ⟨q, hq, e⟩ := mem_news.1 ha
  obtain ⟨_, i', e', hi', _⟩ := (h.dq _).1 hb
  omega
 ·rw [p7.mem_iff, List.mem_append, mem_news, hN, hl]
  constructor
  ·rintro (⟨q, hq, rfl⟩ | hy)
   ·exact ⟨by omega, N + q, rfl, by omega, hfr _ (by omega), .inl (by rw [nw q hq]; rfl)⟩
   ·obtain ⟨a1, i', e, a2, a3, a4⟩ := (h.dq y).1 hy
    have hii : i' ≠ i := fun e' => a1 (by rw [e, e'])
    refine ⟨by omega, i', e, by omega, a3, ?_⟩
    rw [fi i' (by omega) hii]
    exact a4
  ·rintro ⟨a1, i', e, a2, a3, a4⟩
   by_cases hiN : i' < N
   ·right
    have hii : i' ≠ i := fun e' => by
     subst e'
     rw [fii, t5, t6] at a4
     omega
    rw [fi i' hiN hii] at a4
    exact (h.dq y).2 ⟨fun e' => hii (by omega), i', e, by omega, a3, a4⟩
   ·left
    exact ⟨i' - N, by omega, by rw [e]; congr 1; omega⟩
end R21
end Go.GL


namespace Go.GL
open R6 R7
namespace R21
open R8 (g s16 IsSq bit s16_pre)
open R9 (Memo LS look9)
/-- A square of four of sixteen is put: there it is, or the store is full. -/
theorem putSq4 {ns : List Node} {room : Int} (hr : R6.right ns room) {lv : Nat} (hl : lv + 1 ≤ 42) {l : List Int} (hi : ∀ i : Int, 0 ≤ i → i < 16 → IsN ns lv (g l i)) {y x : Int} (hy : 0 ≤ y ∧ y ≤ 2) (hx : 0 ≤ x ∧ x ≤ 2) :
  (∃ ms m, R8.putSq ns room l y x = (ms, m, 0) ∧ R6.right ms room ∧ ns <+: ms ∧ IsSq ms lv l y x m) ∨ (R8.putSq ns room l y x).2.2 = 40 := by
 unfold R8.putSq
 rcases put4 hr hl (hi (4 * y + x) (by omega) (by omega)) (hi (4 * y + x + 1) (by omega) (by omega)) (hi (4 * y + x + 4) (by omega) (by omega)) (hi (4 * y + x + 5) (by omega) (by omega)) with ⟨ms, m, e, a, b, c⟩ | e
 ·exact .inl ⟨ms, m, e, a, b, ⟨c.is, c.kids⟩⟩
 ·exact .inr e
/-- The nine squares. -/
theorem all9 {ns : List Node} {room : Int} (hr : R6.right ns room) {k : Nat} {n : Int} (hn : IsN ns (k + 3) n) : (∃ ms qs, R8.all ns room n = (ms, qs, 0) ∧ R6.right ms room ∧ ns <+: ms ∧ Nine9 ms k n qs) ∨ (R8.all ns room n).2.2 = 40 := by
 have hw := (right_iff.1 hr).2
 have hlv : k + 1 + 1 ≤ 42 := by
  have := (hw.lvb hn.1).2
  rw [hn.2] at this
  omega
 have hi := R8.s16_is (lv := k + 1) hw hn
 have hs16 := fun ms (hp : ns <+: ms) => s16_pre (lv := k + 1) hw hp hn
 unfold R8.all
 generalize hl : s16 ns n = l at *
 dsimp only
 rcases putSq4 (y := 0) (x := 0) hr hlv hi (by omega) (by omega) with ⟨m0, q0, e0, r0, p0, s0⟩ | e0
 rotate_left
 ·exact .inr (by rw [if_pos (by rw [e0]; decide), e0])
 have t0 : ns <+: m0 := p0
 rw [e0]
 dsimp only
 rw [if_neg (by simp)]
 rcases putSq4 (y := 0) (x := 1) r0 hlv (fun i h0 h1 => (hi i h0 h1).pre t0) (by omega) (by omega) with ⟨m1, q1, e1, r1, p1, s1⟩ | e1
 rotate_left
 ·exact .inr (by rw [if_pos (by rw [e1]; decide), e1])
 have t1 : ns <+: m1 := t0.trans p1
 rw [e1]
 dsimp only
 rw [if_neg (by simp)]
 rcases putSq4 (y := 0) (x := 2) r1 hlv (fun i h0 h1 => (hi i h0 h1).pre t1) (by omega) (by omega) with ⟨m2, q2, e2, r2, p2, s2⟩ | e2
 rotate_left
 ·exact .inr (by rw [if_pos (by rw [e2]; decide), e2])
 have t2 : ns <+: m2 := t1.trans p2
 rw [e2]
 dsimp only
 rw [if_neg (by simp)]
 rcases putSq4 (y := 1) (x := 0) r2 hlv (fun i h0 h1 => (hi i h0 h1).pre t2) (by omega) (by omega) with ⟨m3, q3, e3, r3, p3, s3⟩ | e3
 rotate_left
 ·exact .inr (by rw [if_pos (by rw [e3]; decide), e3])
 have t3 : ns <+: m3 := t2.trans p3
 rw [e3]
 dsimp only
 rw [if_neg (by simp)]
 rcases putSq4 (y := 1) (x := 1) r3 hlv (fun i h0 h1 => (hi i h0 h1).pre t3) (by omega) (by omega) with ⟨m4, q4, e4, r4, p4, s4⟩ | e4
 rotate_left
 ·exact .inr (by rw [if_pos (by rw [e4]; decide), e4])
 have t4 : ns <+: m4 := t3.trans p4
 rw [e4]
 dsimp only
 rw [if_neg (by simp)]
 rcases putSq4 (y := 1) (x := 2) r4 hlv (fun i h0 h1 => (hi i h0 h1).pre t4) (by omega) (by omega) with ⟨m5, q5, e5, r5, p5, s5⟩ | e5
 rotate_left
 ·exact .inr (by rw [if_pos (by rw [e5]; decide), e5])
 have t5 : ns <+: m5 := t4.trans p5
 rw [e5]
 dsimp only
 rw [if_neg (by simp)]
 rcases putSq4 (y := 2) (x := 0) r5 hlv (fun i h0 h1 => (hi i h0 h1).pre t5) (by omega) (by omega) with ⟨m6, q6, e6, r6, p6, s6⟩ | e6
 rotate_left
 ·exact .inr (by rw [if_pos (by rw [e6]; decide), e6])
 have t6 : ns <+: m6 := t5.trans p6
 rw [e6]
 dsimp only
 rw [if_neg (by simp)]
 rcases putSq4 (y := 2) (x := 1) r6 hlv (fun i h0 h1 => (hi i h0 h1).pre t6) (by omega) (by omega) with ⟨m7, q7, e7, r7, p7, s7⟩ | e7
 rotate_left
 ·exact .inr (by rw [if_pos (by rw [e7]; decide), e7])
 have t7 : ns <+: m7 := t6.trans p7
 rw [e7]
 dsimp only
 rw [if_neg (by simp)]
 rcases putSq4 (y := 2) (x := 2) r7 hlv (fun i h0 h1 => (hi i h0 h1).pre t7) (by omega) (by omega) with ⟨m8, q8, e8, r8, p8, s8⟩ | e8
 rotate_left
 ·exact .inr (by rw [if_pos (by rw [e8]; decide), e8])
 have t8 : ns <+: m8 := t7.trans p8
 rw [e8]
 dsimp only
 rw [if_neg (by simp)]
 left
 refine ⟨m8, [q0, q1, q2, q3, q4, q5, q6, q7, q8], rfl, r8, t8, rfl, fun p hp => ?_⟩
 rw [hs16 m8 t8]
 have u7 : m7 <+: m8 := p8
 have u6 : m6 <+: m8 := p7.trans u7
 have u5 : m5 <+: m8 := p6.trans u6
 have u4 : m4 <+: m8 := p5.trans u5
 have u3 : m3 <+: m8 := p4.trans u4
 have u2 : m2 <+: m8 := p3.trans u3
 have u1 : m1 <+: m8 := p2.trans u2
 have u0 : m0 <+: m8 := p1.trans u1
 rcases (by omega : p = 0 ∨ p = 1 ∨ p = 2 ∨ p = 3 ∨ p = 4 ∨ p = 5 ∨ p = 6 ∨ p = 7 ∨ p = 8) with rfl | rfl | rfl | rfl | rfl | rfl | rfl | rfl | rfl
 ·exact s0.pre u0
 ·exact s1.pre u1
 ·exact s2.pre u2
 ·exact s3.pre u3
 ·exact s4.pre u4
 ·exact s5.pre u5
 ·exact s6.pre u6
 ·exact s7.pre u7
 ·exact s8
/-- The results of a task, in a list. -/
def rsL (t : Tk) : List Int := [t.r0, t.r1, t.r2, t.r3, t.r4, t.r5, t.r6, t.r7, t.r8]
theorem rsL_at (t : Tk) (p : Nat) : (rsL t).getD p default = res t p := rfl
theorem Rs.isN {ns : List Node} {k : Nat} {j n : Int} {qs rs : List Int} (h : Rs ns k j qs rs) {p : Nat} (hp : p < 9) : IsN ns (k + 1) (rs.getD p default) := by
 have := h.2 p hp
 split at this
 ·exact this.isN.2
 ·exact this.is
/-- Nine come to four. -/
theorem join_ok {room : Int} {s : Ms} {w i : Nat} {t : Tk} (ht : tk s i = t) (hr : R6.right s.ns room) {k : Nat} (hn : IsN s.ns (k + 3) t.n) (hj0 : 0 ≤ t.j) (hj1 : t.j ≤ k + 1) {qs : List Int} (hrs : Rs s.ns k t.j qs (rsL t)) :
  (∃ ms ls, join room s w i = (R21.wait { s with ns := ms } w i (if t.j = (k : Int) + 1 then t.j - 1 else t.j) ls, 0) ∧ R6.right ms room ∧ s.ns <+: ms ∧ Four4 ms k (rsL t) ls) ∨ (join room s w i).2 = 40 := by
 have hw := (right_iff.1 hr).2
 have hlv : k + 1 + 1 ≤ 42 := by
  have := (hw.lvb hn.1).2
  rw [hn.2] at this
  omega
 have hN : ∀ p : Nat, p < 9 → IsN s.ns (k + 1) (res t p) := fun p hp => Rs.isN (n := 0) hrs hp
 have hfull : (if full s t then IntKind.i64.wrap (t.j - 1) else t.j) = if t.j = (k : Int) + 1 then t.j - 1 else t.j := by
  have e : full s t ↔ t.j = (k : Int) + 1 := by
   unfold full
   rw [hn.2]
   omega
  by_cases h : t.j = (k : Int) + 1
  ·rw [if_pos (e.2 h), if_pos h, w64 (by omega) (by omega)]
  ·rw [if_neg (fun x => h (e.1 x)), if_neg h]
 unfold join
 rw [show s.ts.getD i default = t from ht]
 dsimp only
 rw [hfull]
 rcases put4 hr hlv (hN 0 (by decide)) (hN 1 (by decide)) (hN 3 (by decide)) (hN 4 (by decide)) with ⟨m0, q0, e0, r0, p0, s0⟩ | e0
 rotate_left
 ·exact .inr (by rw [if_pos (by show (R6.put _ room _ _ _ _).2.2 ≠ 0; rw [show (R6.put s.ns room t.r0 t.r1 t.r3 t.r4).2.2 = 40 from e0]; decide)]; exact e0)
 have t0 : s.ns <+: m0 := p0
 rw [show R6.put s.ns room t.r0 t.r1 t.r3 t.r4 = (m0, q0, 0) from e0]
 dsimp only
 rw [if_neg (by simp)]
 rcases put4 r0 hlv ((hN 1 (by decide)).pre t0) ((hN 2 (by decide)).pre t0) ((hN 4 (by decide)).pre t0) ((hN 5 (by decide)).pre t0) with ⟨m1, q1, e1, r1, p1, s1⟩ | e1
 rotate_left
 ·exact .inr (by rw [if_pos (by show (R6.put _ room _ _ _ _).2.2 ≠ 0; rw [show (R6.put m0 room t.r1 t.r2 t.r4 t.r5).2.2 = 40 from e1]; decide)]; exact e1)
 have t1 : s.ns <+: m1 := t0.trans p1
 rw [show R6.put m0 room t.r1 t.r2 t.r4 t.r5 = (m1, q1, 0) from e1]
 dsimp only
 rw [if_neg (by simp)]
 rcases put4 r1 hlv ((hN 3 (by decide)).pre t1) ((hN 4 (by decide)).pre t1) ((hN 6 (by decide)).pre t1) ((hN 7 (by decide)).pre t1) with ⟨m2, q2, e2, r2, p2, s2⟩ | e2
 rotate_left
 ·exact .inr (by rw [if_pos (by show (R6.put _ room _ _ _ _).2.2 ≠ 0; rw [show (R6.put m1 room t.r3 t.r4 t.r6 t.r7).2.2 = 40 from e2]; decide)]; exact e2)
 have t2 : s.ns <+: m2 := t1.trans p2
 rw [show R6.put m1 room t.r3 t.r4 t.r6 t.r7 = (m2, q2, 0) from e2]
 dsimp only
 rw [if_neg (by simp)]
 rcases put4 r2 hlv ((hN 4 (by decide)).pre t2) ((hN 5 (by decide)).pre t2) ((hN 7 (by decide)).pre t2) ((hN 8 (by decide)).pre t2) with ⟨m3, q3, e3, r3, p3, s3⟩ | e3
 rotate_left
 ·exact .inr (by rw [if_pos (by show (R6.put _ room _ _ _ _).2.2 ≠ 0; rw [show (R6.put m2 room t.r4 t.r5 t.r7 t.r8).2.2 = 40 from e3]; decide)]; exact e3)
 have t3 : s.ns <+: m3 := t2.trans p3
 rw [show R6.put m2 room t.r4 t.r5 t.r7 t.r8 = (m3, q3, 0) from e3]
 dsimp only
 rw [if_neg (by simp)]
 refine .inl ⟨m3, [q0, q1, q2, q3], rfl, r3, t3, rfl, fun p hp => ?_⟩
 have u2 : m2 <+: m3 := p3
 have u1 : m1 <+: m3 := p2.trans u2
 have u0 : m0 <+: m3 := p1.trans u1
 rcases (by omega : p = 0 ∨ p = 1 ∨ p = 2 ∨ p = 3) with rfl | rfl | rfl | rfl
 ·exact s0.pre u0
 ·exact s1.pre u1
 ·exact s2.pre u2
 ·exact s3
end R21
end Go.GL


namespace Go.GL
open R6 R7
namespace R21
open R8 (g s16 IsSq bit s16_pre)
open R9 (Memo LS look9)
structure Same (u t : Tk) : Prop where
 n : u.n = t.n
 j : u.j = t.j
 of_ : u.of_ = t.of_
 pl : u.pl = t.pl
 wt : u.wt = t.wt
 lf : u.lf = t.lf
theorem setR_Same (t : Tk) (p v : Int) : Same (setR t p v) t := by
 obtain ⟨a, b, c, d, e, f⟩ := setR_same t p v
 exact ⟨c, d, a, b, e, f⟩
theorem Same.trans {a b c : Tk} (h : Same a b) (k : Same b c) : Same a c := ⟨h.n.trans k.n, h.j.trans k.j, h.of_.trans k.of_, h.pl.trans k.pl, h.wt.trans k.wt, h.lf.trans k.lf⟩
/-- The results of a new task turn. -/
theorem GI.setr {room : Int} {b : Nat} {n0 j0 : Int} {k0 : Nat} {s : Ms} {T : Nat → Bool} {x : Int} (h : GI room b n0 j0 k0 s T x) {i : Nat} (hi : i < s.ts.length) (hw0 : (tk s i).wt = 0) {u : Tk} (hu : Same u (tk s i)) : GI room b n0 j0 k0 { s with ts := s.ts.set i u } T x := by
 have hs : ∀ c : Nat, (s.ts.set i u).getD c default = if c = i then u else s.ts.getD c default := fun c => getD_setT hi
 have f : ∀ c : Nat, Same ((s.ts.set i u).getD c default) (tk s c) := fun c => by
  rw [hs]
  split
  ·rename_i e; rw [e]; exact hu
  ·exact ⟨rfl, rfl, rfl, rfl, rfl, rfl⟩
 refine ⟨h.right, by simp only [List.length_set]; exact h.len, by simp only [List.length_set]; exact h.pos, fun c hc => h.fresh c (by simpa only [List.length_set] using hc), ⟨(f 0).of_.trans h.root.1, (f 0).n.trans h.root.2.1, (f 0).j.trans h.root.2.2⟩, h.T0, h.rlv, fun c hc hTc => ?_, fun c c0 hc hTc => ?_, fun c hc hTc hwc d hd hod => ?_, fun c hc hTc hwc => ?_, h.nd, fun y => ?_, h.mem, h.done⟩
 ·simp only [List.length_set] at hc
  obtain ⟨k', a, b1, b2⟩ := h.lv c hc hTc
  exact ⟨k', by show IsN s.ns (k' + 2) ((s.ts.set i u).getD c default).n; rw [(f c).n]; exact a, by show 0 ≤ ((s.ts.set i u).getD c default).j; rw [(f c).j]; exact b1, by show ((s.ts.set i u).getD c default).j ≤ k'; rw [(f c).j]; exact b2⟩
 ·simp only [List.length_set] at hc
  obtain ⟨q, a1, a2, a3, a4⟩ := h.par c c0 hc hTc
  exact ⟨q, (f c).of_.trans a1, a2, a3, by show ((s.ts.set i u).getD q default).wt ≠ 0; rw [(f q).wt]; exact a4⟩
 ·simp only [List.length_set] at hc hd
  exact h.new c hc hTc ((f c).wt.symm.trans hwc) d hd ((f d).of_.symm.trans hod)
 ·simp only [List.length_set] at hc
  have hci : c ≠ i := fun e => by
   subst e
   exact hwc ((f c).wt.trans hw0)
  have ec : (s.ts.set i u).getD c default = s.ts.getD c default := by rw [hs, if_neg hci]
  obtain ⟨k2, gs2, jj2, l2, W2⟩ := h.wt c hc hTc (by rw [show tk s c = (s.ts.set i u).getD c default from ec.symm]; exact hwc)
  refine ⟨k2, gs2, jj2, l2, by show St s.ns ((s.ts.set i u).getD c default) k2 gs2 jj2; rw [ec]; exact W2.st, by show _ = ((s.ts.set i u).getD c default).wt; rw [ec]; exact W2.len, ⟨W2.kd.nd, fun d => ?_⟩, by show ((s.ts.set i u).getD c default).lf = _; rw [ec]; exact W2.lf, fun d hd => ?_, fun q hq => ?_⟩
  ·rw [W2.kd.mem, List.length_set, (f d).of_]
  ·obtain ⟨q, a1, a2, a3, a4⟩ := W2.kid d hd
   exact ⟨q, (f d).pl.trans a1, a2, (f d).n.trans a3, (f d).j.trans a4⟩
  ·rcases W2.res q hq with ⟨d, hd, hdp⟩ | hc'
   ·exact .inl ⟨d, hd, (f d).pl.trans hdp⟩
   ·right
    show Cl s.ns k2 (gs2.getD q default) jj2 (res ((s.ts.set i u).getD c default) q)
    rw [ec]
    exact hc'
 ·rw [h.dq y]
  constructor
  ·rintro ⟨a1, i', e, a2, a3, a4⟩
   refine ⟨a1, i', e, by simp only [List.length_set]; exact a2, a3, ?_⟩
   rcases a4 with a4 | a4
   ·exact .inl ((f i').wt.trans a4)
   ·exact .inr ((f i').lf.trans a4)
  ·rintro ⟨a1, i', e, a2, a3, a4⟩
   simp only [List.length_set] at a2
   refine ⟨a1, i', e, a2, a3, ?_⟩
   rcases a4 with a4 | a4
   ·exact .inl ((f i').wt.symm.trans a4)
   ·exact .inr ((f i').lf.symm.trans a4)
theorem set_self {l : List Tk} {i : Nat} (h : i < l.length) : l.set i (l.getD i default) = l := by
 have e : l.getD i default = l[i] := by simp [h]
 rw [e, List.set_getElem_self]
/-- The middles of nine. -/
theorem mids_ok {room : Int} {i lv : Nat} : ∀ (l : List Int) (q0 : Nat) (s : Ms), R6.right s.ns room → i < s.ts.length → q0 + l.length ≤ 9 → (∀ x ∈ l, IsN s.ns (lv + 2) x) →
  (∃ ms u, mids room i q0 l s = ({ s with ns := ms, ts := s.ts.set i u }, 0) ∧ R6.right ms room ∧ s.ns <+: ms ∧ Same u (tk s i) ∧ (∀ q : Nat, q < l.length → IsSq ms lv (s16 ms (l.getD q default)) 1 1 (res u (q0 + q))) ∧ (∀ q : Nat, q < 9 → q < q0 ∨ q0 + l.length ≤ q → res u q = res (tk s i) q)) ∨ (mids room i q0 l s).2 = 40
 | [], q0, s, hr, hi, hq, hl => .inl ⟨s.ns, tk s i, by
   show (s, (0 : Int)) = _
   rw [set_self hi], hr, List.prefix_refl _, ⟨rfl, rfl, rfl, rfl, rfl, rfl⟩, fun q h => absurd h (Nat.not_lt_zero q), fun q _ _ => rfl⟩
 | n :: l, q0, s, hr, hi, hq, hl => by
  have hw := (right_iff.1 hr).2
  have hn := hl n List.mem_cons_self
  have hlv : lv + 1 ≤ 42 := by
   have := (hw.lvb hn.1).2
   rw [hn.2] at this
   omega
  rw [List.length_cons] at hq
  unfold mids
  dsimp only
  rcases putSq4 (y := 1) (x := 1) hr hlv (R8.s16_is hw hn) (by omega) (by omega) with ⟨m1, m, e1, r1, p1, s1⟩ | e
  ·rw [e1]
   dsimp only
   rw [if_neg (by simp)]
   have hi' : i < (s.ts.set i (setR (tk s i) q0 m)).length := by rw [List.length_set]; exact hi
   have et : (s.ts.set i (setR (tk s i) q0 m)).getD i default = setR (tk s i) q0 m := by rw [getD_setT hi, if_pos rfl]
   rcases mids_ok l (q0 + 1) { s with ns := m1, ts := s.ts.set i (setR (tk s i) q0 m) } r1 hi' (by omega) (fun x hx => (hl x (List.mem_cons_of_mem _ hx)).pre p1) with ⟨ms, u, e2, r2, p2, su, h1, h2⟩ | e2
   ·left
    have et' : tk { s with ns := m1, ts := s.ts.set i (setR (tk s i) q0 m) } i = setR (tk s i) q0 m := et
    rw [et'] at su h2
    refine ⟨ms, u, ?_, r2, p1.trans p2, su.trans (setR_Same _ _ _), fun q hq' => ?_, fun q hq9 hq' => ?_⟩
    ·rw [show s.ts.getD i default = tk s i from rfl, e2]
     simp only [List.set_set]
    ·cases q with
     | zero =>
      have := h2 q0 (by omega) (.inl (by omega))
      rw [Nat.add_zero, this, res_set _ (by omega) (by omega), if_pos rfl]
      show IsSq ms lv (s16 ms n) 1 1 m
      rw [s16_pre hw (p1.trans p2) hn]
      exact s1.pre p2
     | succ q =>
      have := h1 q (by simpa using hq')
      rw [show q0 + (q + 1) = q0 + 1 + q by omega]
      exact this
    ·rw [h2 q hq9 (by rw [List.length_cons] at hq'; omega), res_set _ (by omega) hq9, if_neg (by rw [List.length_cons] at hq'; omega)]
   ·right
    rw [show s.ts.getD i default = tk s i from rfl]
    exact e2
  ·right
   rw [if_pos (by rw [e]; decide)]
   exact e
/-! ### What is left to do -/
def tot (f : Nat → Nat) : Nat → Nat
 | 0 => 0
 | n + 1 => tot f n + f n
theorem tot_congr {f f' : Nat → Nat} : ∀ {N : Nat}, (∀ i, i < N → f i = f' i) → tot f N = tot f' N
 | 0, _ => rfl
 | N + 1, h => by
  unfold tot
  rw [tot_congr (N := N) fun i hi => h i (by omega), h N (by omega)]
theorem tot_upd {f f' : Nat → Nat} {i : Nat} : ∀ {N : Nat}, i < N → (∀ c, c < N → c ≠ i → f c = f' c) → tot f N + f' i = tot f' N + f i
 | 0, h, _ => absurd h (Nat.not_lt_zero i)
 | N + 1, h, he => by
  unfold tot
  by_cases e : i = N
  ·subst e
   rw [tot_congr (N := i) (f' := f') fun c hc => he c (by omega) (by omega)]
   omega
  ·have := tot_upd (N := N) (i := i) (by omega) fun c hc hci => he c (by omega) hci
   have := he N (by omega) (fun x => e x.symm)
   omega
theorem tot_add (f : Nat → Nat) (N : Nat) : ∀ c, tot f (N + c) = tot f N + tot (fun q => f (N + q)) c
 | 0 => rfl
 | c + 1 => by
  show tot f (N + c) + f (N + c) = tot f N + (tot _ c + f (N + c))
  rw [tot_add f N c]
  omega
theorem tot_const {f : Nat → Nat} {v : Nat} : ∀ {c : Nat}, (∀ q, q < c → f q = v) → tot f c = c * v
 | 0, _ => by simp [tot]
 | c + 1, h => by
  unfold tot
  rw [tot_const (c := c) fun q hq => h q (by omega), h c (by omega), Nat.succ_mul]
def wk : Nat → Nat
 | 0 => 1
 | k + 1 => 3 + 13 * wk k
theorem wk_pos : ∀ k, 1 ≤ wk k
 | 0 => Nat.le_refl _
 | k + 1 => by unfold wk; omega
def c1 (ns : List Node) (t : Tk) : Nat := if t.wt = 0 then wk ((nd ns t.n).lv.toNat - 2) else if t.wt = 9 then 2 + 4 * wk ((nd ns t.n).lv.toNat - 3) else 1
theorem c1_pos (ns : List Node) (t : Tk) : 1 ≤ c1 ns t := by
 unfold c1
 split
 ·exact wk_pos _
 ·split
  ·omega
  ·exact Nat.le_refl _
def cost (ns : List Node) (ts : List Tk) (T : Nat → Bool) (i : Nat) : Nat := if T i = true then 0 else c1 ns (ts.getD i default)
def Phi (ns : List Node) (ts : List Tk) (T : Nat → Bool) : Nat := tot (cost ns ts T) ts.length
def cnt (ts : List Tk) (T : Nat → Bool) : Nat := tot (fun i => if T i = true then 1 else 0) ts.length
theorem Phi_pre {ns ms : List Node} {ts : List Tk} {T : Nat → Bool} (h : ∀ i : Nat, i < ts.length → T i = false → inS ns (ts.getD i default).n) (hp : ns <+: ms) : Phi ms ts T = Phi ns ts T := by
 refine tot_congr fun i hi => ?_
 unfold cost
 cases hT : T i with
 | true => rfl
 | false =>
  rw [if_neg (by decide), if_neg (by decide)]
  unfold c1
  rw [nd_pre hp (h i hi hT)]
theorem Phi_same {ns : List Node} {ts : List Tk} {T : Nat → Bool} {i : Nat} {u : Tk} (hi : i < ts.length) (h1 : u.n = (ts.getD i default).n) (h2 : u.wt = (ts.getD i default).wt) : Phi ns (ts.set i u) T = Phi ns ts T := by
 unfold Phi
 rw [List.length_set]
 refine tot_congr fun c hc => ?_
 unfold cost
 rw [getD_setT hi]
 by_cases e : c = i
 ·subst e
  rw [if_pos rfl]
  unfold c1
  rw [h1, h2]
 ·rw [if_neg e]
theorem Phi_tell {ns : List Node} {ts : List Tk} {T : Nat → Bool} {i p : Nat} {u : Tk} (hi : i < ts.length) (hT : T i = false) (hp : p < ts.length) (h1 : u.n = (ts.getD p default).n) (h2 : u.wt = (ts.getD p default).wt) : Phi ns (ts.set p u) (upd T i) + 1 ≤ Phi ns ts T := by
 have e1 : Phi ns (ts.set p u) (upd T i) = Phi ns ts (upd T i) := Phi_same hp h1 h2
 rw [e1]
 unfold Phi
 have := tot_upd (f := cost ns ts (upd T i)) (f' := cost ns ts T) hi fun c hc hci => by
  unfold cost upd
  rw [if_neg hci]
 have z : cost ns ts (upd T i) i = 0 := by unfold cost upd; simp
 have z2 : 1 ≤ cost ns ts T i := by
  unfold cost
  rw [hT, if_neg (by decide)]
  exact c1_pos _ _
 omega
theorem cnt_tell {ts : List Tk} {T : Nat → Bool} {i p : Nat} {u : Tk} (hi : i < ts.length) : cnt (ts.set p u) (upd T i) ≤ cnt ts T + 1 := by
 unfold cnt
 rw [List.length_set]
 have := tot_upd (f := fun c => if upd T i c = true then 1 else 0) (f' := fun c => if T c = true then 1 else 0) hi fun c hc hci => by
  unfold upd
  rw [if_neg hci]
 have z : (if upd T i i = true then 1 else 0) = 1 := by unfold upd; simp
 simp only [z] at this
 omega
theorem Phi_wait {ns : List Node} {ts : List Tk} {T : Nat → Bool} {i k : Nat} {t : Tk} {jj : Int} {gs : List Int} (hi : i < ts.length) (hT : T i = false) (hf : ∀ c, ts.length ≤ c → T c = false) (hg : ∀ p : Nat, p < gs.length → IsN ns (k + 2) (gs.getD p default)) (hc : gs.length * wk k + c1 ns t + 1 ≤ c1 ns (ts.getD i default)) :
  Phi ns (ts.set i t ++ newT i jj 0 gs) T + 1 ≤ Phi ns ts T := by
 unfold Phi
 rw [List.length_append, List.length_set, newT_len, tot_add]
 have e1 : tot (cost ns (ts.set i t ++ newT i jj 0 gs) T) ts.length = tot (cost ns (ts.set i t) T) ts.length := tot_congr fun c hc => by
  unfold cost
  rw [List.getD_eq_getElem?_getD, List.getElem?_append_left (by rw [List.length_set]; omega), ← List.getD_eq_getElem?_getD]
 have e2 : tot (fun q => cost ns (ts.set i t ++ newT i jj 0 gs) T (ts.length + q)) gs.length = gs.length * wk k := tot_const fun q hq => by
  unfold cost
  rw [hf _ (by omega), if_neg (by decide), List.getD_eq_getElem?_getD, List.getElem?_append_right (by rw [List.length_set]; omega), List.length_set, show ts.length + q - ts.length = q by omega, ← List.getD_eq_getElem?_getD, newT_at _ _ _ _ _ hq]
  unfold c1
  rw [if_pos (show (tk0 (gs.getD q default) jj i ((0 + q : Nat) : Int)).wt = 0 from rfl)]
  show wk ((nd ns (gs.getD q default)).lv.toNat - 2) = wk k
  rw [(hg q hq).2]
  congr 1
 have e3 := tot_upd (f := cost ns (ts.set i t) T) (f' := cost ns ts T) hi fun c hc hci => by
  unfold cost
  rw [getD_setT hi, if_neg hci]
 have z1 : cost ns (ts.set i t) T i = c1 ns t := by
  unfold cost
  rw [hT, if_neg (by decide), getD_setT hi, if_pos rfl]
 have z2 : cost ns ts T i = c1 ns (ts.getD i default) := by
  unfold cost
  rw [hT, if_neg (by decide)]
 omega
theorem cnt_wait {ts : List Tk} {T : Nat → Bool} {i : Nat} {t : Tk} {jj : Int} {gs : List Int} (hf : ∀ c, ts.length ≤ c → T c = false) : cnt (ts.set i t ++ newT i jj 0 gs) T = cnt ts T := by
 unfold cnt
 rw [List.length_append, List.length_set, newT_len, tot_add]
 rw [tot_const (v := 0) (c := gs.length) fun q hq => by rw [hf _ (by omega)]; rfl]
 omega
theorem cnt_set {ts : List Tk} {T : Nat → Bool} {i : Nat} {t : Tk} : cnt (ts.set i t) T = cnt ts T := by
 unfold cnt
 rw [List.length_set]
end R21
end Go.GL


namespace Go.GL
open R6 R7
namespace R21
open R8 (g s16 IsSq bit s16_pre)
open R9 (Memo LS look9)
/-- What a step comes to. -/
def Out (room : Int) (b : Nat) (n0 j0 : Int) (k0 : Nat) (ns0 : List Node) (phi c W : Nat) (r : Ms × Int) : Prop :=
 r.2 = 40 ∨ (r.2 = 0 ∧ R6.right r.1.ns room ∧ ns0 <+: r.1.ns ∧ r.1.D.length = W ∧ ((r.1.done = true ∧ Cl r.1.ns k0 n0 j0 r.1.node ∧ r.1.ts.length ≤ c + 1 ∧ 0 < r.1.ts.length) ∨ ∃ T', GI room (b + 9) n0 j0 k0 r.1 T' (-1) ∧ Phi r.1.ns r.1.ts T' + 1 ≤ phi ∧ cnt r.1.ts T' ≤ c + 1))
theorem Out.of {room : Int} {b : Nat} {n0 j0 : Int} {k0 : Nat} {ns0 ns1 : List Node} {phi phi' c c' W W' : Nat} {r : Ms × Int} (h : Out room b n0 j0 k0 ns1 phi c W r) (hp : ns0 <+: ns1) (h1 : phi = phi') (h2 : c = c') (h3 : W = W') : Out room b n0 j0 k0 ns0 phi' c' W' r := by
 subst h1 h2 h3
 rcases h with h | ⟨a, b', d, e⟩
 ·exact .inl h
 ·exact .inr ⟨a, b', hp.trans d, e⟩
theorem cnt_all {T : Nat → Bool} : ∀ {N : Nat}, (∀ c, 0 < c → c < N → T c = true) → N ≤ tot (fun i => if T i = true then 1 else 0) N + 1
 | 0, _ => by omega
 | N + 1, h => by
  have := cnt_all (N := N) fun c c0 hc => h c c0 (by omega)
  unfold tot
  by_cases hN : N = 0
  ·subst hN
   omega
  ·rw [if_pos (h N (by omega) (by omega))]
   omega
theorem GI.all {room : Int} {b : Nat} {n0 j0 : Int} {k0 : Nat} {s : Ms} {T : Nat → Bool} {x : Int} (h : GI room b n0 j0 k0 s T x) (hk : ∀ c : Nat, c < s.ts.length → (tk s c).of_ = ((0 : Nat) : Int) → T c = true) : ∀ c, 0 < c → c < s.ts.length → T c = true := by
 intro c
 induction c using Nat.strongRecOn with
 | ind c ih =>
  intro c0 hc
  cases hT : T c with
  | true => rfl
  | false =>
   exfalso
   obtain ⟨p, a1, a2, a3, _⟩ := h.par c c0 hc hT
   by_cases hp : p = 0
   ·subst hp
    have := hk c hc a1
    rw [this] at hT
    cases hT
   ·have := ih p a2 (by omega) (by omega)
    rw [this] at a3
    cases a3
theorem GI.phi_pre {room : Int} {b : Nat} {n0 j0 : Int} {k0 : Nat} {s : Ms} {T : Nat → Bool} {x : Int} (h : GI room b n0 j0 k0 s T x) {ms : List Node} (hp : s.ns <+: ms) : Phi ms s.ts T = Phi s.ns s.ts T := Phi_pre (fun i hi hT => by
 obtain ⟨k, a, _⟩ := h.lv i hi hT
 exact a.1) hp
theorem tell_out {room : Int} {b : Nat} {n0 j0 : Int} {k0 : Nat} {s : Ms} {T : Nat → Bool} {i : Nat} (h : GI room b n0 j0 k0 s T (i : Int)) (hb : b ≤ 1000000000) (hi : i < s.ts.length) (hT : T i = false) (hk : ∀ c : Nat, c < s.ts.length → (tk s c).of_ = (i : Int) → T c = true) {k : Nat} {m : Int} (hm : Cl s.ns k (tk s i).n (tk s i).j m) {w : Nat} (hw : w < s.D.length) :
  Out room b n0 j0 k0 s.ns (Phi s.ns s.ts T) (cnt s.ts T) s.D.length (tell s w i m, 0) := by
 right
 by_cases h0 : i = 0
 ·subst h0
  obtain ⟨a1, a2, a3, a4⟩ := h.tell0 w m
  have ed : (tell s w 0 m).D = s.D := by
   have := h.root.1
   unfold tell
   dsimp only
   rw [if_pos (by rw [show (s.ts.getD 0 default).of_ = -1 from this]; decide)]
  refine ⟨rfl, by rw [a3]; exact h.right, by rw [a3]; exact List.prefix_refl _, by rw [ed], .inl ⟨a1, ?_, ?_, by rw [a4]; exact h.pos⟩⟩
  ·simp only
   rw [a2, a3]
   rw [h.root.2.1, h.root.2.2] at hm
   have e1 := hm.isN.1.2
   have e2 := h.rlv.2
   obtain rfl : k = k0 := by omega
   exact hm
  ·simp only
   rw [a4]
   exact cnt_all (h.all hk)
 ·obtain ⟨p, u, e1, hp, hTp, u1, u2, e2, e3, g⟩ := h.tell hb (by omega) hi hT hk hm hw
  refine ⟨rfl, by rw [e2]; exact h.right, by rw [e2]; exact List.prefix_refl _, e3, .inr ⟨upd T i, ?_, ?_, ?_⟩⟩
  ·refine ⟨g.right, Nat.le_trans g.len (by omega), g.pos, g.fresh, g.root, g.T0, g.rlv, g.lv, g.par, g.new, g.wt, g.nd, g.dq, g.mem, g.done⟩
  ·simp only
   rw [e1, e2]
   exact Phi_tell hi hT (by omega) u1 u2
  ·simp only
   rw [e1]
   exact cnt_tell hi
theorem c1_9 {ns : List Node} {t : Tk} {k : Nat} (h : t.wt = 9) (hn : IsN ns (k + 3) t.n) : c1 ns t = 2 + 4 * wk k := by
 unfold c1
 rw [if_neg (by omega), if_pos h, hn.2]
 congr 2
theorem c1_0 {ns : List Node} {t : Tk} {k : Nat} (h : t.wt = 0) (hn : IsN ns (k + 2) t.n) : c1 ns t = wk k := by
 unfold c1
 rw [if_pos h, hn.2]
 congr 1
theorem c1_4 {ns : List Node} {t : Tk} (h : t.wt = 4) : c1 ns t = 1 := by
 unfold c1
 rw [if_neg (by omega), if_neg (by omega)]
theorem c1_pre {ns ms : List Node} (hp : ns <+: ms) {t : Tk} (h : inS ns t.n) : c1 ms t = c1 ns t := by
 unfold c1
 rw [nd_pre hp h]
theorem wait_out {room : Int} {b : Nat} {n0 j0 : Int} {k0 : Nat} {s : Ms} {T : Nat → Bool} {i : Nat} (h : GI room b n0 j0 k0 s T (i : Int)) (hi : i < s.ts.length) (hT : T i = false) (hk : ∀ c : Nat, c < s.ts.length → (tk s c).of_ = (i : Int) → T c = true) {k : Nat} {gs : List Int} {jj : Int} {t : Tk} (et : t = { tk s i with wt := gs.length, lf := gs.length }) (st : St s.ns t k gs jj) {w : Nat} (hw : w < s.D.length) (hc : gs.length * wk k + c1 s.ns t + 1 ≤ c1 s.ns (tk s i)) :
  Out room b n0 j0 k0 s.ns (Phi s.ns s.ts T) (cnt s.ts T) s.D.length (R21.wait s w i jj gs, 0) := by
 obtain ⟨e1, e2, e3, g⟩ := h.wait hi hT hk et st hw
 refine .inr ⟨rfl, by rw [e2]; exact h.right, by rw [e2]; exact List.prefix_refl _, e3, .inr ⟨T, g, ?_, ?_⟩⟩
 ·simp only
  rw [e1, e2]
  exact Phi_wait hi hT h.fresh (fun p hp => st.gsN hp) hc
 ·simp only
  rw [e1, cnt_wait h.fresh]
  omega
theorem join_out {room : Int} {b : Nat} {n0 j0 : Int} {k0 : Nat} {s : Ms} {T : Nat → Bool} {i : Nat} (h : GI room b n0 j0 k0 s T (i : Int)) (hi : i < s.ts.length) (hT : T i = false) (hk : ∀ c : Nat, c < s.ts.length → (tk s c).of_ = (i : Int) → T c = true) {k : Nat} {t : Tk} (ht : tk s i = t) (hn : IsN s.ns (k + 3) t.n) (hj0 : 0 ≤ t.j) (hj1 : t.j ≤ k + 1) {qs : List Int} (h9 : Nine9 s.ns k t.n qs) (hrs : Rs s.ns k t.j qs (rsL t)) {w : Nat} (hw : w < s.D.length) (hc : 4 * wk k + 1 + 1 ≤ c1 s.ns t) :
  Out room b n0 j0 k0 s.ns (Phi s.ns s.ts T) (cnt s.ts T) s.D.length (join room s w i) := by
 have hwf := (right_iff.1 h.right).2
 rcases join_ok (w := w) ht h.right hn hj0 hj1 hrs with ⟨ms, ls, e, r1, p1, h4⟩ | e
 ·rw [e]
  have g := h.store r1 p1
  have hl4 := h4.len
  have st : St ms { t with wt := ls.length, lf := ls.length } k ls (if t.j = (k : Int) + 1 then t.j - 1 else t.j) := ⟨hn.pre p1, hj0, hj1, .inr ⟨by show ((ls.length : Nat) : Int) = 4; omega, qs, rsL t, h9.pre hwf p1 hn, hrs.pre hwf p1 h9, h4, rfl⟩⟩
  have := wait_out (s := { s with ns := ms }) g hi hT hk (t := { t with wt := ls.length, lf := ls.length }) (by rw [← ht]) st hw (by
   rw [c1_4 (show ((ls.length : Nat) : Int) = 4 by omega), hl4, show tk { s with ns := ms } i = t from ht, c1_pre p1 hn.1]
   exact hc)
  exact this.of p1 (h.phi_pre p1) rfl rfl
 ·exact .inl e
theorem Wt.done {ns : List Node} {ts : List Tk} {T : Nat → Bool} {i k : Nat} {gs : List Int} {jj : Int} {l : List Nat} (h : Wt ns ts T i k gs jj l) (h0 : (ts.getD i default).lf = 0) : (∀ c : Nat, c < ts.length → (ts.getD c default).of_ = (i : Int) → T c = true) ∧ ∀ p : Nat, p < gs.length → Cl ns k (gs.getD p default) jj (R21.res (ts.getD i default) p) := by
 have hl : l = [] := List.eq_nil_of_length_eq_zero (by have := h.lf; omega)
 subst hl
 refine ⟨fun c hc ho => ?_, fun p hp => ?_⟩
 ·cases hT : T c with
  | true => rfl
  | false => exact absurd ((h.kd.mem c).2 ⟨hc, ho, hT⟩) (by simp)
 ·rcases h.res p hp with ⟨c, hc, _⟩ | hc
  ·cases hc
  ·exact hc
theorem end_out {room : Int} {b : Nat} {n0 j0 : Int} {k0 : Nat} {s : Ms} {T : Nat → Bool} {i : Nat} (h : GI room b n0 j0 k0 s T (i : Int)) (hb : b ≤ 1000000000) (hi : i < s.ts.length) (hT : T i = false) {t : Tk} (ht : tk s i = t) (hwt : t.wt = 4) (hlf : t.lf = 0) {w : Nat} (hw : w < s.D.length) :
  Out room b n0 j0 k0 s.ns (Phi s.ns s.ts T) (cnt s.ts T) s.D.length (end_ room s w i) := by
 have hwf := (right_iff.1 h.right).2
 obtain ⟨k, gs, jj, l, W⟩ := h.wt i hi hT (by rw [ht, hwt]; decide)
 obtain ⟨hk, hres⟩ := W.done (by rw [show s.ts.getD i default = t from ht]; exact hlf)
 have st := W.st
 rw [show s.ts.getD i default = t from ht] at st hres
 rcases st.of with ⟨a, _⟩ | ⟨_, qs, rs, h9, hrs, h4, ej⟩
 ·omega
 have hl4 := h4.len
 have hN : ∀ p : Nat, p < 4 → IsN s.ns (k + 1) (res t p) := fun p hp => (hres p (by omega)).isN.2
 have hlv : k + 1 + 1 ≤ 42 := by
  have := (hwf.lvb st.is.1).2
  rw [st.is.2] at this
  omega
 unfold end_
 rw [show s.ts.getD i default = t from ht]
 dsimp only
 rcases put4 h.right hlv (hN 0 (by decide)) (hN 1 (by decide)) (hN 2 (by decide)) (hN 3 (by decide)) with ⟨ms, m, e, r1, p1, s1⟩ | e
 ·rw [show R6.put s.ns room t.r0 t.r1 t.r2 t.r3 = (ms, m, 0) from e]
  dsimp only
  rw [if_neg (by simp)]
  have hcl : Cl ms (k + 1) t.n t.j m := ⟨st.is.pre p1, qs, rs, gs, [t.r0, t.r1, t.r2, t.r3], h9.pre hwf p1 st.is, hrs.pre hwf p1 h9, h4.pre p1, ⟨rfl, fun p hp => by
   have := (hres p (by omega)).pre hwf p1
   rw [ej] at this
   rcases (by omega : p = 0 ∨ p = 1 ∨ p = 2 ∨ p = 3) with rfl | rfl | rfl | rfl <;> exact this⟩, s1⟩
  have := tell_out (s := { s with ns := ms }) (h.store r1 p1) hb hi hT hk (k := k + 1) (m := m) (by rw [show tk { s with ns := ms } i = t from ht]; exact hcl) hw
  exact this.of p1 (h.phi_pre p1) rfl rfl
 ·exact .inl (by rw [if_pos (by rw [show (R6.put s.ns room t.r0 t.r1 t.r2 t.r3).2.2 = 40 from e]; decide)]; exact e)
theorem begin_out {room : Int} {b : Nat} {n0 j0 : Int} {k0 : Nat} {s : Ms} {T : Nat → Bool} {i : Nat} (h : GI room b n0 j0 k0 s T (i : Int)) (hb : b ≤ 1000000000) (hi : i < s.ts.length) (hT : T i = false) {t : Tk} (ht : tk s i = t) (hwt : t.wt = 0) {w : Nat} (hw : w < s.D.length) :
  Out room b n0 j0 k0 s.ns (Phi s.ns s.ts T) (cnt s.ts T) s.D.length (begin_ room s w i) := by
 have hwf := (right_iff.1 h.right).2
 obtain ⟨k, hn, hj0, hj1⟩ := h.lv i hi hT
 have hk := h.new i hi hT (by rw [ht]; exact hwt)
 rw [ht] at hn hj0 hj1
 unfold begin_
 rw [show s.ts.getD i default = t from ht]
 dsimp only
 cases ho : look9 s.kp t.n t.j with
 | some to =>
  dsimp only
  obtain ⟨k', hk'⟩ := h.mem _ (look_in ho)
  exact tell_out h hb hi hT hk (k := k') (m := to) (by rw [ht]; exact hk') hw
 | none =>
  dsimp only
  by_cases hl : (nd s.ns t.n).lv = 2
  ·rw [if_pos hl]
   have hk0 : k = 0 := by have := hn.2; omega
   subst hk0
   have h0 : ∀ q, q = 0 ∨ q = 1 → IsN s.ns 0 q := fun q hq => by
    rcases hq with e | e <;> rw [e]
    ·exact ⟨hwf.in0, by rw [hwf.nd0]; rfl⟩
    ·exact ⟨hwf.in1, by rw [hwf.nd1]; rfl⟩
   have hb01 := fun y x => R9.bit_01 (s16 s.ns t.n) y x
   unfold R8.one
   rcases put4 h.right (lv := 0) (by decide) (h0 _ (hb01 1 1)) (h0 _ (hb01 1 2)) (h0 _ (hb01 2 1)) (h0 _ (hb01 2 2)) with ⟨ms, m, e, r1, p1, s1⟩ | e
   ·rw [e]
    dsimp only
    rw [if_neg (by simp)]
    have hcl : Cl ms 0 t.n t.j m := ⟨hn.pre p1, by rw [s16_pre hwf p1 (lv := 0) hn]; exact s1⟩
    have := tell_out (s := { s with ns := ms }) (h.store r1 p1) hb hi hT hk (k := 0) (m := m) (by rw [show tk { s with ns := ms } i = t from ht]; exact hcl) hw
    exact this.of p1 (h.phi_pre p1) rfl rfl
   ·exact .inl (by rw [if_pos (by rw [e]; decide)]; exact e)
  ·rw [if_neg hl]
   obtain ⟨k1, rfl⟩ : ∃ k1, k = k1 + 1 := ⟨k - 1, by have := hn.2; omega⟩
   have hlv3 : (nd s.ns t.n).lv = (k1 : Int) + 3 := by rw [hn.2]; omega
   have hlvb := (hwf.lvb hn.1).2
   rcases all9 (k := k1) h.right hn with ⟨ms, qs, e, r1, p1, h9⟩ | e
   ·rw [e]
    dsimp only
    rw [if_neg (by simp)]
    have g := h.store r1 p1
    have hl9 := h9.len
    by_cases hj : t.j = (nd s.ns t.n).lv - 2
    ·rw [if_pos hj]
     have hj' : t.j = (k1 : Int) + 1 := by omega
     rw [w64 (by omega) (by omega)]
     have st : St ms { t with wt := qs.length, lf := qs.length } k1 qs (t.j - 1) := ⟨hn.pre p1, hj0, by show t.j ≤ k1 + 1; omega, .inl ⟨by show ((qs.length : Nat) : Int) = 9; omega, hj', h9, rfl⟩⟩
     have := wait_out (s := { s with ns := ms }) g hi hT hk (t := { t with wt := qs.length, lf := qs.length }) (by rw [← ht]) st hw (by
      have e2 : c1 ms { t with wt := qs.length, lf := qs.length } = 2 + 4 * wk k1 := c1_9 (show ((qs.length : Nat) : Int) = 9 by omega) (hn.pre p1)
      have e1 : c1 ms (tk s i) = wk (k1 + 1) := by rw [ht]; exact (c1_pre p1 hn.1).trans (c1_0 hwt hn)
      show qs.length * wk k1 + c1 ms { t with wt := qs.length, lf := qs.length } + 1 ≤ c1 ms (tk s i)
      have hwk : wk (k1 + 1) = 3 + 13 * wk k1 := rfl
      rw [e2, e1, hl9, hwk]
      omega)
     exact this.of p1 (h.phi_pre p1) rfl rfl
    ·rw [if_neg hj]
     have hj' : ¬ t.j = (k1 : Int) + 1 := by omega
     have hqN : ∀ x ∈ qs, IsN ms (k1 + 2) x := fun x hx => by
      obtain ⟨p, hp, rfl⟩ := List.getElem_of_mem hx
      have := (h9.sq p (by omega)).is
      rw [show qs.getD p default = qs[p] by simp [hp]] at this
      exact this
     rcases mids_ok (i := i) (lv := k1) qs 0 { s with ns := ms } r1 hi (by omega) hqN with ⟨m2, u, e2, r2, p2, su, q1, q2⟩ | e2
     ·rw [e2]
      dsimp only
      rw [if_neg (by simp)]
      have et : tk { s with ns := ms } i = t := ht
      rw [et] at su
      have g2 := (g.store r2 p2).setr hi (show (tk s i).wt = 0 by rw [ht]; exact hwt) (show Same u (tk s i) by rw [ht]; exact su)
      have etu : tk { s with ns := m2, ts := s.ts.set i u } i = u := by
       show (s.ts.set i u).getD i default = u
       rw [getD_setT hi, if_pos rfl]
      have p12 := p1.trans p2
      have := join_out (s := { s with ns := m2, ts := s.ts.set i u }) (w := w) (k := k1) (qs := qs) g2 (by simp only [List.length_set]; exact hi) hT (fun c hc ho => by
        simp only [List.length_set] at hc
        refine hk c hc ?_
        have : ((s.ts.set i u).getD c default).of_ = (i : Int) := ho
        rw [getD_setT hi] at this
        by_cases hci : c = i
        ·subst hci
         rw [if_pos rfl, su.of_] at this
         rw [ht]
         exact this
        ·rw [if_neg hci] at this
         exact this) etu (by rw [su.n]; exact hn.pre p12) (by rw [su.j]; exact hj0) (by rw [su.j]; omega) (by rw [su.n]; exact h9.pre (right_iff.1 r1).2 p2 (hn.pre p1)) (by
         rw [su.j]
         refine ⟨rfl, fun p hp => ?_⟩
         rw [if_neg hj', rsL_at]
         have := q1 p (by omega)
         rw [Nat.zero_add] at this
         exact this) hw (by
         rw [c1_0 (k := k1 + 1) (su.wt.trans hwt) (by rw [su.n]; exact hn.pre p12)]
         have hwk : wk (k1 + 1) = 3 + 13 * wk k1 := rfl
         rw [hwk]
         omega)
      refine this.of p12 ?_ cnt_set rfl
      rw [Phi_same hi (by rw [show s.ts.getD i default = t from ht]; exact su.n) (by rw [show s.ts.getD i default = t from ht]; exact su.wt)]
      exact h.phi_pre p12
     ·left
      rw [if_pos (by rw [e2]; decide)]
      exact e2
   ·exact .inl (by rw [if_pos (by rw [e]; decide)]; exact e)
theorem step_out {room : Int} {b : Nat} {n0 j0 : Int} {k0 : Nat} {s : Ms} {T : Nat → Bool} (h : GI room b n0 j0 k0 s T (-1)) (hb : b ≤ 1000000000) {w : Nat} (hw : w < s.D.length) : Out room b n0 j0 k0 s.ns (Phi s.ns s.ts T) (cnt s.ts T) s.D.length (step room s w) := by
 obtain ⟨i, e, hi, hT, hrd, g, hl⟩ := h.take hw
 unfold step
 dsimp only
 rw [e, if_neg (by omega), Int.toNat_natCast]
 obtain ⟨t, ht⟩ : ∃ t, tk s i = t := ⟨_, rfl⟩
 rw [show s.ts.getD i default = t from ht]
 rw [ht] at hrd
 have hw' : w < (R19.takeM s.D w).2.length := by rw [hl]; exact hw
 by_cases c0 : t.wt = 0
 ·rw [if_neg (by omega), if_neg (by omega)]
  exact (begin_out (s := { s with D := (R19.takeM s.D w).2 }) g hb hi hT ht c0 hw').of (List.prefix_refl _) rfl rfl hl
 ·have hlf : t.lf = 0 := by
   rcases hrd with a | a
   ·exact absurd a c0
   ·exact a
  obtain ⟨k, gs, jj, l, W⟩ := h.wt i hi hT (by rw [ht]; exact c0)
  obtain ⟨hk, hres⟩ := W.done (by rw [show s.ts.getD i default = t from ht]; exact hlf)
  have st := W.st
  rw [show s.ts.getD i default = t from ht] at st hres
  rcases st.of with ⟨a, a2, h9, ej⟩ | ⟨a, _⟩
  ·rw [if_pos a]
   have hl9 := h9.len
   refine (join_out (s := { s with D := (R19.takeM s.D w).2 }) g hi hT hk ht st.is st.j0 st.j1 h9 ⟨rfl, fun p hp => ?_⟩ hw' ?_).of (List.prefix_refl _) rfl rfl hl
   ·rw [if_pos a2, rsL_at, ← ej]
    exact hres p (by omega)
   ·rw [c1_9 a st.is]
    omega
  ·rw [if_neg (by omega), if_pos a]
   exact (end_out (s := { s with D := (R19.takeM s.D w).2 }) g hb hi hT ht a hlf hw').of (List.prefix_refl _) rfl rfl hl
end R21
end Go.GL


namespace Go.GL
open R6 R7
namespace R21
open R9 (Memo LS look9)
theorem run_out {room : Int} {W : Nat} {picks : List Int} (hW : 1 ≤ W) {n0 j0 : Int} {k0 : Nat} : ∀ (f b n : Nat) (last : Int) (s : Ms) (T : Nat → Bool), GI room b n0 j0 k0 s T (-1) → s.D.length = W → b + 9 * f ≤ 1000000000 → Phi s.ns s.ts T < f → cnt s.ts T ≤ n →
  (run room W picks f n last s).2.2 = 40 ∨ ((run room W picks f n last s).2.2 = 0 ∧ R6.right (run room W picks f n last s).1.ns room ∧ s.ns <+: (run room W picks f n last s).1.ns ∧ Cl (run room W picks f n last s).1.ns k0 n0 j0 (run room W picks f n last s).1.node ∧ ((run room W picks f n last s).1.ts.length : Int) ≤ (run room W picks f n last s).2.1 ∧ 0 < (run room W picks f n last s).1.ts.length)
 | 0, b, n, last, s, T, h, hl, hb, hp, hc => by omega
 | f + 1, b, n, last, s, T, h, hl, hb, hp, hc => by
  obtain ⟨hx0, hx1⟩ := R19.nxt_ok (picks := picks) (nw := W) (n := n) (last := last) hW
  have so := step_out h (by omega) (w := (R19.nxt picks W n last).toNat) (by omega)
  rw [hl] at so
  unfold run
  dsimp only
  generalize step room s (R19.nxt picks W n last).toNat = r at *
  rcases so with e | ⟨e, r1, p1, l1, hd⟩
  ·left
   rw [if_pos (by rw [e]; decide)]
   exact e
  ·rw [if_neg (by simpa using e)]
   rcases hd with ⟨d, cl, tl, t0⟩ | ⟨T', g, ph, ct⟩
   ·right
    rw [if_pos d]
    exact ⟨rfl, r1, p1, cl, by show ((r.1.ts.length : Nat) : Int) ≤ (n : Int) + 1; omega, t0⟩
   ·rw [if_neg (by rw [g.done]; decide)]
    rcases run_out hW f (b + 9) (n + 1) (R19.nxt picks W n last) r.1 T' g l1 (by omega) (by omega) (by omega) with e2 | ⟨e2, a1, a2, a3, a4, a5⟩
    ·exact .inl e2
    ·exact .inr ⟨e2, a1, p1.trans a2, a3, a4, a5⟩
theorem flat_nils : ∀ m : Nat, (List.replicate m ([] : List Int)).flatten = []
 | 0 => rfl
 | m + 1 => by rw [List.replicate_succ, List.flatten_cons, flat_nils m]; rfl
theorem start_GI {ns : List Node} {room n j : Int} {W k0 : Nat} (hW : 1 ≤ W) (hr : R6.right ns room) (hn : IsN ns (k0 + 2) n) (hj0 : 0 ≤ j) (hj1 : j ≤ k0) : GI room 1 n j k0 (start ns W n j) (fun _ => false) (-1) := by
 have ht : tk (start ns W n j) 0 = tk0 n j (-1) 0 := rfl
 have hl : (start ns W n j).ts.length = 1 := rfl
 have hD : (start ns W n j).D.flatten = [0] := by
  show (([0] : List Int) :: List.replicate (W - 1) []).flatten = [0]
  rw [List.flatten_cons, flat_nils]
  rfl
 have one : ∀ i : Nat, i < (start ns W n j).ts.length → i = 0 := fun i hi => by rw [hl] at hi; omega
 refine ⟨hr, Nat.le_refl _, by rw [hl]; decide, fun _ _ => rfl, ⟨rfl, rfl, rfl⟩, rfl, hn, fun i hi _ => ?_, fun c c0 hc _ => ?_, fun i hi _ _ c hc ho => ?_, fun i hi _ hw => ?_, by rw [hD]; simp, fun y => ?_, fun p hp => (nomatch hp), rfl⟩
 ·obtain rfl := one i hi
  exact ⟨k0, hn, hj0, hj1⟩
 ·have := one c hc
  omega
 ·obtain rfl := one i hi
  obtain rfl := one c hc
  rw [ht] at ho
  exact absurd (show (-1 : Int) = ((0 : Nat) : Int) from ho) (by decide)
 ·obtain rfl := one i hi
  exact absurd rfl hw
 ·rw [hD, List.mem_singleton]
  constructor
  ·rintro rfl
   exact ⟨by decide, 0, rfl, by rw [hl]; decide, rfl, .inl rfl⟩
  ·rintro ⟨_, i, e, hi, _⟩
   obtain rfl := one i hi
   exact e
/-- A leap of many: full, or all is there and it tells what is told there. -/
theorem leap_sound {ns : List Node} {room n j nw : Int} {picks : List Int} {k0 : Nat} (hg : good ns room n j nw) (hk : (nd ns n).lv = (k0 : Int) + 2) (hwk : wk k0 < 100000) :
  leap ns room n j nw picks = ⟨[], 0, 0, 0, 0, 40⟩ ∨ ((leap ns room n j nw picks).err = 0 ∧ (leap ns room n j nw picks).room = room ∧ R6.right (leap ns room n j nw picks).ns room ∧ ns <+: (leap ns room n j nw picks).ns ∧ Cl (leap ns room n j nw picks).ns k0 n j (leap ns room n j nw picks).node ∧ (leap ns room n j nw picks).tasks ≤ (leap ns room n j nw picks).steps ∧ 1 ≤ (leap ns room n j nw picks).tasks) := by
 have hg0 := hg
 obtain ⟨⟨hr, hin, _⟩, hj0, hj1, hw1, hw2⟩ := hg
 have hn : IsN ns (k0 + 2) n := ⟨hin, by rw [hk]; omega⟩
 have g := start_GI (W := nw.toNat) (by omega) hr hn hj0 (by rw [hk] at hj1; omega)
 have hD : (start ns nw.toNat n j).D.length = nw.toNat := by
  show (([0] : List Int) :: List.replicate (nw.toNat - 1) []).length = nw.toNat
  rw [List.length_cons, List.length_replicate]
  omega
 have hphi : Phi (start ns nw.toNat n j).ns (start ns nw.toNat n j).ts (fun _ => false) = wk k0 := by
  have : c1 ns (tk0 n j (-1) 0) = wk k0 := c1_0 rfl hn
  show 0 + c1 ns (tk0 n j (-1) 0) = wk k0
  omega
 have ro := run_out (picks := picks) (W := nw.toNat) (by omega) 100000 1 0 (-1) (start ns nw.toNat n j) (fun _ => false) g hD (by omega) (by rw [hphi]; exact hwk) (Nat.le_refl _)
 unfold leap
 rw [if_pos hg0]
 dsimp only
 generalize run room nw.toNat picks 100000 0 (-1) (start ns nw.toNat n j) = r at *
 rcases ro with e | ⟨e, a1, a2, a3, a4, a5⟩
 ·left
  rw [if_pos (by rw [e]; decide), e]
 ·right
  rw [if_neg (by simpa using e)]
  exact ⟨rfl, rfl, a1, a2, a3, a4, by show (1 : Int) ≤ ((r.1.ts.length : Nat) : Int); omega⟩
end R21
end Go.GL


namespace Go.GL
open R6 R7
/-! ### What errors a leap may tell -/
namespace R9
def Er (e : Int) : Prop := e = 0 ∨ e = 40
end R9
end Go.GL


namespace Go.GL
open R6 R7
namespace R9
/-- What a leap tells. -/
structure LeapR (ns : List Node) (room : Int) (k : Nat) (n j : Int) (p : List Node × Int × Int) : Prop where
 er : Er p.2.2
 right : R6.right p.1 room
 pre : ns <+: p.1
 is : p.2.2 = 0 → IsN p.1 (k + 1) p.2.1
 std : p.2.2 = 0 → ∀ f ox oy, Std ns (k + 2) n f ox oy → Std p.1 (k + 1) p.2.1 (gens (2 ^ j.toNat) f) (ox + 2 ^ k) (oy + 2 ^ k)
/-- A set, as a part of the plane. -/
def pl (l : List Cell) : Int → Int → Bool := fun x y => decide ((⟨x, y⟩ : Cell) ∈ l)
theorem std_make {ns : List Node} {lv : Nat} {m : Int} {l : List Cell} (hn : IsN ns (lv + 1) m) (h : ∀ c : Cell, inL ((lv + 1 : Nat) : Int) c → al ns (lv + 1) m (c.x + 2 ^ lv) (c.y + 2 ^ lv) = decide (c ∈ l)) : Std ns (lv + 1) m (pl l) (-2 ^ lv) (-2 ^ lv) := by
 refine ⟨hn, fun x y hq => ?_⟩
 have := h ⟨x - 2 ^ lv, y - 2 ^ lv⟩ (by
  unfold inQ at hq
  rw [p2s] at hq
  unfold inL
  rw [side_succ]
  simp only
  omega)
 simp only at this
 rw [show x - 2 ^ lv + 2 ^ lv = x by omega, show y - 2 ^ lv + 2 ^ lv = y by omega] at this
 rw [this]
 unfold pl
 rw [show x + -2 ^ lv = x - 2 ^ lv by omega, show y + -2 ^ lv = y - 2 ^ lv by omega]
end R9
namespace RL
def cropF (l : List Cell) (half : Int) : List Cell := l.filter fun c => decide (((-half ≤ c.x ∧ c.x < half) ∧ -half ≤ c.y) ∧ c.y < half)
def hset (raw : List Cell) : List Cell := R1.puts ((raw.take 40).map cell16)
theorem new9_right {room : Int} (h2 : 2 ≤ room) (h3 : room ≤ 100000) : R6.right [n0, n1] room := R6.right_iff.2 ⟨⟨h2, h3, by simpa using h2⟩, new_wf⟩
end RL
end Go.GL


namespace Go.GL
open R6 R7
/-! ### A run stands for what is there behind so many generations -/
namespace R9
/-- All that is alive is so near. -/
def Supp (f : Int → Int → Bool) (a : Int) : Prop := ∀ x y, f x y = true → -a ≤ x ∧ x < a ∧ -a ≤ y ∧ y < a
theorem Supp.le {f : Int → Int → Bool} {a b : Int} (h : Supp f a) (hab : a ≤ b) : Supp f b := fun x y hf => by
 have := h x y hf
 omega
/-- A node of the level k + 2 in the middle, and nothing outside. -/
def Ctr (ns : List Node) (k : Nat) (n : Int) (f : Int → Int → Bool) : Prop := Std ns (k + 2) n f (-2 ^ (k + 1)) (-2 ^ (k + 1)) ∧ Supp f (2 ^ (k + 1))
theorem Ctr.pre {ns ms : List Node} (h : Wf ns) (hp : ns <+: ms) {k : Nat} {n : Int} {f : Int → Int → Bool} (hs : Ctr ns k n f) : Ctr ms k n f := ⟨hs.1.pre h hp, hs.2⟩
/-! #### grown -/
def nil2 : Int → Int → Bool := fun _ _ => false
end R9
end Go.GL


namespace Go.GL
open R6 R7
namespace R9
/-- An answer without an error. -/
def OkS (room : Int) (s : LS) (r : L9) : Prop := Lk room r.1 ∧ s.ns <+: r.1.ns ∧ MS r.1
theorem OkS.trans {room : Int} {s t : LS} {r : L9} (h : OkS room t r) (hp : s.ns <+: t.ns) : OkS room s r := ⟨h.1, hp.trans h.2.1, h.2.2⟩
theorem pow_le2 {a b : Nat} (h : a ≤ b) : (2 : Int) ^ a ≤ 2 ^ b := by
 induction b with
 | zero =>
  obtain rfl : a = 0 := by omega
  exact Int.le_refl _
 | succ b ih =>
  by_cases e : a = b + 1
  ·rw [e]; exact Int.le_refl _
  ·have := ih (by omega)
   have h2 := p2pos b
   rw [p2s' b]
   omega
/-- How many generations. -/
def total : List Nat → Nat
 | [] => 0
 | j :: js => 2 ^ j + total js
/-! #### the bits -/
def bitsN (c : Int) (m : Nat) : List Nat := (List.range m).filter fun i => decide (c / 2 ^ i % 2 = 1)
end R9
end Go.GL


namespace Go.GL
open R6 R7
namespace R9
/-- Trimmed. -/
def Trd (ns : List Node) (k : Nat) (n : Int) : Prop := k = 0 ∨ edged ns n = true
theorem edged_pre {ns ms : List Node} (h : Wf ns) (hp : ns <+: ms) {k : Nat} {n : Int} (hn : IsN ns (k + 2) n) : edged ms n = edged ns n := by
 unfold edged
 rw [R8.s16_pre h hp hn]
 have hi := s16_isN h hn
 have key : ∀ i : Int, 0 ≤ i → i < 16 → nd ms (R8.g (R8.s16 ns n) i) = nd ns (R8.g (R8.s16 ns n) i) := fun i a b => nd_pre hp (hi i a b).1
 simp only [List.any_cons, List.any_nil]
 rw [key 0 (by omega) (by omega), key 1 (by omega) (by omega), key 2 (by omega) (by omega), key 3 (by omega) (by omega), key 4 (by omega) (by omega), key 7 (by omega) (by omega), key 8 (by omega) (by omega), key 11 (by omega) (by omega), key 12 (by omega) (by omega), key 13 (by omega) (by omega), key 14 (by omega) (by omega), key 15 (by omega) (by omega)]
theorem Trd.pre {ns ms : List Node} (h : Wf ns) (hp : ns <+: ms) {k : Nat} {n : Int} (hn : IsN ns (k + 2) n) (ht : Trd ns k n) : Trd ms k n := ht.imp id fun e => by rw [edged_pre h hp hn]; exact e
theorem alive {ns : List Node} (h : Wf ns) : ∀ (lv : Nat) (n : Int), IsN ns lv n → (nd ns n).pop ≠ 0 → ∃ x y, inQ lv x y ∧ al ns lv n x y = true
 | 0, n, hn, hp => by
  rcases isN0 h hn with rfl | rfl
  ·exact absurd (by rw [h.nd0]; rfl) hp
  ·exact ⟨0, 0, ⟨by omega, by decide, by omega, by decide⟩, rfl⟩
 | lv + 1, n, hn, hp => by
  obtain ⟨a, b, c, d⟩ := kids4 h hn
  have hpos := p2pos lv
  have hk : ∀ (q : Int) (a b : Int), (a = 0 ∨ a = 1) → (b = 0 ∨ b = 1) → R7.kid ns n (2 * b + a) = q → (∃ x y, inQ lv x y ∧ al ns lv q x y = true) → ∃ x y, inQ (lv + 1) x y ∧ al ns (lv + 1) n x y = true := by
   rintro q a b ha hb hq ⟨x, y, h1, h2⟩
   refine ⟨x + a * 2 ^ lv, y + b * 2 ^ lv, ?_, ?_⟩
   ·unfold inQ at h1 ⊢
    rw [p2s]
    rcases ha with rfl | rfl <;> rcases hb with rfl | rfl <;> omega
   ·rw [al_kid ns h1 ha hb, hq]
    exact h2
  have hd := fun hc => hp ((dead_kids h hn).2 hc)
  by_cases e0 : (nd ns (nd ns n).k0).pop = 0
  ·by_cases e1 : (nd ns (nd ns n).k1).pop = 0
   ·by_cases e2 : (nd ns (nd ns n).k2).pop = 0
    ·exact hk _ 1 1 (.inr rfl) (.inr rfl) rfl (alive h lv _ d fun e3 => hd ⟨e0, e1, e2, e3⟩)
    ·exact hk _ 0 1 (.inl rfl) (.inr rfl) rfl (alive h lv _ c e2)
   ·exact hk _ 1 0 (.inr rfl) (.inl rfl) rfl (alive h lv _ b e1)
  ·exact hk _ 0 0 (.inl rfl) (.inl rfl) rfl (alive h lv _ a e0)
/-- What a run tells. -/
structure RunR (ns : List Node) (room : Int) (K : Nat) (n c : Int) (f : Int → Int → Bool) (p : List Node × Int × Int) : Prop where
 er : Er p.2.2
 right : R6.right p.1 room
 pre : ns <+: p.1
 ok : p.2.2 = 0 → ∃ k', k' ≤ K ∧ Ctr p.1 k' p.2.1 (gens c.toNat f) ∧ Trd p.1 k' p.2.1
 trim : p.2.2 = 0 → (trimS room ⟨ns, []⟩ n).2.2 = 0 ∧ (trimS room ⟨ns, []⟩ n).1.ns <+: p.1
/-! #### turned by half -/
def refl (f : Int → Int → Bool) : Int → Int → Bool := fun x y => f (-x) (-y)
end R9
end Go.GL


namespace Go.GL
open R6 R7
/-! ### Where there is room nothing fails -/
namespace R9
/-- Grown, where there is room. -/
structure GrR (ns : List Node) (room : Int) (k : Nat) (f : Int → Int → Bool) (p : List Node × Int × Int) : Prop where
 e : p.2.2 = 0
 right : R6.right p.1 room
 pre : ns <+: p.1
 len : p.1.length ≤ ns.length + k + 6
 ctr : Ctr p.1 (k + 1) p.2.1 f
/-- Trimmed, where there is room. -/
structure TrR (ns : List Node) (room : Int) (k : Nat) (f : Int → Int → Bool) (p : List Node × Int × Int) : Prop where
 e : p.2.2 = 0
 right : R6.right p.1 room
 pre : ns <+: p.1
 len : p.1.length ≤ ns.length + k
 ctr : ∃ k', k' ≤ k ∧ Ctr p.1 k' p.2.1 f ∧ Trd p.1 k' p.2.1
end R9
namespace RL
/-- The raw field, with more room. -/
theorem field9 (c : Int) (nodes : List Five) (raw : List Cell) (level : Int) : ∃ (k : Nat) (ms : List Node) (m : Int), field c nodes raw level = (ms, m, 0) ∧ (fv level = (k : Int) + 2) ∧ k ≤ 3 ∧ R6.right ms (room c + 900) ∧ (ms.length : Int) ≤ room c + 160 ∧ R9.Ctr ms k m (R9.pl (fset (fv level) raw)) ∧ (fset (fv level) raw).length ≤ 30 ∧ R1.Srt (fset (fv level) raw) := by
 have hrm := room_bd c
 have hfv := fv_bd level
 obtain ⟨k, hk⟩ : ∃ k : Nat, fv level = (k : Int) + 2 := ⟨(fv level - 2).toNat, by omega⟩
 have hsd : R7.side (fv level) = 2 ^ (k + 1) := by
  rw [hk]
  unfold R7.side
  rw [show ((k : Int) + 2 - 1).toNat = k + 1 by omega]
 have hpos := R7.p2pos (k + 1)
 have hmem : ∀ d ∈ fset (fv level) raw, -(2 ^ (k + 1)) ≤ d.x ∧ d.x < 2 ^ (k + 1) ∧ -(2 ^ (k + 1)) ≤ d.y ∧ d.y < 2 ^ (k + 1) := fun d hd => by
  unfold fset at hd
  rw [R1.mem_puts] at hd
  obtain ⟨r, _, rfl⟩ := List.mem_map.1 hd
  unfold fcell
  rw [hsd]
  have a := pk_bd (c := r.x) (n := 2 * 2 ^ (k + 1)) (by omega)
  have b := pk_bd (c := r.y) (n := 2 * 2 ^ (k + 1)) (by omega)
  simp only
  omega
 have hlen : (fset (fv level) raw).length ≤ 30 := by
  unfold fset
  have h := puts_le ((raw.take 30).map (fcell (fv level)))
  rw [List.length_map, List.length_take] at h
  omega
 have hp16 : (2 : Int) ^ (k + 1) ≤ 16 := by
  have := R9.pow_le2 (a := k + 1) (b := 4) (by omega)
  have e : (2 : Int) ^ 4 = 16 := rfl
  omega
 have hright : R1.right (fset (fv level) raw) := R1.right_of (R1.puts_srt _) (fun d hd => by have := hmem d hd; unfold R1.inB; omega) (by omega)
 -- the store
 have hfold : ∀ (l : List Five) (ns : List Node), R6.right ns (room c) → R6.right (l.foldl (putN (room c)) ns) (room c) := by
  intro l
  induction l with
  | nil => intro ns h; exact h
  | cons r l ih =>
   intro ns h
   refine ih _ ?_
   unfold putN R6.intern
   rw [if_pos h]
   exact (R9.right_put h _ _ _ _).1
 have hst : R6.right (fstore (room c) nodes) (room c) := hfold _ _ (new9_right (by omega) (by omega))
 have hsl : ((fstore (room c) nodes).length : Int) ≤ room c := hst.1.2.2.2.1
 have hw := (R6.right_iff.1 hst).2
 have hE := R7.E_le (fstore (room c) nodes) 6
 have hmul : (fset (fv level) raw).length * (k + 1 + 1) ≤ 30 * 5 := Nat.mul_le_mul hlen (by omega)
 obtain ⟨ms, m, e, ok, sem⟩ := R7.make_ok (room := room c + 600) (L := 6) (lv := k + 1) (by omega) (by omega) (R6.right_iff.2 ⟨⟨by omega, by omega, by omega⟩, hw⟩) hright (fun d hd => by
  have := hmem d hd
  unfold R7.inL
  rw [R7.side_succ]
  exact this) (by omega)
 have hl2 := ok.len
 refine ⟨k, ms, m, ?_, hk, by omega, R6.right_iff.2 ⟨⟨by omega, by omega, by omega⟩, ok.wf⟩, by omega, ⟨R9.std_make ok.is sem, fun x y hf => ?_⟩, hlen, R1.puts_srt _⟩
 ·unfold field
  rw [hk]
  rw [hk] at e
  have e2 : ((k + 1 + 1 : Nat) : Int) = (k : Int) + 2 := by omega
  rw [e2] at e
  exact e
 ·exact hmem ⟨x, y⟩ (of_decide_eq_true hf)
end RL
end Go.GL


namespace Go.GL
open R6 R7
namespace RL
/-- The raw field. -/
structure Fld (c : Int) (nodes : List Five) (raw : List Cell) (level : Int) (k : Nat) (ms : List Node) (m : Int) : Prop where
 eq : field c nodes raw level = (ms, m, 0)
 fv : fv level = (k : Int) + 2
 k1 : 1 ≤ k
 k3 : k ≤ 3
 right : R6.right ms (room c + 600)
 len : (ms.length : Int) ≤ room c + 160
 std : R9.Std ms (k + 2) m (R9.pl (fset (RL.fv level) raw)) (-2 ^ (k + 1)) (-2 ^ (k + 1))
 cells : (fset (RL.fv level) raw).length ≤ 30
 srt : R1.Srt (fset (RL.fv level) raw)
theorem fld (c : Int) (nodes : List Five) (raw : List Cell) (level : Int) : ∃ k ms m, Fld c nodes raw level k ms m := by
 obtain ⟨k, ms, m, e, hv, k3, hr, hl, hc, h30, hs⟩ := field9 c nodes raw level
 have hb := fv_bd level
 have hrm := room_bd c
 have hr' : R6.right ms (room c + 600) := R6.right_iff.2 ⟨⟨by omega, by omega, by omega⟩, (R6.right_iff.1 hr).2⟩
 exact ⟨k, ms, m, ⟨e, hv, by omega, k3, hr', hl, hc.1, h30, hs⟩⟩
end RL
namespace R21
theorem wk3 {k : Nat} (h : k ≤ 3) : wk k < 100000 := by
 match k, h with
 | 0, _ => decide
 | 1, _ => decide
 | 2, _ => decide
 | 3, _ => decide
end R21
end Go.GL


namespace Go.GL
open R6 R7
namespace R21
open R8 (g s16 IsSq bit s16_pre)
open R9 (Memo LS look9)
/-- Nodes of two stores that stand for the same. -/
def Rel (S C : List Node) : Nat → Int → Int → Prop
 | 0, n, n' => IsN S 0 n ∧ IsN C 0 n' ∧ n = n'
 | lv + 1, n, n' => IsN S (lv + 1) n ∧ IsN C (lv + 1) n' ∧ Rel S C lv (nd S n).k0 (nd C n').k0 ∧ Rel S C lv (nd S n).k1 (nd C n').k1 ∧ Rel S C lv (nd S n).k2 (nd C n').k2 ∧ Rel S C lv (nd S n).k3 (nd C n').k3
theorem Rel.l {S C : List Node} : ∀ {lv : Nat} {n n' : Int}, Rel S C lv n n' → IsN S lv n
 | 0, n, n', h => h.1
 | lv + 1, n, n', h => h.1
theorem Rel.r {S C : List Node} : ∀ {lv : Nat} {n n' : Int}, Rel S C lv n n' → IsN C lv n'
 | 0, n, n', h => h.2.1
 | lv + 1, n, n', h => h.2.1
theorem Rel.pre {S S' C : List Node} (hp : S <+: S') : ∀ {lv : Nat} {n n' : Int}, Rel S C lv n n' → Rel S' C lv n n'
 | 0, n, n', h => ⟨h.1.pre hp, h.2⟩
 | lv + 1, n, n', h => by
  obtain ⟨a, b, h0, h1, h2, h3⟩ := h
  refine ⟨a.pre hp, b, ?_⟩
  rw [nd_pre hp a.1]
  exact ⟨h0.pre hp, h1.pre hp, h2.pre hp, h3.pre hp⟩
theorem Rel.refl {S C : List Node} (hw : Wf S) (hp : S <+: C) : ∀ {lv : Nat} {n : Int}, IsN S lv n → Rel S C lv n n
 | 0, n, h => ⟨h, h.pre hp, rfl⟩
 | lv + 1, n, h => by
  obtain ⟨a, b, c, d⟩ := kids4 hw h
  refine ⟨h, h.pre hp, ?_⟩
  rw [nd_pre hp h.1]
  exact ⟨Rel.refl hw hp a, Rel.refl hw hp b, Rel.refl hw hp c, Rel.refl hw hp d⟩
theorem Rel.inj {S C : List Node} (hw : Wf S) : ∀ {lv : Nat} {n m a : Int}, Rel S C lv n a → Rel S C lv m a → n = m
 | 0, n, m, a, h, k => h.2.2.trans k.2.2.symm
 | lv + 1, n, m, a, h, k => by
  obtain ⟨a1, _, h0, h1, h2, h3⟩ := h
  obtain ⟨a2, _, k0, k1, k2, k3⟩ := k
  refine hw.uniq a1.1 a2.1 (by rw [a1.2]; omega) (by rw [a2.2]; omega) ?_
  unfold Node.kids
  rw [Rel.inj hw h0 k0, Rel.inj hw h1 k1, Rel.inj hw h2 k2, Rel.inj hw h3 k3]
theorem kids_eq {x : Node} {q0 q1 q2 q3 : Int} (h : x.kids = [q0, q1, q2, q3]) : x.k0 = q0 ∧ x.k1 = q1 ∧ x.k2 = q2 ∧ x.k3 = q3 := by
 unfold Node.kids at h
 simpa using h
theorem Rel.of4 {S C : List Node} {lv : Nat} {q0 q1 q2 q3 m p0 p1 p2 p3 m' : Int} (h : P4 S lv q0 q1 q2 q3 m) (k : P4 C lv p0 p1 p2 p3 m') (h0 : Rel S C lv q0 p0) (h1 : Rel S C lv q1 p1) (h2 : Rel S C lv q2 p2) (h3 : Rel S C lv q3 p3) : Rel S C (lv + 1) m m' := by
 obtain ⟨a0, a1, a2, a3⟩ := kids_eq h.kids
 obtain ⟨b0, b1, b2, b3⟩ := kids_eq k.kids
 refine ⟨h.is, k.is, ?_⟩
 rw [a0, a1, a2, a3, b0, b1, b2, b3]
 exact ⟨h0, h1, h2, h3⟩
theorem Rel.s16 {S C : List Node} {lv : Nat} {n n' : Int} (h : Rel S C (lv + 2) n n') : ∀ i : Int, 0 ≤ i → i < 16 → Rel S C lv (g (s16 S n) i) (g (s16 C n') i) := by
 obtain ⟨_, _, ⟨_, _, a0, a1, a2, a3⟩, ⟨_, _, b0, b1, b2, b3⟩, ⟨_, _, c0, c1, c2, c3⟩, ⟨_, _, d0, d1, d2, d3⟩⟩ := h
 intro i h0 h1
 rcases (by omega : i = 0 ∨ i = 1 ∨ i = 2 ∨ i = 3 ∨ i = 4 ∨ i = 5 ∨ i = 6 ∨ i = 7 ∨ i = 8 ∨ i = 9 ∨ i = 10 ∨ i = 11 ∨ i = 12 ∨ i = 13 ∨ i = 14 ∨ i = 15) with rfl | rfl | rfl | rfl | rfl | rfl | rfl | rfl | rfl | rfl | rfl | rfl | rfl | rfl | rfl | rfl
 ·exact a0
 ·exact a1
 ·exact b0
 ·exact b1
 ·exact a2
 ·exact a3
 ·exact b2
 ·exact b3
 ·exact c0
 ·exact c1
 ·exact d0
 ·exact d1
 ·exact c2
 ·exact c3
 ·exact d2
 ·exact d3
theorem IsSq.p4 {ms : List Node} {lv : Nat} {l : List Int} {y x m : Int} (h : IsSq ms lv l y x m) : P4 ms lv (g l (4 * y + x)) (g l (4 * y + x + 1)) (g l (4 * y + x + 4)) (g l (4 * y + x + 5)) m := ⟨h.is, h.kids⟩
theorem Rel.sq {S C : List Node} {lv : Nat} {n n' m m' y x : Int} (h : Rel S C (lv + 2) n n') (hy : 0 ≤ y ∧ y ≤ 2) (hx : 0 ≤ x ∧ x ≤ 2) (a : IsSq S lv (R8.s16 S n) y x m) (b : IsSq C lv (R8.s16 C n') y x m') : Rel S C (lv + 1) m m' :=
 Rel.of4 (IsSq.p4 a) (IsSq.p4 b) (h.s16 _ (by omega) (by omega)) (h.s16 _ (by omega) (by omega)) (h.s16 _ (by omega) (by omega)) (h.s16 _ (by omega) (by omega))
theorem list16 {l m : List Int} (h : l.length = 16) (k : m.length = 16) (e : ∀ i : Int, 0 ≤ i → i < 16 → g l i = g m i) : l = m := by
 apply List.ext_getElem (by omega)
 intro i h1 h2
 have := e (i : Int) (by omega) (by omega)
 unfold g at this
 rw [Int.toNat_natCast] at this
 simpa [h1, h2] using this
theorem Rel.s16_eq {S C : List Node} {n n' : Int} (h : Rel S C 2 n n') : R8.s16 S n = R8.s16 C n' :=
 list16 rfl rfl fun i h0 h1 => (Rel.s16 (lv := 0) h i h0 h1).2.2
/-- What a leap tells is the same in both. -/
theorem Cl.rel {S C : List Node} (hS : Wf S) (hC : Wf C) : ∀ {k : Nat} {n n' j m m' : Int}, Rel S C (k + 2) n n' → Cl S k n j m → Cl C k n' j m' → Rel S C (k + 1) m m'
 | 0, n, n', j, m, m', h, a, b => by
  have e := Rel.s16_eq h
  have b2 := b.2
  rw [← e] at b2
  obtain ⟨x0, x1, x2, x3⟩ := a.2.kidsN hS
  obtain ⟨y0, y1, y2, y3⟩ := b2.kidsN hC
  exact Rel.of4 a.2 b2 ⟨x0, y0, rfl⟩ ⟨x1, y1, rfl⟩ ⟨x2, y2, rfl⟩ ⟨x3, y3, rfl⟩
 | k + 1, n, n', j, m, m', h, a, b => by
  obtain ⟨_, qs, rs, ls, ss, h9, ⟨hr, hrs⟩, h4, ⟨hs, hss⟩, hm⟩ := a
  obtain ⟨_, qs', rs', ls', ss', h9', ⟨hr', hrs'⟩, h4', ⟨hs', hss'⟩, hm'⟩ := b
  have q : ∀ p : Nat, p < 9 → Rel S C (k + 2) (qs.getD p default) (qs'.getD p default) := fun p hp => Rel.sq h (by omega) (by omega) (h9.sq p hp) (h9'.sq p hp)
  have r : ∀ p : Nat, p < 9 → Rel S C (k + 1) (rs.getD p default) (rs'.getD p default) := fun p hp => by
   have x := hrs p hp
   have y := hrs' p hp
   split at x
   ·rename_i hj
    rw [if_pos hj] at y
    exact Cl.rel hS hC (q p hp) x y
   ·rename_i hj
    rw [if_neg hj] at y
    exact Rel.sq (q p hp) (by omega) (by omega) x y
  have l : ∀ i : Nat, i < 4 → Rel S C (k + 2) (ls.getD i default) (ls'.getD i default) := fun i hi => by
   have x := h4.sq i hi
   have y := h4'.sq i hi
   rcases (by omega : i = 0 ∨ i = 1 ∨ i = 2 ∨ i = 3) with rfl | rfl | rfl | rfl
   ·exact Rel.of4 x y (r 0 (by omega)) (r 1 (by omega)) (r 3 (by omega)) (r 4 (by omega))
   ·exact Rel.of4 x y (r 1 (by omega)) (r 2 (by omega)) (r 4 (by omega)) (r 5 (by omega))
   ·exact Rel.of4 x y (r 3 (by omega)) (r 4 (by omega)) (r 6 (by omega)) (r 7 (by omega))
   ·exact Rel.of4 x y (r 4 (by omega)) (r 5 (by omega)) (r 7 (by omega)) (r 8 (by omega))
  have s : ∀ i : Nat, i < 4 → Rel S C (k + 1) (ss.getD i default) (ss'.getD i default) := fun i hi => Cl.rel hS hC (l i hi) (hss i hi) (hss' i hi)
  exact Rel.of4 hm hm' (s 0 (by omega)) (s 1 (by omega)) (s 2 (by omega)) (s 3 (by omega))
/-! ### A store all of whose nodes are in another -/
def Sub (S C : List Node) : Prop := ∀ (lv : Nat) (n : Int), IsN S lv n → ∃ n', Rel S C lv n n'
theorem Sub.refl {S C : List Node} (hw : Wf S) (hp : S <+: C) : Sub S C := fun lv n h => ⟨n, Rel.refl hw hp h⟩
theorem Sub.len {S C : List Node} (hw : Wf S) (h : Sub S C) : S.length ≤ C.length := by
 have key : ∀ i : Nat, ∃ a : Nat, i < S.length → a < C.length ∧ ∃ lv : Nat, Rel S C lv (i : Int) (a : Int) := fun i => by
  by_cases hi : i < S.length
  ·have hin : inS S (i : Int) := ⟨by omega, by omega⟩
   have hb := (hw.lvb hin).1
   obtain ⟨n', r⟩ := h (nd S i).lv.toNat i ⟨hin, by omega⟩
   obtain ⟨x1, x2⟩ := r.r.1
   refine ⟨n'.toNat, fun _ => ⟨by omega, _, by rw [show ((n'.toNat : Nat) : Int) = n' by omega]; exact r⟩⟩
  ·exact ⟨0, fun x => absurd x hi⟩
 have hf : ∃ f : Nat → Nat, ∀ i, i < S.length → f i < C.length ∧ ∃ lv : Nat, Rel S C lv (i : Int) (f i : Int) := ⟨fun i => Classical.choose (key i), fun i => Classical.choose_spec (key i)⟩
 obtain ⟨f, hf⟩ := hf
 have nd : ((List.range S.length).map f).Nodup := by
  rw [List.Nodup, List.pairwise_map]
  refine List.Pairwise.imp_of_mem ?_ (List.nodup_range (n := S.length))
  intro a b ha hb hne e
  obtain ⟨_, la, ra⟩ := hf a (List.mem_range.1 ha)
  obtain ⟨_, lb, rb⟩ := hf b (List.mem_range.1 hb)
  rw [← e] at rb
  have x := ra.r.2
  have y := rb.r.2
  obtain rfl : la = lb := by omega
  have := Rel.inj hw ra rb
  omega
 have := nodup_le ((List.range S.length).map f) (List.range C.length) nd fun c hc => by
  obtain ⟨i, hi, rfl⟩ := List.mem_map.1 hc
  exact List.mem_range.2 (hf i (List.mem_range.1 hi)).1
 simpa using this
theorem Sub.snoc {S C : List Node} (h : Sub S C) {ms : List Node} (hp : S <+: ms) (hl : ms.length ≤ S.length + 1) {lv : Nat} {m m' : Int} (hm : m = S.length) (r : Rel ms C lv m m') : Sub ms C := by
 intro L n hn
 by_cases hin : inS S n
 ·obtain ⟨n', x⟩ := h L n ⟨hin, by rw [← nd_pre hp hin]; exact hn.2⟩
  exact ⟨n', x.pre hp⟩
 ·have : n = m := by
   have a := hn.1.1
   have b := hn.1.2
   unfold inS at hin
   omega
  subst this
  have x := hn.2
  have y := r.l.2
  obtain rfl : L = lv := by omega
  exact ⟨m', r⟩
/-- What is there in the other is put without an error. -/
theorem put_sub {S C : List Node} {room : Int} (hr : R6.right S room) (hC : Wf C) (hs : Sub S C) (hl : (C.length : Int) ≤ room) {lv : Nat} {q0 q1 q2 q3 p0 p1 p2 p3 m' : Int} (k : P4 C lv p0 p1 p2 p3 m') (h0 : Rel S C lv q0 p0) (h1 : Rel S C lv q1 p1) (h2 : Rel S C lv q2 p2) (h3 : Rel S C lv q3 p3) :
  ∃ ms m, R6.put S room q0 q1 q2 q3 = (ms, m, 0) ∧ R6.right ms room ∧ S <+: ms ∧ P4 ms lv q0 q1 q2 q3 m ∧ Sub ms C := by
 have hw := (right_iff.1 hr).2
 have hlv : lv + 1 ≤ 42 := by
  have := (hC.lvb k.is.1).2
  rw [k.is.2] at this
  omega
 have hf := fit4_of hlv h0.l h1.l h2.l h3.l
 by_cases hat : 0 ≤ R6.at_ S [q0, q1, q2, q3]
 ·have e : R6.put S room q0 q1 q2 q3 = (S, R6.at_ S [q0, q1, q2, q3], 0) := by
   unfold R6.put
   rw [if_pos hf, if_pos hat]
  rcases put4 hr hlv h0.l h1.l h2.l h3.l with ⟨ms, m, e', r, p, q⟩ | e'
  ·have := e'.symm.trans e
   simp only [Prod.mk.injEq, and_true] at this
   obtain ⟨rfl, rfl⟩ := this
   exact ⟨_, _, e', r, p, q, hs⟩
  ·rw [e] at e'
   exact absurd e' (show ¬ (0 : Int) = 40 by decide)
 ·have big : R6.put S (S.length + 1) q0 q1 q2 q3 = (S ++ [mk4 S q0 q1 q2 q3], (S.length : Int), 0) := by
   unfold R6.put
   rw [if_pos hf, if_neg hat, if_neg (by omega)]
  obtain ⟨ms, m, e, ok⟩ := put_ok hw (room := S.length + 1) hf (.inr (by omega))
  have := e.symm.trans big
  simp only [Prod.mk.injEq, and_true] at this
  obtain ⟨em, hm⟩ := this
  have q : P4 ms lv q0 q1 q2 q3 m := ⟨⟨ok.mem, by rw [ok.lv, h0.l.2]; omega⟩, ok.kids⟩
  have hs' : Sub ms C := hs.snoc ok.pre ok.len hm (Rel.of4 q k (h0.pre ok.pre) (h1.pre ok.pre) (h2.pre ok.pre) (h3.pre ok.pre))
  have hlen := hs'.len ok.wf
  have hroom : (S.length : Int) < room := by
   rw [em] at hlen
   simp only [List.length_append, List.length_singleton] at hlen
   omega
  have e2 : R6.put S room q0 q1 q2 q3 = (ms, m, 0) := by
   rw [em, hm]
   unfold R6.put
   rw [if_pos hf, if_neg hat, if_neg (by omega)]
  refine ⟨ms, m, e2, ?_, ok.pre, q, hs'⟩
  have := (R9.right_put hr q0 q1 q2 q3).1
  rw [e2] at this
  exact this
end R21
end Go.GL


namespace Go.GL
open R6 R7
namespace R21
open R8 (g s16 IsSq bit s16_pre)
open R9 (Memo LS look9)
theorem putSq_sub {S C : List Node} {room : Int} (hr : R6.right S room) (hC : Wf C) (hs : Sub S C) (hl : (C.length : Int) ≤ room) {lv : Nat} {l l' : List Int} (hi : ∀ i : Int, 0 ≤ i → i < 16 → Rel S C lv (g l i) (g l' i)) {y x m' : Int} (hy : 0 ≤ y ∧ y ≤ 2) (hx : 0 ≤ x ∧ x ≤ 2) (k : IsSq C lv l' y x m') :
  ∃ ms m, R8.putSq S room l y x = (ms, m, 0) ∧ R6.right ms room ∧ S <+: ms ∧ IsSq ms lv l y x m ∧ Sub ms C := by
 obtain ⟨ms, m, e, a, b, c, d⟩ := put_sub hr hC hs hl (IsSq.p4 k) (hi (4 * y + x) (by omega) (by omega)) (hi (4 * y + x + 1) (by omega) (by omega)) (hi (4 * y + x + 4) (by omega) (by omega)) (hi (4 * y + x + 5) (by omega) (by omega))
 exact ⟨ms, m, e, a, b, ⟨c.is, c.kids⟩, d⟩
/-- The nine squares, there in the other. -/
theorem all9_sub {S C : List Node} {room : Int} (hr : R6.right S room) (hC : Wf C) (hs : Sub S C) (hl : (C.length : Int) ≤ room) {k : Nat} {n n' : Int} (hn : Rel S C (k + 3) n n') {qs' : List Int} (h9 : Nine9 C k n' qs') : ∃ ms qs, R8.all S room n = (ms, qs, 0) ∧ R6.right ms room ∧ S <+: ms ∧ Nine9 ms k n qs ∧ Sub ms C := by
 have key : (R8.all S room n).2.2 = 0 ∧ Sub (R8.all S room n).1 C := by
  have hi := Rel.s16 (lv := k + 1) hn
  have sq := h9.sq
  unfold R8.all
  generalize s16 S n = l at *
  generalize s16 C n' = l' at *
  dsimp only
  obtain ⟨m0, q0, e0, r0, p0, s0, b0⟩ := putSq_sub (y := 0) (x := 0) hr hC hs hl hi (by omega) (by omega) (sq 0 (by decide))
  have t0 : S <+: m0 := p0
  rw [e0]
  dsimp only
  rw [if_neg (by simp)]
  obtain ⟨m1, q1, e1, r1, p1, s1, b1⟩ := putSq_sub (y := 0) (x := 1) r0 hC b0 hl (fun i h0 h1 => (hi i h0 h1).pre t0) (by omega) (by omega) (sq 1 (by decide))
  have t1 : S <+: m1 := t0.trans p1
  rw [e1]
  dsimp only
  rw [if_neg (by simp)]
  obtain ⟨m2, q2, e2, r2, p2, s2, b2⟩ := putSq_sub (y := 0) (x := 2) r1 hC b1 hl (fun i h0 h1 => (hi i h0 h1).pre t1) (by omega) (by omega) (sq 2 (by decide))
  have t2 : S <+: m2 := t1.trans p2
  rw [e2]
  dsimp only
  rw [if_neg (by simp)]
  obtain ⟨m3, q3, e3, r3, p3, s3, b3⟩ := putSq_sub (y := 1) (x := 0) r2 hC b2 hl (fun i h0 h1 => (hi i h0 h1).pre t2) (by omega) (by omega) (sq 3 (by decide))
  have t3 : S <+: m3 := t2.trans p3
  rw [e3]
  dsimp only
  rw [if_neg (by simp)]
  obtain ⟨m4, q4, e4, r4, p4, s4, b4⟩ := putSq_sub (y := 1) (x := 1) r3 hC b3 hl (fun i h0 h1 => (hi i h0 h1).pre t3) (by omega) (by omega) (sq 4 (by decide))
  have t4 : S <+: m4 := t3.trans p4
  rw [e4]
  dsimp only
  rw [if_neg (by simp)]
  obtain ⟨m5, q5, e5, r5, p5, s5, b5⟩ := putSq_sub (y := 1) (x := 2) r4 hC b4 hl (fun i h0 h1 => (hi i h0 h1).pre t4) (by omega) (by omega) (sq 5 (by decide))
  have t5 : S <+: m5 := t4.trans p5
  rw [e5]
  dsimp only
  rw [if_neg (by simp)]
  obtain ⟨m6, q6, e6, r6, p6, s6, b6⟩ := putSq_sub (y := 2) (x := 0) r5 hC b5 hl (fun i h0 h1 => (hi i h0 h1).pre t5) (by omega) (by omega) (sq 6 (by decide))
  have t6 : S <+: m6 := t5.trans p6
  rw [e6]
  dsimp only
  rw [if_neg (by simp)]
  obtain ⟨m7, q7, e7, r7, p7, s7, b7⟩ := putSq_sub (y := 2) (x := 1) r6 hC b6 hl (fun i h0 h1 => (hi i h0 h1).pre t6) (by omega) (by omega) (sq 7 (by decide))
  have t7 : S <+: m7 := t6.trans p7
  rw [e7]
  dsimp only
  rw [if_neg (by simp)]
  obtain ⟨m8, q8, e8, r8, p8, s8, b8⟩ := putSq_sub (y := 2) (x := 2) r7 hC b7 hl (fun i h0 h1 => (hi i h0 h1).pre t7) (by omega) (by omega) (sq 8 (by decide))
  have t8 : S <+: m8 := t7.trans p8
  rw [e8]
  dsimp only
  rw [if_neg (by simp)]
  exact ⟨rfl, b8⟩
 rcases all9 hr hn.l with ⟨ms, qs, e, a, b, c⟩ | e
 ·rw [e] at key
  exact ⟨ms, qs, e, a, b, c, key.2⟩
 ·rw [key.1] at e
  exact absurd e (by decide)
/-! ### Tasks of which all is there in the other -/
def TC (C ns : List Node) (n j : Int) : Prop := ∃ k n' m', Rel ns C (k + 2) n n' ∧ Cl C k n' j m'
theorem TC.pre {C S S' : List Node} (hp : S <+: S') {n j : Int} (h : TC C S n j) : TC C S' n j := by
 obtain ⟨k, n', m', a, b⟩ := h
 exact ⟨k, n', m', a.pre hp, b⟩
def GC (C ns : List Node) (ts : List Tk) : Prop := ∀ t ∈ ts, TC C ns t.n t.j
theorem GC.pre {C S S' : List Node} (hp : S <+: S') {ts : List Tk} (h : GC C S ts) : GC C S' ts := fun t ht => (h t ht).pre hp
theorem GC.at_ {C S : List Node} {ts : List Tk} (h : GC C S ts) {i : Nat} (hi : i < ts.length) : TC C S (ts.getD i default).n (ts.getD i default).j := by
 have e : ts.getD i default = ts[i] := by simp [hi]
 rw [e]
 exact h _ (List.getElem_mem hi)
theorem GC.set {C S : List Node} {ts : List Tk} (h : GC C S ts) {i : Nat} {u : Tk} (h1 : u.n = (ts.getD i default).n) (h2 : u.j = (ts.getD i default).j) : GC C S (ts.set i u) := by
 by_cases hi : i < ts.length
 ·intro t ht
  rcases List.mem_or_eq_of_mem_set ht with ht | rfl
  ·exact h t ht
  ·rw [h1, h2]
   exact h.at_ hi
 ·rw [List.set_eq_of_length_le (by omega)]
  exact h
theorem tell_ns (s : Ms) (w i : Nat) (n : Int) : (tell s w i n).ns = s.ns := by
 unfold tell
 dsimp only
 split <;> rfl
theorem GC.tell {C : List Node} {s : Ms} (h : GC C s.ns s.ts) (w i : Nat) (n : Int) : GC C (R21.tell s w i n).ns (R21.tell s w i n).ts := by
 rw [tell_ns]
 unfold R21.tell
 dsimp only
 split
 ·exact h
 ·obtain ⟨a, b, c, d, e, f⟩ := setR_same (s.ts.getD (s.ts.getD i default).of_.toNat default) (s.ts.getD i default).pl n
  exact h.set c d
theorem parts_ns (w i : Nat) (j : Int) : ∀ (l : List Int) (k : Nat) (s : Ms), (parts w i j k l s).ns = s.ns ∧ (parts w i j k l s).ts = s.ts ++ newT i j k l
 | [], k, s => ⟨rfl, by simp [parts, newT]⟩
 | n :: l, k, s => by
  obtain ⟨a, b⟩ := parts_ns w i j l (k + 1) (add s w (tk0 n j i k))
  unfold parts
  refine ⟨a, ?_⟩
  rw [b]
  simp [add, newT]
theorem mem_newT {i : Nat} {j : Int} : ∀ {l : List Int} {k : Nat} {t : Tk}, t ∈ newT i j k l → t.n ∈ l ∧ t.j = j
 | [], k, t, h => (nomatch h)
 | n :: l, k, t, h => by
  rcases List.mem_cons.1 h with rfl | h
  ·exact ⟨List.mem_cons_self, rfl⟩
  ·obtain ⟨a, b⟩ := mem_newT h
   exact ⟨List.mem_cons_of_mem _ a, b⟩
theorem wait_ns (s : Ms) (w i : Nat) (j : Int) (l : List Int) : (R21.wait s w i j l).ns = s.ns := (parts_ns w i j l 0 _).1
theorem GC.wait {C : List Node} {s : Ms} (h : GC C s.ns s.ts) (w i : Nat) {j : Int} {l : List Int} (hl : ∀ x ∈ l, TC C s.ns x j) : GC C (R21.wait s w i j l).ns (R21.wait s w i j l).ts := by
 rw [wait_ns]
 unfold R21.wait
 rw [(parts_ns w i j l 0 _).2]
 intro t ht
 rcases List.mem_append.1 ht with ht | ht
 ·exact (h.set (i := i) (u := { s.ts.getD i default with wt := l.length, lf := l.length }) rfl rfl) t ht
 ·obtain ⟨a, b⟩ := mem_newT ht
  rw [b]
  exact hl _ a
/-- A step without an error, in a store that is in the other. -/
structure SubOut (C : List Node) (r : Ms × Int) : Prop where
 ok : r.2 = 0
 sub : Sub r.1.ns C
 gc : GC C r.1.ns r.1.ts
theorem mids_sub {C : List Node} (hC : Wf C) {room : Int} (hl : (C.length : Int) ≤ room) {i lv : Nat} : ∀ (l : List Int) (q0 : Nat) (s : Ms), R6.right s.ns room → Sub s.ns C → GC C s.ns s.ts → (∀ x ∈ l, ∃ x' m', Rel s.ns C (lv + 2) x x' ∧ IsSq C lv (s16 C x') 1 1 m') → SubOut C (mids room i q0 l s)
 | [], q0, s, hr, hs, hg, h => ⟨rfl, hs, hg⟩
 | n :: l, q0, s, hr, hs, hg, h => by
  obtain ⟨x', m', r, k⟩ := h n List.mem_cons_self
  obtain ⟨ms, m, e, r1, p1, s1, b1⟩ := putSq_sub hr hC hs hl (Rel.s16 r) (y := 1) (x := 1) (by omega) (by omega) k
  unfold mids
  dsimp only
  rw [e]
  dsimp only
  rw [if_neg (by simp)]
  obtain ⟨a, b, c, d, e', f⟩ := setR_same (s.ts.getD i default) q0 m
  exact mids_sub hC hl l (q0 + 1) { s with ns := ms, ts := s.ts.set i (setR (s.ts.getD i default) q0 m) } r1 b1 ((hg.pre p1).set c d) fun x hx => by
   obtain ⟨x', m', r, k⟩ := h x (List.mem_cons_of_mem _ hx)
   exact ⟨x', m', r.pre p1, k⟩
/-- Nine come to four. -/
theorem join_sub {C : List Node} (hC : Wf C) {room : Int} (hl : (C.length : Int) ≤ room) {s : Ms} {w i : Nat} {t : Tk} (ht : tk s i = t) (hr : R6.right s.ns room) (hs : Sub s.ns C) (hg : GC C s.ns s.ts) {k : Nat} (hn : IsN s.ns (k + 3) t.n) (hj0 : 0 ≤ t.j) (hj1 : t.j ≤ k + 1) {rs' ls' ss' : List Int}
  (hrs : ∀ p : Nat, p < 9 → Rel s.ns C (k + 1) (res t p) (rs'.getD p default)) (h4 : Four4 C k rs' ls') (hss : ∀ p : Nat, p < 4 → Cl C k (ls'.getD p default) (if t.j = (k : Int) + 1 then t.j - 1 else t.j) (ss'.getD p default)) : SubOut C (join room s w i) := by
 have hw := (right_iff.1 hr).2
 have hlv : k + 1 + 1 ≤ 42 := by
  have := (hw.lvb hn.1).2
  rw [hn.2] at this
  omega
 have hfull : (if full s t then IntKind.i64.wrap (t.j - 1) else t.j) = if t.j = (k : Int) + 1 then t.j - 1 else t.j := by
  have e : full s t ↔ t.j = (k : Int) + 1 := by
   unfold full
   rw [hn.2]
   omega
  by_cases h : t.j = (k : Int) + 1
  ·rw [if_pos (e.2 h), if_pos h, w64 (by omega) (by omega)]
  ·rw [if_neg (fun x => h (e.1 x)), if_neg h]
 unfold join
 rw [show s.ts.getD i default = t from ht]
 dsimp only
 rw [hfull]
 obtain ⟨m0, q0, e0, r0, p0, s0, b0⟩ := put_sub hr hC hs hl (h4.sq 0 (by decide)) (hrs 0 (by decide)) (hrs 1 (by decide)) (hrs 3 (by decide)) (hrs 4 (by decide))
 have t0 : s.ns <+: m0 := p0
 rw [show R6.put s.ns room t.r0 t.r1 t.r3 t.r4 = (m0, q0, 0) from e0]
 dsimp only
 rw [if_neg (by simp)]
 obtain ⟨m1, q1, e1, r1, p1, s1, b1⟩ := put_sub r0 hC b0 hl (h4.sq 1 (by decide)) ((hrs 1 (by decide)).pre t0) ((hrs 2 (by decide)).pre t0) ((hrs 4 (by decide)).pre t0) ((hrs 5 (by decide)).pre t0)
 have t1 : s.ns <+: m1 := t0.trans p1
 rw [show R6.put m0 room t.r1 t.r2 t.r4 t.r5 = (m1, q1, 0) from e1]
 dsimp only
 rw [if_neg (by simp)]
 obtain ⟨m2, q2, e2, r2, p2, s2, b2⟩ := put_sub r1 hC b1 hl (h4.sq 2 (by decide)) ((hrs 3 (by decide)).pre t1) ((hrs 4 (by decide)).pre t1) ((hrs 6 (by decide)).pre t1) ((hrs 7 (by decide)).pre t1)
 have t2 : s.ns <+: m2 := t1.trans p2
 rw [show R6.put m1 room t.r3 t.r4 t.r6 t.r7 = (m2, q2, 0) from e2]
 dsimp only
 rw [if_neg (by simp)]
 obtain ⟨m3, q3, e3, r3, p3, s3, b3⟩ := put_sub r2 hC b2 hl (h4.sq 3 (by decide)) ((hrs 4 (by decide)).pre t2) ((hrs 5 (by decide)).pre t2) ((hrs 7 (by decide)).pre t2) ((hrs 8 (by decide)).pre t2)
 have t3 : s.ns <+: m3 := t2.trans p3
 rw [show R6.put m2 room t.r4 t.r5 t.r7 t.r8 = (m3, q3, 0) from e3]
 dsimp only
 rw [if_neg (by simp)]
 have u2 : m2 <+: m3 := p3
 have u1 : m1 <+: m3 := p2.trans u2
 have u0 : m0 <+: m3 := p1.trans u1
 have v0 : Rel m3 C (k + 2) q0 (ls'.getD 0 default) := Rel.of4 (s0.pre u0) (h4.sq 0 (by decide)) ((hrs 0 (by decide)).pre t3) ((hrs 1 (by decide)).pre t3) ((hrs 3 (by decide)).pre t3) ((hrs 4 (by decide)).pre t3)
 have v1 : Rel m3 C (k + 2) q1 (ls'.getD 1 default) := Rel.of4 (s1.pre u1) (h4.sq 1 (by decide)) ((hrs 1 (by decide)).pre t3) ((hrs 2 (by decide)).pre t3) ((hrs 4 (by decide)).pre t3) ((hrs 5 (by decide)).pre t3)
 have v2 : Rel m3 C (k + 2) q2 (ls'.getD 2 default) := Rel.of4 (s2.pre u2) (h4.sq 2 (by decide)) ((hrs 3 (by decide)).pre t3) ((hrs 4 (by decide)).pre t3) ((hrs 6 (by decide)).pre t3) ((hrs 7 (by decide)).pre t3)
 have v3 : Rel m3 C (k + 2) q3 (ls'.getD 3 default) := Rel.of4 (s3) (h4.sq 3 (by decide)) ((hrs 4 (by decide)).pre t3) ((hrs 5 (by decide)).pre t3) ((hrs 7 (by decide)).pre t3) ((hrs 8 (by decide)).pre t3)
 have g := GC.wait (s := { s with ns := m3 }) (hg.pre t3) w i (j := if t.j = (k : Int) + 1 then t.j - 1 else t.j) (l := [q0, q1, q2, q3]) fun x hx => by
  simp only [List.mem_cons, List.not_mem_nil, or_false] at hx
  rcases hx with rfl | rfl | rfl | rfl
  ·exact ⟨k, _, _, v0, hss 0 (by decide)⟩
  ·exact ⟨k, _, _, v1, hss 1 (by decide)⟩
  ·exact ⟨k, _, _, v2, hss 2 (by decide)⟩
  ·exact ⟨k, _, _, v3, hss 3 (by decide)⟩
 refine ⟨rfl, ?_, g⟩
 simp only
 rw [wait_ns]
 exact b3
theorem nine_rel {S C : List Node} {k : Nat} {n n' : Int} {qs qs' : List Int} (h : Rel S C (k + 3) n n') (h9 : Nine9 S k n qs) (h9' : Nine9 C k n' qs') : ∀ p : Nat, p < 9 → Rel S C (k + 2) (qs.getD p default) (qs'.getD p default) :=
 fun p hp => Rel.sq h (by omega) (by omega) (h9.sq p hp) (h9'.sq p hp)
theorem rs_rel {S C : List Node} (hS : Wf S) (hC : Wf C) {k : Nat} {j : Int} {qs qs' rs rs' : List Int} (q : ∀ p : Nat, p < 9 → Rel S C (k + 2) (qs.getD p default) (qs'.getD p default)) (a : Rs S k j qs rs) (b : Rs C k j qs' rs') : ∀ p : Nat, p < 9 → Rel S C (k + 1) (rs.getD p default) (rs'.getD p default) := fun p hp => by
 have x := a.2 p hp
 have y := b.2 p hp
 split at x
 ·rename_i hj
  rw [if_pos hj] at y
  exact Cl.rel hS hC (q p hp) x y
 ·rename_i hj
  rw [if_neg hj] at y
  exact Rel.sq (q p hp) (by omega) (by omega) x y
theorem four_rel {S C : List Node} {k : Nat} {rs rs' ls ls' : List Int} (r : ∀ p : Nat, p < 9 → Rel S C (k + 1) (rs.getD p default) (rs'.getD p default)) (h4 : Four4 S k rs ls) (h4' : Four4 C k rs' ls') : ∀ i : Nat, i < 4 → Rel S C (k + 2) (ls.getD i default) (ls'.getD i default) := fun i hi => by
 have x := h4.sq i hi
 have y := h4'.sq i hi
 rcases (by omega : i = 0 ∨ i = 1 ∨ i = 2 ∨ i = 3) with rfl | rfl | rfl | rfl
 ·exact Rel.of4 x y (r 0 (by omega)) (r 1 (by omega)) (r 3 (by omega)) (r 4 (by omega))
 ·exact Rel.of4 x y (r 1 (by omega)) (r 2 (by omega)) (r 4 (by omega)) (r 5 (by omega))
 ·exact Rel.of4 x y (r 3 (by omega)) (r 4 (by omega)) (r 6 (by omega)) (r 7 (by omega))
 ·exact Rel.of4 x y (r 4 (by omega)) (r 5 (by omega)) (r 7 (by omega)) (r 8 (by omega))
end R21
end Go.GL


namespace Go.GL
open R6 R7
namespace R21
open R8 (g s16 IsSq bit s16_pre)
open R9 (Memo LS look9)
theorem TC.lv {C S : List Node} {n j : Int} {k : Nat} (hn : IsN S (k + 2) n) (h : TC C S n j) : ∃ n' m', Rel S C (k + 2) n n' ∧ Cl C k n' j m' := by
 obtain ⟨k', n', m', a, b⟩ := h
 have x := a.l.2
 have y := hn.2
 obtain rfl : k' = k := by omega
 exact ⟨n', m', a, b⟩
theorem end_sub {C : List Node} (hC : Wf C) {room : Int} (hl : (C.length : Int) ≤ room) {s : Ms} {w i : Nat} {t : Tk} (ht : tk s i = t) (hr : R6.right s.ns room) (hs : Sub s.ns C) (hg : GC C s.ns s.ts) {k : Nat} {ss' : List Int} {m' : Int}
  (hss : ∀ p : Nat, p < 4 → Rel s.ns C (k + 1) (res t p) (ss'.getD p default)) (hp : P4 C (k + 1) (g ss' 0) (g ss' 1) (g ss' 2) (g ss' 3) m') : SubOut C (end_ room s w i) := by
 unfold end_
 rw [show s.ts.getD i default = t from ht]
 dsimp only
 obtain ⟨ms, m, e, r1, p1, s1, b1⟩ := put_sub hr hC hs hl hp (hss 0 (by decide)) (hss 1 (by decide)) (hss 2 (by decide)) (hss 3 (by decide))
 rw [show R6.put s.ns room t.r0 t.r1 t.r2 t.r3 = (ms, m, 0) from e]
 dsimp only
 rw [if_neg (by simp)]
 have g := GC.tell (s := { s with ns := ms }) (hg.pre p1) w i m
 refine ⟨rfl, ?_, g⟩
 simp only
 rw [tell_ns]
 exact b1
theorem begin_sub {C : List Node} (hC : Wf C) {room : Int} (hl : (C.length : Int) ≤ room) {s : Ms} {w i : Nat} {t : Tk} (ht : tk s i = t) (hr : R6.right s.ns room) (hs : Sub s.ns C) (hg : GC C s.ns s.ts) {k : Nat} (hn : IsN s.ns (k + 2) t.n) (hj0 : 0 ≤ t.j) (hj1 : t.j ≤ k) (hi : i < s.ts.length) (hw : w < s.D.length) : SubOut C (begin_ room s w i) := by
 have hwf := (right_iff.1 hr).2
 have htc := hg.at_ hi
 rw [show s.ts.getD i default = t from ht] at htc
 obtain ⟨n', m', hrel, hcl⟩ := htc.lv hn
 unfold begin_
 rw [show s.ts.getD i default = t from ht]
 dsimp only
 cases ho : look9 s.kp t.n t.j with
 | some to =>
  dsimp only
  refine ⟨rfl, ?_, GC.tell hg w i to⟩
  simp only
  rw [tell_ns]
  exact hs
 | none =>
  dsimp only
  by_cases hlv : (nd s.ns t.n).lv = 2
  ·rw [if_pos hlv]
   have hk0 : k = 0 := by have := hn.2; omega
   subst hk0
   have e16 := Rel.s16_eq hrel
   have hc2 := hcl.2
   rw [← e16] at hc2
   obtain ⟨y0, y1, y2, y3⟩ := hc2.kidsN hC
   have h0 : ∀ q, q = 0 ∨ q = 1 → IsN s.ns 0 q := fun q hq => by
    rcases hq with e | e <;> rw [e]
    ·exact ⟨hwf.in0, by rw [hwf.nd0]; rfl⟩
    ·exact ⟨hwf.in1, by rw [hwf.nd1]; rfl⟩
   have hb01 := fun y x => R9.bit_01 (s16 s.ns t.n) y x
   unfold R8.one
   obtain ⟨ms, m, e, r1, p1, s1, b1⟩ := put_sub hr hC hs hl hc2 ⟨h0 _ (hb01 1 1), y0, rfl⟩ ⟨h0 _ (hb01 1 2), y1, rfl⟩ ⟨h0 _ (hb01 2 1), y2, rfl⟩ ⟨h0 _ (hb01 2 2), y3, rfl⟩
   rw [e]
   dsimp only
   rw [if_neg (by simp)]
   have g := GC.tell (s := { s with ns := ms }) (hg.pre p1) w i m
   refine ⟨rfl, ?_, g⟩
   simp only
   rw [tell_ns]
   exact b1
  ·rw [if_neg hlv]
   obtain ⟨k1, rfl⟩ : ∃ k1, k = k1 + 1 := ⟨k - 1, by have := hn.2; omega⟩
   have hlv3 : (nd s.ns t.n).lv = (k1 : Int) + 3 := by rw [hn.2]; omega
   have hlvb := (hwf.lvb hn.1).2
   obtain ⟨_, qs', rs', ls', ss', h9', ⟨hr', hrs'⟩, h4', ⟨hs', hss'⟩, hm'⟩ := hcl
   obtain ⟨ms, qs, e, r1, p1, h9, b1⟩ := all9_sub hr hC hs hl hrel h9'
   have hq := nine_rel (hrel.pre p1) h9 h9'
   have hl9 := h9.len
   rw [e]
   dsimp only
   rw [if_neg (by simp)]
   by_cases hj : t.j = (nd s.ns t.n).lv - 2
   ·rw [if_pos hj]
    have hj' : t.j = (k1 : Int) + 1 := by omega
    rw [w64 (by omega) (by omega)]
    have g := GC.wait (s := { s with ns := ms }) (hg.pre p1) w i (j := t.j - 1) (l := qs) fun x hx => by
     obtain ⟨p, hp, rfl⟩ := List.getElem_of_mem hx
     have a := hq p (by omega)
     rw [show qs.getD p default = qs[p] by simp [hp]] at a
     have b := hrs' p (by omega)
     rw [if_pos hj'] at b
     exact ⟨k1, _, _, a, b⟩
    refine ⟨rfl, ?_, g⟩
    simp only
    rw [wait_ns]
    exact b1
   ·rw [if_neg hj]
    have hj' : ¬ t.j = (k1 : Int) + 1 := by omega
    have hqN : ∀ x ∈ qs, IsN ms (k1 + 2) x := fun x hx => by
     obtain ⟨p, hp, rfl⟩ := List.getElem_of_mem hx
     have := (h9.sq p (by omega)).is
     rw [show qs.getD p default = qs[p] by simp [hp]] at this
     exact this
    have mo := mids_sub hC hl (room := room) (i := i) (lv := k1) qs 0 { s with ns := ms } r1 b1 (hg.pre p1) fun x hx => by
     obtain ⟨p, hp, rfl⟩ := List.getElem_of_mem hx
     have a := hq p (by omega)
     rw [show qs.getD p default = qs[p] by simp [hp]] at a
     have b := hrs' p (by omega)
     rw [if_neg hj'] at b
     exact ⟨_, _, a, b⟩
    rcases mids_ok (i := i) (lv := k1) qs 0 { s with ns := ms } r1 hi (by omega) hqN with ⟨m2, u, e2, r2, p2, su, q1, q2⟩ | e2
    ·rw [e2] at mo ⊢
     dsimp only
     rw [if_neg (by simp)]
     have et : tk { s with ns := ms } i = t := ht
     rw [et] at su
     have etu : tk { s with ns := m2, ts := s.ts.set i u } i = u := by
      show (s.ts.set i u).getD i default = u
      rw [getD_setT hi, if_pos rfl]
     have p12 := p1.trans p2
     refine join_sub hC hl (s := { s with ns := m2, ts := s.ts.set i u }) (w := w) (k := k1) etu r2 mo.sub mo.gc (by rw [su.n]; exact hn.pre p12) (by rw [su.j]; exact hj0) (by rw [su.j]; omega) (rs' := rs') (ls' := ls') (ss' := ss') ?_ h4' (by rw [su.j]; exact hss')
     intro p hp
     have a := q1 p (by omega)
     rw [Nat.zero_add] at a
     have b := hrs' p hp
     rw [if_neg hj'] at b
     exact Rel.sq ((hq p hp).pre p2) (by omega) (by omega) a b
    ·rw [mo.ok] at e2
     exact absurd e2 (by decide)
/-- A step in a store that is in the other makes no error. -/
theorem step_sub {C : List Node} (hC : Wf C) {room : Int} (hl : (C.length : Int) ≤ room) {b : Nat} {n0 j0 : Int} {k0 : Nat} {s : Ms} {T : Nat → Bool} (h : GI room b n0 j0 k0 s T (-1)) (hs : Sub s.ns C) (hg : GC C s.ns s.ts) {w : Nat} (hw : w < s.D.length) : SubOut C (step room s w) := by
 obtain ⟨i, e, hi, hT, hrd, g, hl'⟩ := h.take hw
 have hwf := (right_iff.1 h.right).2
 unfold step
 dsimp only
 rw [e, if_neg (by omega), Int.toNat_natCast]
 obtain ⟨t, ht⟩ : ∃ t, tk s i = t := ⟨_, rfl⟩
 rw [show s.ts.getD i default = t from ht]
 rw [ht] at hrd
 have hw' : w < (R19.takeM s.D w).2.length := by rw [hl']; exact hw
 by_cases c0 : t.wt = 0
 ·rw [if_neg (by omega), if_neg (by omega)]
  obtain ⟨k, hn, hj0, hj1⟩ := h.lv i hi hT
  rw [ht] at hn hj0 hj1
  exact begin_sub hC hl (s := { s with D := (R19.takeM s.D w).2 }) ht h.right hs hg hn hj0 hj1 hi hw'
 ·have hlf : t.lf = 0 := by
   rcases hrd with a | a
   ·exact absurd a c0
   ·exact a
  obtain ⟨k, gs, jj, l, W⟩ := h.wt i hi hT (by rw [ht]; exact c0)
  obtain ⟨hk, hres⟩ := W.done (by rw [show s.ts.getD i default = t from ht]; exact hlf)
  have st := W.st
  rw [show s.ts.getD i default = t from ht] at st hres
  have htc := hg.at_ hi
  rw [show s.ts.getD i default = t from ht] at htc
  obtain ⟨n', m', hrel, hcl⟩ := htc.lv (k := k + 1) st.is
  obtain ⟨_, qs', rs', ls', ss', h9', hrs', h4', ⟨hs', hss'⟩, hm'⟩ := hcl
  rcases st.of with ⟨a, a2, h9, ej⟩ | ⟨a, qs, rs, h9, hrs, h4, ej⟩
  ·rw [if_pos a]
   have hq := nine_rel hrel h9 h9'
   have hl9 := h9.len
   refine join_sub hC hl (s := { s with D := (R19.takeM s.D w).2 }) ht h.right hs hg st.is st.j0 st.j1 (rs' := rs') (ls' := ls') (ss' := ss') (fun p hp => ?_) h4' hss'
   have b := hrs'.2 p hp
   rw [if_pos a2, ← ej] at b
   exact Cl.rel hwf hC (hq p hp) (hres p (by omega)) b
  ·rw [if_neg (by omega), if_pos a]
   have hq := nine_rel hrel h9 h9'
   have hr9 := rs_rel hwf hC hq hrs hrs'
   have hl4 := four_rel hr9 h4 h4'
   have hll := h4.len
   refine end_sub hC hl (s := { s with D := (R19.takeM s.D w).2 }) ht h.right hs hg (k := k) (ss' := ss') (fun p hp => ?_) hm'
   have b := hss' p hp
   rw [← ej] at b
   exact Cl.rel hwf hC (hl4 p hp) (hres p (by omega)) b
theorem run_sub {C : List Node} (hC : Wf C) {room : Int} (hl : (C.length : Int) ≤ room) {W : Nat} {picks : List Int} (hW : 1 ≤ W) {n0 j0 : Int} {k0 : Nat} : ∀ (f b n : Nat) (last : Int) (s : Ms) (T : Nat → Bool), GI room b n0 j0 k0 s T (-1) → s.D.length = W → b + 9 * f ≤ 1000000000 → Phi s.ns s.ts T < f → cnt s.ts T ≤ n → Sub s.ns C → GC C s.ns s.ts →
  (run room W picks f n last s).2.2 = 0 ∧ Sub (run room W picks f n last s).1.ns C
 | 0, b, n, last, s, T, h, hlD, hb, hp, hc, hs, hg => by omega
 | f + 1, b, n, last, s, T, h, hlD, hb, hp, hc, hs, hg => by
  obtain ⟨hx0, hx1⟩ := R19.nxt_ok (picks := picks) (nw := W) (n := n) (last := last) hW
  have so := step_out h (by omega) (w := (R19.nxt picks W n last).toNat) (by omega)
  obtain ⟨a1, a2, a3⟩ := step_sub hC hl h hs hg (w := (R19.nxt picks W n last).toNat) (by omega)
  rw [hlD] at so
  unfold run
  dsimp only
  generalize step room s (R19.nxt picks W n last).toNat = r at *
  rcases so with e | ⟨e, r1, p1, l1, hd⟩
  ·rw [a1] at e
   exact absurd e (by decide)
  ·rw [if_neg (by simpa using e)]
   rcases hd with ⟨d, cl, tl, t0⟩ | ⟨T', g, ph, ct⟩
   ·rw [if_pos d]
    exact ⟨rfl, a2⟩
   ·rw [if_neg (by rw [g.done]; decide)]
    exact run_sub hC hl hW f (b + 9) (n + 1) (R19.nxt picks W n last) r.1 T' g l1 (by omega) (by omega) (by omega) a2 a3
/-- A leap of many whose nodes are there in another store, of no more nodes than there is room: no error, and no more nodes. -/
theorem leap_sub {ns C : List Node} (hC : Wf C) {room n j nw : Int} {picks : List Int} {k0 : Nat} (hg : good ns room n j nw) (hk : (nd ns n).lv = (k0 : Int) + 2) (hwk : wk k0 < 100000) (hl : (C.length : Int) ≤ room) (hs : Sub ns C) {n' m' : Int} (hr : Rel ns C (k0 + 2) n n') (hc : Cl C k0 n' j m') :
  (leap ns room n j nw picks).err = 0 ∧ Sub (leap ns room n j nw picks).ns C := by
 have hg0 := hg
 obtain ⟨⟨hr0, hin, _⟩, hj0, hj1, hw1, hw2⟩ := hg
 have hn : IsN ns (k0 + 2) n := ⟨hin, by rw [hk]; omega⟩
 have g := start_GI (W := nw.toNat) (by omega) hr0 hn hj0 (by rw [hk] at hj1; omega)
 have hD : (start ns nw.toNat n j).D.length = nw.toNat := by
  show (([0] : List Int) :: List.replicate (nw.toNat - 1) []).length = nw.toNat
  rw [List.length_cons, List.length_replicate]
  omega
 have hphi : Phi (start ns nw.toNat n j).ns (start ns nw.toNat n j).ts (fun _ => false) = wk k0 := by
  have : c1 ns (tk0 n j (-1) 0) = wk k0 := c1_0 rfl hn
  show 0 + c1 ns (tk0 n j (-1) 0) = wk k0
  omega
 have gc : GC C (start ns nw.toNat n j).ns (start ns nw.toNat n j).ts := fun t ht => by
  rw [List.mem_singleton.1 ht]
  exact ⟨k0, n', m', hr, hc⟩
 obtain ⟨e, a⟩ := run_sub hC hl (picks := picks) (W := nw.toNat) (by omega) 100000 1 0 (-1) (start ns nw.toNat n j) (fun _ => false) g hD (by omega) (by rw [hphi]; exact hwk) (Nat.le_refl _) hs gc
 unfold leap
 rw [if_pos hg0]
 dsimp only
 generalize run room nw.toNat picks 100000 0 (-1) (start ns nw.toNat n j) = r at *
 rw [if_neg (by simpa using e)]
 exact ⟨rfl, a⟩
end R21
end Go.GL


namespace Go.GL
open R6 R7
namespace R21
open R8 (g s16 IsSq bit s16_pre)
open R9 (Memo LS look9 mapS bindM L9)
/-! ### Chapter 9's leap: what it needs is there behind it; and in a store that is in another one it makes no error -/
abbrev Ob (oC : Option (List Node)) (P : List Node → Prop) : Prop := ∀ C, oC = some C → P C
structure M9 (oC : Option (List Node)) (s : LS) : Prop where
 mem : MemC s.ns s.mm
 sub : Ob oC (Sub s.ns)
def Re {α : Type} (oC : Option (List Node)) (room : Int) (s : LS) (r : LS × α × Int) (Q : List Node → α → Prop) : Prop :=
 (∃ s' x, r = (s', x, 0) ∧ R6.right s'.ns room ∧ s.ns <+: s'.ns ∧ M9 oC s' ∧ Q s'.ns x) ∨ (oC = none ∧ r.2.2 = 40)
variable {oC : Option (List Node)} {room : Int}
theorem Re.mono {α : Type} {s : LS} {r : LS × α × Int} {Q Q' : List Node → α → Prop} (h : Re oC room s r Q) (hq : ∀ s' x, r = (s', x, 0) → s.ns <+: s'.ns → Q s'.ns x → Q' s'.ns x) : Re oC room s r Q' := by
 rcases h with ⟨s', x, e, a, b, c, d⟩ | h
 ·exact .inl ⟨s', x, e, a, b, c, hq _ _ e b d⟩
 ·exact .inr h
theorem Re.from {α : Type} {s s0 : LS} {r : LS × α × Int} {Q : List Node → α → Prop} (h : Re oC room s r Q) (hp : s0.ns <+: s.ns) : Re oC room s0 r Q := by
 rcases h with ⟨s', x, e, a, b, c, d⟩ | h
 ·exact .inl ⟨s', x, e, a, hp.trans b, c, d⟩
 ·exact .inr h
theorem bindM_re {s : LS} {r : LS × List Int × Int} {f : LS → List Int → L9} {Q : List Node → List Int → Prop} {Q' : List Node → Int → Prop} (h : Re oC room s r Q) (hf : ∀ s' x, R6.right s'.ns room → s.ns <+: s'.ns → M9 oC s' → Q s'.ns x → Re oC room s' (f s' x) Q') : Re oC room s (bindM r f) Q' := by
 rcases h with ⟨s', x, e, a, b, c, d⟩ | ⟨h, e⟩
 ·rw [R9.bindM_ok (by rw [e]), e]
  exact (hf s' x a b c d).from b
 ·rw [R9.bindM_err (by rw [e]; decide)]
  exact .inr ⟨h, e⟩
theorem mapS_re {f : LS → Int → L9} (A D : Nat → List Node → Int → Prop) (hA : ∀ i ns ms q, Wf ns → ns <+: ms → A i ns q → A i ms q) (hD : ∀ i ns ms q, Wf ns → ns <+: ms → D i ns q → D i ms q)
  (hf : ∀ i s q, R6.right s.ns room → M9 oC s → A i s.ns q → Re oC room s (f s q) (D i)) : ∀ (qs : List Int) (b : Nat) (s : LS), R6.right s.ns room → M9 oC s → (∀ i, i < qs.length → A (b + i) s.ns (qs.getD i default)) →
  Re oC room s (mapS f s qs) fun ns rs => rs.length = qs.length ∧ ∀ i, i < qs.length → D (b + i) ns (rs.getD i default)
 | [], b, s, h, hm, _ => .inl ⟨s, [], rfl, h, List.prefix_refl _, hm, rfl, fun i hi => absurd hi (Nat.not_lt_zero _)⟩
 | q :: qs, b, s, h, hm, hq => by
  unfold mapS
  rcases hf b s q h hm (hq 0 (by simp)) with ⟨s', x, e, r1, p1, m1, d1⟩ | ⟨e0, e⟩
  ·rw [e]
   dsimp only
   rw [if_neg (by simp)]
   rcases mapS_re A D hA hD hf qs (b + 1) s' r1 m1 (fun i hi => hA _ _ _ _ (right_iff.1 h).2 p1 (by
    have := hq (i + 1) (by simp only [List.length_cons]; omega)
    rw [show b + 1 + i = b + (i + 1) by omega]
    exact this)) with ⟨s2, rs, e2, r2, p2, m2, l2, d2⟩ | ⟨e0, e2⟩
   ·rw [e2]
    refine .inl ⟨s2, x :: rs, rfl, r2, p1.trans p2, m2, by simp [l2], fun i hi => ?_⟩
    cases i with
    | zero => exact hD _ _ _ _ (right_iff.1 r1).2 p2 d1
    | succ i =>
     have := d2 i (by simp only [List.length_cons] at hi; omega)
     rw [show b + (i + 1) = b + 1 + i by omega]
     exact this
   ·exact .inr ⟨e0, e2⟩
  ·rw [if_pos (by rw [e]; decide)]
   exact .inr ⟨e0, e⟩
/-- The other store: all is right in it, and there is room for so many nodes. -/
abbrev OkC (oC : Option (List Node)) (room : Int) : Prop := Ob oC fun C => Wf C ∧ (C.length : Int) ≤ room
theorem putS_re (hC : OkC oC room) {s : LS} (hr : R6.right s.ns room) (hm : M9 oC s) {lv : Nat} (hlv : lv + 1 ≤ 42) {q0 q1 q2 q3 : Int} (h0 : IsN s.ns lv q0) (h1 : IsN s.ns lv q1) (h2 : IsN s.ns lv q2) (h3 : IsN s.ns lv q3)
  (hk : Ob oC fun C => ∃ p0 p1 p2 p3 m', P4 C lv p0 p1 p2 p3 m' ∧ Rel s.ns C lv q0 p0 ∧ Rel s.ns C lv q1 p1 ∧ Rel s.ns C lv q2 p2 ∧ Rel s.ns C lv q3 p3) : Re oC room s (R9.putS room s q0 q1 q2 q3) fun ns m => P4 ns lv q0 q1 q2 q3 m := by
 have hw := (right_iff.1 hr).2
 unfold R9.putS
 cases oC with
 | none =>
  rcases put4 hr hlv h0 h1 h2 h3 with ⟨ms, m, e, r, p, q⟩ | e
  ·rw [e]
   exact .inl ⟨⟨ms, s.mm⟩, m, rfl, r, p, ⟨hm.mem.pre hw p, fun C h => nomatch h⟩, q⟩
  ·exact .inr ⟨rfl, e⟩
 | some C =>
  obtain ⟨p0, p1, p2, p3, m', k, a0, a1, a2, a3⟩ := hk C rfl
  obtain ⟨ms, m, e, r, p, q, b⟩ := put_sub hr (hC C rfl).1 (hm.sub C rfl) (hC C rfl).2 k a0 a1 a2 a3
  rw [e]
  exact .inl ⟨⟨ms, s.mm⟩, m, rfl, r, p, ⟨hm.mem.pre hw p, fun C' h => by cases h; exact b⟩, q⟩
theorem all_re (hC : OkC oC room) {s : LS} (hr : R6.right s.ns room) (hm : M9 oC s) {k : Nat} {n : Int} (hn : IsN s.ns (k + 3) n) {n' : Int} {qs' : List Int} (hk : Ob oC fun C => Rel s.ns C (k + 3) n n' ∧ Nine9 C k n' qs') :
  (∃ ms qs, R8.all s.ns room n = (ms, qs, 0) ∧ R6.right ms room ∧ s.ns <+: ms ∧ M9 oC ⟨ms, s.mm⟩ ∧ Nine9 ms k n qs) ∨ (oC = none ∧ (R8.all s.ns room n).2.2 = 40) := by
 have hw := (right_iff.1 hr).2
 cases oC with
 | none =>
  rcases all9 hr hn with ⟨ms, qs, e, r, p, q⟩ | e
  ·exact .inl ⟨ms, qs, e, r, p, ⟨hm.mem.pre hw p, fun C h => nomatch h⟩, q⟩
  ·exact .inr ⟨rfl, e⟩
 | some C =>
  obtain ⟨a, b⟩ := hk C rfl
  obtain ⟨ms, qs, e, r, p, q, d⟩ := all9_sub hr (hC C rfl).1 (hm.sub C rfl) (hC C rfl).2 a b
  exact .inl ⟨ms, qs, e, r, p, ⟨hm.mem.pre hw p, fun C' h => by cases h; exact d⟩, q⟩
/-- What a leap that is right does. -/
def Lp9 (oC : Option (List Node)) (room : Int) (k : Nat) (lp : LS → Int → Int → L9) : Prop := ∀ s n j, R6.right s.ns room → M9 oC s → IsN s.ns (k + 2) n → 0 ≤ j → j ≤ (k : Int) → (Ob oC fun C => ∃ n' m', Rel s.ns C (k + 2) n n' ∧ Cl C k n' j m') →
 Re oC room s (lp s n j) fun ns m => Cl ns k n j m
theorem far_re (hC : OkC oC room) {k : Nat} {lp : LS → Int → Int → L9} (hlp : Lp9 oC room k lp) {s : LS} {n j : Int} (hr : R6.right s.ns room) (hm : M9 oC s) (hn : IsN s.ns (k + 3) n) (hj0 : 0 ≤ j) (hj1 : j ≤ (k : Int) + 1) (hk : Ob oC fun C => ∃ n' m', Rel s.ns C (k + 3) n n' ∧ Cl C (k + 1) n' j m') :
  Re oC room s (R9.far lp room (decide (j = (k : Int) + 1)) s n j) fun ns m => Cl ns (k + 1) n j m := by
 have hw := (right_iff.1 hr).2
 have hlv : k + 3 ≤ 42 := by
  have := (hw.lvb hn.1).2
  rw [hn.2] at this
  omega
 obtain ⟨n', qs', rs', ls', ss', m', hF⟩ : ∃ (n' : Int) (qs' rs' ls' ss' : List Int) (m' : Int), Ob oC fun C => Rel s.ns C (k + 3) n n' ∧ Nine9 C k n' qs' ∧ Rs C k j qs' rs' ∧ Four4 C k rs' ls' ∧ (ss'.length = 4 ∧ ∀ i : Nat, i < 4 → Cl C k (ls'.getD i default) (if j = (k : Int) + 1 then j - 1 else j) (ss'.getD i default)) ∧ P4 C (k + 1) (g ss' 0) (g ss' 1) (g ss' 2) (g ss' 3) m' := by
  cases oC with
  | none => exact ⟨0, [], [], [], [], 0, fun C h => nomatch h⟩
  | some C =>
   obtain ⟨n', m', a, _, qs', rs', ls', ss', b, c, d, e, f⟩ := hk C rfl
   exact ⟨n', qs', rs', ls', ss', m', fun C' h => by cases h; exact ⟨a, b, c, d, e, f⟩⟩
 have half : Re oC room s (R9.half lp room (decide (j = (k : Int) + 1)) s n j) fun ns rs => ∃ qs, Nine9 ns k n qs ∧ Rs ns k j qs rs := by
  unfold R9.half
  rcases all_re hC hr hm hn (fun C h => ⟨(hF C h).1, (hF C h).2.1⟩) with ⟨ms, qs, e, r1, p1, m1, h9⟩ | ⟨e0, e⟩
  ·rw [e]
   simp only [ne_eq, not_true_eq_false, if_false]
   have hl9 := h9.len
   refine Re.from (s := ⟨ms, s.mm⟩) ?_ p1
   refine Re.mono (mapS_re (fun i ns q => i < 9 ∧ q = qs.getD i default ∧ Nine9 ns k n qs ∧ ms <+: ns) (fun i ns r => if j = (k : Int) + 1 then Cl ns k (qs.getD i default) (j - 1) r else IsSq ns k (s16 ns (qs.getD i default)) 1 1 r ∧ IsN ns (k + 2) (qs.getD i default)) (fun i ns ns' q hw hp h => ⟨h.1, h.2.1, h.2.2.1.pre hw hp ((hn.pre p1).pre h.2.2.2), h.2.2.2.trans hp⟩) (fun i ns ns' q hw hp h => ?_) (fun i t q hr hm h => ?_) qs 0 ⟨ms, s.mm⟩ r1 m1 (fun i hi => ?_)) (fun s' rs _ hp h => ?_)
   ·split
    ·rename_i hj
     rw [if_pos hj] at h
     exact h.pre hw hp
    ·rename_i hj
     rw [if_neg hj] at h
     rw [s16_pre hw hp (lv := k) h.2]
     exact ⟨h.1.pre hp, h.2.pre hp⟩
   ·obtain ⟨hi, rfl, h9', hpp⟩ := h
    have hq := (h9'.sq i hi).is
    have hqr : Ob oC fun C => Rel t.ns C (k + 2) (qs.getD i default) (qs'.getD i default) := fun C h => nine_rel ((hF C h).1.pre (p1.trans hpp)) h9' (hF C h).2.1 i hi
    unfold R9.halfF
    by_cases hj : j = (k : Int) + 1
    ·rw [if_pos (by simpa using hj)]
     simp only [if_pos hj]
     refine hlp t _ (j - 1) hr hm hq (by omega) (by omega) fun C h => ⟨qs'.getD i default, rs'.getD i default, hqr C h, ?_⟩
     have := (hF C h).2.2.1.2 i hi
     rw [if_pos hj] at this
     exact this
    ·rw [if_neg (by simpa using hj)]
     simp only [if_neg hj]
     have hwt := (right_iff.1 hr).2
     have hi16 := R8.s16_is hwt hq
     refine Re.mono (putS_re (lv := k) hC hr hm (by omega) (hi16 5 (by omega) (by omega)) (hi16 6 (by omega) (by omega)) (hi16 9 (by omega) (by omega)) (hi16 10 (by omega) (by omega)) fun C h => ?_) fun s' r _ hp hd => ?_
     ·have b := (hF C h).2.2.1.2 i hi
      rw [if_neg hj] at b
      have r16 := Rel.s16 (hqr C h)
      exact ⟨_, _, _, _, _, IsSq.p4 b, r16 _ (by omega) (by omega), r16 _ (by omega) (by omega), r16 _ (by omega) (by omega), r16 _ (by omega) (by omega)⟩
     ·refine ⟨?_, hq.pre hp⟩
      rw [s16_pre hwt hp (lv := k) hq]
      exact ⟨hd.is, hd.kids⟩
   ·rw [Nat.zero_add]
    exact ⟨by omega, rfl, h9, List.prefix_refl _⟩
   ·have h9'' := h9.pre (right_iff.1 r1).2 hp (hn.pre p1)
    refine ⟨qs, h9'', by rw [h.1, hl9], fun p hp9 => ?_⟩
    have := h.2 p (by omega)
    rw [Nat.zero_add] at this
    split
    ·rename_i hj
     rw [if_pos hj] at this
     exact this
    ·rename_i hj
     rw [if_neg hj] at this
     exact this.1
  ·rw [if_pos (by rw [e]; decide)]
   exact .inr ⟨e0, e⟩
 unfold R9.far
 refine bindM_re half fun s1 rs r1 p1 m1 ⟨qs, h9, hrs⟩ => ?_
 have hw1 := (right_iff.1 r1).2
 have hn1 := hn.pre p1
 have hrr : Ob oC fun C => ∀ p : Nat, p < 9 → Rel s1.ns C (k + 1) (rs.getD p default) (rs'.getD p default) := fun C h =>
  rs_rel hw1 (hC C h).1 (nine_rel ((hF C h).1.pre p1) h9 (hF C h).2.1) hrs (hF C h).2.2.1
 refine bindM_re (Q := fun ns ls => Four4 ns k rs ls) ?_ fun s2 ls r2 p2 m2 h4 => ?_
 ·refine Re.mono (mapS_re (fun i ns q => i < 4 ∧ q = e4 i ∧ s1.ns <+: ns) (fun i ns r => i < 4 → P4 ns (k + 1) (g rs (e4 i)) (g rs (e4 i + 1)) (g rs (e4 i + 3)) (g rs (e4 i + 4)) r) (fun i ns ns' q hw hp h => ⟨h.1, h.2.1, h.2.2.trans hp⟩) (fun i ns ns' q hw hp h hi => (h hi).pre hp) (fun i t q hr hm h => ?_) R9.fourE 0 s1 r1 m1 (fun i hi => ?_)) (fun s' l _ hp h => ⟨h.1, fun i hi => ?_⟩)
  ·obtain ⟨hi, rfl, hpp⟩ := h
   have hN : ∀ p : Nat, p < 9 → IsN t.ns (k + 1) (g rs (p : Int)) := fun p hp => (Rs.isN (n := 0) hrs hp).pre hpp
   have hN' : ∀ p : Int, 0 ≤ p → p < 9 → IsN t.ns (k + 1) (g rs p) := fun p h0 h1 => by
    have := hN p.toNat (by omega)
    rw [show ((p.toNat : Nat) : Int) = p by omega] at this
    exact this
   have hb : 0 ≤ e4 i ∧ e4 i ≤ 4 := by
    rcases (by omega : i = 0 ∨ i = 1 ∨ i = 2 ∨ i = 3) with rfl | rfl | rfl | rfl <;> exact ⟨by decide, by decide⟩
   unfold R9.fourP
   refine Re.mono (putS_re (lv := k + 1) hC hr hm (by omega) (hN' _ (by omega) (by omega)) (hN' _ (by omega) (by omega)) (hN' _ (by omega) (by omega)) (hN' _ (by omega) (by omega)) fun C h => ?_) fun s' r _ _ hd _ => hd
   have hR : ∀ p : Int, 0 ≤ p → p < 9 → Rel t.ns C (k + 1) (g rs p) (g rs' p) := fun p h0 h1 => by
    have := (hrr C h p.toNat (by omega)).pre hpp
    unfold g
    exact this
   exact ⟨_, _, _, _, _, (hF C h).2.2.2.1.sq i hi, hR _ (by omega) (by omega), hR _ (by omega) (by omega), hR _ (by omega) (by omega), hR _ (by omega) (by omega)⟩
  ·rw [Nat.zero_add]
   exact ⟨hi, rfl, List.prefix_refl _⟩
  ·have := h.2 i hi
   rw [Nat.zero_add] at this
   exact this hi
 have hw2 := (right_iff.1 r2).2
 have hl4 := h4.len
 have hrl : Ob oC fun C => ∀ p : Nat, p < 4 → Rel s2.ns C (k + 2) (ls.getD p default) (ls'.getD p default) := fun C h =>
  four_rel (fun p hp => (hrr C h p hp).pre p2) h4 (hF C h).2.2.2.1
 obtain ⟨jj, hjj⟩ : ∃ jj, (if j = (k : Int) + 1 then j - 1 else j) = jj := ⟨_, rfl⟩
 have hjb : 0 ≤ jj ∧ jj ≤ (k : Int) := by rw [← hjj]; split <;> omega
 refine bindM_re (Q := fun ns ss => ss.length = 4 ∧ ∀ i : Nat, i < 4 → Cl ns k (ls.getD i default) jj (ss.getD i default)) ?_ fun s3 ss r3 p3 m3 ⟨hs4, hss⟩ => ?_
 ·simp only [decide_eq_true_eq]
  rw [hjj]
  refine Re.mono (mapS_re (fun i ns q => i < 4 ∧ q = ls.getD i default ∧ s2.ns <+: ns) (fun i ns r => Cl ns k (ls.getD i default) jj r) (fun i ns ns' q hw hp h => ⟨h.1, h.2.1, h.2.2.trans hp⟩) (fun i ns ns' q hw hp h => h.pre hw hp) (fun i t q hr hm h => ?_) ls 0 s2 r2 m2 (fun i hi => ?_)) (fun s' l _ hp h => ⟨by rw [h.1, hl4], fun i hi => ?_⟩)
  ·obtain ⟨hi, rfl, hpp⟩ := h
   refine hlp t _ jj hr hm ((h4.sq i hi).is.pre hpp) hjb.1 hjb.2 fun C h => ⟨ls'.getD i default, ss'.getD i default, (hrl C h i hi).pre hpp, ?_⟩
   have := (hF C h).2.2.2.2.1.2 i hi
   rw [hjj] at this
   exact this
  ·rw [Nat.zero_add]
   exact ⟨by omega, rfl, List.prefix_refl _⟩
  ·have := h.2 i (by omega)
   rw [Nat.zero_add] at this
   exact this
 have hw3 := (right_iff.1 r3).2
 have hN : ∀ p : Nat, p < 4 → IsN s3.ns (k + 1) (ss.getD p default) := fun p hp => (hss p hp).isN.2
 unfold R9.put4
 refine Re.mono (putS_re (lv := k + 1) hC r3 m3 (by omega) (hN 0 (by omega)) (hN 1 (by omega)) (hN 2 (by omega)) (hN 3 (by omega)) fun C h => ?_) fun s4 m _ p4 hm4 => ?_
 ·have hR : ∀ p : Nat, p < 4 → Rel s3.ns C (k + 1) (ss.getD p default) (ss'.getD p default) := fun p hp => by
   have b := (hF C h).2.2.2.2.1.2 p hp
   rw [hjj] at b
   exact Cl.rel hw3 (hC C h).1 ((hrl C h p hp).pre p3) (hss p hp) b
  exact ⟨_, _, _, _, _, (hF C h).2.2.2.2.2, hR 0 (by omega), hR 1 (by omega), hR 2 (by omega), hR 3 (by omega)⟩
 ·refine ⟨((hn1.pre p2).pre p3).pre p4, qs, rs, ls, ss, h9.pre hw1 (p2.trans (p3.trans p4)) hn1, hrs.pre (n := n) hw1 (p2.trans (p3.trans p4)) h9, h4.pre (p3.trans p4), ⟨hs4, fun i hi => ?_⟩, hm4⟩
  rw [hjj]
  exact (hss i hi).pre hw3 p4
theorem keep_re {s : LS} {n j : Int} {k : Nat} {r : L9} (h : Re oC room s r fun ns m => Cl ns k n j m) : Re oC room s (R9.keep n j r) fun ns m => Cl ns k n j m := by
 unfold R9.keep
 rcases h with ⟨s', x, e, a, b, c, d⟩ | ⟨e0, e⟩
 ·rw [e]
  refine .inl ⟨⟨s'.ns, s'.mm ++ [(n, j, x)]⟩, x, rfl, a, b, ⟨fun p hp => ?_, c.sub⟩, d⟩
  rcases List.mem_append.1 hp with hp | hp
  ·exact c.mem p hp
  ·rw [List.mem_singleton.1 hp]
   exact ⟨k, d⟩
 ·rw [if_pos (by rw [e]; decide)]
  exact .inr ⟨e0, e⟩
theorem leap_re (hC : OkC oC room) : ∀ k, Lp9 oC room k (R9.leap room k)
 | 0, s, n, j, hr, hm, hn, hj0, hj1, hk => by
  have hw := (right_iff.1 hr).2
  unfold R9.leap
  cases ho : look9 s.mm n j with
  | some x =>
   obtain ⟨k', h⟩ := hm.mem _ (look_in ho)
   have e1 := h.isN.1.2
   have e2 := hn.2
   simp only at e1
   obtain rfl : k' = 0 := by omega
   exact .inl ⟨s, x, rfl, hr, List.prefix_refl _, hm, h⟩
  | none =>
   refine keep_re ?_
   have h0 : ∀ q, q = 0 ∨ q = 1 → IsN s.ns 0 q := fun q hq => by
    rcases hq with e | e <;> rw [e]
    ·exact ⟨hw.in0, by rw [hw.nd0]; rfl⟩
    ·exact ⟨hw.in1, by rw [hw.nd1]; rfl⟩
   have hb01 := fun y x => R9.bit_01 (s16 s.ns n) y x
   refine Re.mono (putS_re (lv := 0) hC hr hm (by decide) (h0 _ (hb01 1 1)) (h0 _ (hb01 1 2)) (h0 _ (hb01 2 1)) (h0 _ (hb01 2 2)) fun C h => ?_) fun s' m _ hp h => ?_
   ·obtain ⟨n', m', a, b⟩ := hk C h
    have hc2 := b.2
    rw [← Rel.s16_eq a] at hc2
    obtain ⟨y0, y1, y2, y3⟩ := hc2.kidsN (hC C h).1
    exact ⟨_, _, _, _, _, hc2, ⟨h0 _ (hb01 1 1), y0, rfl⟩, ⟨h0 _ (hb01 1 2), y1, rfl⟩, ⟨h0 _ (hb01 2 1), y2, rfl⟩, ⟨h0 _ (hb01 2 2), y3, rfl⟩⟩
   ·exact ⟨hn.pre hp, by rw [s16_pre hw hp (lv := 0) hn]; exact h⟩
 | k + 1, s, n, j, hr, hm, hn, hj0, hj1, hk => by
  unfold R9.leap
  cases ho : look9 s.mm n j with
  | some x =>
   obtain ⟨k', h⟩ := hm.mem _ (look_in ho)
   have e1 := h.isN.1.2
   have e2 := hn.2
   simp only at e1
   obtain rfl : k' = k + 1 := by omega
   exact .inl ⟨s, x, rfl, hr, List.prefix_refl _, hm, h⟩
  | none => exact keep_re (far_re hC (leap_re hC k) hr hm hn hj0 (by omega) hk)
end R21
end Go.GL


namespace Go.GL
open R6 R7
namespace R21
open R9 (Memo LS)
/-- What a leap of many comes to, if the store does not become full. -/
structure LpS (ns : List Node) (room n j : Int) (k : Nat) (r : Lp) : Prop where
 err : r.err = 0
 rm : r.room = room
 right : R6.right r.ns room
 pre : ns <+: r.ns
 cl : Cl r.ns k n j r.node
 le : r.tasks ≤ r.steps
 pos : 1 ≤ r.tasks
theorem leap_cases {ns : List Node} {room n j nw : Int} {picks : List Int} {k : Nat} (hg : good ns room n j nw) (hk : (nd ns n).lv = (k : Int) + 2) (hwk : wk k < 100000) :
  leap ns room n j nw picks = ⟨[], 0, 0, 0, 0, 40⟩ ∨ LpS ns room n j k (leap ns room n j nw picks) := by
 rcases leap_sound (picks := picks) hg hk hwk with h | ⟨a, b, c, d, e, f, g⟩
 ·exact .inl h
 ·exact .inr ⟨a, b, c, d, e, f, g⟩
/-- Chapter 9's leap: full just if a leap of many is; in its store it makes nothing and tells the same. -/
theorem leap_nine {ns : List Node} {room n j nw : Int} {picks : List Int} {k : Nat} (hg : good ns room n j nw) (hk : (nd ns n).lv = (k : Int) + 2) (hwk : wk k < 100000) :
  (leap ns room n j nw picks = ⟨[], 0, 0, 0, 0, 40⟩ ∧ (R9.leapT ns room n j).2.2 = 40) ∨ (LpS ns room n j k (leap ns room n j nw picks) ∧ (R9.leapT ns room n j).2.2 = 0 ∧ R9.leapT (leap ns room n j nw picks).ns room n j = ((leap ns room n j nw picks).ns, (leap ns room n j nw picks).node, 0)) := by
 obtain ⟨⟨hr, hin, h2⟩, hj0, hj1, hw1, hw2⟩ := id hg
 obtain ⟨_, hw⟩ := right_iff.1 hr
 have hn : IsN ns (k + 2) n := ⟨hin, by rw [hk]; omega⟩
 have hlv : R9.lvS ⟨ns, []⟩ n = k := R9.lvS_is hn
 have eT : R9.leapT ns room n j = R9.out ns (R9.leap room k ⟨ns, []⟩ n j) := by
  unfold R9.leapT
  rw [if_pos ⟨⟨hr, hin, h2⟩, hj0, hj1⟩, hlv]
 have er : ∀ {r : R9.L9}, r.2.2 = 0 → (R9.out ns r).2.2 = 0 := fun {r} e => by
  unfold R9.out
  rw [if_neg (by simpa using e)]
 have er' : ∀ {r : R9.L9}, r.2.2 = 40 → (R9.out ns r).2.2 = 40 := fun {r} e => by
  unfold R9.out
  rw [if_pos (by rw [e]; decide)]
  exact e
 rw [eT]
 rcases leap_cases (picks := picks) hg hk hwk with h | h
 ·left
  refine ⟨h, ?_⟩
  rcases leap_re (oC := none) (room := room) (fun C h => nomatch h) k ⟨ns, []⟩ n j hr ⟨fun p hp => (nomatch hp), fun C h => nomatch h⟩ hn hj0 (by omega) (fun C h => nomatch h) with ⟨s', x, e, a, b, c, d⟩ | ⟨_, e⟩
  ·exfalso
   obtain ⟨⟨_, _, hle⟩, hwa⟩ := right_iff.1 a
   obtain ⟨e, _⟩ := leap_sub (picks := picks) hwa hg hk hwk hle (Sub.refl hw b) (Rel.refl hw b hn) d
   rw [h] at e
   exact absurd e (by decide)
  ·exact er' e
 ·right
  obtain ⟨⟨_, _, hle⟩, hwa⟩ := right_iff.1 h.right
  refine ⟨h, ?_, ?_⟩
  ·rcases leap_re (oC := some (leap ns room n j nw picks).ns) (room := room) (fun C h => by cases h; exact ⟨hwa, hle⟩) k ⟨ns, []⟩ n j hr ⟨fun p hp => (nomatch hp), fun C e => by cases e; exact Sub.refl hw h.pre⟩ hn hj0 (by omega) (fun C e => by cases e; exact ⟨n, _, Rel.refl hw h.pre hn, h.cl⟩) with ⟨s', x, e, a, b, c, d⟩ | ⟨e, _⟩
   ·exact er (by rw [e])
   ·cases e
  ·have hn' := hn.pre h.pre
   obtain ⟨mm', e, _⟩ := Cl.leap h.right k h.cl [] fun p hp => (nomatch hp)
   unfold R9.leapT
   rw [if_pos ⟨⟨h.right, hn'.1, by rw [hn'.2]; omega⟩, hj0, by rw [hn'.2]; omega⟩, R9.lvS_is (s := ⟨(leap ns room n j nw picks).ns, []⟩) hn', e]
   rfl
/-! ### What is flat is the same -/
theorem Rel.pop {S C : List Node} (hS : Wf S) (hC : Wf C) : ∀ {lv : Nat} {n n' : Int}, Rel S C lv n n' → (nd S n).pop = (nd C n').pop
 | 0, n, n', h => by
  obtain ⟨a, b, rfl⟩ := h
  rcases isN0 hS a with rfl | rfl
  ·rw [hS.nd0, hC.nd0]
  ·rw [hS.nd1, hC.nd1]
 | lv + 1, n, n', h => by
  obtain ⟨a, b, h0, h1, h2, h3⟩ := h
  rw [hS.pop a.1 (by rw [a.2]; omega), hC.pop b.1 (by rw [b.2]; omega)]
  unfold pop4
  rw [Rel.pop hS hC h0, Rel.pop hS hC h1, Rel.pop hS hC h2, Rel.pop hS hC h3]
theorem Rel.flat {S C : List Node} (hS : Wf S) (hC : Wf C) : ∀ {lv : Nat} {n n' : Int} (o : Cell), Rel S C lv n n' → R7.flat S lv n o = R7.flat C lv n' o
 | 0, n, n', o, h => by
  unfold R7.flat
  rw [Rel.pop hS hC h]
 | lv + 1, n, n', o, h => by
  unfold R7.flat
  rw [Rel.pop hS hC h]
  obtain ⟨a, b, h0, h1, h2, h3⟩ := h
  simp only
  rw [Rel.flat hS hC _ h0, Rel.flat hS hC _ h1, Rel.flat hS hC _ h2, Rel.flat hS hC _ h3]
theorem Rel.of {S C : List Node} (hS : Wf S) (hC : Wf C) {lv : Nat} {n n' : Int} (h : Rel S C lv n n') : R7.of S n = R7.of C n' := by
 unfold R7.of
 rw [h.l.2, h.r.2]
 exact Rel.flat hS hC _ h
/-- What a leap tells stands for what stands in the middle behind 2^j generations. -/
theorem Cl.std {ns : List Node} {room : Int} (hr : R6.right ns room) {k : Nat} {n j m : Int} (hj0 : 0 ≤ j) (hj1 : j ≤ k) (h : Cl ns k n j m) {f : Int → Int → Bool} {ox oy : Int} (hs : R9.Std ns (k + 2) n f ox oy) : R9.Std ns (k + 1) m (R9.gens (2 ^ j.toNat) f) (ox + 2 ^ k) (oy + 2 ^ k) := by
 obtain ⟨mm', e, _⟩ := Cl.leap hr k h [] fun p hp => (nomatch hp)
 have := (R9.leap_ok (room := room) k ⟨ns, []⟩ n j ⟨hr, fun p hp => (nomatch hp)⟩ (fun p hp => (nomatch hp)) hs.1 ⟨hj0, hj1⟩ (by rw [e])).2.2.2 f ox oy hs
 rw [e] at this
 exact this
end R21
end Go.GL


namespace Go.GL
open Go.Proofs
attribute [local irreducible] wpList Code.wp Exit.then Exit.inBlock Ends Tri TriH OpV OpG FnC epf wpAnyH
variable {A : List Asrt} {I : List Chunk}
theorem law21_fieldR {nodes : List Five} {raw : List Cell} {a a2 : Option Addr} {cap cap2 : Nat} {c level rm m e : Int} {ms : List Node} (h0 : I64 c) (hs : SlAt I a nodes) (hf : RL.Fs nodes) (hs2 : SlAt I a2 raw) (hc : RL.Cs raw) (hl : I64 level) (h : RL.field c nodes raw level = (ms, m, e)) (hrm : RL.room c + 600 = rm) :
  FnC Try.prog 10 [.int .i64 c, .slice a nodes.length cap, .slice a2 raw.length cap2, .int .i64 level].toArray A I (fun v A' I' => ∃ a' cap', v = .tuple [storeV a' ms.length cap' rm, .int .i64 m].toArray ∧ StA I' a' cap' ms ∧ A = A' ∧ I ⊆ I') := by
 have := law09_field (A := A) (cap := cap) (cap2 := cap2) h0 hs hf hs2 hc hl
 rw [h, hrm] at this
 exact this
theorem isN_lt21 {ns : List Node} {lv : Nat} {n : Int} (h : R7.IsN ns lv n) : 0 ≤ n ∧ n < ns.length := h.1
theorem isN_lv21 {ns : List Node} {lv : Nat} {n : Int} (h : R7.IsN ns lv n) : (ns.getD n.toNat default).lv = lv := h.2
theorem R21.LpS.len {ns : List Node} {room n j : Int} {k : Nat} {r : R21.Lp} (h : R21.LpS ns room n j k r) : r.ns.length ≤ 100000 := by have := h.right.1; omega
end Go.GL

