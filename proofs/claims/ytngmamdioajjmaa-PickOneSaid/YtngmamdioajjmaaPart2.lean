/- Part 2: contracts of the functions that the law reaches: each answers as its model does. No condition beyond those that each theorem states. -/
import Derived.Test.YtngmamdioajjmaaPart1
import Derived.RangeFuncIn
import Derived.RangeFuncRecord
import Derived.RangeFuncLeaves
import Derived.LoopNIn
set_option linter.unusedVariables false
namespace Go.GL
open Go.Proofs
attribute [local irreducible] wpList Code.wp Exit.then Exit.inBlock Ends Tri TriH OpV OpG FnC epf wpAnyH
variable {A : List Asrt} {I : List Chunk}
set_option maxRecDepth 100000 in
/-- Where the first one is of which a function that is handed in is true. -/
theorem slices_indexFunc {l : List Int} {p : Int → Bool} {f : FuncId} {ca : List Value} {a : Option Addr} {cap : Nat} [FnI Try.prog f] (hp : ∀ x ∈ l, FnC Try.prog f ([] ++ [Value.int .i64 x] ++ ca).toArray A I (fun v A' I' => v = .bool (p x) ∧ A = A' ∧ I = I')) (hs : SlAt I a l) (hn : l.length ≤ 1000000000) :
  FnC Try.prog 17 [.slice a l.length cap, .func (.func f) #[] ca.toArray].toArray A I (fun v A' I' => v = .int .i64 (R11.idx p l) ∧ A = A' ∧ I = I') := by
 refine fn_enter2 Try.func17 rfl Try.ntmps17 rfl fun w0 => ?_
 refine tS (tR (tA rfl rfl (tN (tT (tS (tS (tR ?_)))))))
 refine tM rfl rfl ?_
 refine tri_v (opv_len rfl) rfl ?_
 refine tM rfl rfl (tN (tT (tri_block ?_)))
 refine tri_sub (F' := [(0, .slice a l.length cap), (1, .func (.func f) #[] ca.toArray), (6, .slice a l.length cap), (7, .int .i64 (l.length : Nat)), (8, .int .i64 (0 : Nat))]) ⟨rfl, rfl, rfl, rfl, rfl, trivial⟩ ?_
 refine loop_ind (G := Nat) (fun i => l.length - i) (fun i => i ≤ l.length ∧ ∀ j, j < i → p (l.getD j default) = false) (fun i => [(0, .slice a l.length cap), (1, .func (.func f) #[] ca.toArray), (6, .slice a l.length cap), (7, .int .i64 (l.length : Nat)), (8, .int .i64 (i : Nat))]) (fun _ => _) (fun _ => _) ?_ 0 ⟨by omega, fun j h => absurd h (by omega)⟩
 rintro i ⟨hi, hok⟩ K hK
 skip
 refine tS (tR ?_)
 refine tri_v (opv_lss rfl rfl) rfl ?_
 refine tN (tT (tS ?_))
 refine tri_cond_dec rfl (fun h => ?_) (fun h => ?_)
 ·have hlt : i < l.length := by omega
  refine tri_skip (tT (tS (tri_block (tS (tR (tM rfl rfl (tA rfl rfl ?_)))))))
  refine tN (tT (tS (tR (tM rfl rfl (tM rfl rfl (tM rfl rfl ?_))))))
  refine tri_v (by first | exact opv_indexAddrA rfl rfl (by first | decide | omega) (by first | decide | omega) | exact opv_indexAddrSN rfl rfl (by omega) (by assumption) rfl | exact opv_indexAddrS rfl rfl (by omega) (by omega) (by assumption) rfl | exact opv_indexAddrE rfl (by assumption) (by omega) rfl (by first | decide | omega) (by first | decide | omega) | exact opv_indexAddrRN rfl rfl (by omega) | exact opv_indexAddrR rfl rfl (by omega) (by omega) | exact opv_indexAddrRA rfl (by omega) rfl (by first | decide | omega) (by first | decide | omega)) rfl ?_
  refine tri_v (by first | exact opv_load1 rfl rfl rfl | exact opv_loadA rfl rfl rfl | exact opv_loadE1 rfl (by assumption) rfl (by omega) rfl rfl | exact opv_loadEA rfl (by assumption) rfl (by omega) rfl rfl | exact opv_loadRX1 rfl rfl (by omega) rfl rfl | exact opv_loadRXA rfl rfl (by omega) rfl rfl rfl | exact opv_loadIX rfl rfl (by omega) | exact opv_loadR1 rfl rfl rfl | exact opv_loadRA rfl rfl rfl rfl) rfl ?_
  refine tri_g (opg_callv (xs := [_]) rfl rfl (hp (l.getD i default) (R11.getD_mem hlt))) rfl ?_
  rintro _ _ _ ⟨rfl, rfl, rfl⟩
  refine tN (tT ?_)
  refine tri_cond rfl (fun h1 => ?_) (fun h1 => ?_)
  ·refine tS (tR (tM rfl rfl (tA rfl rfl (tN (tT (tri_ret ?_))))))
   refine tri_inBlock_ret ?_
   refine tri_then_ret (tri_then_ret ?_)
   refine tri_inBlock_ret ?_
   refine tri_then_ret ?_
   refine tri_end A Suf.h rfl (.cons (rv_tmp rfl) .nil) ⟨?_, rfl, rfl⟩
   have e : l.findIdx p = i := (List.findIdx_eq hlt).2 ⟨by simpa [hlt] using h1, fun j hj => by have := hok j hj; simpa [Nat.lt_trans hj hlt] using this⟩
   unfold R11.idx
   rw [e, if_pos hlt]
   rfl
  ·refine tri_skip ?_
   refine tri_inBlock ?_
   refine tT (tR ?_)
   refine tri_v (by first | exact opv_add rfl rfl (w64 (by omega) (by omega))) rfl ?_
   refine tM rfl rfl (tN (tT ?_))
   refine tri_sub ?_ (hK (i + 1) ⟨by omega, fun j hj => ?_⟩ (by omega))
   ·exact ⟨rfl, rfl, rfl, rfl, rfl, trivial⟩
   ·by_cases e : j = i
    ·subst e
     exact h1
    ·exact hok j (by omega)
 ·refine tri_exit ?_
  refine tri_then_exit ?_
  refine tri_then_exit ?_
  refine tri_inBlock_hit rfl ?_
  refine tT (tS (tR (tA rfl rfl (tN (tT (tri_ret ?_))))))
  refine tri_end A Suf.h rfl (.cons (rv_tmp rfl) .nil) ⟨?_, rfl, rfl⟩
  have e : l.findIdx p = l.length := List.findIdx_eq_length.2 fun x hx => by
   obtain ⟨j, hj, rfl⟩ := List.getElem_of_mem hx
   have := hok j (by omega)
   simpa [hj] using this
  unfold R11.idx
  rw [if_neg (by omega)]
  rfl
set_option maxRecDepth 100000 in
theorem pick_place {c n : Int} (h0 : I64 c) (hn : 0 < n) : FnC Try.prog 16 [.int .i64 c, .int .i64 n].toArray A I (fun v A' I' => v = .int .i64 (pk c n) ∧ A = A' ∧ I = I') := by
 obtain ⟨h0, h1⟩ := h0
 refine fn_enter2 Try.func16 rfl Try.ntmps16 rfl fun w0 => ?_
 refine tS (tR (tA rfl rfl (tN (tT (tS (tS (tR ?_)))))))
 refine tM rfl rfl ?_
 refine tri_v (opv_lss rfl rfl) rfl ?_
 refine tN (tT ?_)
 refine tri_cond_dec rfl (fun h => ?_) (fun h => ?_)
 ·refine tR (tM rfl rfl ?_)
  refine tri_v (by first | exact opv_add rfl rfl (w64 (by omega) (by omega))) rfl ?_
  refine tri_v (by first | exact opv_negE rfl (by omega) (by omega)) rfl ?_
  refine tA rfl rfl (tN (tT (tS (tR (tM rfl rfl (tM rfl rfl ?_))))))
  refine tri_v (by first | exact opv_remE rfl rfl (by omega) (by omega) | exact opv_rem rfl rfl (by omega) rfl) rfl ?_
  refine tA rfl rfl (tN (tT (tri_ret ?_)))
  refine tri_end A Suf.h rfl (.cons (rv_tmp rfl) .nil) ⟨?_, rfl, rfl⟩
  rw [pk, if_pos h]; rfl
 ·refine tri_skip (tT (tS (tR (tM rfl rfl (tM rfl rfl ?_)))))
  refine tri_v (by first | exact opv_remE rfl rfl (by omega) (by omega) | exact opv_rem rfl rfl (by omega) rfl) rfl ?_
  refine tA rfl rfl (tN (tT (tri_ret ?_)))
  refine tri_end A Suf.h rfl (.cons (rv_tmp rfl) .nil) ⟨?_, rfl, rfl⟩
  rw [pk, if_neg h]; rfl
set_option maxRecDepth 100000 in
theorem pick_next1 {x last : Int} {b : Nat} {T : TypeId} : FnC Try.prog 18 [.int .i64 x, pt b 0].toArray (Box b [.int .i64 last] T :: A) I (fun v A' I' => v = .bool (decide (last < x)) ∧ Box b [.int .i64 last] T :: A = A' ∧ I = I') := by
 refine fn_enter2 Try.func18 rfl Try.ntmps18 rfl fun w0 => ?_
 refine tS (tR (tA rfl rfl (tN (tT (tS (tR (tM rfl rfl ?_)))))))
 refine tri_v (by first | exact opv_load1 rfl rfl rfl | exact opv_loadA rfl rfl rfl | exact opv_loadE1 rfl (by assumption) rfl (by omega) rfl rfl | exact opv_loadEA rfl (by assumption) rfl (by omega) rfl rfl | exact opv_loadRX1 rfl rfl (by omega) rfl rfl | exact opv_loadRXA rfl rfl (by omega) rfl rfl rfl | exact opv_loadIX rfl rfl (by omega) | exact opv_loadR1 rfl rfl rfl | exact opv_loadRA rfl rfl rfl rfl) rfl ?_
 refine tri_v (opv_gtr rfl rfl) rfl ?_
 refine tA rfl rfl (tN (tT (tri_ret ?_)))
 refine tri_end _ (by first | exact ⟨[], rfl⟩ | exact ⟨[_], rfl⟩ | exact ⟨[_, _], rfl⟩ | exact ⟨[_, _, _], rfl⟩ | exact ⟨[_, _, _, _], rfl⟩ | exact ⟨[_, _, _, _, _], rfl⟩ | exact ⟨[_, _, _, _, _, _], rfl⟩ | exact ⟨[_, _, _, _, _, _, _], rfl⟩ | exact ⟨[_, _, _, _, _, _, _, _], rfl⟩) rfl (.cons (rv_tmp rfl) .nil) ⟨rfl, rfl, rfl⟩
/-- Numbers that a machine can hold. -/
def Is (l : List Int) : Prop := ∀ i, i < l.length → I64 (l.getD i default)
set_option maxHeartbeats 1000000 in
set_option maxRecDepth 100000 in
theorem pick_next {picks left : List Int} {step last : Int} {a a2 : Option Addr} {cap cap2 : Nat} {E : TypeId} (hs : SlAt I a picks) (hp : Is picks) (hn : left.length ≤ 1000000) :
  FnC Try.prog 11 [.slice a picks.length cap, .int .i64 step, .slice a2 left.length cap2, .int .i64 last].toArray (Row a2 cap2 left.length E 1 (encs left) :: A) I (fun v A' I' => v = .int .i64 (R11.next picks step left last) ∧ Row a2 cap2 left.length E 1 (encs left) :: A = A' ∧ I ⊆ I') := by
 have hnx : R11.next picks step left last = if (R11.all left).length = 0 then -1 else if 0 ≤ step ∧ step < picks.length then (R11.all left).getD (pk (picks.getD step.toNat default) (R11.all left).length).toNat default else R11.round (R11.all left) last := rfl
 have hall : R11.all left = R11.allF 0 left := rfl
 have hal := R11.all_len left
 generalize R11.next picks step left last = res at *
 skip
 refine fn_enter4 Try.func11 rfl Try.ntmps11 rfl fun w0 => ?_
 refine tS (tR ?_)
 first | refine tri_g (opg_box_agg rfl) rfl ?_ | refine tri_g (opg_box1 rfl rfl) rfl ?_
 rintro _ _ _ ⟨b7, rfl, rfl, rfl⟩
 refine tA rfl rfl (tN (tT (tS (tR (tA rfl rfl (tN (tT ?_)))))))
 refine tS (tS (tR (tM rfl rfl ?_)))
 refine tri_v (opv_len rfl) rfl ?_
 refine tM rfl rfl (tN (tT ?_))
 refine tri_cut (fun F' A' J => ∃ (a1 : Option Addr) (c1 : Nat), F' = [(0, .slice a picks.length cap), (1, .int .i64 step), (3, .int .i64 last), (7, pt b7 0), (9, .slice a1 (R11.all left).length c1)] ∧ A' = Row a1 c1 (R11.all left).length 3 1 (encs (R11.all left)) :: Box b7 [.int .i64 last] 3 :: Row a2 cap2 left.length E 1 (encs left) :: A ∧ I = J) ?_ ?_
 ·refine tri_block ?_
  refine tri_nilRow (E := 3) (sz := 1) ?_
  refine tri_sub (F' := [(0, .slice a picks.length cap), (1, .int .i64 step), (3, .int .i64 last), (7, pt b7 0), (9, .slice none 0 0), (13, .slice a2 left.length cap2), (14, .int .i64 (left.length : Nat)), (15, .int .i64 (0 : Nat))]) ⟨rfl, rfl, rfl, rfl, rfl, rfl, rfl, rfl, trivial⟩ ?_
  refine loop_ind (G := Nat × Option Addr × Nat) (fun g => left.length - g.1) (fun g => g.1 ≤ left.length) (fun g => [(0, .slice a picks.length cap), (1, .int .i64 step), (3, .int .i64 last), (7, pt b7 0), (9, .slice g.2.1 (R11.allF 0 (left.take g.1)).length g.2.2), (13, .slice a2 left.length cap2), (14, .int .i64 (left.length : Nat)), (15, .int .i64 (g.1 : Nat))]) (fun g => Row g.2.1 g.2.2 (R11.allF 0 (left.take g.1)).length 3 1 (encs (R11.allF 0 (left.take g.1))) :: Box b7 [.int .i64 last] 3 :: Row a2 cap2 left.length E 1 (encs left) :: A) (fun _ => I) ?_ (0, none, 0) (by simp)
  rintro ⟨i, a1, c1⟩ hi K hK
  simp only at hi hK ⊢
  have hl1 := R11.allF_len (left.take i) 0
  rw [List.length_take] at hl1
  skip
  refine tS (tR ?_)
  refine tri_v (opv_lss rfl rfl) rfl ?_
  refine tN (tT (tS ?_))
  refine tri_cond_dec rfl (fun h => ?_) (fun h => ?_)
  ·have hlt : i < left.length := by omega
   have e : left.take (i + 1) = left.take i ++ [left.getD i default] := by
    rw [List.take_succ_eq_append_getElem hlt, show left.getD i default = left[i] by simp [hlt]]
   have el : 0 + (left.take i).length = i := by rw [List.length_take]; omega
   refine tri_skip (tT (tS (tri_block (tS (tR (tM rfl rfl ?_))))))
   refine tri_v (by first | exact opv_indexAddrA rfl rfl (by first | decide | omega) (by first | decide | omega) | exact opv_indexAddrSN rfl rfl (by omega) (by assumption) rfl | exact opv_indexAddrS rfl rfl (by omega) (by omega) (by assumption) rfl | exact opv_indexAddrE rfl (by assumption) (by omega) rfl (by first | decide | omega) (by first | decide | omega) | exact opv_indexAddrRN rfl rfl (by omega) | exact opv_indexAddrR rfl rfl (by omega) (by omega) | exact opv_indexAddrRA rfl (by omega) rfl (by first | decide | omega) (by first | decide | omega)) rfl ?_
   refine tri_v (by first | exact opv_load1 rfl rfl rfl | exact opv_loadA rfl rfl rfl | exact opv_loadE1 rfl (by assumption) rfl (by omega) rfl rfl | exact opv_loadEA rfl (by assumption) rfl (by omega) rfl rfl | exact opv_loadRX1 rfl rfl (by omega) rfl rfl | exact opv_loadRXA rfl rfl (by omega) rfl rfl rfl | exact opv_loadIX rfl rfl (by omega) | exact opv_loadR1 rfl rfl rfl | exact opv_loadRA rfl rfl rfl rfl) rfl ?_
   refine tA rfl rfl (tA rfl rfl (tN (tT (tS (tR (tM rfl rfl ?_))))))
   refine tri_v (opv_gtr rfl rfl) rfl ?_
   refine tN (tT ?_)
   refine tri_cond_dec rfl (fun h5 => ?_) (fun h5 => ?_)
   ·have e2 : R11.allF 0 (left.take (i + 1)) = R11.allF 0 (left.take i) ++ [(i : Int)] := by
     rw [e, R11.allF_snoc, el, if_pos h5]
    refine tR (tM rfl rfl (tM rfl rfl ?_))
    refine tri_g (opg_buildSlice rfl rfl rfl rfl) rfl ?_
    rintro _ _ _ ⟨b24, rfl, rfl, rfl⟩
    refine tri_g (opg_appendB rfl rfl rfl rfl (by omega) rfl) rfl ?_
    rintro _ _ _ ⟨a3, cap3, rfl, rfl, rfl⟩
    refine tA rfl rfl (tN ?_)
    refine tri_inBlock ?_
    refine tT (tR ?_)
    refine tri_v (by first | exact opv_add rfl rfl (w64 (by omega) (by omega))) rfl ?_
    refine tM rfl rfl (tN (tT ?_))
    refine tri_drop ?_
    refine tri_rowEq (len' := (R11.allF 0 (left.take (i + 1))).length) (cells' := encs (R11.allF 0 (left.take (i + 1)))) (by rw [e2]; simp) (by rw [e2, encs_append]; rfl) ?_
    refine tri_sub ?_ (hK (i + 1, a3, cap3) (by simp only; omega) (by simp only; omega))
    exact ⟨rfl, rfl, rfl, rfl, by simp only [e2, List.length_append]; rfl, rfl, rfl, rfl, trivial⟩
   ·have e2 : R11.allF 0 (left.take (i + 1)) = R11.allF 0 (left.take i) := by
     rw [e, R11.allF_snoc, el, if_neg h5, List.append_nil]
    refine tri_skip ?_
    refine tri_inBlock ?_
    refine tT (tR ?_)
    refine tri_v (by first | exact opv_add rfl rfl (w64 (by omega) (by omega))) rfl ?_
    refine tM rfl rfl (tN (tT ?_))
    refine tri_rowEq (len' := (R11.allF 0 (left.take (i + 1))).length) (cells' := encs (R11.allF 0 (left.take (i + 1)))) (by rw [e2]) (by rw [e2]) ?_
    refine tri_sub ?_ (hK (i + 1, a1, c1) (by simp only; omega) (by simp only; omega))
    exact ⟨rfl, rfl, rfl, rfl, by simp only [e2]; rfl, rfl, rfl, rfl, trivial⟩
  ·have e : left.take i = left := List.take_of_length_le (by omega)
   rw [e] at hl1 ⊢
   refine tri_exit ?_
   refine tri_then_exit ?_
   refine tri_then_exit ?_
   refine tri_inBlock_hit rfl ?_
   refine tri_cutEnd _ ⟨a1, c1, rfl, rfl, rfl⟩ ⟨rfl, rfl, rfl, rfl, rfl, trivial⟩
 rintro _ _ _ ⟨a1, c1, rfl, rfl, rfl⟩
 refine tri_freezeRow (α := Int) rfl fun I1 hI1 hsa => ?_
 have hs1 := hs.mono hI1
 generalize R11.all left = al at *
 skip
 refine tT (tS (tS (tR (tM rfl rfl ?_))))
 refine tri_v (opv_len rfl) rfl ?_
 refine tri_v (by first | exact opv_eql rfl rfl | exact opv_eqlI rfl rfl rfl rfl rfl rfl | exact opv_eqlB rfl rfl | exact opv_eqlNil rfl rfl) rfl ?_
 refine tN (tT ?_)
 refine tri_cond_dec rfl (fun h1 => ?_) (fun h1 => ?_)
 ·refine tS (tR (tA rfl rfl (tN (tT (tri_ret (tri_then_ret ?_))))))
  rw [if_pos (by omega)] at hnx
  refine tri_end (Row a2 cap2 left.length E 1 (encs left) :: A) Suf.h rfl (.cons (rv_tmp rfl) .nil) ⟨by rw [hnx]; rfl, rfl, hI1⟩
 skip
 rw [if_neg (by omega)] at hnx
 refine tri_skip (tT (tS (tS ?_)))
 refine tri_cut (fun F' A' J => F' = [(0, .slice a picks.length cap), (1, .int .i64 step), (3, .int .i64 last), (7, pt b7 0), (9, .slice a1 al.length c1), (37, .bool (decide (0 ≤ step ∧ step < picks.length)))] ∧ A' = Box b7 [.int .i64 last] 3 :: Row a2 cap2 left.length E 1 (encs left) :: A ∧ I1 = J) ?_ ?_
 ·refine tR (tM rfl rfl ?_)
  refine tri_v (opv_geq rfl rfl) rfl ?_
  refine tM rfl rfl ?_
  refine tri_split rfl rfl (fun h2 => ?_) (fun h2 => ?_)
  ·refine tri_guard_run rfl rfl rfl (tM rfl rfl (tri_guard_run rfl rfl rfl (tM rfl rfl (tri_guard_run rfl rfl rfl ?_))))
   refine tri_v (opv_len rfl) rfl ?_
   refine tri_guard_run rfl rfl rfl ?_
   refine tri_v (opv_lss rfl rfl) rfl ?_
   refine tri_v (by first | exact opv_pick_t rfl rfl | exact opv_pick_f rfl rfl | exact opv_pick_bool rfl rfl rfl | exact opv_pick rfl rfl rfl) rfl ?_
   refine tN ?_
   refine tri_cutEnd _ ⟨rfl, rfl, rfl⟩ ⟨rfl, rfl, rfl, rfl, rfl, ?_, trivial⟩
   exact congrArg (fun x => some (Value.bool x)) (decide_eq_decide.2 ⟨fun h => h.2, fun h => ⟨h2, h⟩⟩).symm
  ·refine tri_guard_skip rfl rfl rfl rfl (tri_guard_skip rfl rfl rfl rfl (tri_guard_skip rfl rfl rfl rfl (tri_guard_skip rfl rfl rfl rfl ?_)))
   refine tri_v (by first | exact opv_pick_t rfl rfl | exact opv_pick_f rfl rfl | exact opv_pick_bool rfl rfl rfl | exact opv_pick rfl rfl rfl) rfl ?_
   refine tN ?_
   refine tri_cutEnd _ ⟨rfl, rfl, rfl⟩ ⟨rfl, rfl, rfl, rfl, rfl, ?_, trivial⟩
   exact congrArg (fun x => some (Value.bool x)) (decide_eq_false fun h => h2 h.1).symm
 rintro _ _ _ ⟨rfl, rfl, rfl⟩
 skip
 refine tT ?_
 refine tri_cond_dec rfl (fun h3 => ?_) (fun h3 => ?_)
 ·rw [if_pos h3] at hnx
  have hstep : step.toNat < picks.length := by omega
  have hpk := pk_bd (c := picks.getD step.toNat default) (n := al.length) (by omega)
  have hpi := hp step.toNat hstep
  refine tS (tR (tM rfl rfl (tM rfl rfl (tM rfl rfl ?_))))
  refine tri_v (by first | exact opv_indexAddrA rfl rfl (by first | decide | omega) (by first | decide | omega) | exact opv_indexAddrSN rfl rfl (by omega) (by assumption) rfl | exact opv_indexAddrS rfl rfl (by omega) (by omega) (by assumption) rfl | exact opv_indexAddrE rfl (by assumption) (by omega) rfl (by first | decide | omega) (by first | decide | omega) | exact opv_indexAddrRN rfl rfl (by omega) | exact opv_indexAddrR rfl rfl (by omega) (by omega) | exact opv_indexAddrRA rfl (by omega) rfl (by first | decide | omega) (by first | decide | omega)) rfl ?_
  refine tri_v (by first | exact opv_load1 rfl rfl rfl | exact opv_loadA rfl rfl rfl | exact opv_loadE1 rfl (by assumption) rfl (by omega) rfl rfl | exact opv_loadEA rfl (by assumption) rfl (by omega) rfl rfl | exact opv_loadRX1 rfl rfl (by omega) rfl rfl | exact opv_loadRXA rfl rfl (by omega) rfl rfl rfl | exact opv_loadIX rfl rfl (by omega) | exact opv_loadR1 rfl rfl rfl | exact opv_loadRA rfl rfl rfl rfl) rfl ?_
  refine tM rfl rfl ?_
  refine tri_v (opv_len rfl) rfl ?_
  refine tri_g (opg_call (xs := [_, _]) rfl (pick_place hpi (by omega))) rfl ?_
  rintro _ _ _ ⟨rfl, rfl, rfl⟩
  refine tri_v (by first | exact opv_indexAddrA rfl rfl (by first | decide | omega) (by first | decide | omega) | exact opv_indexAddrSN rfl rfl (by omega) (by assumption) rfl | exact opv_indexAddrS rfl rfl (by omega) (by omega) (by assumption) rfl | exact opv_indexAddrE rfl (by assumption) (by omega) rfl (by first | decide | omega) (by first | decide | omega) | exact opv_indexAddrRN rfl rfl (by omega) | exact opv_indexAddrR rfl rfl (by omega) (by omega) | exact opv_indexAddrRA rfl (by omega) rfl (by first | decide | omega) (by first | decide | omega)) rfl ?_
  refine tri_v (by first | exact opv_load1 rfl rfl rfl | exact opv_loadA rfl rfl rfl | exact opv_loadE1 rfl (by assumption) rfl (by omega) rfl rfl | exact opv_loadEA rfl (by assumption) rfl (by omega) rfl rfl | exact opv_loadRX1 rfl rfl (by omega) rfl rfl | exact opv_loadRXA rfl rfl (by omega) rfl rfl rfl | exact opv_loadIX rfl rfl (by omega) | exact opv_loadR1 rfl rfl rfl | exact opv_loadRA rfl rfl rfl rfl) rfl ?_
  refine tA rfl rfl (tN (tT (tri_ret (tri_then_ret ?_))))
  refine tri_end (Row a2 cap2 left.length E 1 (encs left) :: A) Suf.h rfl (.cons (rv_tmp rfl) .nil) ⟨by rw [hnx]; rfl, rfl, hI1⟩
 refine tri_skip (tT (tS (tS (tR (tM rfl rfl ?_)))))
 refine tri_v (opv_makeFunc (fs := []) (cs := [_]) (vf := []) (vc := [_]) rfl rfl) rfl ?_
 rw [if_neg h3] at hnx
 refine tri_g (opg_call (xs := [_, _]) rfl (slices_indexFunc (p := fun x => decide (last < x)) (ca := [pt b7 0]) (fun x _ => pick_next1) hsa (by omega))) rfl ?_
 rintro _ _ _ ⟨rfl, rfl, rfl⟩
 refine tA rfl rfl (tN (tT (tS ?_)))
 unfold R11.round at hnx
 have hix := R11.idx_lt (fun x => decide (last < x)) al
 generalize R11.idx (fun x => decide (last < x)) al = ix at *
 refine tri_cut (fun F' A' J => F' = [(9, .slice a1 al.length c1), (12, .int .i64 ix), (56, .bool (decide (0 ≤ ix ∧ 0 ≤ last)))] ∧ A' = Box b7 [.int .i64 last] 3 :: Row a2 cap2 left.length E 1 (encs left) :: A ∧ I1 = J) ?_ ?_
 ·refine tR (tM rfl rfl ?_)
  refine tri_v (opv_geq rfl rfl) rfl ?_
  refine tM rfl rfl ?_
  refine tri_split rfl rfl (fun h4 => ?_) (fun h4 => ?_)
  ·refine tri_guard_run rfl rfl rfl ?_
   refine tri_v (by first | exact opv_load1 rfl rfl rfl | exact opv_loadA rfl rfl rfl | exact opv_loadE1 rfl (by assumption) rfl (by omega) rfl rfl | exact opv_loadEA rfl (by assumption) rfl (by omega) rfl rfl | exact opv_loadRX1 rfl rfl (by omega) rfl rfl | exact opv_loadRXA rfl rfl (by omega) rfl rfl rfl | exact opv_loadIX rfl rfl (by omega) | exact opv_loadR1 rfl rfl rfl | exact opv_loadRA rfl rfl rfl rfl) rfl ?_
   refine tri_guard_run rfl rfl rfl ?_
   refine tri_v (opv_geq rfl rfl) rfl ?_
   refine tri_v (by first | exact opv_pick_t rfl rfl | exact opv_pick_f rfl rfl | exact opv_pick_bool rfl rfl rfl | exact opv_pick rfl rfl rfl) rfl ?_
   refine tN ?_
   refine tri_cutEnd _ ⟨rfl, rfl, rfl⟩ ⟨rfl, rfl, ?_, trivial⟩
   exact congrArg (fun x => some (Value.bool x)) (decide_eq_decide.2 ⟨fun h => h.2, fun h => ⟨h4, h⟩⟩).symm
  ·refine tri_guard_skip rfl rfl rfl rfl (tri_guard_skip rfl rfl rfl rfl ?_)
   refine tri_v (by first | exact opv_pick_t rfl rfl | exact opv_pick_f rfl rfl | exact opv_pick_bool rfl rfl rfl | exact opv_pick rfl rfl rfl) rfl ?_
   refine tN ?_
   refine tri_cutEnd _ ⟨rfl, rfl, rfl⟩ ⟨rfl, rfl, ?_, trivial⟩
   exact congrArg (fun x => some (Value.bool x)) (decide_eq_false fun h => h4 h.1).symm
 rintro _ _ _ ⟨rfl, rfl, rfl⟩
 skip
 refine tT ?_
 refine tri_cond_dec rfl (fun h5 => ?_) (fun h5 => ?_)
 ·rw [if_pos h5] at hnx
  refine tS (tR (tM rfl rfl (tM rfl rfl ?_)))
  refine tri_v (by first | exact opv_indexAddrA rfl rfl (by first | decide | omega) (by first | decide | omega) | exact opv_indexAddrSN rfl rfl (by omega) (by assumption) rfl | exact opv_indexAddrS rfl rfl (by omega) (by omega) (by assumption) rfl | exact opv_indexAddrE rfl (by assumption) (by omega) rfl (by first | decide | omega) (by first | decide | omega) | exact opv_indexAddrRN rfl rfl (by omega) | exact opv_indexAddrR rfl rfl (by omega) (by omega) | exact opv_indexAddrRA rfl (by omega) rfl (by first | decide | omega) (by first | decide | omega)) rfl ?_
  refine tri_v (by first | exact opv_load1 rfl rfl rfl | exact opv_loadA rfl rfl rfl | exact opv_loadE1 rfl (by assumption) rfl (by omega) rfl rfl | exact opv_loadEA rfl (by assumption) rfl (by omega) rfl rfl | exact opv_loadRX1 rfl rfl (by omega) rfl rfl | exact opv_loadRXA rfl rfl (by omega) rfl rfl rfl | exact opv_loadIX rfl rfl (by omega) | exact opv_loadR1 rfl rfl rfl | exact opv_loadRA rfl rfl rfl rfl) rfl ?_
  refine tA rfl rfl (tN (tT (tri_ret (tri_then_ret ?_))))
  refine tri_end (Row a2 cap2 left.length E 1 (encs left) :: A) Suf.h rfl (.cons (rv_tmp rfl) .nil) ⟨by rw [hnx]; rfl, rfl, hI1⟩
 ·rw [if_neg h5] at hnx
  refine tri_skip (tT (tS (tR (tM rfl rfl ?_))))
  refine tri_v (by first | exact opv_indexAddrA rfl rfl (by first | decide | omega) (by first | decide | omega) | exact opv_indexAddrSN rfl rfl (by omega) (by assumption) rfl | exact opv_indexAddrS rfl rfl (by omega) (by omega) (by assumption) rfl | exact opv_indexAddrE rfl (by assumption) (by omega) rfl (by first | decide | omega) (by first | decide | omega) | exact opv_indexAddrRN rfl rfl (by omega) | exact opv_indexAddrR rfl rfl (by omega) (by omega) | exact opv_indexAddrRA rfl (by omega) rfl (by first | decide | omega) (by first | decide | omega)) rfl ?_
  refine tri_v (by first | exact opv_load1 rfl rfl rfl | exact opv_loadA rfl rfl rfl | exact opv_loadE1 rfl (by assumption) rfl (by omega) rfl rfl | exact opv_loadEA rfl (by assumption) rfl (by omega) rfl rfl | exact opv_loadRX1 rfl rfl (by omega) rfl rfl | exact opv_loadRXA rfl rfl (by omega) rfl rfl rfl | exact opv_loadIX rfl rfl (by omega) | exact opv_loadR1 rfl rfl rfl | exact opv_loadRA rfl rfl rfl rfl) rfl ?_
  refine tA rfl rfl (tN (tT (tri_ret ?_)))
  refine tri_end (Row a2 cap2 left.length E 1 (encs left) :: A) Suf.h rfl (.cons (rv_tmp rfl) .nil) ⟨by rw [hnx]; rfl, rfl, hI1⟩
end Go.GL

set_option linter.unusedVariables false
namespace Go.GL
/-! ### Turns: who is next, one behind the other -/
namespace R11
def tot (l : List Int) : Nat := (l.map Int.toNat).sum
def Nn (l : List Int) : Prop := ∀ x ∈ l, 0 ≤ x
theorem Nn.at {l : List Int} (h : Nn l) (i : Nat) : 0 ≤ l.getD i default := by
 by_cases hi : i < l.length
 ·exact h _ (getD_mem hi)
 ·rw [List.getD_eq_getElem?_getD, List.getElem?_eq_none (by omega)]; exact Int.le_refl _
theorem tot_set : ∀ (l : List Int) (i : Nat), i < l.length → 0 < l.getD i default → tot (l.set i (l.getD i default - 1)) + 1 = tot l
 | [], i, h, _ => absurd h (by simp)
 | x :: l, 0, _, h => by
  simp only [List.getD_cons_zero] at h
  simp only [List.set_cons_zero, List.getD_cons_zero, tot, List.map_cons, List.sum_cons]
  omega
 | x :: l, i + 1, h, h2 => by
  have := tot_set l i (by simpa using h) (by simpa using h2)
  simp only [List.set_cons_succ, List.getD_cons_succ, tot, List.map_cons, List.sum_cons] at this ⊢
  omega
theorem dec_tot {l : List Int} {i : Int} (h : 0 ≤ i ∧ i < l.length ∧ 0 < l.getD i.toNat default) : tot (dec l i) + 1 = tot l := tot_set l i.toNat (by omega) h.2.2
theorem dec_nn {l : List Int} (hl : Nn l) {i : Int} (h : 0 ≤ i ∧ i < l.length ∧ 0 < l.getD i.toNat default) : Nn (dec l i) := by
 intro x hx
 unfold dec at hx
 rcases List.mem_or_eq_of_mem_set hx with hx | rfl
 ·exact hl x hx
 ·omega
theorem dec_get {l : List Int} {i : Int} (h : 0 ≤ i ∧ i < l.length) (w : Nat) : (dec l i).getD w default = if (w : Int) = i then l.getD w default - 1 else l.getD w default := by
 unfold dec
 rw [List.getD_eq_getElem?_getD, List.getElem?_set, List.getD_eq_getElem?_getD]
 by_cases e : i.toNat = w
 ·subst e
  rw [if_pos rfl, if_pos (by omega), if_pos (by omega)]
  rfl
 ·rw [if_neg e, if_neg (by omega), List.getD_eq_getElem?_getD]
theorem all_nil {l : List Int} (h : all l = []) (w : Nat) : l.getD w default ≤ 0 := by
 by_cases hw : w < l.length
 ·by_cases h1 : 0 < l.getD w default
  ·have : (w : Int) ∈ all l := mem_all.2 ⟨by omega, by omega, by simpa using h1⟩
   rw [h] at this
   cases this
  ·omega
 ·rw [List.getD_eq_getElem?_getD, List.getElem?_eq_none (by omega)]; exact Int.le_refl _
theorem tot_pos {l : List Int} (h : tot l ≠ 0) : all l ≠ [] := by
 intro ha
 apply h
 have : ∀ x ∈ l, x ≤ 0 := fun x hx => by
  obtain ⟨i, hi, rfl⟩ := List.getElem_of_mem hx
  have := all_nil ha i
  simpa [hi] using this
 unfold tot
 have key : ∀ l : List Int, (∀ x ∈ l, x ≤ 0) → (l.map Int.toNat).sum = 0 := by
  intro l
  induction l with
  | nil => intro _; rfl
  | cons x l ih =>
   intro hl
   have h1 := hl x (by simp)
   have h2 := ih fun y hy => hl y (by simp [hy])
   simp only [List.map_cons, List.sum_cons]
   omega
 exact key l this
/-- The turns go on from the i-th one, with so much left, behind the last one. -/
structure Go (picks l : List Int) (i : Nat) (now : List Int) (last : Int) : Prop where
 run : l.drop i = turnsF picks (100000 - i) i now last
 nn : Nn now
 lim : tot now + i < 100000
theorem Go.start {picks left : List Int} (h : Nn left) (ht : tot left < 100000) : Go picks (turns picks left) 0 left (-1) := ⟨rfl, h, by omega⟩
theorem drop_getD {l : List Int} {i : Nat} (h : i < l.length) : l.drop i = l.getD i default :: l.drop (i + 1) := by
 rw [List.drop_eq_getElem_cons h]; simp [h]
theorem Go.step {picks l now : List Int} {i : Nat} {last : Int} (h : Go picks l i now last) (hi : i < l.length) :
  next picks i now last = l.getD i default ∧ (0 ≤ l.getD i default ∧ l.getD i default < now.length ∧ 0 < now.getD (l.getD i default).toNat default) ∧ Go picks l (i + 1) (dec now (l.getD i default)) (l.getD i default) := by
 have hr := h.run
 have hl := h.lim
 obtain ⟨f, hf⟩ : ∃ f, 100000 - i = f + 1 := ⟨100000 - i - 1, by omega⟩
 rw [hf, drop_getD hi] at hr
 unfold turnsF at hr
 split at hr
 ·cases hr
 ·rename_i hn
  injection hr with h1 h2
  have hok := next_ok hn
  rw [h1]
  refine ⟨rfl, hok, ?_, dec_nn h.nn hok, ?_⟩
  ·rw [h2, show 100000 - (i + 1) = f by omega]
  ·have := dec_tot hok
   omega
theorem Go.stop {picks l now : List Int} {i : Nat} {last : Int} (h : Go picks l i now last) (hi : i = l.length) : next picks i now last = -1 ∧ ∀ w, now.getD w default = 0 := by
 have hr := h.run
 have hl := h.lim
 obtain ⟨f, hf⟩ : ∃ f, 100000 - i = f + 1 := ⟨100000 - i - 1, by omega⟩
 rw [hf, hi, List.drop_length] at hr
 unfold turnsF at hr
 split at hr
 ·rename_i hn
  have ha := next_none hn
  refine ⟨next_eq_neg ha, fun w => ?_⟩
  have h1 := all_nil ha w
  have h2 := h.nn.at w
  omega
 ·cases hr
theorem turnsF_len (picks : List Int) : ∀ (f s : Nat) (left : List Int) (last : Int), Nn left → (turnsF picks f s left last).length ≤ tot left
 | 0, s, left, last, _ => by simp [turnsF]
 | f + 1, s, left, last, h => by
  unfold turnsF
  split
  ·simp
  ·rename_i hn
   have hok := next_ok hn
   have := turnsF_len picks f (s + 1) _ (next picks s left last) (dec_nn h hok)
   have := dec_tot hok
   simp only [List.length_cons]
   omega
theorem turns_len {picks left : List Int} (h : Nn left) : (turns picks left).length ≤ tot left := turnsF_len _ _ _ _ _ h
/-- How often a worker has had its turn. -/
def cnt (l : List Int) (i : Nat) (w : Int) : Nat := ((l.take i).filter fun x => decide (x = w)).length
theorem cnt_zero (l : List Int) (w : Int) : cnt l 0 w = 0 := rfl
theorem cnt_succ {l : List Int} {i : Nat} (hi : i < l.length) (w : Int) : cnt l (i + 1) w = cnt l i w + if l.getD i default = w then 1 else 0 := by
 unfold cnt
 rw [List.take_succ_eq_append_getElem hi, List.filter_append, List.length_append, show l.getD i default = l[i] by simp [hi]]
 by_cases e : l[i] = w <;> simp [e]
/-- What is left of each. -/
structure Had (left l : List Int) (i : Nat) (now : List Int) : Prop where
 len : now.length = left.length
 had : ∀ w : Nat, now.getD w default + cnt l i w = left.getD w default
theorem Had.start (left l : List Int) : Had left l 0 left := ⟨rfl, fun w => by rw [cnt_zero]; omega⟩
theorem Had.step {left l now : List Int} {i : Nat} (h : Had left l i now) (hi : i < l.length) (hk : 0 ≤ l.getD i default ∧ l.getD i default < now.length) : Had left l (i + 1) (dec now (l.getD i default)) := by
 refine ⟨by rw [dec_len, h.len], fun w => ?_⟩
 have := h.had w
 rw [dec_get hk, cnt_succ hi]
 by_cases e : (w : Int) = l.getD i default
 ·rw [if_pos e, if_pos e.symm]; omega
 ·rw [if_neg e, if_neg (Ne.symm e)]; omega
/-! #### none waits long -/
/-- How far it is from the last one on to another, round. -/
def far (n : Nat) (last w : Int) : Int := if last < w then w - last else w - last + n
theorem far_bd {n : Nat} {last w : Int} (h1 : -1 ≤ last) (h2 : last < n) (h3 : 0 ≤ w) (h4 : w < n) : 1 ≤ far n last w ∧ far n last w ≤ n := by unfold far; split <;> omega
theorem far_next {now : List Int} {last w : Int} (h1 : -1 ≤ last) (h2 : last < now.length) (hw : w ∈ all now) (hne : round (all now) last ≠ w) : far now.length (round (all now) last) w + 1 ≤ far now.length last w := by
 have hb := mem_all.1 hw
 have hne' : all now ≠ [] := fun e => by rw [e] at hw; cases hw
 obtain ⟨hm, h | h⟩ := round_ok (all_srt now) (fun q hq => (mem_all.1 hq).1) hne' h1
 ·have hmb := mem_all.1 hm
  have := h.2 w hw
  unfold far
  split <;> split <;> omega
 ·have hmb := mem_all.1 hm
  have := h.1 w hw
  have := h.2 w hw
  unfold far
  split <;> split <;> omega
theorem next_round {picks now : List Int} {i : Nat} {last : Int} (hi : picks.length ≤ i) (hn : ¬ next picks i now last < 0) : next picks i now last = round (all now) last := by
 unfold next at *
 split at hn
 ·exact absurd (by omega) hn
 ·rename_i h
  rw [if_neg h, if_neg (by omega)]
/-! #### workers go round -/
/-- All that are left have had as many turns, but that those behind the last one have had one less. -/
structure Rnd (l now : List Int) (i : Nat) (last : Int) (r : Nat) : Prop where
 le : ∀ w : Nat, cnt l i w ≤ r
 hi : ∀ w : Nat, 0 < now.getD w default → (w : Int) ≤ last → cnt l i w = r
 lo : ∀ w : Nat, 0 < now.getD w default → last < (w : Int) → cnt l i w + 1 = r
 lb : -1 ≤ last
theorem Rnd.step {l now : List Int} {i r : Nat} {last : Int} (h : Rnd l now i last r) (hi : i < l.length) (hk : l.getD i default = round (all now) last) (hne : all now ≠ []) : ∃ r', Rnd l (dec now (l.getD i default)) (i + 1) (l.getD i default) r' := by
 have hr := round_ok (all_srt now) (fun q hq => (mem_all.1 hq).1) hne h.lb
 rw [← hk] at hr
 obtain ⟨hm, hr⟩ := hr
 have hmb := mem_all.1 hm
 have hk2 : 0 ≤ l.getD i default ∧ l.getD i default < now.length := ⟨hmb.1, hmb.2.1⟩
 have live : ∀ w : Nat, 0 < (dec now (l.getD i default)).getD w default → 0 < now.getD w default := fun w hw => by
  rw [dec_get hk2] at hw
  split at hw <;> omega
 have mem : ∀ w : Nat, 0 < now.getD w default → (w : Int) ∈ all now := fun w hw => by
  have hlt : w < now.length := by
   apply Decidable.byContradiction
   intro hx
   rw [List.getD_eq_getElem?_getD, List.getElem?_eq_none (by omega)] at hw
   exact absurd hw (by decide)
  exact mem_all.2 ⟨by omega, by omega, by simpa using hw⟩
 generalize hkk : l.getD i default = k at *
 have hkn : ((k.toNat : Nat) : Int) = k := by omega
 have hkc : 0 < now.getD k.toNat default := hmb.2.2
 have ck := cnt_succ hi
 rw [hkk] at ck
 rcases hr with hr | hr
 ·refine ⟨r, ⟨fun w => ?_, fun w hw hle => ?_, fun w hw hlt => ?_, by omega⟩⟩
  ·rw [ck]
   have := h.le w
   split
   ·rename_i e
    have h1 := h.lo w (by rw [show w = k.toNat by omega]; exact hkc) (by omega)
    omega
   ·omega
  ·rw [ck]
   have hl := live w hw
   split
   ·rename_i e
    have h1 := h.lo w hl (by omega)
    omega
   ·rename_i e
    by_cases hlast : (w : Int) ≤ last
    ·exact h.hi w hl hlast
    ·have := hr.2 w (mem w hl) (by omega)
     omega
  ·rw [ck]
   have hl := live w hw
   rw [if_neg (by omega)]
   exact h.lo w hl (by omega)
 ·refine ⟨r + 1, ⟨fun w => ?_, fun w hw hle => ?_, fun w hw hlt => ?_, by omega⟩⟩
  ·rw [ck]
   have := h.le w
   split <;> omega
  ·rw [ck]
   have hl := live w hw
   have h1 := hr.1 w (mem w hl)
   have h2 := hr.2 w (mem w hl)
   have h3 := h.hi w hl h1
   rw [if_pos (by omega)]
   omega
  ·rw [ck]
   have hl := live w hw
   have h1 := hr.1 w (mem w hl)
   have h3 := h.hi w hl h1
   rw [if_neg (by omega)]
   omega
theorem Rnd.start (l left : List Int) : Rnd l left 0 (-1) 1 := ⟨fun w => by rw [cnt_zero]; omega, fun w _ h => by omega, fun w _ _ => by rw [cnt_zero], by omega⟩
end R11
end Go.GL

set_option linter.unusedVariables false
namespace Go.GL
section
variable {w0 : World} {n : Nat} {F : Frm} {A : List Asrt} {I : List Chunk} {P : Program} {dst : Option Tmp} {ty t : TypeId} {pos : String} {af : Array Edge} {gd : Option (Nat × Bool)} {x y : Operand} {d : TypeDesc} {s by_ : Nat} {z : List Value}
theorem spl_ints : ∀ (l : List Int) (off : Nat) (v : Int), off < l.length → spl (ints l) off [.int .i64 v] = some (ints (l.set off v))
 | a :: l, 0, v, _ => by cases l <;> rfl
 | a :: l, k + 1, v, h => by
  have := spl_ints l k v (by simpa using h)
  simp only [ints, List.map_cons, spl, List.set_cons_succ] at this ⊢
  rw [this]
 | [], k, v, h => by simp at h
/-- A whole number into a block of such. -/
theorem opg_storeIX {l : List Int} {b off : Nat} {v : Int} {T : TypeId} {u : List Value → List Asrt} [TyI P t d 1 by_ z] [Sel A b (ints l) T u] (hx : ev F x = some (pt b off)) (hy : ev F y = some (.int .i64 v)) (hl : off < l.length) :
  OpG P w0 n ⟨dst, .store t x y, ty, pos, af, gd⟩ F A I (fun _ A' I' => A' = u (ints (l.set off v)) ∧ I = I') :=
 opg_store (vs := [.int .i64 v]) hx hy rfl rfl rfl (spl_ints l off v hl)
/-- A place of an array of whole numbers that is a value. -/
theorem opv_indexIX {l : List Int} {l2 : Nat} {k : IntKind} {i : Int} {ix : Operand} {e : TypeId} {b' : Nat} {z' : List Value} [TyI P t (.array l2 e) s by_ z] [TyI P e (.int .i64) 1 b' z'] (hx : ev F x = some (.agg (ints l).toArray)) (hi : ev F ix = some (.int k i)) (h0 : 0 ≤ i) (h1 : i < l2) (hl : l2 = l.length) :
  OpV P w0 n ⟨dst, .index t x ix, ty, pos, af, gd⟩ F A I (.int .i64 (l.getD i.toNat default)) :=
 opv_index hx hi h0 h1 rfl (by
  rw [Nat.mul_one]
  have : i.toNat < l.length := by omega
  simp [ints, this])
theorem and_two_pow' (m k : Nat) : m &&& 2 ^ k = (m.testBit k).toNat * 2 ^ k := by
 apply Nat.eq_of_testBit_eq
 intro j
 rw [Nat.testBit_and, Nat.testBit_two_pow]
 by_cases e : k = j
 ·subst e
  cases h : m.testBit k
  ·simp
  ·simp [Nat.testBit_two_pow]
 ·cases h : m.testBit k
  ·simp [e]
  ·simp [e, Nat.testBit_two_pow]
theorem and_pow {m k : Nat} (hm : m < 4611686018427387904) (hk : k ≤ 61) : IntKind.i64.wrap ((BitVec.ofInt IntKind.i64.bits (m : Int) &&& BitVec.ofInt IntKind.i64.bits (2 ^ k)).toNat : Int) = if (m : Int) / 2 ^ k % 2 = 1 then 2 ^ k else 0 := by
 have hk2 : (2:Nat) ^ k ≤ 2 ^ 61 := Nat.pow_le_pow_right (by omega) hk
 have e1 : (2:Int) ^ k = ((2 ^ k : Nat) : Int) := by simp
 have e2 : (BitVec.ofInt IntKind.i64.bits (m : Int) &&& BitVec.ofInt IntKind.i64.bits (2 ^ k)).toNat = m &&& 2 ^ k := by
  rw [e1, BitVec.toNat_and]
  show (BitVec.ofInt 64 (m : Int)).toNat &&& (BitVec.ofInt 64 ((2 ^ k : Nat) : Int)).toNat = _
  rw [BitVec.ofInt_natCast, BitVec.ofInt_natCast, BitVec.toNat_ofNat, BitVec.toNat_ofNat, Nat.mod_eq_of_lt (by omega), Nat.mod_eq_of_lt (by omega)]
 rw [e2, and_two_pow', Nat.testBit_eq_decide_div_mod_eq]
 have e3 : ((m : Int) / 2 ^ k % 2 = 1) ↔ m / 2 ^ k % 2 = 1 := by
  rw [e1]
  constructor
  ·intro h; exact_mod_cast h
  ·intro h; exact_mod_cast h
 by_cases h : m / 2 ^ k % 2 = 1
 ·rw [if_pos (e3.2 h), decide_eq_true h, e1]
  generalize (2:Nat) ^ k = p at hk2
  simp only [Bool.toNat_true, Nat.one_mul]
  exact w64 (by omega) (by omega)
 ·rw [if_neg (fun x => h (e3.1 x)), decide_eq_false h]
  simp only [Bool.toNat_false, Nat.zero_mul]
  exact w64 (by omega) (by omega)
/-- One bit of a count. -/
theorem opv_bit {xt yt : TypeId} {a b : Int} {k : Nat} (hx : ev F x = some (.int .i64 a)) (hy : ev F y = some (.int .i64 b)) (h0 : 0 ≤ a) (h1 : a < 4611686018427387904) (hb : b = 2 ^ k) (hk : k ≤ 61) : OpV P w0 n ⟨dst, .binOp .and xt x y yt, ty, pos, af, gd⟩ F A I (.int .i64 (if a / 2 ^ k % 2 = 1 then 2 ^ k else 0)) :=
 fun t w hf hs => by
  subst hb
  obtain ⟨m, rfl⟩ : ∃ m : Nat, a = m := ⟨a.toNat, by omega⟩
  simp only [execOp, hf.eval hx, hf.eval hy, eqGuard_and, binOp_and, Op.intBits, and_pow (show m < 4611686018427387904 by omega) hk, Sem.run_bind, Sem.run_pure, Result.andThen_ok]
theorem opv_shrN {xt yt : TypeId} {a b : Int} {k : Nat} {yk : IntKind} (hx : ev F x = some (.int .i64 a)) (hy : ev F y = some (.int yk b)) (h0 : 0 ≤ a) (hb : b = k) (hk : k ≤ 62) : OpV P w0 n ⟨dst, .binOp .shr xt x y yt, ty, pos, af, gd⟩ F A I (.int .i64 (a / 2 ^ k)) :=
 opv_shr hx hy (by omega) (by
  have h1 : min b.toNat IntKind.i64.bits = k := by
   show min b.toNat 64 = k
   omega
  rw [h1]
  exact Int.fdiv_eq_ediv_of_nonneg _ (Int.le_of_lt (Int.pow_pos (by omega))))
theorem div_pow_bd {a : Int} {k : Nat} (h0 : 0 ≤ a) : 0 ≤ a / 2 ^ k ∧ a / 2 ^ k ≤ a :=
 ⟨Int.ediv_nonneg h0 (Int.le_of_lt (Int.pow_pos (by omega))), Int.ediv_le_self _ h0⟩
end
end Go.GL

/-
 Ranges over functions: the same judgement over the fenced walk, within a round or not, with deferred calls or none.
-/
set_option linter.unusedVariables false
set_option linter.unusedSimpArgs false
namespace Go.GL
/-- The fence that bars nothing; r: the loop whose round it is. -/
def RF (r : Option Nat) : Fence := { Fence.wide with round := r }
/-- Read at an activation that has these deferred calls. -/
def XN (ds : List Deferred) (K : Act → World → Prop) : Act → World → Prop := fun a w => K ⟨a.tmps, ds⟩ w
theorem rf_depth {r : Option Nat} : ¬ ((RF r).depth.isSome = true) := by
 intro h
 cases h
theorem callsIn_rf {r : Option Nat} {n : Nat} {P : Program} {f : FuncId} {args : Array Value} {w : World} {R : Ending → World → Prop} : CallsIn (RF r) n P f args w R ↔ Calls P f args w R :=
 ⟨fun h => callsIn_wide.1 (show CallsIn Fence.wide n P f args w R from h), fun h => show CallsIn Fence.wide n P f args w R from callsIn_wide.2 h⟩
theorem rowsIn_rf {r : Option Nat} {n : Nat} {P : Program} {row : String} {args : Array Value} {w : World} {R : Value → World → Prop} (h : Rows P row args w R) : RowsIn (RF r) n P row args w R :=
 fun c cs _ => let ⟨v, w', hr, s⟩ := h c cs; ⟨v, w', hr, show StepsIn (Machine.fenced P Fence.wide) P _ _ from stepsIn_wide.2 s⟩
theorem no_defer_of_value {P : Program} {ρ : Operand → Value} {o : Oper} {v : Value} {w w' : World} (h : (execOp ρ o).run P w = .ok (.value v) w') : ∀ c, o.op ≠ .defer c := by
 intro c hc
 unfold execOp at h
 rw [hc] at h
 simp only [Sem.run_bind] at h
 cases hr : (resolve ρ c o.type).run P w with
 | ok d w2 => rw [hr] at h; simp at h
 | halt e w2 => rw [hr] at h; simp [Result.andThen] at h
section
variable {w0 : World} {n : Nat} {F : Frm} {A : List Asrt} {I : List Chunk} {P : Program} {Q : Exit → Act → World → Prop} {r : Option Nat} {ds : List Deferred}
theorem opg_in {o : Oper} {G : Value → List Asrt → List Chunk → Prop} (hop : OpG P w0 n o F A I G) {t : Array Value} {w : World} {K : Act → World → Prop} (hf : Fr t n F) (hs : St w0 w A I)
  (hk : ∀ w' v A' I', G v A' I' → St w0 w' A' I' → K (Act.put ⟨t, ds⟩ o.dst v) w') : o.wpIn (RF r) 0 P ⟨t, ds⟩ w K Q := by
 have hput : ∀ v, Act.put ⟨t, ds⟩ o.dst v = ⟨(Act.put ⟨t, []⟩ o.dst v).tmps, ds⟩ := fun v => by cases o.dst <;> rfl
 have hput0 : ∀ v, (Act.put ⟨t, []⟩ o.dst v).defers = [] := fun v => by cases o.dst <;> rfl
 have h := hop t w (fun a w' => a.defers = [] ∧ K ⟨a.tmps, ds⟩ w') (fun _ _ _ => False) hf hs (fun w' v A' I' hG hS => ⟨hput0 v, by rw [← hput]; exact hk w' v A' I' hG hS⟩)
 unfold Oper.wp at h
 have hev : Act.eval ⟨t, ds⟩ = Act.eval ⟨t, []⟩ := rfl
 refine ⟨fun _ _ => trivial, ?_⟩
 by_cases hd : ∃ c, o.op = .defer c
 ·obtain ⟨c, hc⟩ := hd
  exfalso
  unfold execOp at h
  rw [hc] at h
  simp only [Sem.run_bind] at h
  cases hr : (resolve (Act.eval ⟨t, []⟩) c o.type).run P w with
  | ok d w2 =>
   rw [hr] at h
   simp only [Result.andThen_ok, Sem.run_pure, Oper.upon] at h
   have h1 := h.1
   cases hdst : o.dst <;> rw [hdst] at h1 <;> cases h1
  | halt e w2 =>
   rw [hr] at h
   cases e <;> exact h
 ·rw [Oper.semAt_eq _ _ _ (fun c hc => hd ⟨c, hc⟩), hev]
  generalize (execOp (Act.eval ⟨t, []⟩) o).run P w = res at h ⊢
  cases res with
  | halt e w2 => cases e <;> exact h.elim
  | ok nx w2 =>
   cases nx with
   | value v =>
    simp only [Oper.upon, Oper.uponIn] at h ⊢
    rw [hput]; exact h.2
   | skip =>
    simp only [Oper.upon, Oper.uponIn] at h ⊢
    rw [hput]; exact h.2
   | defer d =>
    exfalso
    simp only [Oper.upon] at h
    have h1 := h.1
    cases hdst : o.dst <;> rw [hdst] at h1 <;> cases h1
   | enter f args =>
    simp only [Oper.upon, Oper.uponIn] at h ⊢
    refine ⟨fun hx => absurd hx rf_depth, callsIn_rf.2 (h.mono ?_)⟩
    intro e w3 he
    cases e with
    | returned v => simp only at he ⊢; rw [hput]; exact he.2
    | panicked c => exact he.elim
    | outgrown => obtain ⟨_, _, hx⟩ := he; exact hx.elim
   | row rw_ args =>
    simp only [Oper.upon, Oper.uponIn] at h ⊢
    exact ⟨fun hx => absurd hx rf_depth, rowsIn_rf (h.mono fun v w3 he => by rw [hput]; exact he.2)⟩
   | _ => exact h.elim
namespace Rd
/-! #### code -/
theorem tri_seq {x y : Code} (h : Tri w0 n F A I (XN ds (Code.wpIn (RF r) 0 P x (Exit.then (Code.wpIn (RF r) 0 P y Q) Q)))) : Tri w0 n F A I (XN ds (Code.wpIn (RF r) 0 P (.seq x y) Q)) := fun t w hf hs => wpIn_seq (h t w hf hs)
theorem tri_skip (h : Tri w0 n F A I (XN ds (Q .normal))) : Tri w0 n F A I (XN ds (Code.wpIn (RF r) 0 P .skip Q)) := fun t w hf hs => wpIn_skip (h t w hf hs)
theorem tri_exit {id : Nat} (h : Tri w0 n F A I (XN ds (Q (.exit id)))) : Tri w0 n F A I (XN ds (Code.wpIn (RF r) 0 P (.exit id) Q)) := fun t w hf hs => wpIn_exit (h t w hf hs)
theorem tri_ret (h : Tri w0 n F A I (XN ds (Q .ret))) : Tri w0 n F A I (XN ds (Code.wpIn (RF r) 0 P .ret Q)) := fun t w hf hs => wpIn_ret (h t w hf hs)
theorem tri_block {id : Nat} {c : Code} (h : Tri w0 n F A I (XN ds (Code.wpIn (RF r) 0 P c (Exit.inBlock id Q)))) : Tri w0 n F A I (XN ds (Code.wpIn (RF r) 0 P (.block id c) Q)) := fun t w hf hs => wpIn_block (h t w hf hs)
theorem tri_region {id : Nat} {l : List Oper} (h : Tri w0 n F A I (XN ds (wpListIn (RF r) 0 P l.toArray Q l))) : Tri w0 n F A I (XN ds (Code.wpIn (RF r) 0 P (.region id l.toArray false) Q)) := fun t w hf hs => wpIn_region_lit (h t w hf hs)
theorem tri_nil {ops : Array Oper} (h : Tri w0 n F A I (XN ds (Q .normal))) : Tri w0 n F A I (XN ds (wpListIn (RF r) 0 P ops Q [])) := h
theorem tri_then {K : Act → World → Prop} (h : Tri w0 n F A I (XN ds K)) : Tri w0 n F A I (XN ds (Exit.then K Q .normal)) := h
theorem tri_then_exit {K : Act → World → Prop} {id : Nat} (h : Tri w0 n F A I (XN ds (Q (.exit id)))) : Tri w0 n F A I (XN ds (Exit.then K Q (.exit id))) := h
theorem tri_then_ret {K : Act → World → Prop} (h : Tri w0 n F A I (XN ds (Q .ret))) : Tri w0 n F A I (XN ds (Exit.then K Q .ret)) := h
theorem tri_inBlock {id : Nat} (h : Tri w0 n F A I (XN ds (Q .normal))) : Tri w0 n F A I (XN ds (Exit.inBlock id Q .normal)) := h
theorem tri_inBlock_ret {id : Nat} (h : Tri w0 n F A I (XN ds (Q .ret))) : Tri w0 n F A I (XN ds (Exit.inBlock id Q .ret)) := h
theorem tri_inBlock_hit {id id' : Nat} (he : Nat.beq id' id = true) (h : Tri w0 n F A I (XN ds (Q .normal))) : Tri w0 n F A I (XN ds (Exit.inBlock id Q (.exit id'))) := by
 have : id' = id := Nat.eq_of_beq_eq_true he
 subst this
 intro t w hf hs
 simp only [XN, Exit.inBlock, if_true]
 exact h t w hf hs
theorem tri_inBlock_miss {id id' : Nat} (he : Nat.beq id' id = false) (h : Tri w0 n F A I (XN ds (Q (.exit id')))) : Tri w0 n F A I (XN ds (Exit.inBlock id Q (.exit id'))) := by
 have : id' ≠ id := Nat.ne_of_beq_eq_false he
 intro t w hf hs
 simp only [XN, Exit.inBlock, if_neg this]
 exact h t w hf hs
theorem tri_cond {c : Operand} {x y : Code} {b : Bool} (hc : ev F c = some (.bool b)) (ht : b = true → Tri w0 n F A I (XN ds (Code.wpIn (RF r) 0 P x Q))) (hf : b = false → Tri w0 n F A I (XN ds (Code.wpIn (RF r) 0 P y Q))) : Tri w0 n F A I (XN ds (Code.wpIn (RF r) 0 P (.cond c x y) Q)) :=
 fun t w hfr hs => wpIn_cond_split (hfr.eval hc) (fun h => ht h t w hfr hs) (fun h => hf h t w hfr hs)
theorem tri_cond_true {c : Operand} {x y : Code} (hc : ev F c = some (.bool true)) (ht : Tri w0 n F A I (XN ds (Code.wpIn (RF r) 0 P x Q))) : Tri w0 n F A I (XN ds (Code.wpIn (RF r) 0 P (.cond c x y) Q)) := tri_cond hc (fun _ => ht) (by simp)
theorem tri_cond_false {c : Operand} {x y : Code} (hc : ev F c = some (.bool false)) (hf : Tri w0 n F A I (XN ds (Code.wpIn (RF r) 0 P y Q))) : Tri w0 n F A I (XN ds (Code.wpIn (RF r) 0 P (.cond c x y) Q)) := tri_cond hc (by simp) (fun _ => hf)
theorem tri_cond_dec {c : Operand} {x y : Code} {p : Prop} [Decidable p] (hc : ev F c = some (.bool (decide p))) (ht : p → Tri w0 n F A I (XN ds (Code.wpIn (RF r) 0 P x Q))) (hf : ¬ p → Tri w0 n F A I (XN ds (Code.wpIn (RF r) 0 P y Q))) : Tri w0 n F A I (XN ds (Code.wpIn (RF r) 0 P (.cond c x y) Q)) :=
 tri_cond hc (fun h => ht (of_decide_eq_true h)) (fun h => hf (of_decide_eq_false h))
theorem tri_cond_is {c : Operand} {x y : Code} {p : Prop} [Decidable p] (hc : ev F c = some (.bool (decide p))) (hp : p) (ht : Tri w0 n F A I (XN ds (Code.wpIn (RF r) 0 P x Q))) : Tri w0 n F A I (XN ds (Code.wpIn (RF r) 0 P (.cond c x y) Q)) :=
 tri_cond_dec hc (fun _ => ht) (fun h => absurd hp h)
theorem tri_cond_not {c : Operand} {x y : Code} {p : Prop} [Decidable p] (hc : ev F c = some (.bool (decide p))) (hp : ¬ p) (hf : Tri w0 n F A I (XN ds (Code.wpIn (RF r) 0 P y Q))) : Tri w0 n F A I (XN ds (Code.wpIn (RF r) 0 P (.cond c x y) Q)) :=
 tri_cond_dec hc (fun h => absurd h hp) (fun _ => hf)
theorem loop_ind {G : Type} (μ : G → Nat) (pre : G → Prop) (Fg : G → Frm) (Ag : G → List Asrt) (Ig : G → List Chunk) {c : Code}
  (round : ∀ g, pre g → ∀ K : Act → World → Prop, (∀ g', pre g' → μ g' < μ g → Tri w0 n (Fg g') (Ag g') (Ig g') (XN ds K)) → Tri w0 n (Fg g) (Ag g) (Ig g) (XN ds (Code.wpIn (RF r) 0 P c (Exit.then K Q)))) (g : G) (hg : pre g) :
  Tri w0 n (Fg g) (Ag g) (Ig g) (XN ds (Code.wpIn (RF r) 0 P (.loop c) Q)) := by
 have key : ∀ m g, pre g → μ g < m → Tri w0 n (Fg g) (Ag g) (Ig g) (XN ds (Code.roundsIn (RF r) 0 P c Q m)) := by
  intro m
  induction m with
  | zero => intro g _ h; omega
  | succ m ih => intro g hg hm; exact round g hg _ fun g' hg' hlt => ih g' hg' (by omega)
 exact fun t w hf hs => wpIn_loop_rounds (μ g + 1) (key _ g hg (by omega) t w hf hs)
/-- A cut. -/
def cutQ (ds : List Deferred) (w0 : World) (n : Nat) (C : Frm → List Asrt → List Chunk → Prop) (Q : Exit → Act → World → Prop) : Exit → Act → World → Prop
 | .normal, a, w => ∃ F' A' I', C F' A' I' ∧ Fr a.tmps n F' ∧ a.defers = ds ∧ St w0 w A' I'
 | e, a, w => Q e a w
theorem tri_cut {c : Code} (C : Frm → List Asrt → List Chunk → Prop) (h : Tri w0 n F A I (XN ds (Code.wpIn (RF r) 0 P c (cutQ ds w0 n C Q)))) (k : ∀ F' A' I', C F' A' I' → Tri w0 n F' A' I' (XN ds (Q .normal))) : Tri w0 n F A I (XN ds (Code.wpIn (RF r) 0 P c Q)) := by
 intro t w hf hs
 refine Code.wpIn_mono ?_ (h t w hf hs)
 intro e a w q
 cases e with
 | normal =>
  obtain ⟨F', A', I', hC, hF, hd, hS⟩ := q
  obtain ⟨t', ds'⟩ := a
  simp only at hd hF
  subst hd
  exact k F' A' I' hC t' w hF hS
 | _ => exact q
theorem tri_cutEnd {C : Frm → List Asrt → List Chunk → Prop} (F' : Frm) (hC : C F' A I) (hs : Sub F' F) : Tri w0 n F A I (XN ds (cutQ ds w0 n C Q .normal)) := fun t w hf hst => ⟨F', A, I, hC, hf.sub hs, rfl, hst⟩
theorem tri_cut_exit {C : Frm → List Asrt → List Chunk → Prop} {id : Nat} (h : Tri w0 n F A I (XN ds (Q (.exit id)))) : Tri w0 n F A I (XN ds (cutQ ds w0 n C Q (.exit id))) := h
theorem tri_cut_ret {C : Frm → List Asrt → List Chunk → Prop} (h : Tri w0 n F A I (XN ds (Q .ret))) : Tri w0 n F A I (XN ds (cutQ ds w0 n C Q .ret)) := h
/-! #### operations, in a region of fixed order -/
section
variable {ops : Array Oper} {rest : List Oper} {d : Nat} {dst : Option Tmp} {ty : TypeId} {pos : String} {af : Array Edge} {gd : Option (Nat × Bool)}
theorem put_ds (t : Array Value) (ds : List Deferred) (dst : Option Tmp) (v : Value) : Act.put ⟨t, ds⟩ dst v = ⟨(Act.put ⟨t, []⟩ dst v).tmps, ds⟩ := by cases dst <;> rfl
theorem tri_g {G : Value → List Asrt → List Chunk → Prop} {op : Op} (hop : OpG P w0 n ⟨dst, op, ty, pos, af, none⟩ F A I G) (hn : dOk n ⟨dst, op, ty, pos, af, none⟩ = true)
  (k : ∀ v A' I', G v A' I' → Tri w0 n (putF dst v F) A' I' (XN ds (wpListIn (RF r) 0 P ops Q rest))) : Tri w0 n F A I (XN ds (wpListIn (RF r) 0 P ops Q (⟨dst, op, ty, pos, af, none⟩ :: rest))) := by
 intro t w hf hs
 refine wpListIn_plain rfl fun K hK => ?_
 refine opg_in hop hf hs fun w' v A' I' hG hs' => hK _ _ ?_
 have := k v A' I' hG _ _ (hf.putF (o := ⟨dst, op, ty, pos, af, none⟩) hn v) hs'
 simp only [XN] at this
 rw [put_ds]
 exact this
theorem tri_v {op : Op} {v : Value} (hop : OpV P w0 n ⟨some d, op, ty, pos, af, none⟩ F A I v) (hn : Nat.blt d n = true) (k : Tri w0 n ((d, v) :: F) A I (XN ds (wpListIn (RF r) 0 P ops Q rest))) : Tri w0 n F A I (XN ds (wpListIn (RF r) 0 P ops Q (⟨some d, op, ty, pos, af, none⟩ :: rest))) :=
 tri_g hop.toG hn fun v' A' I' h => by
  obtain ⟨rfl, rfl, rfl⟩ := h
  exact k
/-! ##### guards -/
theorem tri_guard_run {op : Op} {j dj : Nat} {b c : Bool} (hj : (ops[j]?).bind (·.dst) = some dj) (hv : look F dj = some (.bool b)) (hbc : (b == c) = true)
  (k : Tri w0 n F A I (XN ds (wpListIn (RF r) 0 P ops Q (⟨dst, op, ty, pos, af, none⟩ :: rest)))) : Tri w0 n F A I (XN ds (wpListIn (RF r) 0 P ops Q (⟨dst, op, ty, pos, af, some (j, c)⟩ :: rest))) := by
 intro t w hf hs
 have hy := yielded_of (ops := ops) hf hj hv
 have hbc' : b = c := by simpa using hbc
 subst hbc'
 have := k t w hf hs
 simp only [XN] at this ⊢
 unfold wpListIn at this ⊢
 rw [if_pos (by simp [Region.wanted])] at this
 rw [if_pos (by simp [Region.wanted, hy])]
 exact this
theorem tri_guard_skip {op : Op} {j dj : Nat} {b c : Bool} (hj : (ops[j]?).bind (·.dst) = some dj) (hv : look F dj = some (.bool b)) (hbc : (b == c) = false) (hn : dOk n ⟨dst, op, ty, pos, af, none⟩ = true)
  (k : Tri w0 n (putF dst undef F) A I (XN ds (wpListIn (RF r) 0 P ops Q rest))) : Tri w0 n F A I (XN ds (wpListIn (RF r) 0 P ops Q (⟨dst, op, ty, pos, af, some (j, c)⟩ :: rest))) := by
 intro t w hf hs
 have hy := yielded_of (ops := ops) hf hj hv
 simp only [XN]
 unfold wpListIn
 rw [if_neg (by simp [Region.wanted, hy]; simpa using hbc), put_ds]
 exact ⟨fun _ _ => trivial, k _ _ (hf.putF (o := ⟨dst, op, ty, pos, af, none⟩) hn undef) hs⟩
theorem tri_split {op : Op} {j dj : Nat} {c : Bool} {p : Prop} [Decidable p] (hj : (ops[j]?).bind (·.dst) = some dj) (hv : look F dj = some (.bool (decide p)))
  (ht : p → Tri w0 n ((dj, .bool true) :: F) A I (XN ds (wpListIn (RF r) 0 P ops Q (⟨dst, op, ty, pos, af, some (j, c)⟩ :: rest)))) (hf : ¬ p → Tri w0 n ((dj, .bool false) :: F) A I (XN ds (wpListIn (RF r) 0 P ops Q (⟨dst, op, ty, pos, af, some (j, c)⟩ :: rest)))) : Tri w0 n F A I (XN ds (wpListIn (RF r) 0 P ops Q (⟨dst, op, ty, pos, af, some (j, c)⟩ :: rest))) :=
 tri_bool_dec dj hv ht hf
theorem tri_true {op : Op} {j dj : Nat} {c : Bool} {p : Prop} [Decidable p] (hj : (ops[j]?).bind (·.dst) = some dj) (hv : look F dj = some (.bool (decide p))) (hp : p)
  (ht : Tri w0 n ((dj, .bool true) :: F) A I (XN ds (wpListIn (RF r) 0 P ops Q (⟨dst, op, ty, pos, af, some (j, c)⟩ :: rest)))) : Tri w0 n F A I (XN ds (wpListIn (RF r) 0 P ops Q (⟨dst, op, ty, pos, af, some (j, c)⟩ :: rest))) :=
 tri_bool_dec dj hv (fun _ => ht) (fun h => absurd hp h)
theorem tri_false {op : Op} {j dj : Nat} {c : Bool} {p : Prop} [Decidable p] (hj : (ops[j]?).bind (·.dst) = some dj) (hv : look F dj = some (.bool (decide p))) (hp : ¬ p)
  (ht : Tri w0 n ((dj, .bool false) :: F) A I (XN ds (wpListIn (RF r) 0 P ops Q (⟨dst, op, ty, pos, af, some (j, c)⟩ :: rest)))) : Tri w0 n F A I (XN ds (wpListIn (RF r) 0 P ops Q (⟨dst, op, ty, pos, af, some (j, c)⟩ :: rest))) :=
 tri_bool_dec dj hv (fun h => absurd h hp) (fun _ => ht)
/-! ##### a round -/
/-- The slots of a loop's left sides. -/
def putL : List Nat → List Value → Frm → Frm
 | d :: l, v :: vs, F => putL l vs ((d, v) :: F)
 | _, _, F => F
def allLt (n : Nat) : List Nat → Bool | [] => true | d :: l => Nat.blt d n && allLt n l
theorem fr_putL : ∀ (l : List Nat) (vs : List Value) (t : Array Value) (F : Frm), Fr t n F → allLt n l = true → Fr ((l.zip vs).foldl (fun t p => t.setIfInBounds p.1 p.2) t) n (putL l vs F)
 | [], vs, t, F, h, _ => by simpa [putL] using h
 | d :: l, [], t, F, h, _ => by simpa [putL] using h
 | d :: l, v :: vs, t, F, h, hl => by
  simp only [allLt, Bool.and_eq_true] at hl
  simp only [List.zip_cons_cons, List.foldl_cons, putL]
  exact fr_putL l vs _ _ (h.put d (Nat.le_of_ble_eq_true hl.1) v) hl.2
/-- What one round comes to: the record lp lies at l. -/
def RoundC (P : Program) (l : Nat) (lp : Loop) (vs : List Value) (A : List Asrt) (I : List Chunk) (R : Value → List Asrt → List Chunk → Prop) : Prop :=
 ∀ w0 w, St w0 w (Pt l (.loop lp) :: A) I → RoundIn (RF none) 0 P l lp.fn ((lp.params.zip vs.toArray).foldl (fun t (p : Tmp × Value) => t.setIfInBounds p.1 p.2) lp.tmps) lp.assign lp.body w fun e w' => ∃ v A' I', e = .returned v ∧ R v A' I' ∧ St w0 w' A' I'
/-- The end of a round. -/
def RoundEnds (P : Program) (l : Nat) (w0 : World) (R : Value → List Asrt → List Chunk → Prop) : Exit → Act → World → Prop :=
 roundPost P l fun e w' => ∃ v A' I', e = .returned v ∧ R v A' I' ∧ St w0 w' A' I'
theorem st_putObj {w : World} {l : Nat} {o : Obj} (h : St w0 w (Pt l o :: A) I) (o' : Obj) : St w0 (w.putObj l o') (Pt l o' :: A) I := by
 have hl : l < w.heap.size := (Array.getElem?_eq_some_iff.1 h.at).1
 exact h.set o' (w.heap.setIfInBounds l o') (by simp) (by simp [hl]) (fun k hk => by rw [Array.getElem?_setIfInBounds, if_neg (Ne.symm hk)])
theorem round_enter {l : Nat} {lp : Loop} {ps : List Nat} {vs : List Value} {R : Value → List Asrt → List Chunk → Prop} (C : Frm → List Asrt → List Chunk → Prop) (hps : lp.params = ps.toArray) (hrd : lp.state = .ready) (hlt : allLt n ps = true) (hfr : Fr lp.tmps n F)
  (h1 : ∀ w0, Tri w0 n (putL ps vs F) (Pt l (.loop lp) :: A) I (XN [] (Code.wpIn (RF (some l)) 0 P lp.assign (cutQ [] w0 n (fun F' A' I' => ∃ A'', A' = Pt l (.loop lp) :: A'' ∧ C F' A'' I') fun _ _ _ => False))))
  (h2 : ∀ w0 F' A'' I', C F' A'' I' → Tri w0 n F' (Pt l (.loop { lp with state := .busy }) :: A'') I' (XN [] (Code.wpIn (RF (some l)) 0 P lp.body (RoundEnds P l w0 R)))) :
  RoundC P l lp vs A I R := by
 intro w0 w hs
 have hfr' := fr_putL ps vs lp.tmps F hfr hlt
 have e : (lp.params.zip vs.toArray).foldl (fun t (p : Tmp × Value) => t.setIfInBounds p.1 p.2) lp.tmps = (ps.zip vs).foldl (fun t p => t.setIfInBounds p.1 p.2) lp.tmps := by
  rw [hps, List.zip_toArray, List.foldl_toArray]
 rw [e]
 refine roundIn_of_wpIn (F := RF none) trivial ?_
 have h := h1 w0 _ w hfr' hs
 refine Code.wpIn_mono ?_ h
 intro ex a w1 q
 cases ex with
 | normal =>
  obtain ⟨F', _, I', ⟨A'', rfl, hC⟩, hF, hd, hS⟩ := q
  have hT := h2 w0 F' A'' I' hC
  obtain ⟨t', ds'⟩ := a
  simp only at hd hF
  subst hd
  exact ⟨_, run_beginRound hS.at hrd, hT t' _ hF (st_putObj hS _)⟩
 | _ => exact q.elim
theorem round_normal {l : Nat} {lp : Loop} {R : Value → List Asrt → List Chunk → Prop} (h : R (.bool true) (Pt l (.loop { lp with state := .ready, pending := none }) :: A) I) : Tri w0 n F (Pt l (.loop lp) :: A) I (XN [] (RoundEnds P l w0 R .normal)) :=
 fun t w hf hs => ⟨_, _, run_endRound none hs.at, _, _, _, rfl, h, st_putObj hs _⟩
theorem round_exit {l id : Nat} {lp : Loop} {R : Value → List Asrt → List Chunk → Prop} (h : R (.bool false) (Pt l (.loop { lp with state := .done, pending := some (.exit id) }) :: A) I) : Tri w0 n F (Pt l (.loop lp) :: A) I (XN [] (RoundEnds P l w0 R (.exit id))) :=
 fun t w hf hs => ⟨_, _, run_endRound (some (.exit id)) hs.at, _, _, _, rfl, h, st_putObj hs _⟩
/-- A call of yield. -/
theorem tri_yield {l : Nat} {lp : Loop} {x : Operand} {xs : List Operand} {vs : List Value} {ats : Array TypeId} {R : Value → List Asrt → List Chunk → Prop} (hx : ev F x = some (.func (.yield l) #[] #[])) (hxs : xs.map (ev F) = vs.map some) (hsz : vs.length = lp.params.size) (hR : RoundC P l lp vs A I R)
  (hn : dOk n ⟨dst, .call ⟨.value x, xs.toArray, ats⟩, ty, pos, af, none⟩ = true)
  (k : ∀ v A' I', R v A' I' → Tri w0 n (putF dst v F) A' I' (XN ds (wpListIn (RF none) 0 P ops Q rest))) :
  Tri w0 n F (Pt l (.loop lp) :: A) I (XN ds (wpListIn (RF none) 0 P ops Q (⟨dst, .call ⟨.value x, xs.toArray, ats⟩, ty, pos, af, none⟩ :: rest))) := by
 intro t w hf hs
 refine wpListIn_plain rfl fun K hK => ?_
 refine ⟨fun _ _ => trivial, ?_⟩
 have hl : #[] ++ vs.toArray ++ #[] = vs.toArray := by simp
 have hrun : (execOp (Act.eval ⟨t, ds⟩) ⟨dst, .call ⟨.value x, xs.toArray, ats⟩, ty, pos, af, none⟩).run P w = .ok (.round l lp.fn ((lp.params.zip vs.toArray).foldl (fun t (p : Tmp × Value) => t.setIfInBounds p.1 p.2) lp.tmps) lp.assign lp.body) w := by
  have hy := run_yield (P := P) (args := vs.toArray) hs.at (by simpa using hsz)
  simp only [execOp, resolve, show Act.eval ⟨t, ds⟩ x = _ from hf.eval hx, Deferred.ofValue, show xs.toArray.map (Act.eval ⟨t, ds⟩) = vs.toArray from evs hf hxs, Sem.run_bind, Sem.run_pure, Result.andThen_ok, invoke, Array.append_empty]
  rw [show #[] ++ vs.toArray = vs.toArray by simp]
  exact hy
 rw [show (RF none).round = none from rfl, Oper.semAt_none, hrun, Oper.uponIn_round]
 refine ⟨fun hx => absurd hx rf_depth, (hR w0 w hs).mono ?_⟩
 rintro e w' ⟨v, A', I', rfl, hR', hs'⟩
 simp only
 rw [put_ds]
 exact hK _ _ (k v A' I' hR' _ _ (hf.putF (o := ⟨dst, .call ⟨.value x, xs.toArray, ats⟩, ty, pos, af, none⟩) hn v) hs')
/-! #### the statement -/
/-- The mark of the rounds' deferred calls. -/
def mark (b : Nat) : Deferred := { target := .collected b, args := #[] }
/-- What the function that is ranged over leaves: the record, and the pending jump. -/
def RangeR (l b : Nat) (C : Option Code → List Asrt → List Chunk → Prop) : Value → List Asrt → List Chunk → Prop :=
 fun _ A' I' => ∃ lp A'', A' = Pt l (.loop lp) :: Pt b (.deferred (some [])) :: A'' ∧ lp.state ≠ .busy ∧ C lp.pending A'' I'
theorem tri_range {f : FuncId} {g : Operand} {ps : Array Tmp} {assign body : Code} {lb : List Value} (C : Option Code → List Asrt → List Chunk → Prop) [hfi : FnI P f] (hg : ev F g = some (.func (.func f) #[] lb.toArray))
  (hc : ∀ l b fnn tm df, Fr tm n F → FnC P f (.func (.yield l) #[] #[] :: lb).toArray (Pt l (.loop ⟨.ready, none, fnn, tm, ps, assign, body, df⟩) :: Pt b (.deferred (some [])) :: A) I (RangeR l b C))
  (hC : ∀ j A' I', C j A' I' → j = none ∨ ∃ id, j = some (.exit id))
  (k : ∀ l b lp A' I', C none A' I' → Tri w0 n F (Pt l (.loop lp) :: Pt b (.deferred (some [])) :: A') I' (XN [mark b] (Q .normal)))
  (kx : ∀ l b lp id A' I', C (some (.exit id)) A' I' → Tri w0 n F (Pt l (.loop lp) :: Pt b (.deferred (some [])) :: A') I' (XN [mark b] (Q (.exit id)))) :
  Tri w0 n F A I (XN [] (Code.wpIn (RF none) 0 P (.rangeFunc g ps assign body) Q)) := by
 intro t w hf hs
 refine wpIn_rangeFunc fun fnn _ => ?_
 obtain ⟨fn, h1, h2, h3⟩ := hfi.fn
 have s1 := hs.alloc (.deferred (some []))
 have s2 := s1.alloc (.loop { state := .ready, pending := none, fn := fnn, tmps := t, params := ps, assign := assign, body := body, defers := w.heap.size })
 have hsz : (w.alloc (.deferred (some []))).heap.size = w.heap.size + 1 := by rw [World.size_alloc]
 rw [hsz] at s2
 obtain ⟨W2, hW2⟩ : ∃ W2, W2 = (w.alloc (.deferred (some []))).alloc (.loop { state := .ready, pending := none, fn := fnn, tmps := t, params := ps, assign := assign, body := body, defers := w.heap.size }) := ⟨_, rfl⟩
 rw [← hW2] at s2
 refine ⟨w.heap.size + 1, [mark w.heap.size], W2, ⟨.fn (.func f) lb.toArray, #[.func (.yield (w.heap.size + 1)) #[] #[]]⟩, W2, f, (.func (.yield (w.heap.size + 1)) #[] #[] :: lb).toArray, W2, by rw [hW2]; exact run_enterLoop_outer fnn t ps assign body, ?_, fun _ _ => trivial, ?_, fun hx => absurd hx rf_depth, ?_⟩
 ·have he := hf.eval (ds := []) hg
  simp only [resolve, rangeCall, he, Deferred.ofValue, Sem.run_bind, Sem.run_pure, Result.andThen_ok]
  simp [Act.eval]
 ·have hl : #[Value.func (.yield (w.heap.size + 1)) #[] #[]] ++ lb.toArray = (Value.func (.yield (w.heap.size + 1)) #[] #[] :: lb).toArray := by simp
  simp only [invoke, callFunc, Sem.run_bind, run_program, Result.andThen_ok, h1, h2, h3, hl]
  rfl
 ·refine callsIn_rf.2 ((hc _ _ _ _ _ hf w0 _ s2).mono ?_)
  rintro e w' ⟨v, A', I', rfl, ⟨lp, A'', rfl, hst, hCC⟩, hs'⟩
  refine ⟨lp.pending, _, run_endLoop hs'.at hst, ?_⟩
  have hs2 := st_putObj hs' (.loop { lp with state := .exhausted })
  obtain ⟨st, pd, f0, t0, p0, as0, bd0, df0⟩ := lp
  simp only at hCC hs2 ⊢
  rcases hC _ _ _ hCC with rfl | ⟨id, rfl⟩
  ·exact k _ _ _ _ _ hCC t _ hf hs2
  ·exact wpIn_exit (kx _ _ _ id _ _ hCC t _ hf hs2)
end
/-! #### functions -/
/-- The post of a body. -/
def Ends (P : Program) (fn : Func) (w0 : World) (R : Value → List Asrt → List Chunk → Prop) : Exit → Act → World → Prop :=
 bodyPostM (RF none) 0 P fn fun e w' => ∃ v A' I', e = .returned v ∧ R v A' I' ∧ St w0 w' A' I'
theorem fn_enter {f : FuncId} {fn : Func} {c : Code} {args : List Value} {R : Value → List Asrt → List Chunk → Prop} {m : Nat} (hf : P.funcs[f]? = some fn) (hb : fn.body = some c) (hn : fn.ntmps = m) (hle : Nat.ble args.length m = true)
  (h : ∀ w0, Tri w0 m (argF args 0) A I (XN [] (Code.wpIn (RF none) 0 P c (Ends P fn w0 R)))) : FnC P f args.toArray A I R := by
 intro w0 w hs
 have hle' := Nat.le_of_ble_eq_true hle
 refine callsIn_rf.1 (callsIn_of_wp_marks (F := RF none) (n := 0) hf hb trivial (h w0 _ w ⟨?_, ?_⟩ hs))
 ·simp only [Array.size_append, Array.size_replicate, List.size_toArray, hn]; omega
 ·refine fr_of_args args _ 0 (fun i v hi => ?_)
  have hlt : i < args.length := (List.getElem?_eq_some_iff.1 hi).1
  rw [Nat.zero_add, Array.getElem?_append, if_pos (by simpa using hlt)]
  simpa using hi
section
variable {f : FuncId} {fn : Func} {c : Code} {R : Value → List Asrt → List Chunk → Prop} {m : Nat} (hf : P.funcs[f]? = some fn) (hb : fn.body = some c) (hn : fn.ntmps = m)
include hf hb hn
theorem fn_enter1 {a : Value} (hle : Nat.ble 1 m = true) (h : ∀ w0, Tri w0 m [(0, a)] A I (XN [] (Code.wpIn (RF none) 0 P c (Ends P fn w0 R)))) : FnC P f [a].toArray A I R := fn_enter (args := [a]) hf hb hn hle h
theorem fn_enter2 {a b : Value} (hle : Nat.ble 2 m = true) (h : ∀ w0, Tri w0 m [(0, a), (1, b)] A I (XN [] (Code.wpIn (RF none) 0 P c (Ends P fn w0 R)))) : FnC P f [a, b].toArray A I R := fn_enter (args := [a, b]) hf hb hn hle h
theorem fn_enter3 {a b d : Value} (hle : Nat.ble 3 m = true) (h : ∀ w0, Tri w0 m [(0, a), (1, b), (2, d)] A I (XN [] (Code.wpIn (RF none) 0 P c (Ends P fn w0 R)))) : FnC P f [a, b, d].toArray A I R := fn_enter (args := [a, b, d]) hf hb hn hle h
end
theorem end_ret {fn : Func} {rs : List ResultVar} {vs : List Value} {R : Value → List Asrt → List Chunk → Prop} (B : List Asrt) (hA : ∃ Am, A = Am ++ B) (hres : fn.results = rs.toArray) (h : RVs P w0 n F A I rs vs) (hR : R (retV vs) B I) {t : Array Value} {w : World} (hf : Fr t n F) (hs : St w0 w A I) :
  LeavesInM (RF none) 0 P fn t (fun e w' => ∃ v A' I', e = .returned v ∧ R v A' I' ∧ St w0 w' A' I') [] .returning w := by
 obtain ⟨Am, rfl⟩ := hA
 exact ⟨retV vs, run_results hres h hf hs, _, B, I, rfl, hR, hs.suffix⟩
theorem tri_end {fn : Func} {rs : List ResultVar} {vs : List Value} {R : Value → List Asrt → List Chunk → Prop} (B : List Asrt) (hA : ∃ Am, A = Am ++ B) (hres : fn.results = rs.toArray) (h : RVs P w0 n F A I rs vs) (hR : R (retV vs) B I) : Tri w0 n F A I (XN [] (Ends P fn w0 R .ret)) :=
 fun t w hf hs => end_ret B hA hres h hR hf hs
theorem tri_end_n {fn : Func} {rs : List ResultVar} {vs : List Value} {R : Value → List Asrt → List Chunk → Prop} (B : List Asrt) (hA : ∃ Am, A = Am ++ B) (hres : fn.results = rs.toArray) (h : RVs P w0 n F A I rs vs) (hR : R (retV vs) B I) : Tri w0 n F A I (XN [] (Ends P fn w0 R .normal)) :=
 fun t w hf hs => end_ret B hA hres h hR hf hs
/-- With the rounds' deferred calls: there are none. -/
theorem tri_endM {fn : Func} {rs : List ResultVar} {vs : List Value} {b : Nat} {R : Value → List Asrt → List Chunk → Prop} (B : List Asrt) (hA : ∃ Am, A = Am ++ B) (hres : fn.results = rs.toArray) (h : RVs P w0 n F (Pt b (.deferred none) :: A) I rs vs) (hR : R (retV vs) B I) : Tri w0 n F (Pt b (.deferred (some [])) :: A) I (XN [mark b] (Ends P fn w0 R .ret)) := by
 intro t w hf hs
 refine ⟨fun h => (by cases h), .inl ⟨b, _, rfl, run_takeDeferred hs.at, ?_⟩⟩
 obtain ⟨Am, rfl⟩ := hA
 exact end_ret B ⟨Pt b (.deferred none) :: Am, rfl⟩ hres h hR hf (st_putObj hs _)
theorem tri_endM_n {fn : Func} {rs : List ResultVar} {vs : List Value} {b : Nat} {R : Value → List Asrt → List Chunk → Prop} (B : List Asrt) (hA : ∃ Am, A = Am ++ B) (hres : fn.results = rs.toArray) (h : RVs P w0 n F (Pt b (.deferred none) :: A) I rs vs) (hR : R (retV vs) B I) : Tri w0 n F (Pt b (.deferred (some [])) :: A) I (XN [mark b] (Ends P fn w0 R .normal)) := by
 intro t w hf hs
 refine ⟨fun h => (by cases h), .inl ⟨b, _, rfl, run_takeDeferred hs.at, ?_⟩⟩
 obtain ⟨Am, rfl⟩ := hA
 exact end_ret B ⟨Pt b (.deferred none) :: Am, rfl⟩ hres h hR hf (st_putObj hs _)
end Rd
end
end Go.GL

set_option linter.unusedVariables false
namespace Go.GL
open Enc (enc)
/-! ### An element of a row is written -/
theorem encs_splice {α : Type} [Enc α] [Inhabited α] {vs : List Value} {x' : α} {fo : Nat} : ∀ {xs : List α} {i : Nat}, i < xs.length → spl (enc (xs.getD i default)) fo vs = some (enc x') →
  (encs xs).take (i * Enc.sz α + fo) ++ vs ++ (encs xs).drop (i * Enc.sz α + fo + vs.length) = encs (xs.set i x')
 | [], i, hi, h => absurd hi (by simp)
 | x :: xs, 0, hi, h => by
  obtain ⟨h1, h2⟩ := spl_spec h
  simp only [List.getD_cons_zero] at h1 h2
  rw [Nat.zero_mul, Nat.zero_add, encs_cons, List.set_cons_zero, encs_cons, h2, List.take_append_of_le_length (by omega), List.drop_append_of_le_length (by omega)]
  simp
 | x :: xs, i + 1, hi, h => by
  have ih := encs_splice (xs := xs) (i := i) (by simpa using hi) (by simpa using h)
  have hl : (enc x).length = Enc.sz α := Enc.hlen x
  have e : (i + 1) * Enc.sz α + fo = (enc x).length + (i * Enc.sz α + fo) := by rw [hl, Nat.succ_mul]; omega
  rw [encs_cons, List.set_cons_succ, encs_cons, e, List.take_length_add_append, Nat.add_assoc, List.drop_length_add_append, ← ih]
  simp
section
variable {w0 : World} {n : Nat} {F : Frm} {A : List Asrt} {I : List Chunk} {P : Program}
variable {dst : Option Tmp} {ty : TypeId} {pos : String} {af : Array Edge} {gd : Option (Nat × Bool)} {x y : Operand} {t E : TypeId} {d : TypeDesc} {s by_ : Nat} {z : List Value} {a : Option Addr} {len cap : Nat}
/-- Into an element, or a part of it. -/
theorem opg_storeRX {α : Type} [Enc α] [Inhabited α] {xs : List α} (x' : α) {i fo sz : Nat} {v : Value} {vs : List Value} {u : Asrt → List Asrt} [SelR A a cap len E sz (encs xs) u] [TyI P t d s by_ z] (hx : ev F x = some (epf a sz i fo)) (hy : ev F y = some v) (hz : Enc.sz α = sz) (hi : i < xs.length) (hl : len = xs.length)
  (hv : v.cells = vs.toArray) (hls : vs.length = s) (h0 : Nat.blt 0 s = true) (h : spl (enc (xs.getD i default)) fo vs = some (enc x')) :
  OpG P w0 n ⟨dst, .store t x y, ty, pos, af, gd⟩ F A I (fun _ A' I' => A' = u (Row a cap len E sz (encs (xs.set i x'))) ∧ I = I') := by
 have hspec := spl_spec h
 have hel : (enc (xs.getD i default)).length = Enc.sz α := Enc.hlen _
 have h1 : vs.all (·.oneCell') = true := by
  have := Enc.one x'
  rw [hspec.2] at this
  simp only [List.all_append, Bool.and_eq_true] at this
  exact this.1.2
 refine (opg_storeR (a := a) hx hy hv hls h1 h0 (by omega) (by omega)).mono fun v' A' I' ⟨e1, e2⟩ => ⟨?_, e2⟩
 rw [e1]
 congr 2
 rw [← hz, ← hls, encs_splice hi h]
/-- Where a slice begins that leaves out the first l. -/
def loA (a : Option Addr) (cap l s : Nat) : Option Addr := if cap = l then a else a.map fun q => q.add (l * s)
theorem opv_sliceLo {α : Type} [Enc α] {xs : List α} {lo : Operand} {k : IntKind} {l : Int} {t e : TypeId} {d' : TypeDesc} {s by_ s' by' : Nat} {z z' : List Value} [TyI P t (.slice e) s by_ z] [TyI P e d' s' by' z'] (hx : ev F x = some (.slice a len cap)) (hh : ev F lo = some (.int k l)) (h0 : 0 ≤ l) (h1 : l ≤ len) (hs : StA I a cap xs) (hl : len = xs.length) :
  OpV P w0 n ⟨dst, .slice t x (some lo) none none, ty, pos, af, gd⟩ F A I (.slice (loA a cap l.toNat s') (xs.drop l.toNat).length (cap - l.toNat)) := by
 intro tt w hf hst
 have hle := hs.le
 have hlen : (xs.drop l.toNat).length = len - l.toNat := by rw [List.length_drop]; omega
 rw [hlen]
 simp [execOp, hf.eval hx, hf.eval hh, Instr.sliceAt, Instr.slice, run_und (P := P) (t := t), Instr.sliceBounds, Instr.sliceBound, asIntOf, h0, h1, run_size (P := P) (t := e), loA]
theorem StA.lo {α : Type} [Enc α] {xs : List α} (hs : StA I a cap xs) {l s : Nat} (h1 : l ≤ xs.length) (hz : Enc.sz α = s) : StA I (loA a cap l s) (cap - l) (xs.drop l) := by
 have hle := hs.le
 have hlen : (xs.drop l).length = xs.length - l := by rw [List.length_drop]
 refine ⟨?_, by rw [hlen]; omega⟩
 unfold loA
 split
 ·left
  exact List.drop_of_length_le (by omega)
 ·rcases hs.sl with rfl | ⟨b, off, rfl, cs, T, fz, hm, hc⟩
  ·exact .inl (by simp)
  ·refine .inr ⟨b, off + l * s, by simp [add_pt], cs, T, fz, hm, fun j v hj => ?_⟩
   rw [encs_drop xs (by omega), hz] at hj
   rw [Nat.add_assoc]
   exact hc _ _ hj
/-- A slice that is nil has no elements. -/
theorem tri_rowSome {α : Type} [Enc α] {xs : List α} {K : Act → World → Prop} (hz : Nat.beq (Enc.sz α) 0 = false) (h : (a = none → xs = []) → Tri w0 n F (Row a cap len E (Enc.sz α) (encs xs) :: A) I K) : Tri w0 n F (Row a cap len E (Enc.sz α) (encs xs) :: A) I K := by
 intro t w hf hs
 have h2 := hs
 obtain ⟨cs, h1, _⟩ := hs
 obtain ⟨c, cs', rfl, ⟨hl, ha⟩, hr⟩ := h1.cons_inv
 refine h (fun e => ?_) t w hf h2
 rcases ha with ⟨_, _, h3, _⟩ | ⟨b, cur, h3, _⟩
 ·rw [encs_length, h3, Nat.zero_mul] at hl
  rcases Nat.mul_eq_zero.1 hl with h4 | h4
  ·exact List.length_eq_zero_iff.1 h4
  ·rw [h4] at hz; cases hz
 ·rw [e] at h3; cases h3
end
end Go.GL

set_option linter.unusedVariables false
namespace Go.GL
open Go.Proofs
attribute [local irreducible] wpList Code.wp Exit.then Exit.inBlock Ends Tri TriH OpV OpG FnC epf wpAnyH
variable {A : List Asrt} {I : List Chunk}
set_option maxRecDepth 100000 in
theorem clone_ints {l : List Int} {a : Option Addr} {cap : Nat} (hs : SlAt I a l) (hn : l.length ≤ 1000000000) (h0 : a = none → l = []) :
  FnC Try.prog 15 [.slice a l.length cap].toArray A I (fun v A' I' => ∃ a' cap', v = .slice a' l.length cap' ∧ A' = Row a' cap' l.length 3 1 (encs l) :: A ∧ I = I') := by
 cases a with
 | none =>
  obtain rfl := h0 rfl
  skip
  refine fn_enter1 Try.func15 rfl Try.ntmps15 rfl fun w0 => ?_
  refine tri_seq ?_
  refine tri_region ?_
  refine tri_v (opv_assign rfl) rfl ?_
  refine tri_nil ?_
  refine tri_then ?_
  refine tri_seq ?_
  refine tri_seq ?_
  refine tri_region ?_
  refine tri_v (opv_move rfl) rfl ?_
  refine tri_v (by first | exact opv_eql rfl rfl | exact opv_eqlI rfl rfl rfl rfl rfl rfl | exact opv_eqlB rfl rfl | exact opv_eqlNil rfl rfl) rfl ?_
  refine tri_nil ?_
  refine tri_then ?_
  refine tri_cond_true (by first | rfl | exact rfl) ?_
  refine tri_seq ?_
  refine tri_region ?_
  refine tri_v (opv_assign rfl) rfl ?_
  refine tri_nil ?_
  refine tri_then ?_
  refine tri_ret ?_
  refine tri_then_ret ?_
  refine tri_nilRow (E := 3) (sz := 1) ?_
  refine tri_end _ (by first | exact ⟨[], rfl⟩ | exact ⟨[_], rfl⟩ | exact ⟨[_, _], rfl⟩ | exact ⟨[_, _, _], rfl⟩ | exact ⟨[_, _, _, _], rfl⟩ | exact ⟨[_, _, _, _, _], rfl⟩ | exact ⟨[_, _, _, _, _, _], rfl⟩ | exact ⟨[_, _, _, _, _, _, _], rfl⟩ | exact ⟨[_, _, _, _, _, _, _, _], rfl⟩) rfl (.cons (rv_tmp rfl) .nil) ⟨none, 0, rfl, rfl, rfl⟩
 | some ad =>
  refine fn_enter1 Try.func15 rfl Try.ntmps15 rfl fun w0 => ?_
  refine tri_seq ?_
  refine tri_region ?_
  refine tri_v (opv_assign rfl) rfl ?_
  refine tri_nil ?_
  refine tri_then ?_
  refine tri_seq ?_
  refine tri_seq ?_
  refine tri_region ?_
  refine tri_v (opv_move rfl) rfl ?_
  refine tri_v (by first | exact opv_eql rfl rfl | exact opv_eqlI rfl rfl rfl rfl rfl rfl | exact opv_eqlB rfl rfl | exact opv_eqlNil rfl rfl) rfl ?_
  refine tri_nil ?_
  refine tri_then ?_
  refine tri_cond_false (by first | rfl | exact rfl) ?_
  refine tri_skip ?_
  refine tri_then ?_
  refine tri_seq ?_
  refine tri_region ?_
  refine tri_g (opg_buildSlice rfl rfl rfl rfl) rfl ?_
  rintro _ _ _ ⟨b5, rfl, rfl, rfl⟩
  refine tri_v (opv_move rfl) rfl ?_
  refine tri_boxRow (k := 0) (sz := 1) rfl ?_
  refine tri_g (opg_appendS rfl rfl hs rfl rfl (by omega) rfl) rfl ?_
  rintro _ _ _ ⟨a2, cap2, rfl, rfl, rfl⟩
  refine tri_v (opv_assign rfl) rfl ?_
  refine tri_nil ?_
  refine tri_then ?_
  refine tri_ret ?_
  refine tri_rowEq (len' := l.length) (cells' := encs l) (by omega) rfl ?_
  refine tri_end _ (by first | exact ⟨[], rfl⟩ | exact ⟨[_], rfl⟩ | exact ⟨[_, _], rfl⟩ | exact ⟨[_, _, _], rfl⟩ | exact ⟨[_, _, _, _], rfl⟩ | exact ⟨[_, _, _, _, _], rfl⟩ | exact ⟨[_, _, _, _, _, _], rfl⟩ | exact ⟨[_, _, _, _, _, _, _], rfl⟩ | exact ⟨[_, _, _, _, _, _, _, _], rfl⟩) rfl (.cons (rv_tmp rfl) .nil) ⟨a2, cap2, ?_, rfl, rfl⟩
  rw [Nat.zero_add]; rfl
set_option maxRecDepth 100000 in
theorem pick_turns {a a2 : Option Addr} {len cap len2 cap2 : Nat} :
  FnC Try.prog 14 [.slice a len cap, .slice a2 len2 cap2].toArray A I (fun v A' I' => ∃ b2 b3, v = .func (.func 19) #[] #[pt b2 0, pt b3 0] ∧ A' = Box b3 [.slice a2 len2 cap2] 22 :: Box b2 [.slice a len cap] 22 :: A ∧ I = I') := by
 skip
 refine fn_enter2 Try.func14 rfl Try.ntmps14 rfl fun w0 => ?_
 refine tri_seq ?_
 refine tri_region ?_
 first | refine tri_g (opg_box_agg rfl) rfl ?_ | refine tri_g (opg_box1 rfl rfl) rfl ?_
 rintro _ _ _ ⟨b2, rfl, rfl, rfl⟩
 first | refine tri_g (opg_box_agg rfl) rfl ?_ | refine tri_g (opg_box1 rfl rfl) rfl ?_
 rintro _ _ _ ⟨b3, rfl, rfl, rfl⟩
 refine tri_v (opv_assign rfl) rfl ?_
 refine tri_nil ?_
 refine tri_then ?_
 refine tri_seq ?_
 refine tri_region ?_
 refine tri_v (opv_makeFunc (fs := []) (cs := [_, _]) (vf := []) (vc := [_, _]) rfl rfl) rfl ?_
 refine tri_v (opv_assign rfl) rfl ?_
 refine tri_nil ?_
 refine tri_then ?_
 refine tri_ret ?_
 refine tri_end _ (by first | exact ⟨[], rfl⟩ | exact ⟨[_], rfl⟩ | exact ⟨[_, _], rfl⟩ | exact ⟨[_, _, _], rfl⟩ | exact ⟨[_, _, _, _], rfl⟩ | exact ⟨[_, _, _, _, _], rfl⟩ | exact ⟨[_, _, _, _, _, _], rfl⟩ | exact ⟨[_, _, _, _, _, _, _], rfl⟩ | exact ⟨[_, _, _, _, _, _, _, _], rfl⟩) rfl (.cons (rv_tmp rfl) .nil) ⟨b2, b3, rfl, rfl, rfl⟩
/-- Numbers that may be one less. -/
def Ub (l : List Int) : Prop := ∀ x ∈ l, x ≤ 9223372036854775807
theorem Ub.dec {l : List Int} (h : Ub l) {i : Int} (hi : 0 ≤ i ∧ i < l.length ∧ 0 < l.getD i.toNat default) : Ub (R11.dec l i) := fun x hx => by
 unfold R11.dec at hx
 rcases List.mem_or_eq_of_mem_set hx with hx | rfl
 ·exact h x hx
 ·have := h _ (R11.getD_mem (l := l) (i := i.toNat) (by omega))
  omega
end Go.GL
namespace Go.GL.Rd
open Go.Proofs
attribute [local irreducible] wpListIn Code.wpIn Exit.then Exit.inBlock Ends Tri OpV OpG FnC epf XN RoundC Go.GL.Ends
variable {A : List Asrt} {I : List Chunk}
theorem tri_mid4 {w0 : World} {n : Nat} {F : Frm} {p x1 x2 x3 x4 : Asrt} {L : List Asrt} {K : Act → World → Prop} (h : Tri w0 n F (p :: (L ++ x1 :: x2 :: x3 :: x4 :: A)) I K) : Tri w0 n F (p :: x1 :: x2 :: x3 :: x4 :: (L ++ A)) I K :=
 tri_perm (B := p :: (L ++ x1 :: x2 :: x3 :: x4 :: A)) (List.Perm.cons _ (List.perm_append_comm_assoc [x1, x2, x3, x4] L A)) h
theorem tri_mid4' {w0 : World} {n : Nat} {F : Frm} {p x1 x2 x3 x4 : Asrt} {L : List Asrt} {K : Act → World → Prop} (h : Tri w0 n F (p :: x1 :: x2 :: x3 :: x4 :: (L ++ A)) I K) : Tri w0 n F (p :: (L ++ x1 :: x2 :: x3 :: x4 :: A)) I K :=
 tri_perm (B := p :: x1 :: x2 :: x3 :: x4 :: (L ++ A)) (List.Perm.cons _ (List.perm_append_comm_assoc L [x1, x2, x3, x4] A)) h
/-- A round of Turns: it puts a worker behind the others. -/
def TurnRound (l : Nat) (lp : Loop) (S : List Int → List Asrt → Prop) : Prop :=
 (∀ (acc : List Int) (L M : List Asrt) (J : List Chunk) (i : Int), S acc L → acc.length < 100000 → RoundC Try.prog l lp [.int .i64 (acc.length : Nat), .int .i64 i] (L ++ M) J (fun v A' I' => v = .bool true ∧ ∃ L', S (acc ++ [i]) L' ∧ A' = Pt l (.loop lp) :: (L' ++ M) ∧ J = I')) ∧
 ∀ (acc : List Int) (L M : List Asrt) (J : List Chunk) (i : Int), S acc L → acc.length = 100000 → RoundC Try.prog l lp [.int .i64 (acc.length : Nat), .int .i64 i] (L ++ M) J (fun v A' I' => v = .bool false ∧ A' = Pt l (.loop { lp with state := .done, pending := some (.exit 0) }) :: (L ++ M) ∧ J = I')
set_option maxHeartbeats 1000000 in
set_option maxRecDepth 100000 in
theorem pick_turns1 {S : List Int → List Asrt → Prop} {picks left : List Int} {a a2 : Option Addr} {cap cap2 l b b2 b3 : Nat} {E T T' : TypeId} {fnn : FuncId} {tm : Array Value} {ps : Array Tmp} {sg bd : Code} {df : Nat} {L0 : List Asrt} (hs : SlAt I a picks) (hp : Is picks) (hn : left.length ≤ 1000000) (hub : Ub left)
  (hps : 2 = ps.size) (hround : TurnRound l ⟨.ready, none, fnn, tm, ps, sg, bd, df⟩ S) (hS0 : S [] L0) :
  FnC Try.prog 19 [.func (.yield l) #[] #[], pt b2 0, pt b3 0].toArray (Pt l (.loop ⟨.ready, none, fnn, tm, ps, sg, bd, df⟩) :: Pt b (.deferred (some [])) :: Box b3 [.slice a2 left.length cap2] T :: Box b2 [.slice a picks.length cap] T' :: Row a2 cap2 left.length E 1 (encs left) :: (L0 ++ A)) I
   (RangeR l b fun j A' I' => (j = none ∨ j = some (.exit 0)) ∧ ∃ (L' : List Asrt) (left' : List Int), S (R11.turns picks left) L' ∧ A' = Box b3 [.slice a2 left.length cap2] T :: Box b2 [.slice a picks.length cap] T' :: Row a2 cap2 left.length E 1 (encs left') :: (L' ++ A) ∧ I ⊆ I') := by
 obtain ⟨hr1, hr2⟩ := hround
 skip
 refine fn_enter3 Try.func19 rfl Try.ntmps19 rfl fun w0 => ?_
 refine tri_seq ?_
 refine tri_region ?_
 refine tri_v (opv_assign rfl) rfl ?_
 refine tri_v (opv_assign rfl) rfl ?_
 refine tri_nil ?_
 refine tri_then ?_
 refine tri_block ?_
 refine tri_sub (F' := [(0, .func (.yield l) #[] #[]), (1, pt b2 0), (2, pt b3 0), (4, .int .i64 (0 : Nat)), (5, .int .i64 (-1))]) ⟨rfl, rfl, rfl, rfl, rfl, trivial⟩ ?_
 refine loop_ind (G := List Int × List Int × Int × List Asrt × List Chunk) (fun g => 100001 - g.1.length) (fun g => g.1.length ≤ 100000 ∧ g.1 ++ R11.turnsF picks (100000 - g.1.length) g.1.length g.2.1 g.2.2.1 = R11.turns picks left ∧ g.2.1.length = left.length ∧ Ub g.2.1 ∧ S g.1 g.2.2.2.1 ∧ I ⊆ g.2.2.2.2) (fun g => [(0, .func (.yield l) #[] #[]), (1, pt b2 0), (2, pt b3 0), (4, .int .i64 (g.1.length : Nat)), (5, .int .i64 g.2.2.1)])
  (fun g => Pt l (.loop ⟨.ready, none, fnn, tm, ps, sg, bd, df⟩) :: Pt b (.deferred (some [])) :: Box b3 [.slice a2 left.length cap2] T :: Box b2 [.slice a picks.length cap] T' :: Row a2 cap2 left.length E 1 (encs g.2.1) :: (g.2.2.2.1 ++ A)) (fun g => g.2.2.2.2) ?_ ([], left, -1, L0, I) ⟨by simp, rfl, rfl, hub, hS0, fun _ h => h⟩
 rintro ⟨acc, now, last, L, J⟩ ⟨hk, hrun, hlen, hub2, hS, hJ⟩ K hK
 simp only at hk hrun hlen hub2 hS hJ hK ⊢
 have hn2 : now.length ≤ 1000000 := by omega
 rw [← hlen] at hK ⊢
 generalize hnx : R11.next picks (acc.length : Nat) now last = nx
 skip
 refine tri_seq ?_
 refine tri_block ?_
 refine tri_seq ?_
 refine tri_region ?_
 refine tri_v (by first | exact opv_load1 rfl rfl rfl | exact opv_loadA rfl rfl rfl | exact opv_loadE1 rfl (by assumption) rfl (by omega) rfl rfl | exact opv_loadEA rfl (by assumption) rfl (by omega) rfl rfl | exact opv_loadRX1 rfl rfl (by omega) rfl rfl | exact opv_loadRXA rfl rfl (by omega) rfl rfl rfl | exact opv_loadIX rfl rfl (by omega) | exact opv_loadR1 rfl rfl rfl | exact opv_loadRA rfl rfl rfl rfl) rfl ?_
 refine tri_v (opv_move rfl) rfl ?_
 refine tri_v (by first | exact opv_load1 rfl rfl rfl | exact opv_loadA rfl rfl rfl | exact opv_loadE1 rfl (by assumption) rfl (by omega) rfl rfl | exact opv_loadEA rfl (by assumption) rfl (by omega) rfl rfl | exact opv_loadRX1 rfl rfl (by omega) rfl rfl | exact opv_loadRXA rfl rfl (by omega) rfl rfl rfl | exact opv_loadIX rfl rfl (by omega) | exact opv_loadR1 rfl rfl rfl | exact opv_loadRA rfl rfl rfl rfl) rfl ?_
 refine tri_v (opv_move rfl) rfl ?_
 refine tri_perm (A := ?a1_0 :: ?a1_1 :: ?a1_2 :: ?a1_3 :: ?a1_4 :: ?T1) (B := ?a1_4 :: ?a1_0 :: ?a1_1 :: ?a1_2 :: ?a1_3 :: ?T1) (by exact permL [4, 0, 1, 2, 3] [?a1_0, ?a1_1, ?a1_2, ?a1_3, ?a1_4] ?T1 (by decide) rfl) ?_
 refine tri_g (opg_call (xs := [_, _, _, _]) rfl (pick_next (left := now) (hs.mono hJ) hp hn2)) rfl ?_
 rintro _ _ J2 ⟨rfl, rfl, hJ2⟩
 rw [hnx]
 refine tri_v (opv_assign rfl) rfl ?_
 refine tri_nil ?_
 refine tri_then ?_
 refine tri_seq ?_
 refine tri_seq ?_
 refine tri_region ?_
 refine tri_v (opv_move rfl) rfl ?_
 refine tri_v (opv_lss rfl rfl) rfl ?_
 refine tri_v (opv_move rfl) rfl ?_
 refine tri_split rfl rfl (fun hz => ?_) (fun hz => ?_)
 ·refine tri_guard_skip rfl rfl rfl rfl ?_
  refine tri_guard_skip rfl rfl rfl rfl ?_
  refine tri_guard_skip rfl rfl rfl rfl ?_
  refine tri_guard_skip rfl rfl rfl rfl ?_
  refine tri_guard_skip rfl rfl rfl rfl ?_
  refine tri_v (by first | exact opv_pick_t rfl rfl | exact opv_pick_f rfl rfl | exact opv_pick_bool rfl rfl rfl | exact opv_pick rfl rfl rfl) rfl ?_
  refine tri_nil ?_
  refine tri_then ?_
  refine tri_cond_true rfl ?_
  refine tri_ret ?_
  refine tri_then_ret ?_
  refine tri_inBlock_ret ?_
  refine tri_then_ret ?_
  refine tri_then_ret ?_
  refine tri_inBlock_ret ?_
  refine tri_perm (A := ?a2_0 :: ?a2_1 :: ?a2_2 :: ?a2_3 :: ?a2_4 :: ?T2) (B := ?a2_1 :: ?a2_2 :: ?a2_3 :: ?a2_4 :: ?a2_0 :: ?T2) (by exact permL [1, 2, 3, 4, 0] [?a2_0, ?a2_1, ?a2_2, ?a2_3, ?a2_4] ?T2 (by decide) rfl) ?_
  refine tri_end _ ⟨[], rfl⟩ rfl .nil ⟨_, _, rfl, (by intro h; cases h), .inl rfl, L, now, ?_, rfl, fun _ h => hJ2 (hJ h)⟩
  rw [← hrun]
  have : R11.turnsF picks (100000 - acc.length) acc.length now last = [] := by
   cases 100000 - acc.length with
   | zero => rfl
   | succ f => unfold R11.turnsF; rw [hnx, if_pos hz]
  rw [this, List.append_nil]
  exact hS
 refine tri_guard_run rfl rfl rfl ?_
 refine tri_v (opv_move rfl) rfl ?_
 refine tri_guard_run rfl rfl rfl ?_
 refine tri_v (opv_move rfl) rfl ?_
 refine tri_guard_run rfl rfl rfl ?_
 refine tri_v (opv_move rfl) rfl ?_
 have hok := R11.next_ok (hnx ▸ hz)
 rw [hnx] at hok
 refine tri_perm (A := ?a3_0 :: ?a3_1 :: ?a3_2 :: ?a3_3 :: ?a3_4 :: ?T3) (B := ?a3_1 :: ?a3_2 :: ?a3_3 :: ?a3_4 :: ?a3_0 :: ?T3) (by exact permL [1, 2, 3, 4, 0] [?a3_0, ?a3_1, ?a3_2, ?a3_3, ?a3_4] ?T3 (by decide) rfl) ?_
 refine tri_mid4 ?_
 by_cases hlast : acc.length = 100000
 ·refine tri_guard_run rfl rfl rfl ?_
  refine tri_yield (xs := [_, _]) rfl rfl (by first | rfl | assumption) (hr2 acc L _ J2 nx hS hlast) rfl ?_
  rintro _ _ _ ⟨rfl, rfl, rfl⟩
  refine tri_mid4' ?_
  refine tri_guard_run rfl rfl rfl ?_
  refine tri_v (by first | exact opv_notD rfl | exact opv_not rfl) rfl ?_
  refine tri_v (by first | exact opv_pick_t rfl rfl | exact opv_pick_f rfl rfl | exact opv_pick_bool rfl rfl rfl | exact opv_pick rfl rfl rfl) rfl ?_
  refine tri_nil ?_
  refine tri_then ?_
  refine tri_cond_true (by first | rfl | exact rfl) ?_
  refine tri_ret ?_
  refine tri_then_ret ?_
  refine tri_inBlock_ret ?_
  refine tri_then_ret ?_
  refine tri_then_ret ?_
  refine tri_inBlock_ret ?_
  refine tri_end _ ⟨[], rfl⟩ rfl .nil ⟨_, _, rfl, (by intro h; cases h), .inr rfl, L, now, ?_, rfl, fun _ h => hJ2 (hJ h)⟩
  rw [← hrun, hlast, show 100000 - 100000 = 0 by omega]
  unfold R11.turnsF
  rw [List.append_nil]
  exact hS
 ·refine tri_guard_run rfl rfl rfl ?_
  refine tri_yield (xs := [_, _]) rfl rfl (by first | rfl | assumption) (hr1 acc L _ J2 nx hS (by omega)) rfl ?_
  rintro _ _ _ ⟨rfl, L', hS', rfl, rfl⟩
  refine tri_mid4' ?_
  refine tri_guard_run rfl rfl rfl ?_
  refine tri_v (by first | exact opv_notD rfl | exact opv_not rfl) rfl ?_
  refine tri_v (by first | exact opv_pick_t rfl rfl | exact opv_pick_f rfl rfl | exact opv_pick_bool rfl rfl rfl | exact opv_pick rfl rfl rfl) rfl ?_
  refine tri_nil ?_
  refine tri_then ?_
  refine tri_cond_false (by first | rfl | exact rfl) ?_
  have hget := hub2 _ (R11.getD_mem (l := now) (i := nx.toNat) (by omega))
  refine tri_skip ?_
  refine tri_then ?_
  refine tri_seq ?_
  refine tri_region ?_
  refine tri_v (by first | exact opv_load1 rfl rfl rfl | exact opv_loadA rfl rfl rfl | exact opv_loadE1 rfl (by assumption) rfl (by omega) rfl rfl | exact opv_loadEA rfl (by assumption) rfl (by omega) rfl rfl | exact opv_loadRX1 rfl rfl (by omega) rfl rfl | exact opv_loadRXA rfl rfl (by omega) rfl rfl rfl | exact opv_loadIX rfl rfl (by omega) | exact opv_loadR1 rfl rfl rfl | exact opv_loadRA rfl rfl rfl rfl) rfl ?_
  refine tri_v (opv_move rfl) rfl ?_
  refine tri_v (by first | exact opv_indexAddrA rfl rfl (by first | decide | omega) (by first | decide | omega) | exact opv_indexAddrSN rfl rfl (by omega) (by assumption) rfl | exact opv_indexAddrS rfl rfl (by omega) (by omega) (by assumption) rfl | exact opv_indexAddrE rfl (by assumption) (by omega) rfl (by first | decide | omega) (by first | decide | omega) | exact opv_indexAddrRN rfl rfl (by omega) | exact opv_indexAddrR rfl rfl (by omega) (by omega) | exact opv_indexAddrRA rfl (by omega) rfl (by first | decide | omega) (by first | decide | omega)) rfl ?_
  refine tri_v (by first | exact opv_load1 rfl rfl rfl | exact opv_loadA rfl rfl rfl | exact opv_loadE1 rfl (by assumption) rfl (by omega) rfl rfl | exact opv_loadEA rfl (by assumption) rfl (by omega) rfl rfl | exact opv_loadRX1 rfl rfl (by omega) rfl rfl | exact opv_loadRXA rfl rfl (by omega) rfl rfl rfl | exact opv_loadIX rfl rfl (by omega) | exact opv_loadR1 rfl rfl rfl | exact opv_loadRA rfl rfl rfl rfl) rfl ?_
  refine tri_v (by first | exact opv_sub rfl rfl (w64 (by omega) (by omega)) | exact opv_sub rfl rfl rfl) rfl ?_
  refine tri_v (by first | exact opv_indexAddrA rfl rfl (by first | decide | omega) (by first | decide | omega) | exact opv_indexAddrSN rfl rfl (by omega) (by assumption) rfl | exact opv_indexAddrS rfl rfl (by omega) (by omega) (by assumption) rfl | exact opv_indexAddrE rfl (by assumption) (by omega) rfl (by first | decide | omega) (by first | decide | omega) | exact opv_indexAddrRN rfl rfl (by omega) | exact opv_indexAddrR rfl rfl (by omega) (by omega) | exact opv_indexAddrRA rfl (by omega) rfl (by first | decide | omega) (by first | decide | omega)) rfl ?_
  refine tri_g (opg_storeRX (now.getD nx.toNat default - 1) rfl rfl rfl (by omega) rfl rfl rfl rfl rfl) rfl ?_
  rintro _ _ _ ⟨rfl, rfl⟩
  refine tri_nil ?_
  refine tri_then ?_
  refine tri_region ?_
  refine tri_v (opv_move rfl) rfl ?_
  refine tri_v (opv_assign rfl) rfl ?_
  refine tri_nil ?_
  refine tri_inBlock ?_
  refine tri_then ?_
  refine tri_region ?_
  refine tri_v (opv_move rfl) rfl ?_
  refine tri_v (by first | exact opv_add rfl rfl (w64 (by omega) (by omega))) rfl ?_
  refine tri_v (opv_assign rfl) rfl ?_
  refine tri_nil ?_
  refine tri_then ?_
  have hdl := R11.dec_len now nx
  refine tri_sub ?_ (hK (acc ++ [nx], R11.dec now nx, nx, L', J2) ⟨by simp only [List.length_append, List.length_singleton]; omega, ?_, by simp only [hdl], hub2.dec hok, hS', fun _ h => hJ2 (hJ h)⟩ (by simp only [List.length_append, List.length_singleton]; omega))
  ·exact ⟨rfl, rfl, rfl, by simp only [List.length_append, List.length_singleton]; rfl, rfl, trivial⟩
  ·rw [← hrun]
   obtain ⟨f, hf⟩ : ∃ f, 100000 - acc.length = f + 1 := ⟨100000 - acc.length - 1, by omega⟩
   simp only [List.length_append, List.length_singleton]
   rw [hf, show 100000 - (acc.length + 1) = f by omega]
   conv => rhs; unfold R11.turnsF
   rw [hnx, if_neg hz, List.append_assoc]
   rfl
/-- The turns so far. -/
def OutS (b : Nat) (T E : TypeId) (acc : List Int) (L : List Asrt) : Prop := ∃ a1 c1, L = [Box b [.slice a1 acc.length c1] T, Row a1 c1 acc.length E 1 (encs acc)]
set_option maxHeartbeats 1000000 in
set_option maxRecDepth 100000 in
theorem pick_Turns {picks left : List Int} {a a2 : Option Addr} {cap cap2 : Nat} (hs : SlAt I a picks) (hp : Is picks) (hs2 : SlAt I a2 left) (h0 : a2 = none → left = []) (hn : left.length ≤ 1000000) (hub : Ub left) :
  FnC Try.prog 10 [.slice a picks.length cap, .slice a2 left.length cap2].toArray A I (fun v A' I' => ∃ a' cap', v = .slice a' (R11.turns picks left).length cap' ∧ SlAt I' a' (R11.turns picks left) ∧ A = A' ∧ I ⊆ I') := by
 skip
 refine fn_enter2 Try.func10 rfl Try.ntmps10 rfl fun w0 => ?_
 refine tri_seq ?_
 refine tri_region ?_
 refine tri_g opg_alloc rfl ?_
 rintro _ _ _ ⟨b4, rfl, rfl, rfl⟩
 refine tri_nil ?_
 refine tri_then ?_
 refine tri_seq ?_
 refine tri_seq ?_
 refine tri_region ?_
 refine tri_v (opv_move rfl) rfl ?_
 refine tri_v (opv_move rfl) rfl ?_
 refine tri_g (opg_call (xs := [_]) rfl (clone_ints hs2 (by omega) h0)) rfl ?_
 rintro _ _ _ ⟨a3, c3, rfl, rfl, rfl⟩
 skip
 refine tri_g (opg_call (xs := [_, _]) rfl (pick_turns)) rfl ?_
 rintro _ _ _ ⟨b2, b3, rfl, rfl, rfl⟩
 refine tri_nil ?_
 refine tri_then ?_
 refine tri_block ?_
 refine tri_nilRow (E := 3) (sz := 1) ?_
 refine tri_perm (A := ?a4_0 :: ?a4_1 :: ?a4_2 :: ?a4_3 :: ?a4_4 :: ?T4) (B := ?a4_1 :: ?a4_2 :: ?a4_3 :: ?a4_4 :: ?a4_0 :: ?T4) (by exact permL [1, 2, 3, 4, 0] [?a4_0, ?a4_1, ?a4_2, ?a4_3, ?a4_4] ?T4 (by decide) rfl) ?_
 skip
 refine tri_range (f := 19) (fun j A' I' => (j = none ∨ j = some (.exit 0)) ∧ ∃ (L' : List Asrt) (left' : List Int), OutS b4 22 3 (R11.turns picks left) L' ∧ A' = Box b3 [.slice a3 left.length c3] 22 :: Box b2 [.slice a picks.length cap] 22 :: Row a3 c3 left.length 3 1 (encs left') :: (L' ++ A) ∧ I ⊆ I') rfl (fun l b fnn tm df hfr => ?_) (fun j A' I' h => ?_) (fun l b lp A' I' h => ?_) (fun l b lp id A' I' h => ?_)
 ·refine pick_turns1 (L0 := [Box b4 [.slice none 0 0] 22, Row none 0 0 3 1 []]) hs hp hn hub rfl ⟨?_, ?_⟩ ⟨none, 0, rfl⟩
  ·rintro acc _ M J i ⟨a1, c1, rfl⟩ hlt
   refine round_enter (ps := [11, 12]) (F := [(4, pt b4 0)]) (fun F' A' I' => F' = [(4, pt b4 0), (5, .int .i64 (acc.length : Nat)), (6, .int .i64 i)] ∧ A' = Box b4 [.slice a1 acc.length c1] 22 :: Row a1 c1 acc.length 3 1 (encs acc) :: M ∧ J = I') rfl rfl rfl (hfr.sub ⟨rfl, trivial⟩) (fun w1 => ?_) ?_
   ·skip
    refine tri_seq ?_
    refine tri_region ?_
    refine tri_v (opv_assign rfl) rfl ?_
    refine tri_nil ?_
    refine tri_then ?_
    refine tri_region ?_
    refine tri_v (opv_assign rfl) rfl ?_
    refine tri_nil ?_
    exact tri_cutEnd _ ⟨_, rfl, rfl, rfl, rfl⟩ ⟨rfl, rfl, rfl, trivial⟩
   ·rintro w1 _ _ _ ⟨rfl, rfl, rfl⟩
    skip
    refine tri_block ?_
    refine tri_seq ?_
    refine tri_seq ?_
    refine tri_region ?_
    refine tri_v (opv_move rfl) rfl ?_
    refine tri_v (by first | exact opv_eql rfl rfl | exact opv_eqlI rfl rfl rfl rfl rfl rfl | exact opv_eqlB rfl rfl | exact opv_eqlNil rfl rfl) rfl ?_
    refine tri_nil ?_
    refine tri_then ?_
    refine tri_cond_not rfl ((by omega)) ?_
    refine tri_skip ?_
    refine tri_then ?_
    refine tri_region ?_
    refine tri_v (by first | exact opv_load1 rfl rfl rfl | exact opv_loadA rfl rfl rfl | exact opv_loadE1 rfl (by assumption) rfl (by omega) rfl rfl | exact opv_loadEA rfl (by assumption) rfl (by omega) rfl rfl | exact opv_loadRX1 rfl rfl (by omega) rfl rfl | exact opv_loadRXA rfl rfl (by omega) rfl rfl rfl | exact opv_loadIX rfl rfl (by omega) | exact opv_loadR1 rfl rfl rfl | exact opv_loadRA rfl rfl rfl rfl) rfl ?_
    refine tri_v (opv_move rfl) rfl ?_
    refine tri_g (opg_buildSlice rfl rfl rfl rfl) rfl ?_
    rintro _ _ _ ⟨b17, rfl, rfl, rfl⟩
    refine tri_g (opg_appendB rfl rfl rfl rfl (by omega) rfl) rfl ?_
    rintro _ _ _ ⟨a4, c4, rfl, rfl, rfl⟩
    refine tri_g (opg_store rfl rfl rfl rfl rfl rfl) rfl ?_
    rintro _ _ _ ⟨rfl, rfl⟩
    refine tri_nil ?_
    refine tri_inBlock ?_
    refine tri_drop ?_
    refine tri_perm (A := ?a5_0 :: ?a5_1 :: ?a5_2 :: ?T5) (B := ?a5_2 :: ?a5_0 :: ?a5_1 :: ?T5) (by exact permL [2, 0, 1] [?a5_0, ?a5_1, ?a5_2] ?T5 (by decide) rfl) ?_
    refine tri_rowEq (len' := (acc ++ [i]).length) (cells' := encs (acc ++ [i])) (by simp) (by rw [encs_append]; rfl) ?_
    refine tri_perm (A := ?a6_0 :: ?a6_1 :: ?a6_2 :: ?T6) (B := ?a6_1 :: ?a6_2 :: ?a6_0 :: ?T6) (by exact permL [1, 2, 0] [?a6_0, ?a6_1, ?a6_2] ?T6 (by decide) rfl) ?_
    refine round_normal ⟨rfl, _, ⟨a4, c4, rfl⟩, ?_, rfl⟩
    simp only [List.length_append]
    rfl
  ·rintro acc _ M J i ⟨a1, c1, rfl⟩ hlt
   refine round_enter (ps := [11, 12]) (F := [(4, pt b4 0)]) (fun F' A' I' => F' = [(4, pt b4 0), (5, .int .i64 (acc.length : Nat)), (6, .int .i64 i)] ∧ A' = Box b4 [.slice a1 acc.length c1] 22 :: Row a1 c1 acc.length 3 1 (encs acc) :: M ∧ J = I') rfl rfl rfl (hfr.sub ⟨rfl, trivial⟩) (fun w1 => ?_) ?_
   ·skip
    refine tri_seq ?_
    refine tri_region ?_
    refine tri_v (opv_assign rfl) rfl ?_
    refine tri_nil ?_
    refine tri_then ?_
    refine tri_region ?_
    refine tri_v (opv_assign rfl) rfl ?_
    refine tri_nil ?_
    exact tri_cutEnd _ ⟨_, rfl, rfl, rfl, rfl⟩ ⟨rfl, rfl, rfl, trivial⟩
   ·rintro w1 _ _ _ ⟨rfl, rfl, rfl⟩
    skip
    refine tri_block ?_
    refine tri_seq ?_
    refine tri_seq ?_
    refine tri_region ?_
    refine tri_v (opv_move rfl) rfl ?_
    refine tri_v (by first | exact opv_eql rfl rfl | exact opv_eqlI rfl rfl rfl rfl rfl rfl | exact opv_eqlB rfl rfl | exact opv_eqlNil rfl rfl) rfl ?_
    refine tri_nil ?_
    refine tri_then ?_
    refine tri_cond_is rfl ((by omega)) ?_
    refine tri_exit ?_
    refine tri_then_exit ?_
    refine tri_inBlock_miss rfl ?_
    exact round_exit ⟨rfl, rfl, rfl⟩
 ·rcases h.1 with h | h
  ·exact .inl h
  ·exact .inr ⟨0, h⟩
 ·obtain ⟨_, L', left', ⟨a1, c1, rfl⟩, rfl, hI'⟩ := h
  skip
  refine tri_perm (A := ?a7_0 :: ?a7_1 :: ?a7_2 :: ?a7_3 :: ?a7_4 :: ?a7_5 :: ?a7_6 :: ?T7) (B := ?a7_6 :: ?a7_1 :: ?a7_0 :: ?a7_2 :: ?a7_3 :: ?a7_4 :: ?a7_5 :: ?T7) (by exact permL [6, 1, 0, 2, 3, 4, 5] [?a7_0, ?a7_1, ?a7_2, ?a7_3, ?a7_4, ?a7_5, ?a7_6] ?T7 (by decide) rfl) ?_
  refine tri_freezeRow (α := Int) rfl fun I1 hI1 hsa => ?_
  refine tri_inBlock ?_
  refine tri_then ?_
  refine tri_seq ?_
  refine tri_region ?_
  refine tri_v (by first | exact opv_load1 rfl rfl rfl | exact opv_loadA rfl rfl rfl | exact opv_loadE1 rfl (by assumption) rfl (by omega) rfl rfl | exact opv_loadEA rfl (by assumption) rfl (by omega) rfl rfl | exact opv_loadRX1 rfl rfl (by omega) rfl rfl | exact opv_loadRXA rfl rfl (by omega) rfl rfl rfl | exact opv_loadIX rfl rfl (by omega) | exact opv_loadR1 rfl rfl rfl | exact opv_loadRA rfl rfl rfl rfl) rfl ?_
  refine tri_g (opg_store rfl rfl rfl rfl rfl rfl) rfl ?_
  rintro _ _ _ ⟨rfl, rfl⟩
  refine tri_nil ?_
  refine tri_then ?_
  refine tri_ret ?_
  refine tri_endM A ⟨[_, _, _, _, _], rfl⟩ rfl (.cons (rv_cell1 rfl rfl rfl) .nil) ⟨a1, c1, rfl, hsa, rfl, fun _ h => hI1 (hI' h)⟩
 ·obtain ⟨hid, L', left', ⟨a1, c1, rfl⟩, rfl, hI'⟩ := h
  obtain rfl : id = 0 := by rcases hid with h | h <;> cases h; rfl
  skip
  refine tri_perm (A := ?a8_0 :: ?a8_1 :: ?a8_2 :: ?a8_3 :: ?a8_4 :: ?a8_5 :: ?a8_6 :: ?T8) (B := ?a8_6 :: ?a8_1 :: ?a8_0 :: ?a8_2 :: ?a8_3 :: ?a8_4 :: ?a8_5 :: ?T8) (by exact permL [6, 1, 0, 2, 3, 4, 5] [?a8_0, ?a8_1, ?a8_2, ?a8_3, ?a8_4, ?a8_5, ?a8_6] ?T8 (by decide) rfl) ?_
  refine tri_freezeRow (α := Int) rfl fun I1 hI1 hsa => ?_
  refine tri_inBlock_hit rfl ?_
  refine tri_then ?_
  refine tri_seq ?_
  refine tri_region ?_
  refine tri_v (by first | exact opv_load1 rfl rfl rfl | exact opv_loadA rfl rfl rfl | exact opv_loadE1 rfl (by assumption) rfl (by omega) rfl rfl | exact opv_loadEA rfl (by assumption) rfl (by omega) rfl rfl | exact opv_loadRX1 rfl rfl (by omega) rfl rfl | exact opv_loadRXA rfl rfl (by omega) rfl rfl rfl | exact opv_loadIX rfl rfl (by omega) | exact opv_loadR1 rfl rfl rfl | exact opv_loadRA rfl rfl rfl rfl) rfl ?_
  refine tri_g (opg_store rfl rfl rfl rfl rfl rfl) rfl ?_
  rintro _ _ _ ⟨rfl, rfl⟩
  refine tri_nil ?_
  refine tri_then ?_
  refine tri_ret ?_
  refine tri_endM A ⟨[_, _, _, _, _], rfl⟩ rfl (.cons (rv_cell1 rfl rfl rfl) .nil) ⟨a1, c1, rfl, hsa, rfl, fun _ h => hI1 (hI' h)⟩
end Go.GL.Rd

set_option linter.unusedVariables false
namespace Go.GL
open Go.Proofs
attribute [local irreducible] wpList Code.wp Exit.then Exit.inBlock Ends Tri TriH OpV OpG FnC epf wpAnyH
variable {A : List Asrt} {I : List Chunk}
namespace RL
/-- At most ten workers' steps. -/
def left11 (raw : List Int) : List Int := (raw.take 10).map fun c => pk c 8
theorem left11_bd {raw : List Int} : ∀ x ∈ left11 raw, 0 ≤ x ∧ x < 8 := fun x hx => by
 obtain ⟨c, _, rfl⟩ := List.mem_map.1 hx
 exact pk_bd (by omega)
theorem left11_len (raw : List Int) : (left11 raw).length ≤ 10 := by
 unfold left11
 rw [List.length_map, List.length_take]
 omega
theorem tot_le {n : Nat} : ∀ {l : List Int}, (∀ x ∈ l, 0 ≤ x ∧ x < (n : Int) + 1) → R11.tot l ≤ l.length * n
 | [], _ => by simp [R11.tot]
 | x :: l, h => by
  have := tot_le (n := n) (l := l) fun y hy => h y (by simp [hy])
  have := h x (by simp)
  simp only [R11.tot, List.map_cons, List.sum_cons, List.length_cons] at *
  rw [Nat.succ_mul]
  omega
theorem left11_tot (raw : List Int) : R11.tot (left11 raw) ≤ 70 := by
 have h1 := tot_le (n := 7) (l := left11 raw) fun x hx => by have := left11_bd x hx; omega
 have h2 := left11_len raw
 omega
theorem left11_nn (raw : List Int) : R11.Nn (left11 raw) := fun x hx => (left11_bd x hx).1
theorem left11_ub (raw : List Int) : Ub (left11 raw) := fun x hx => by have := left11_bd x hx; omega
end RL
set_option maxRecDepth 100000 in
theorem law11_which {c n : Int} (h : I64 c) (hn : 0 < n) : FnC Try.prog 12 [.int .i64 c, .int .i64 n].toArray A I (fun v A' I' => v = .int .i64 (pk c n) ∧ A = A' ∧ I = I') := by
 obtain ⟨h0, h1⟩ := h
 refine fn_enter2 Try.func12 rfl Try.ntmps12 rfl fun w0 => ?_
 refine tS (tR (tA rfl rfl (tN (tT (tS (tS (tR ?_)))))))
 refine tM rfl rfl ?_
 refine tri_v (opv_lss rfl rfl) rfl ?_
 refine tN (tT ?_)
 refine tri_cond_dec rfl (fun h => ?_) (fun h => ?_)
 ·refine tR (tM rfl rfl ?_)
  refine tri_v (by first | exact opv_add rfl rfl (w64 (by omega) (by omega))) rfl ?_
  refine tri_v (by first | exact opv_negE rfl (by omega) (by omega)) rfl ?_
  refine tA rfl rfl (tN (tT (tS (tR (tM rfl rfl (tM rfl rfl ?_))))))
  refine tri_v (by first | exact opv_remE rfl rfl (by omega) (by omega) | exact opv_rem rfl rfl (by omega) rfl) rfl ?_
  refine tA rfl rfl (tN (tT (tri_ret ?_)))
  refine tri_end A Suf.h rfl (.cons (rv_tmp rfl) .nil) ⟨?_, rfl, rfl⟩
  rw [pk, if_pos h]; rfl
 ·refine tri_skip (tT (tS (tR (tM rfl rfl (tM rfl rfl ?_)))))
  refine tri_v (by first | exact opv_remE rfl rfl (by omega) (by omega) | exact opv_rem rfl rfl (by omega) rfl) rfl ?_
  refine tA rfl rfl (tN (tT (tri_ret ?_)))
  refine tri_end A Suf.h rfl (.cons (rv_tmp rfl) .nil) ⟨?_, rfl, rfl⟩
  rw [pk, if_neg h]; rfl
set_option maxHeartbeats 1000000 in
set_option maxRecDepth 100000 in
theorem law11_left {raw : List Int} {a : Option Addr} {cap : Nat} (hs : SlAt I a raw) (hr : Is raw) :
  FnC Try.prog 9 [.slice a raw.length cap].toArray A I (fun v A' I' => ∃ a' cap', v = .slice a' (RL.left11 raw).length cap' ∧ StA I' a' cap' (RL.left11 raw) ∧ (a' = none → RL.left11 raw = []) ∧ A = A' ∧ I ⊆ I') := by
 refine fn_enter1 Try.func9 rfl Try.ntmps9 rfl fun w0 => ?_
 refine tS (tR (tA rfl rfl (tN (tT (tS (tR (tA rfl rfl ?_)))))))
 refine tN (tT (tS (tS (tR (tA rfl rfl (tN (tT ?_)))))))
 refine tri_block ?_
 refine tri_nilRow (E := 3) (sz := 1) ?_
 refine tri_sub (F' := [(0, .slice a raw.length cap), (3, .slice none 0 0), (4, .int .i64 (0 : Nat))]) ⟨rfl, rfl, rfl, trivial⟩ ?_
 refine loop_ind (G := Nat × Option Addr × Nat) (fun g => 10 - g.1) (fun g => g.1 ≤ raw.length ∧ g.1 ≤ 10) (fun g => [(0, .slice a raw.length cap), (3, .slice g.2.1 ((raw.take g.1).map fun c => pk c 8).length g.2.2), (4, .int .i64 (g.1 : Nat))]) (fun g => Row g.2.1 g.2.2 ((raw.take g.1).map fun c => pk c 8).length 3 1 (encs ((raw.take g.1).map fun c => pk c 8)) :: A) (fun _ => I) ?_ (0, none, 0) ⟨by omega, by omega⟩
 rintro ⟨i, a1, c1⟩ ⟨hi, hi10⟩ K hK
 simp only at hi hi10 hK ⊢
 have hl1 : ((raw.take i).map fun c => pk c 8).length = i := by rw [List.length_map, List.length_take]; omega
 have fin : i = raw.length ∨ i = 10 → RL.left11 raw = (raw.take i).map fun c => pk c 8 := by
  rintro (rfl | rfl)
  ·unfold RL.left11
   rw [List.take_length, List.take_of_length_le (by omega)]
  ·rfl
 skip
 refine tS (tS (tR (tM rfl rfl (tM rfl rfl ?_))))
 refine tri_v (opv_len rfl) rfl ?_
 refine tri_v (opv_lss rfl rfl) rfl ?_
 refine tM rfl rfl ?_
 refine tri_split rfl rfl (fun h => ?_) (fun h => ?_)
 ·refine tri_guard_run rfl rfl rfl (tM rfl rfl (tri_guard_run rfl rfl rfl ?_))
  refine tri_v (opv_lss rfl rfl) rfl ?_
  refine tri_v (by first | exact opv_pick_t rfl rfl | exact opv_pick_f rfl rfl | exact opv_pick_bool rfl rfl rfl | exact opv_pick rfl rfl rfl) rfl ?_
  refine tN (tT ?_)
  refine tri_cond_dec rfl (fun h2 => ?_) (fun h2 => ?_)
  ·have hlt : i < raw.length := by omega
   have hri := hr i hlt
   refine tri_skip (tT (tS (tri_block (tR (tM rfl rfl (tM rfl rfl (tM rfl rfl ?_)))))))
   refine tri_v (by first | exact opv_indexAddrA rfl rfl (by first | decide | omega) (by first | decide | omega) | exact opv_indexAddrSN rfl rfl (by omega) (by assumption) rfl | exact opv_indexAddrS rfl rfl (by omega) (by omega) (by assumption) rfl | exact opv_indexAddrE rfl (by assumption) (by omega) rfl (by first | decide | omega) (by first | decide | omega) | exact opv_indexAddrRN rfl rfl (by omega) | exact opv_indexAddrR rfl rfl (by omega) (by omega) | exact opv_indexAddrRA rfl (by omega) rfl (by first | decide | omega) (by first | decide | omega)) rfl ?_
   refine tri_v (by first | exact opv_load1 rfl rfl rfl | exact opv_loadA rfl rfl rfl | exact opv_loadE1 rfl (by assumption) rfl (by omega) rfl rfl | exact opv_loadEA rfl (by assumption) rfl (by omega) rfl rfl | exact opv_loadRX1 rfl rfl (by omega) rfl rfl | exact opv_loadRXA rfl rfl (by omega) rfl rfl rfl | exact opv_loadIX rfl rfl (by omega) | exact opv_loadR1 rfl rfl rfl | exact opv_loadRA rfl rfl rfl rfl) rfl ?_
   refine tri_g (opg_call (xs := [_, _]) rfl (law11_which (n := 8) hri (by decide))) rfl ?_
   rintro _ _ _ ⟨rfl, rfl, rfl⟩
   refine tri_g (opg_buildSlice rfl rfl rfl rfl) rfl ?_
   rintro _ _ _ ⟨b, rfl, rfl, rfl⟩
   refine tri_g (opg_appendB rfl rfl rfl rfl (by omega) rfl) rfl ?_
   rintro _ _ _ ⟨a3, c3, rfl, rfl, rfl⟩
   refine tA rfl rfl (tN ?_)
   refine tri_inBlock ?_
   refine tT (tR (tM rfl rfl ?_))
   refine tri_v (by first | exact opv_add rfl rfl (w64 (by omega) (by omega))) rfl ?_
   refine tA rfl rfl (tN (tT ?_))
   have e2 : (raw.take (i + 1)).map (fun c => pk c 8) = (raw.take i).map (fun c => pk c 8) ++ [pk (raw.getD i default) 8] := by
    rw [List.take_succ_eq_append_getElem hlt, List.map_append, show raw.getD i default = raw[i] by simp [hlt]]; rfl
   refine tri_drop ?_
   refine tri_rowEq (len' := ((raw.take (i + 1)).map fun c => pk c 8).length) (cells' := encs ((raw.take (i + 1)).map fun c => pk c 8)) (by rw [e2]; simp) (by rw [e2, encs_append]; rfl) ?_
   refine tri_sub ?_ (hK (i + 1, a3, c3) ⟨by simp only; omega, by simp only; omega⟩ (by simp only; omega))
   exact ⟨rfl, by simp only [e2, List.length_append]; rfl, rfl, trivial⟩
  ·rw [← fin (by omega)]
   refine tri_rowSome rfl fun hsm => ?_
   refine tri_freezeRowC (α := Int) rfl fun I1 hI1 hsa => ?_
   refine tri_exit ?_
   refine tri_then_exit ?_
   refine tri_then_exit ?_
   refine tri_inBlock_hit rfl ?_
   refine tT (tS (tR (tM rfl rfl (tA rfl rfl (tN (tT (tri_ret ?_)))))))
   refine tri_end A Suf.h rfl (.cons (rv_tmp rfl) .nil) ⟨a1, c1, rfl, hsa, hsm, rfl, hI1⟩
 ·rw [← fin (by omega)]
  refine tri_rowSome rfl fun hsm => ?_
  refine tri_freezeRowC (α := Int) rfl fun I1 hI1 hsa => ?_
  refine tri_guard_skip rfl rfl rfl rfl (tri_guard_skip rfl rfl rfl rfl ?_)
  refine tri_v (by first | exact opv_pick_t rfl rfl | exact opv_pick_f rfl rfl | exact opv_pick_bool rfl rfl rfl | exact opv_pick rfl rfl rfl) rfl ?_
  refine tN (tT ?_)
  refine tri_cond_false rfl ?_
  refine tri_exit ?_
  refine tri_then_exit ?_
  refine tri_then_exit ?_
  refine tri_inBlock_hit rfl ?_
  refine tT (tS (tR (tM rfl rfl (tA rfl rfl (tN (tT (tri_ret ?_)))))))
  refine tri_end A Suf.h rfl (.cons (rv_tmp rfl) .nil) ⟨a1, c1, rfl, hsa, hsm, rfl, hI1⟩
theorem is_small {l : List Int} (h : (l.all fun x => decide (-1000 ≤ x ∧ x ≤ 1000)) = true) : Is l := fun i hi => by
 have := List.all_eq_true.1 h _ (R11.getD_mem hi)
 have := of_decide_eq_true this
 unfold I64
 omega
theorem ub_small {l : List Int} (h : (l.all fun x => decide (-1000 ≤ x ∧ x ≤ 1000)) = true) : Ub l := fun x hx => by
 have := List.all_eq_true.1 h _ hx
 have := of_decide_eq_true this
 omega
set_option maxHeartbeats 1000000 in
set_option maxRecDepth 100000 in
theorem law11_awake : FnC Try.prog 8 #[] A I (fun v A' I' => v = .bool true ∧ A = A' ∧ I ⊆ I') := by
 have e1 : R11.turns [1, 1] [2, 2] = [1, 1, 0, 0] := by decide +kernel
 have e2 : R11.next [] 0 [0, 3, 0, 1] 1 = 3 := by decide +kernel
 have e3 : R11.next [] 0 [0, 3, 0, 1] 3 = 1 := by decide +kernel
 have e4 : R11.next [-2] 0 [1, 0, 1] 0 = 2 := by decide +kernel
 have e5 : R11.next [] 0 [0, -1] 0 = -1 := by decide +kernel
 skip
 refine fn_enter0 Try.func8 rfl Try.ntmps8 rfl fun w0 => ?_
 refine tS (tR (tA rfl rfl (tN (tT (tS (tR ?_))))))
 refine tri_g (opg_buildSlice rfl rfl rfl rfl) rfl ?_
 rintro _ _ _ ⟨b1, rfl, rfl, rfl⟩
 refine tri_g (opg_buildSlice rfl rfl rfl rfl) rfl ?_
 rintro _ _ _ ⟨b2, rfl, rfl, rfl⟩
 refine tri_freezeBoxS ([2, 2] : List Int) rfl fun I1 hI1 hs1 => ?_
 refine tri_freezeBoxS ([1, 1] : List Int) rfl fun I2 hI2 hs2 => ?_
 refine tri_g (opg_call (xs := [_, _]) rfl (Rd.pick_Turns (picks := [1, 1]) (left := [2, 2]) hs2 (is_small rfl) (hs1.mono hI2) (by intro h; cases h) (by decide) (ub_small rfl))) rfl ?_
 rintro _ _ I3 ⟨a3, c3, rfl, hs3, rfl, hI3⟩
 rw [e1] at hs3 ⊢
 refine tri_g (opg_buildSlice rfl rfl rfl rfl) rfl ?_
 rintro _ _ _ ⟨b4, rfl, rfl, rfl⟩
 refine tri_freezeBoxS ([1, 1, 0, 0] : List Int) rfl fun I4 hI4 hs4 => ?_
 refine tri_g (opg_call (xs := [_, _]) rfl (ref03_ints (l := [1, 1, 0, 0]) (m := [1, 1, 0, 0]) (hs3.mono hI4) hs4 (by decide))) rfl ?_
 rintro _ _ _ ⟨rfl, rfl, rfl⟩
 refine tM rfl rfl ?_
 refine tri_true rfl rfl (rfl) ?_
 refine tri_guard_run rfl rfl rfl ?_
 refine tri_g (opg_buildSlice rfl rfl rfl rfl) rfl ?_
 rintro _ _ _ ⟨b7, rfl, rfl, rfl⟩
 refine tri_boxRow (k := 4) (sz := 1) rfl ?_
 refine tri_rowEq (len' := ([0, 3, 0, 1] : List Int).length) (cells' := encs ([0, 3, 0, 1] : List Int)) rfl rfl ?_
 refine tri_guard_run rfl rfl rfl ?_
 refine tri_g (opg_call (xs := [_, _, _, _]) rfl (pick_next (picks := []) (left := [0, 3, 0, 1]) SlAt.nil (is_small rfl) (by decide))) rfl ?_
 rintro _ _ I5 ⟨rfl, rfl, hI5⟩
 rw [e2]
 refine tri_guard_run rfl rfl rfl ?_
 refine tri_v (by first | exact opv_eql rfl rfl | exact opv_eqlI rfl rfl rfl rfl rfl rfl | exact opv_eqlB rfl rfl | exact opv_eqlNil rfl rfl) rfl ?_
 refine tri_v (by first | exact opv_pick_t rfl rfl | exact opv_pick_f rfl rfl | exact opv_pick_bool rfl rfl rfl | exact opv_pick rfl rfl rfl) rfl ?_
 refine tM rfl rfl ?_
 refine tri_true rfl rfl (rfl) ?_
 refine tri_guard_run rfl rfl rfl ?_
 refine tri_g (opg_buildSlice rfl rfl rfl rfl) rfl ?_
 rintro _ _ _ ⟨b12, rfl, rfl, rfl⟩
 refine tri_boxRow (k := 4) (sz := 1) rfl ?_
 refine tri_rowEq (len' := ([0, 3, 0, 1] : List Int).length) (cells' := encs ([0, 3, 0, 1] : List Int)) rfl rfl ?_
 refine tri_guard_run rfl rfl rfl ?_
 refine tri_g (opg_call (xs := [_, _, _, _]) rfl (pick_next (picks := []) (left := [0, 3, 0, 1]) SlAt.nil (is_small rfl) (by decide))) rfl ?_
 rintro _ _ I6 ⟨rfl, rfl, hI6⟩
 rw [e3]
 refine tri_guard_run rfl rfl rfl ?_
 refine tri_v (by first | exact opv_eql rfl rfl | exact opv_eqlI rfl rfl rfl rfl rfl rfl | exact opv_eqlB rfl rfl | exact opv_eqlNil rfl rfl) rfl ?_
 refine tri_v (by first | exact opv_pick_t rfl rfl | exact opv_pick_f rfl rfl | exact opv_pick_bool rfl rfl rfl | exact opv_pick rfl rfl rfl) rfl ?_
 refine tM rfl rfl ?_
 refine tri_true rfl rfl (rfl) ?_
 refine tri_guard_run rfl rfl rfl ?_
 refine tri_g (opg_buildSlice rfl rfl rfl rfl) rfl ?_
 rintro _ _ _ ⟨b17, rfl, rfl, rfl⟩
 refine tri_guard_run rfl rfl rfl ?_
 refine tri_g (opg_buildSlice rfl rfl rfl rfl) rfl ?_
 rintro _ _ _ ⟨b18, rfl, rfl, rfl⟩
 refine tri_perm (A := ?a1_0 :: ?a1_1 :: ?T1) (B := ?a1_1 :: ?a1_0 :: ?T1) (by exact permL [1, 0] [?a1_0, ?a1_1] ?T1 (by decide) rfl) ?_
 refine tri_freezeBoxS ([-2] : List Int) rfl fun I7 hI7 hs7 => ?_
 refine tri_boxRow (k := 3) (sz := 1) rfl ?_
 refine tri_rowEq (len' := ([1, 0, 1] : List Int).length) (cells' := encs ([1, 0, 1] : List Int)) rfl rfl ?_
 refine tri_guard_run rfl rfl rfl ?_
 refine tri_g (opg_call (xs := [_, _, _, _]) rfl (pick_next (picks := [-2]) (left := [1, 0, 1]) hs7 (is_small rfl) (by decide))) rfl ?_
 rintro _ _ I8 ⟨rfl, rfl, hI8⟩
 rw [e4]
 refine tri_guard_run rfl rfl rfl ?_
 refine tri_v (by first | exact opv_eql rfl rfl | exact opv_eqlI rfl rfl rfl rfl rfl rfl | exact opv_eqlB rfl rfl | exact opv_eqlNil rfl rfl) rfl ?_
 refine tri_v (by first | exact opv_pick_t rfl rfl | exact opv_pick_f rfl rfl | exact opv_pick_bool rfl rfl rfl | exact opv_pick rfl rfl rfl) rfl ?_
 refine tM rfl rfl ?_
 refine tri_true rfl rfl (rfl) ?_
 refine tri_guard_run rfl rfl rfl ?_
 refine tri_g (opg_buildSlice rfl rfl rfl rfl) rfl ?_
 rintro _ _ _ ⟨b23, rfl, rfl, rfl⟩
 refine tri_boxRow (k := 2) (sz := 1) rfl ?_
 refine tri_rowEq (len' := ([0, -1] : List Int).length) (cells' := encs ([0, -1] : List Int)) rfl rfl ?_
 refine tri_guard_run rfl rfl rfl ?_
 refine tri_g (opg_call (xs := [_, _, _, _]) rfl (pick_next (picks := []) (left := [0, -1]) SlAt.nil (is_small rfl) (by decide))) rfl ?_
 rintro _ _ I9 ⟨rfl, rfl, hI9⟩
 rw [e5]
 refine tri_guard_run rfl rfl rfl ?_
 refine tri_v (by first | exact opv_eql rfl rfl | exact opv_eqlI rfl rfl rfl rfl rfl rfl | exact opv_eqlB rfl rfl | exact opv_eqlNil rfl rfl) rfl ?_
 refine tri_v (by first | exact opv_pick_t rfl rfl | exact opv_pick_f rfl rfl | exact opv_pick_bool rfl rfl rfl | exact opv_pick rfl rfl rfl) rfl ?_
 refine tA rfl rfl (tN (tT (tri_ret ?_)))
 refine tri_end A Suf.h rfl (.cons (rv_tmp rfl) .nil) ⟨rfl, rfl, fun _ h => hI9 (hI8 (hI7 (hI6 (hI5 (hI4 (hI3 (hI2 (hI1 h))))))))⟩
end Go.GL

set_option linter.unusedVariables false
namespace Go.GL
open Go.Proofs
theorem num_int : NumTy Try.prog 3 1 := NumTy.int
theorem laid : laidOutB Try.prog = true := by kernel_rfl
theorem own : ownKnob Try.prog.godebug = none := by kernel_rfl
theorem is_ok {l : List Int} (h : ∀ y ∈ l, DecOk y) : Is l := fun i hi => by
 obtain ⟨zs, h1, h2, h3⟩ := h _ (R11.getD_mem hi)
 rw [h3]
 match zs, h1 with
 | [a], _ => exact h2 a (by simp)
end Go.GL

set_option linter.unusedVariables false
namespace Go.GL
namespace R11
/-! #### none waits longer than for as many turns as there are workers -/
structure Wt (picks left l : List Int) (w : Nat) (i : Nat) (now : List Int) (last waits : Int) : Prop where
 go : Go picks l i now last
 hd : Had left l i now
 lb : -1 ≤ last
 ub : last < left.length
 w0 : 0 ≤ waits
 wn : waits ≤ left.length
 fr : 0 < now.getD w default → waits + far left.length last w ≤ left.length
 zr : i ≤ picks.length → waits = 0
theorem getD_pos {l : List Int} {w : Nat} (h : 0 < l.getD w default) : w < l.length := by
 apply Decidable.byContradiction
 intro hx
 rw [List.getD_eq_getElem?_getD, List.getElem?_eq_none (by omega)] at h
 exact absurd h (by decide)
theorem Wt.start {picks left : List Int} (h : Nn left) (ht : tot left < 100000) (w : Nat) : Wt picks left (turns picks left) w 0 left (-1) 0 :=
 ⟨Go.start h ht, Had.start _ _, by omega, by omega, by omega, by omega, fun hw => by
  have := getD_pos hw
  unfold far
  split <;> omega, fun _ => rfl⟩
theorem Wt.step {picks left l now : List Int} {w i : Nat} {last waits : Int} (h : Wt picks left l w i now last waits) (hi : i < l.length) :
  ∃ now' last', (l.getD i default = w → Wt picks left l w (i + 1) now' last' 0) ∧
   (l.getD i default ≠ w → picks.length ≤ i → (cnt l i w : Int) < left.getD w default → Wt picks left l w (i + 1) now' last' (waits + 1)) ∧
   (l.getD i default ≠ w → ¬ (picks.length ≤ i ∧ (cnt l i w : Int) < left.getD w default) → Wt picks left l w (i + 1) now' last' waits) := by
 obtain ⟨hnx, hok, hg⟩ := h.go.step hi
 have hh := h.hd.step hi ⟨hok.1, hok.2.1⟩
 have hlen := h.hd.len
 have hlast : last < now.length := by rw [hlen]; exact h.ub
 have hw0 := h.w0
 have hdec : ∀ hne : l.getD i default ≠ w, (dec now (l.getD i default)).getD w default = now.getD w default := fun hne => by
  rw [dec_get ⟨hok.1, hok.2.1⟩, if_neg (fun e => hne e.symm)]
 have hnow : ∀ hc : 0 < now.getD w default, (cnt l i w : Int) < left.getD w default := fun hc => by
  have := h.hd.had w
  omega
 refine ⟨dec now (l.getD i default), l.getD i default, fun e => ?_, fun hne hp hc => ?_, fun hne hc => ?_⟩
 ·refine ⟨hg, hh, by omega, by omega, by omega, by omega, fun hw => ?_, fun _ => rfl⟩
  rw [e]
  unfold far
  split <;> omega
 ·have hpos : 0 < now.getD w default := by
   have := h.hd.had w
   omega
  have hf := h.fr hpos
  have hwl := getD_pos hpos
  have hm : (w : Int) ∈ all now := mem_all.2 ⟨by omega, by omega, by simpa using hpos⟩
  have hr := next_round (picks := picks) (now := now) (last := last) hp (by rw [hnx]; omega)
  rw [hnx] at hr
  have hfar := far_next h.lb hlast hm (by rw [← hr]; exact hne)
  rw [← hr, hlen] at hfar
  have hb := far_bd (n := left.length) (last := l.getD i default) (w := w) (by omega) (by omega) (by omega) (by omega)
  refine ⟨hg, hh, by omega, by omega, by omega, by omega, fun _ => by omega, fun hp2 => by omega⟩
 ·refine ⟨hg, hh, by omega, by omega, h.w0, h.wn, fun hw => ?_, fun hp2 => h.zr (by omega)⟩
  rw [hdec hne] at hw
  have h1 := hnow hw
  have h2 := h.zr (by omega)
  have hwl := getD_pos hw
  have hb := far_bd (n := left.length) (last := l.getD i default) (w := w) (by omega) (by omega) (by omega) (by omega)
  omega
/-! #### workers go round -/
theorem round_all {left : List Int} (h : Nn left) (ht : tot left < 100000) : ∀ i, i ≤ (turns [] left).length → ∃ now last r, Go [] (turns [] left) i now last ∧ Had left (turns [] left) i now ∧ Rnd (turns [] left) now i last r
 | 0, _ => ⟨left, -1, 1, Go.start h ht, Had.start _ _, Rnd.start _ _⟩
 | i + 1, hi => by
  obtain ⟨now, last, r, hg, hh, hr⟩ := round_all h ht i (by omega)
  obtain ⟨hnx, hok, hg2⟩ := hg.step (show i < _ by omega)
  have hne : all now ≠ [] := fun e => by
   rw [next_eq_neg e] at hnx
   omega
  have hrd := next_round (picks := []) (now := now) (last := last) (i := i) (by simp) (by rw [hnx]; omega)
  rw [hnx] at hrd
  obtain ⟨r', hr'⟩ := hr.step (show i < _ by omega) hrd hne
  exact ⟨_, _, r', hg2, hh.step (show i < _ by omega) ⟨hok.1, hok.2.1⟩, hr'⟩
theorem round_fair {left : List Int} (h : Nn left) (ht : tot left < 100000) {i : Nat} (hi : i < (turns [] left).length) (w v : Nat) (hw : (cnt (turns [] left) (i + 1) w : Int) < left.getD w default) : cnt (turns [] left) (i + 1) v ≤ cnt (turns [] left) (i + 1) w + 1 := by
 obtain ⟨now, last, r, hg, hh, hr⟩ := round_all h ht (i + 1) (by omega)
 have h1 := hh.had w
 have h2 := hr.le v
 have hpos : 0 < now.getD w default := by omega
 by_cases hl : (w : Int) ≤ last
 ·have := hr.hi w hpos hl; omega
 ·have := hr.lo w hpos (by omega); omega
/-! #### each order is told by some picks -/
def rank : List Int → Nat → Nat
 | [], _ => 0
 | _ :: _, 0 => 0
 | n :: l, t + 1 => (if 0 < n then 1 else 0) + rank l t
theorem rank_succ : ∀ {l : List Int} {t : Nat}, t < l.length → rank l (t + 1) = rank l t + if 0 < l.getD t default then 1 else 0
 | [], t, h => absurd h (by simp)
 | n :: l, 0, h => by cases l <;> simp [rank]
 | n :: l, t + 1, h => by
  have := rank_succ (l := l) (t := t) (by simpa using h)
  simp only [rank, List.getD_cons_succ] at this ⊢
  omega
theorem rank_zero (l : List Int) : rank l 0 = 0 := by cases l <;> rfl
theorem rank_le : ∀ (l : List Int) (t : Nat), rank l t ≤ t
 | [], t => by simp [rank]
 | n :: l, 0 => by simp [rank]
 | n :: l, t + 1 => by
  have := rank_le l t
  simp only [rank]
  split <;> omega
theorem allF_rank : ∀ {l : List Int} {b t : Nat}, t < l.length → 0 < l.getD t default → rank l t < (allF b l).length ∧ (allF b l).getD (rank l t) default = ((b + t : Nat) : Int)
 | [], b, t, h, _ => absurd h (by simp)
 | n :: l, b, 0, h, h2 => by
  have h2' : 0 < n := by simpa using h2
  simp only [rank, allF, if_pos h2']
  simp
 | n :: l, b, t + 1, h, h2 => by
  have ih := allF_rank (l := l) (b := b + 1) (t := t) (by simpa using h) (by simpa using h2)
  simp only [rank, allF]
  split
  ·rw [Nat.add_comm 1]
   simp only [List.length_cons, List.getD_cons_succ]
   refine ⟨by omega, ?_⟩
   rw [ih.2]
   omega
  ·rw [Nat.zero_add]
   refine ⟨ih.1, ?_⟩
   rw [ih.2]
   omega
/-- How many turns each of n workers has from the i-th one on. -/
def nowAt (n : Nat) (T : List Int) (i : Nat) : List Int := (List.range n).map fun (k : Nat) => (((T.drop i).filter fun x => decide (x = (k : Int))).length : Int)
theorem nowAt_len (n : Nat) (T : List Int) (i : Nat) : (nowAt n T i).length = n := by simp [nowAt]
theorem nowAt_get {n : Nat} {T : List Int} {i k : Nat} (hk : k < n) : (nowAt n T i).getD k default = (((T.drop i).filter fun x => decide (x = (k : Int))).length : Int) := by
 unfold nowAt
 rw [List.getD_eq_getElem?_getD, List.getElem?_map, List.getElem?_range hk]
 rfl
theorem ext_getD {l m : List Int} (h : l.length = m.length) (hg : ∀ k, k < l.length → l.getD k default = m.getD k default) : l = m := by
 apply List.ext_getElem h
 intro i h1 h2
 have := hg i h1
 simpa [h1, h2] using this
theorem nowAt_dec {n : Nat} {T : List Int} {i : Nat} (hi : i < T.length) (hT : ∀ x ∈ T, 0 ≤ x ∧ x < n) : dec (nowAt n T i) (T.getD i default) = nowAt n T (i + 1) ∧ 0 < (nowAt n T i).getD (T.getD i default).toNat default := by
 have ht := hT _ (getD_mem hi)
 have hd := drop_getD hi
 constructor
 ·apply ext_getD (by rw [dec_len, nowAt_len, nowAt_len])
  intro k hk
  rw [dec_len, nowAt_len] at hk
  rw [dec_get ⟨ht.1, by rw [nowAt_len]; exact ht.2⟩, nowAt_get hk, nowAt_get hk, hd, List.filter_cons]
  by_cases e : T.getD i default = k
  ·rw [if_pos e.symm, if_pos (by simpa using e), List.length_cons]
   omega
  ·rw [if_neg (Ne.symm e), if_neg (by simpa using e)]
 ·rw [nowAt_get (by omega), hd, List.filter_cons, if_pos (decide_eq_true (by omega)), List.length_cons]
  omega
def picksAt (n : Nat) (T : List Int) (i : Nat) : List Int := (List.range i).map fun j => (rank (nowAt n T j) (T.getD j default).toNat : Int)
theorem picksAt_succ (n : Nat) (T : List Int) (i : Nat) : picksAt n T (i + 1) = picksAt n T i ++ [(rank (nowAt n T i) (T.getD i default).toNat : Int)] := by
 unfold picksAt
 rw [List.range_succ, List.map_append]
 rfl
theorem picksAt_len (n : Nat) (T : List Int) (i : Nat) : (picksAt n T i).length = i := by simp [picksAt]
theorem picksAt_get {n : Nat} {T : List Int} {i j : Nat} (h : j < i) : (picksAt n T i).getD j default = (rank (nowAt n T j) (T.getD j default).toNat : Int) := by
 unfold picksAt
 rw [List.getD_eq_getElem?_getD, List.getElem?_map, List.getElem?_range h]
 rfl
theorem turnsF_picks {n : Nat} {T : List Int} (hT : ∀ x ∈ T, 0 ≤ x ∧ x < n) : ∀ (m i f : Nat) (last : Int), i + m = T.length → m < f → turnsF (picksAt n T T.length) f i (nowAt n T i) last = T.drop i
 | 0, i, f, last, hm, hf => by
  obtain ⟨f, rfl⟩ : ∃ f', f = f' + 1 := ⟨f - 1, by omega⟩
  have hn : all (nowAt n T i) = [] := by
   apply List.eq_nil_iff_forall_not_mem.2
   intro q hq
   have hq := mem_all.1 hq
   rw [nowAt_len] at hq
   have h3 := hq.2.2
   rw [nowAt_get (by omega), List.drop_of_length_le (by omega)] at h3
   simp at h3
  unfold turnsF
  rw [if_pos (by rw [next_eq_neg hn]; decide), List.drop_of_length_le (by omega)]
 | m + 1, i, f, last, hm, hf => by
  obtain ⟨f, rfl⟩ : ∃ f', f = f' + 1 := ⟨f - 1, by omega⟩
  have hi : i < T.length := by omega
  have ht := hT _ (getD_mem hi)
  obtain ⟨hd, hp⟩ := nowAt_dec hi hT
  have hnl := nowAt_len n T i
  obtain ⟨r1, r2⟩ := allF_rank (b := 0) (l := nowAt n T i) (t := (T.getD i default).toNat) (by omega) hp
  have hnx : next (picksAt n T T.length) i (nowAt n T i) last = T.getD i default := by
   unfold next all
   rw [if_neg (by omega), if_pos ⟨by omega, by rw [picksAt_len]; omega⟩]
   rw [show ((i : Nat) : Int).toNat = i from rfl, picksAt_get hi]
   have : pk (rank (nowAt n T i) (T.getD i default).toNat : Int) (allF 0 (nowAt n T i)).length = (rank (nowAt n T i) (T.getD i default).toNat : Int) := by
    unfold pk
    rw [if_neg (by omega), Int.emod_eq_of_lt (by omega) (by omega)]
   rw [this, Int.toNat_natCast, r2]
   omega
  unfold turnsF
  rw [hnx, if_neg (by omega), hd, turnsF_picks hT m (i + 1) f _ (by omega) (by omega), drop_getD hi]
theorem turns_picks {n : Nat} {T : List Int} (hT : ∀ x ∈ T, 0 ≤ x ∧ x < n) (hl : T.length < 100000) : turns (picksAt n T T.length) (nowAt n T 0) = T := turnsF_picks hT T.length 0 100000 (-1) (by omega) (by omega)
/-! #### a worker without steps -/
def ins (l : List Int) (k : Nat) : List Int := l.take k ++ 0 :: l.drop k
def sh (k : Nat) (x : Int) : Int := if (k : Int) ≤ x then x + 1 else x
theorem sh_lt {k : Nat} {x y : Int} : sh k x < sh k y ↔ x < y := by
 unfold sh
 split <;> split <;> omega
theorem allF_ins : ∀ (l : List Int) (k b : Nat), k ≤ l.length → allF b (ins l k) = (allF b l).map (sh (b + k))
 | l, 0, b, _ => by
  show allF b (0 :: l) = _
  simp only [allF]
  rw [if_neg (by omega)]
  have : ∀ (l : List Int) (c : Nat), b ≤ c → allF (c + 1) l = (allF c l).map (sh (b + 0)) := by
   intro l
   induction l with
   | nil => intro c _; rfl
   | cons n l ih =>
    intro c hc
    simp only [allF]
    rw [ih (c + 1) (by omega)]
    split
    ·rw [List.map_cons]
     congr 1
     unfold sh
     rw [if_pos (by omega)]
     omega
    ·rfl
  exact this l b (Nat.le_refl _)
 | [], k + 1, b, h => absurd h (by simp)
 | n :: l, k + 1, b, h => by
  have ih := allF_ins l k (b + 1) (by simpa using h)
  show allF b (n :: ins l k) = _
  simp only [allF]
  rw [ih, show b + 1 + k = b + (k + 1) by omega]
  split
  ·rw [List.map_cons]
   congr 1
   unfold sh
   rw [if_neg (by omega)]
  ·rfl
theorem ins_len {l : List Int} {k : Nat} (h : k ≤ l.length) : (ins l k).length = l.length + 1 := by
 unfold ins
 rw [List.length_append, List.length_take, List.length_cons, List.length_drop]
 omega
theorem all_ins {l : List Int} {k : Nat} (h : k ≤ l.length) : all (ins l k) = (all l).map (sh k) := by
 have := allF_ins l k 0 h
 rwa [Nat.zero_add] at this
theorem getD_map {l : List Int} {f : Int → Int} {i : Nat} (h : i < l.length) : (l.map f).getD i default = f (l.getD i default) := by
 rw [List.getD_eq_getElem?_getD, List.getElem?_map, List.getD_eq_getElem?_getD, List.getElem?_eq_getElem h]
 rfl
theorem idx_map (p q : Int → Bool) (f : Int → Int) (l : List Int) (h : ∀ x, q (f x) = p x) : idx q (l.map f) = idx p l := by
 unfold idx
 rw [List.length_map, List.findIdx_map]
 have : q ∘ f = p := funext h
 rw [this]
theorem round_map {a : List Int} {last : Int} {k : Nat} (hn : 0 < a.length) (hl : -1 ≤ last) : round (a.map (sh k)) (sh k last) = sh k (round a last) := by
 have e : idx (fun i => decide (sh k last < i)) (a.map (sh k)) = idx (fun i => decide (last < i)) a := idx_map _ _ _ _ fun x => by simp only [sh_lt]
 have h0 : 0 ≤ sh k last ↔ 0 ≤ last := by unfold sh; split <;> omega
 unfold round
 rw [e]
 simp only [h0]
 split
 ·rename_i h
  exact getD_map (idx_some h.1).1
 ·exact getD_map hn
theorem next_ins {picks left : List Int} {step last : Int} {k : Nat} (hk : k ≤ left.length) (hl : -1 ≤ last) (hn : ¬ next picks step left last < 0) : next picks step (ins left k) (sh k last) = sh k (next picks step left last) := by
 unfold next at *
 rw [all_ins hk, List.length_map]
 split at hn
 ·exact absurd (by omega) hn
 ·rename_i h
  rw [if_neg h, if_neg h]
  split
  ·have := pk_bd (c := picks.getD step.toNat default) (n := (all left).length) (by omega)
   exact getD_map (by omega)
  ·exact round_map (by omega) hl
theorem ins_get {l : List Int} {k i : Nat} (hk : k ≤ l.length) : (ins l k).getD (sh k i).toNat default = l.getD i default := by
 unfold ins sh
 by_cases h : k ≤ i
 ·rw [if_pos (by omega), List.getD_eq_getElem?_getD, List.getElem?_append_right (by rw [List.length_take]; omega), List.length_take, show ((i : Int) + 1).toNat - min k l.length = (i - k) + 1 by omega, List.getElem?_cons_succ, List.getElem?_drop, List.getD_eq_getElem?_getD, show k + (i - k) = i by omega]
 ·rw [if_neg (by omega), List.getD_eq_getElem?_getD, List.getElem?_append_left (by rw [List.length_take]; omega), List.getD_eq_getElem?_getD, List.getElem?_take_of_lt (by omega)]
  rfl
theorem ins_dec {l : List Int} {k : Nat} {i : Int} (hk : k ≤ l.length) (hi : 0 ≤ i ∧ i < l.length) : dec (ins l k) (sh k i) = ins (dec l i) k := by
 obtain ⟨j, rfl⟩ : ∃ j : Nat, i = j := ⟨i.toNat, by omega⟩
 have hg := ins_get (l := l) (k := k) (i := j) hk
 unfold dec
 rw [hg, Int.toNat_natCast]
 unfold ins sh
 by_cases h : k ≤ j
 ·rw [if_pos (by omega), List.set_append, if_neg (by rw [List.length_take]; omega), List.length_take, show ((j : Int) + 1).toNat - min k l.length = (j - k) + 1 by omega, List.set_cons_succ, List.take_set_of_le (by omega), List.drop_set, if_neg (by omega)]
 ·rw [if_neg (by omega), List.set_append, if_pos (by rw [List.length_take]; omega), Int.toNat_natCast, List.take_set, List.drop_set, if_pos (by omega)]
theorem turnsF_ins {picks : List Int} {k : Nat} : ∀ (f s : Nat) (left : List Int) (last : Int), k ≤ left.length → -1 ≤ last → turnsF picks f s (ins left k) (sh k last) = (turnsF picks f s left last).map (sh k)
 | 0, s, left, last, _, _ => rfl
 | f + 1, s, left, last, hk, hl => by
  unfold turnsF
  by_cases hn : next picks s left last < 0
  ·have ha := next_none hn
   have ha2 : all (ins left k) = [] := by rw [all_ins hk, ha]; rfl
   rw [if_pos hn, if_pos (by rw [next_eq_neg ha2]; decide)]
   rfl
  ·have hok := next_ok hn
   rw [next_ins hk hl hn, if_neg hn, if_neg (by unfold sh; split <;> omega), ins_dec hk ⟨hok.1, hok.2.1⟩, turnsF_ins f (s + 1) _ _ (by rw [dec_len]; exact hk) (by omega)]
   rfl
theorem turns_ins {picks left : List Int} {k : Nat} (hk : k ≤ left.length) : turns picks (ins left k) = (turns picks left).map (sh k) := by
 have := turnsF_ins (picks := picks) (k := k) 100000 0 left (-1) hk (by omega)
 rwa [show sh k (-1) = -1 by unfold sh; rw [if_neg (by omega)]] at this
theorem turnsF_one {picks : List Int} : ∀ (m f s : Nat) (last : Int), m < f → turnsF picks f s [(m : Int)] last = List.replicate m 0
 | 0, f, s, last, h => by
  obtain ⟨f, rfl⟩ : ∃ f', f = f' + 1 := ⟨f - 1, by omega⟩
  unfold turnsF
  have ha : all [((0 : Nat) : Int)] = [] := rfl
  rw [if_pos (by rw [next_eq_neg ha]; decide)]
  rfl
 | m + 1, f, s, last, h => by
  obtain ⟨f, rfl⟩ : ∃ f', f = f' + 1 := ⟨f - 1, by omega⟩
  have ha : all [((m + 1 : Nat) : Int)] = [0] := by
   unfold all
   simp only [allF]
   rw [if_pos (by omega)]
   rfl
  have hnx : next picks s [((m + 1 : Nat) : Int)] last = 0 := by
   have hnn : ¬ next picks s [((m + 1 : Nat) : Int)] last < 0 := fun hx => by
    have := next_none hx
    rw [ha] at this
    cases this
   have := next_mem hnn
   rw [ha] at this
   simpa using this
  unfold turnsF
  rw [hnx, if_neg (by omega)]
  have hd : dec [((m + 1 : Nat) : Int)] 0 = [(m : Int)] := by
   unfold dec
   simp
  rw [hd, turnsF_one m f (s + 1) 0 (by omega)]
  rfl
theorem turns_one {picks : List Int} {m : Nat} (h : m < 100000) : turns picks [(m : Int)] = List.replicate m 0 := turnsF_one m 100000 0 (-1) h
end R11
end Go.GL

set_option linter.unusedVariables false
namespace Go.GL
open Go.Proofs
attribute [local irreducible] wpList Code.wp Exit.then Exit.inBlock Ends Tri TriH OpV OpG FnC epf wpAnyH
variable {A : List Asrt} {I : List Chunk}
set_option maxHeartbeats 1000000 in
set_option maxRecDepth 100000 in
theorem law11_one {picks raw : List Int} {a a2 : Option Addr} {cap cap2 : Nat} {at_ : Int} (hs : SlAt I a picks) (hp : Is picks) (hs2 : SlAt I a2 raw) (hr : Is raw) (hat : I64 at_) :
  FnC Try.prog 7 [.slice a picks.length cap, .slice a2 raw.length cap2, .int .i64 at_].toArray A I (fun v A' I' => v = .bool true ∧ A = A' ∧ I ⊆ I') := by
 have hll := RL.left11_len raw
 have hlt := RL.left11_tot raw
 have hln := RL.left11_nn raw
 have hlu := RL.left11_ub raw
 skip
 refine fn_enter3 Try.func7 rfl Try.ntmps7 rfl fun w0 => ?_
 refine tS (tR (tA rfl rfl (tN (tT (tS (tR ?_))))))
 refine tri_g (opg_call (xs := []) rfl (law11_awake)) rfl ?_
 rintro _ _ I0 ⟨rfl, rfl, hI0⟩
 refine tA rfl rfl (tN (tT (tS (tR (tM rfl rfl ?_)))))
 refine tri_g (opg_call (xs := [_]) rfl (law11_left (hs2.mono hI0) hr)) rfl ?_
 rintro _ _ I1 ⟨a1, c1, rfl, hs1, hn1, rfl, hI1⟩
 generalize hleft : RL.left11 raw = left at *
 refine tA rfl rfl (tN (tT (tS (tR (tM rfl rfl (tM rfl rfl ?_))))))
 refine tri_v (opv_len rfl) rfl ?_
 refine tri_v (by first | exact opv_add rfl rfl (w64 (by omega) (by omega))) rfl ?_
 refine tri_g (opg_call (xs := [_, _]) rfl (law11_which (n := (left.length : Int) + 1) hat (by omega))) rfl ?_
 rintro _ _ _ ⟨rfl, rfl, rfl⟩
 have hk := pk_bd (c := at_) (n := (left.length : Int) + 1) (by omega)
 generalize pk at_ ((left.length : Int) + 1) = k at *
 have hkl : k.toNat ≤ left.length := by omega
 have hd := hs1.lo (s := 1) hkl rfl
 have hdl : (left.drop k.toNat).length = left.length - k.toNat := by rw [List.length_drop]
 have htl : (left.take k.toNat).length = k.toNat := by rw [List.length_take]; omega
 have hil := R11.ins_len hkl
 refine tA rfl rfl (tN (tT (tS ?_)))
 refine tri_nilRow (E := 3) (sz := 1) ?_
 refine tri_cut (fun F' A' J => ∃ (a9 : Option Addr) (c9 b9 : Nat), F' = [(0, .slice a picks.length cap), (2, .int .i64 at_), (7, .bool true), (8, .slice a1 left.length c1), (9, .int .i64 k), (10, .slice a9 (R11.ins left k.toNat).length c9)] ∧ A' = Row a9 c9 (R11.ins left k.toNat).length 3 1 (encs (R11.ins left k.toNat)) :: Box b9 [.int .i64 0] 3 :: A ∧ I1 = J) ?_ ?_
 ·skip
  refine tri_draw [0, 1, 2, 6, 7, 8, 3, 4, 5, 9, 10] rfl [_] rfl mixed ?_
  refine th_take rfl rfl (by kernel_rfl)  (opv_move rfl) ?_
  refine th_take rfl rfl (by kernel_rfl)  (opv_move rfl) ?_
  refine th_take rfl rfl (by kernel_rfl)  (opv_sliceHi rfl rfl (by omega) (by omega) hs1 rfl) ?_
  refine th_take rfl rfl (by kernel_rfl)  (opv_move rfl) ?_
  refine th_take rfl rfl (by kernel_rfl)  (opv_move rfl) ?_
  refine th_take rfl rfl (by kernel_rfl)  (opv_sliceLo rfl rfl (by omega) (by omega) hs1 rfl) ?_
  refine th_two (j := 4) [3, 5, 9, 10] (by kernel_rfl) rfl ?_ ?_
  ·refine (step_m rfl rfl (opg_appendS rfl rfl (hs1.sl.take k.toNat) rfl rfl (by omega) rfl) ?_)
   rintro _ _ _ ⟨x3, y3, rfl, rfl, rfl⟩
   refine ⟨Suf.h, fun _ h => h, ?_⟩
   refine th_one (by kernel_rfl) (step_m rfl rfl (opg_buildSlice rfl rfl rfl rfl) ?_)
   rintro _ _ _ ⟨b30, rfl, rfl, rfl⟩
   refine ⟨Suf.h, (by first | exact fun _ h => h | assumption | exact fun _ h => (by assumption : _ ⊆ _) ((by assumption : _ ⊆ _) h)), ?_⟩
   refine th_one (by kernel_rfl) (step_m rfl rfl (opg_appendB rfl rfl rfl rfl (by omega) rfl) ?_)
   rintro _ _ _ ⟨x5, y5, rfl, rfl, rfl⟩
   refine ⟨Suf.h, fun _ h => h, ?_⟩
   refine th_one (by kernel_rfl) (step_m rfl rfl (opg_appendS rfl rfl hd.sl rfl rfl (by omega) rfl) ?_)
   rintro _ _ _ ⟨x9, y9, rfl, rfl, rfl⟩
   refine ⟨Suf.h, fun _ h => h, ?_⟩
   refine th_take rfl rfl (by kernel_rfl)  (opv_assign rfl) ?_
   refine th_done (by kernel_rfl) ?_
   refine tri_pull1 ?_
   refine tri_rowEq (len' := (R11.ins left k.toNat).length) (cells' := encs (R11.ins left k.toNat)) (by omega) (by unfold R11.ins; rw [encs_append, encs_cons]; simp [encs_nil, Enc.enc, reps]) ?_
   refine tri_cutEnd _ ⟨x9, y9, b30, rfl, rfl, rfl⟩ ⟨rfl, rfl, rfl, rfl, rfl, ?_, trivial⟩
   rw [show (R11.ins left k.toNat).length = 0 + (left.take k.toNat).length + 1 + (left.drop k.toNat).length by omega]
   rfl
  ·refine (step_m rfl rfl (opg_buildSlice rfl rfl rfl rfl) ?_)
   rintro _ _ _ ⟨b30, rfl, rfl, rfl⟩
   refine ⟨Suf.h, (by first | exact fun _ h => h | assumption | exact fun _ h => (by assumption : _ ⊆ _) ((by assumption : _ ⊆ _) h)), ?_⟩
   refine th_one (by kernel_rfl) (step_m rfl rfl (opg_appendS rfl rfl (hs1.sl.take k.toNat) rfl rfl (by omega) rfl) ?_)
   rintro _ _ _ ⟨x3, y3, rfl, rfl, rfl⟩
   refine ⟨Suf.h, fun _ h => h, ?_⟩
   refine th_one (by kernel_rfl) (step_m rfl rfl (opg_appendB rfl rfl rfl rfl (by omega) rfl) ?_)
   rintro _ _ _ ⟨x5, y5, rfl, rfl, rfl⟩
   refine ⟨Suf.h, fun _ h => h, ?_⟩
   refine th_one (by kernel_rfl) (step_m rfl rfl (opg_appendS rfl rfl hd.sl rfl rfl (by omega) rfl) ?_)
   rintro _ _ _ ⟨x9, y9, rfl, rfl, rfl⟩
   refine ⟨Suf.h, fun _ h => h, ?_⟩
   refine th_take rfl rfl (by kernel_rfl)  (opv_assign rfl) ?_
   refine th_done (by kernel_rfl) ?_
   refine tri_pull1 ?_
   refine tri_rowEq (len' := (R11.ins left k.toNat).length) (cells' := encs (R11.ins left k.toNat)) (by omega) (by unfold R11.ins; rw [encs_append, encs_cons]; simp [encs_nil, Enc.enc, reps]) ?_
   refine tri_cutEnd _ ⟨x9, y9, b30, rfl, rfl, rfl⟩ ⟨rfl, rfl, rfl, rfl, rfl, ?_, trivial⟩
   rw [show (R11.ins left k.toNat).length = 0 + (left.take k.toNat).length + 1 + (left.drop k.toNat).length by omega]
   rfl
 rintro _ _ _ ⟨a9, c9, b9, rfl, rfl, rfl⟩
 have hmb : Ub (R11.ins left k.toNat) := fun x hx => by
  unfold R11.ins at hx
  rcases List.mem_append.1 hx with hx | hx
  ·exact hlu x (List.mem_of_mem_take hx)
  ·rcases List.mem_cons.1 hx with rfl | hx
   ·omega
   ·exact hlu x (List.mem_of_mem_drop hx)
 have hti := R11.turns_ins (picks := picks) hkl
 have htl := R11.turns_len (picks := picks) hln
 have hsp := (hs.mono hI0).mono hI1
 refine tri_rowSome rfl fun hn9 => ?_
 refine tri_freezeRow (α := Int) rfl fun I2 hI2 hs9 => ?_
 have hs1 := hs1.sl.mono hI2
 generalize R11.ins left k.toNat = more at *
 skip
 refine tT (tS (tR (tM rfl rfl (tM rfl rfl ?_))))
 refine tri_g (opg_call (xs := [_, _]) rfl (Rd.pick_Turns (left := left) (hsp.mono hI2) hp hs1 hn1 (by omega) hlu)) rfl ?_
 rintro _ _ I3 ⟨a3, c3, rfl, hs3, rfl, hI3⟩
 refine tA rfl rfl (tN (tT (tS (tR (tM rfl rfl (tM rfl rfl ?_))))))
 refine tri_g (opg_call (xs := [_, _]) rfl (Rd.pick_Turns (left := more) ((hsp.mono hI2).mono hI3) hp (hs9.mono hI3) hn9 (by omega) hmb)) rfl ?_
 rintro _ _ I4 ⟨a4, c4, rfl, hs4, rfl, hI4⟩
 rw [hti] at hs4 ⊢
 have hrng : ∀ i, i < (R11.turns picks left).length → 0 ≤ (R11.turns picks left).getD i default ∧ (R11.turns picks left).getD i default < 100 := by
  have key : ∀ i, i ≤ (R11.turns picks left).length → ∃ now last, R11.Go picks (R11.turns picks left) i now last ∧ now.length = left.length := by
   intro i
   induction i with
   | zero => intro _; exact ⟨left, -1, R11.Go.start hln (by omega), rfl⟩
   | succ i ih =>
    intro hi
    obtain ⟨now, last, hg, hl⟩ := ih (by omega)
    exact ⟨_, _, (hg.step (by omega)).2.2, by rw [R11.dec_len, hl]⟩
  intro i hi
  obtain ⟨now, last, hg, hl⟩ := key i (by omega)
  have := (hg.step hi).2.1
  omega
 generalize R11.turns picks left = l at *
 have hs3 := hs3.mono hI4
 refine tA rfl rfl (tN (tT (tS (tS (tR (tM rfl rfl ?_))))))
 refine tri_v (opv_len rfl) rfl ?_
 refine tM rfl rfl ?_
 refine tri_v (opv_len rfl) rfl ?_
 refine tri_v (by first | exact opv_neq rfl rfl | exact opv_neqI rfl rfl rfl rfl rfl rfl | exact opv_neqB rfl rfl) rfl ?_
 refine tN (tT ?_)
 refine tri_cond_not rfl ((by simp)) ?_
 refine tri_skip (tT (tS (tS (tR (tA rfl rfl (tN (tT ?_)))))))
 refine tri_block ?_
 refine tri_sub (F' := [(0, .slice a picks.length cap), (2, .int .i64 at_), (7, .bool true), (9, .int .i64 k), (11, .slice a3 l.length c3), (12, .slice a4 (l.map (R11.sh k.toNat)).length c4), (13, .int .i64 (0 : Nat))]) ⟨rfl, rfl, rfl, rfl, rfl, rfl, rfl, trivial⟩ ?_
 refine loop_ind (G := Nat) (fun g => l.length - g) (fun g => g ≤ l.length) (fun g => [(0, .slice a picks.length cap), (2, .int .i64 at_), (7, .bool true), (9, .int .i64 k), (11, .slice a3 l.length c3), (12, .slice a4 (l.map (R11.sh k.toNat)).length c4), (13, .int .i64 (g : Nat))]) (fun _ => _) (fun _ => _) ?_ 0 (by omega)
 rintro i hi K hK
 have hml : (l.map (R11.sh k.toNat)).length = l.length := List.length_map _
 skip
 refine tS (tS (tR (tM rfl rfl (tM rfl rfl ?_))))
 refine tri_v (opv_len rfl) rfl ?_
 refine tri_v (opv_lss rfl rfl) rfl ?_
 refine tN (tT ?_)
 refine tri_cond_dec rfl (fun h => ?_) (fun h => ?_)
 ·have hil2 : i < l.length := by omega
  have hr := hrng i hil2
  have hgm : (l.map (R11.sh k.toNat)).getD i default = R11.sh k.toNat (l.getD i default) := R11.getD_map hil2
  refine tri_skip (tT (tS (tri_block (tS (tR (tM rfl rfl (tM rfl rfl ?_)))))))
  refine tri_v (by first | exact opv_indexAddrA rfl rfl (by first | decide | omega) (by first | decide | omega) | exact opv_indexAddrSN rfl rfl (by omega) (by assumption) rfl | exact opv_indexAddrS rfl rfl (by omega) (by omega) (by assumption) rfl | exact opv_indexAddrE rfl (by assumption) (by omega) rfl (by first | decide | omega) (by first | decide | omega) | exact opv_indexAddrRN rfl rfl (by omega) | exact opv_indexAddrR rfl rfl (by omega) (by omega) | exact opv_indexAddrRA rfl (by omega) rfl (by first | decide | omega) (by first | decide | omega)) rfl ?_
  refine tri_v (by first | exact opv_load1 rfl rfl rfl | exact opv_loadA rfl rfl rfl | exact opv_loadE1 rfl (by assumption) rfl (by omega) rfl rfl | exact opv_loadEA rfl (by assumption) rfl (by omega) rfl rfl | exact opv_loadRX1 rfl rfl (by omega) rfl rfl | exact opv_loadRXA rfl rfl (by omega) rfl rfl rfl | exact opv_loadIX rfl rfl (by omega) | exact opv_loadR1 rfl rfl rfl | exact opv_loadRA rfl rfl rfl rfl) rfl ?_
  refine tA rfl rfl (tN (tT (tS (tS (tR (tM rfl rfl (tM rfl rfl ?_)))))))
  refine tri_v (opv_geq rfl rfl) rfl ?_
  refine tN (tT ?_)
  refine tri_cond_dec rfl (fun h2 => ?_) (fun h2 => ?_)
  ·have e : (l.map (R11.sh k.toNat)).getD i default = l.getD i default + 1 := by rw [hgm]; unfold R11.sh; rw [if_pos (by omega)]
   refine tR (tM rfl rfl ?_)
   refine tri_v (by first | exact opv_add rfl rfl (w64 (by omega) (by omega))) rfl ?_
   refine tA rfl rfl (tN (tT (tS (tR (tM rfl rfl (tM rfl rfl ?_))))))
   refine tri_v (by first | exact opv_indexAddrA rfl rfl (by first | decide | omega) (by first | decide | omega) | exact opv_indexAddrSN rfl rfl (by omega) (by assumption) rfl | exact opv_indexAddrS rfl rfl (by omega) (by omega) (by assumption) rfl | exact opv_indexAddrE rfl (by assumption) (by omega) rfl (by first | decide | omega) (by first | decide | omega) | exact opv_indexAddrRN rfl rfl (by omega) | exact opv_indexAddrR rfl rfl (by omega) (by omega) | exact opv_indexAddrRA rfl (by omega) rfl (by first | decide | omega) (by first | decide | omega)) rfl ?_
   refine tri_v (by first | exact opv_load1 rfl rfl rfl | exact opv_loadA rfl rfl rfl | exact opv_loadE1 rfl (by assumption) rfl (by omega) rfl rfl | exact opv_loadEA rfl (by assumption) rfl (by omega) rfl rfl | exact opv_loadRX1 rfl rfl (by omega) rfl rfl | exact opv_loadRXA rfl rfl (by omega) rfl rfl rfl | exact opv_loadIX rfl rfl (by omega) | exact opv_loadR1 rfl rfl rfl | exact opv_loadRA rfl rfl rfl rfl) rfl ?_
   refine tM rfl rfl ?_
   refine tri_v (by first | exact opv_neq rfl rfl | exact opv_neqI rfl rfl rfl rfl rfl rfl | exact opv_neqB rfl rfl) rfl ?_
   refine tN (tT ?_)
   refine tri_cond_not rfl ((fun h => h e)) ?_
   refine tri_skip ?_
   refine tri_inBlock ?_
   refine tT (tR (tM rfl rfl ?_))
   refine tri_v (by first | exact opv_add rfl rfl (w64 (by omega) (by omega))) rfl ?_
   refine tA rfl rfl (tN (tT ?_))
   refine tri_sub ?_ (hK (i + 1) (by omega) (by omega))
   exact ⟨rfl, rfl, rfl, rfl, rfl, rfl, rfl, trivial⟩
  ·have e : (l.map (R11.sh k.toNat)).getD i default = l.getD i default := by rw [hgm]; unfold R11.sh; rw [if_neg (by omega)]
   refine tri_skip (tT (tS (tR (tM rfl rfl (tM rfl rfl ?_)))))
   refine tri_v (by first | exact opv_indexAddrA rfl rfl (by first | decide | omega) (by first | decide | omega) | exact opv_indexAddrSN rfl rfl (by omega) (by assumption) rfl | exact opv_indexAddrS rfl rfl (by omega) (by omega) (by assumption) rfl | exact opv_indexAddrE rfl (by assumption) (by omega) rfl (by first | decide | omega) (by first | decide | omega) | exact opv_indexAddrRN rfl rfl (by omega) | exact opv_indexAddrR rfl rfl (by omega) (by omega) | exact opv_indexAddrRA rfl (by omega) rfl (by first | decide | omega) (by first | decide | omega)) rfl ?_
   refine tri_v (by first | exact opv_load1 rfl rfl rfl | exact opv_loadA rfl rfl rfl | exact opv_loadE1 rfl (by assumption) rfl (by omega) rfl rfl | exact opv_loadEA rfl (by assumption) rfl (by omega) rfl rfl | exact opv_loadRX1 rfl rfl (by omega) rfl rfl | exact opv_loadRXA rfl rfl (by omega) rfl rfl rfl | exact opv_loadIX rfl rfl (by omega) | exact opv_loadR1 rfl rfl rfl | exact opv_loadRA rfl rfl rfl rfl) rfl ?_
   refine tM rfl rfl ?_
   refine tri_v (by first | exact opv_neq rfl rfl | exact opv_neqI rfl rfl rfl rfl rfl rfl | exact opv_neqB rfl rfl) rfl ?_
   refine tN (tT ?_)
   refine tri_cond_not rfl ((fun h => h e)) ?_
   refine tri_skip ?_
   refine tri_inBlock ?_
   refine tT (tR (tM rfl rfl ?_))
   refine tri_v (by first | exact opv_add rfl rfl (w64 (by omega) (by omega))) rfl ?_
   refine tA rfl rfl (tN (tT ?_))
   refine tri_sub ?_ (hK (i + 1) (by omega) (by omega))
   exact ⟨rfl, rfl, rfl, rfl, rfl, rfl, rfl, trivial⟩
 ·refine tri_exit ?_
  refine tri_then_exit ?_
  refine tri_then_exit ?_
  refine tri_inBlock_hit rfl ?_
  refine tT (tS (tR (tM rfl rfl ?_)))
  refine tri_g (opg_call (xs := [_, _]) rfl (law11_which (n := 50) hat (by decide))) rfl ?_
  rintro _ _ _ ⟨rfl, rfl, rfl⟩
  have hk5 := pk_bd (c := at_) (n := 50) (by omega)
  obtain ⟨m, hm⟩ : ∃ m : Nat, pk at_ 50 = m := ⟨(pk at_ 50).toNat, by omega⟩
  rw [hm] at hk5 ⊢
  have hone := R11.turns_one (picks := picks) (m := m) (by omega)
  refine tA rfl rfl (tN (tT (tS (tR (tM rfl rfl (tM rfl rfl ?_))))))
  refine tri_g (opg_buildSlice rfl rfl rfl rfl) rfl ?_
  rintro _ _ _ ⟨b72, rfl, rfl, rfl⟩
  refine tri_freezeBoxS [(m : Int)] rfl fun I5 hI5 hs5 => ?_
  have hcall := Rd.pick_Turns (A := Box b9 [.int .i64 0] 3 :: A) (left := [(m : Int)]) (cap := cap) (cap2 := 1) ((((hsp.mono hI2).mono hI3).mono hI4).mono hI5) hp hs5 (by intro h; cases h) (by simp) (fun x hx => by rw [List.mem_singleton.1 hx]; omega)
  rw [hone] at hcall
  refine tri_g (opg_call (xs := [_, _]) rfl (hcall)) rfl ?_
  rintro _ _ I6 ⟨a6, c6, rfl, hs6, rfl, hI6⟩
  have hrl : (List.replicate m (0 : Int)).length = m := List.length_replicate
  have hrg : ∀ i, i < m → (List.replicate m (0 : Int)).getD i default = 0 := fun i hi => by
   rw [List.getD_eq_getElem?_getD, List.getElem?_replicate, if_pos hi]
   rfl
  generalize List.replicate m (0 : Int) = zs at *
  refine tA rfl rfl (tN (tT (tS (tS (tR (tA rfl rfl (tN ?_)))))))
  refine tT (tri_block ?_)
  refine tri_sub (F' := [(7, .bool true), (15, .int .i64 (m : Int)), (16, .slice a6 zs.length c6), (17, .int .i64 (0 : Nat))]) ⟨rfl, rfl, rfl, rfl, trivial⟩ ?_
  refine loop_ind (G := Nat) (fun g => zs.length - g) (fun g => g ≤ zs.length) (fun g => [(7, .bool true), (15, .int .i64 (m : Int)), (16, .slice a6 zs.length c6), (17, .int .i64 (g : Nat))]) (fun _ => _) (fun _ => _) ?_ 0 (by omega)
  rintro q hq K2 hK2
  skip
  refine tS (tS (tR (tM rfl rfl (tM rfl rfl ?_))))
  refine tri_v (opv_len rfl) rfl ?_
  refine tri_v (opv_lss rfl rfl) rfl ?_
  refine tN (tT ?_)
  refine tri_cond_dec rfl (fun h2 => ?_) (fun h2 => ?_)
  ·have hz := hrg q (by omega)
   refine tri_skip (tT (tS (tri_block (tS (tR (tM rfl rfl (tM rfl rfl ?_)))))))
   refine tri_v (by first | exact opv_indexAddrA rfl rfl (by first | decide | omega) (by first | decide | omega) | exact opv_indexAddrSN rfl rfl (by omega) (by assumption) rfl | exact opv_indexAddrS rfl rfl (by omega) (by omega) (by assumption) rfl | exact opv_indexAddrE rfl (by assumption) (by omega) rfl (by first | decide | omega) (by first | decide | omega) | exact opv_indexAddrRN rfl rfl (by omega) | exact opv_indexAddrR rfl rfl (by omega) (by omega) | exact opv_indexAddrRA rfl (by omega) rfl (by first | decide | omega) (by first | decide | omega)) rfl ?_
   refine tri_v (by first | exact opv_load1 rfl rfl rfl | exact opv_loadA rfl rfl rfl | exact opv_loadE1 rfl (by assumption) rfl (by omega) rfl rfl | exact opv_loadEA rfl (by assumption) rfl (by omega) rfl rfl | exact opv_loadRX1 rfl rfl (by omega) rfl rfl | exact opv_loadRXA rfl rfl (by omega) rfl rfl rfl | exact opv_loadIX rfl rfl (by omega) | exact opv_loadR1 rfl rfl rfl | exact opv_loadRA rfl rfl rfl rfl) rfl ?_
   refine tri_v (by first | exact opv_neq rfl rfl | exact opv_neqI rfl rfl rfl rfl rfl rfl | exact opv_neqB rfl rfl) rfl ?_
   refine tN (tT ?_)
   refine tri_cond_not rfl ((fun h => h hz)) ?_
   refine tri_skip ?_
   refine tri_inBlock ?_
   refine tT (tR (tM rfl rfl ?_))
   refine tri_v (by first | exact opv_add rfl rfl (w64 (by omega) (by omega))) rfl ?_
   refine tA rfl rfl (tN (tT ?_))
   refine tri_sub ?_ (hK2 (q + 1) (by omega) (by omega))
   exact ⟨rfl, rfl, rfl, rfl, trivial⟩
  ·refine tri_exit ?_
   refine tri_then_exit ?_
   refine tri_then_exit ?_
   refine tri_inBlock_hit rfl ?_
   refine tT (tS (tR (tM rfl rfl (tM rfl rfl ?_))))
   skip
   refine tri_guard_run rfl rfl rfl (tM rfl rfl (tri_guard_run rfl rfl rfl ?_))
   refine tri_v (opv_len rfl) rfl ?_
   refine tri_guard_run rfl rfl rfl (tM rfl rfl (tri_guard_run rfl rfl rfl ?_))
   refine tri_v (by first | exact opv_eql rfl rfl | exact opv_eqlI rfl rfl rfl rfl rfl rfl | exact opv_eqlB rfl rfl | exact opv_eqlNil rfl rfl) rfl ?_
   refine tri_v (by first | exact opv_pick_t rfl rfl | exact opv_pick_f rfl rfl | exact opv_pick_bool rfl rfl rfl | exact opv_pick rfl rfl rfl) rfl ?_
   refine tA rfl rfl (tN (tT (tri_ret ?_)))
   refine tri_end A Suf.h rfl (.cons (rv_tmp rfl) .nil) ⟨?_, rfl, fun _ h => hI6 (hI5 (hI4 (hI3 (hI2 (hI1 (hI0 h))))))⟩
   exact congrArg Value.bool (decide_eq_true (by omega))
end Go.GL
