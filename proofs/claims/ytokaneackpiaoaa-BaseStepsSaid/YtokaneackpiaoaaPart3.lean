/- Part 3: contracts of the functions that the law reaches: each answers as its model does. No condition beyond those that each theorem states. -/
import Derived.Test.YtokaneackpiaoaaPart2
set_option linter.unusedVariables false
namespace Go.GL
open Go.Proofs
attribute [local irreducible] wpList Code.wp Exit.then Exit.inBlock Ends Tri TriH OpV OpG FnC epf wpAnyH
variable {A : List Asrt} {I : List Chunk}
set_option maxRecDepth 100000 in
theorem ref02_lives {alive : Bool} {k : Int} : FnC Try.prog 55 [.bool alive, .int .i64 k].toArray A I (fun v A' I' => v = .bool (R2.lives alive k) ∧ A = A' ∧ I = I') := by
  refine fn_enter2 Try.func55 rfl Try.ntmps55 rfl fun w0 => ?_
  refine tri_seq ?_
  refine tri_region ?_
  refine tri_v (opv_assign rfl) rfl ?_
  refine tri_nil ?_
  refine tri_then ?_
  refine tri_seq ?_
  refine tri_region ?_
  refine tri_v (opv_move rfl) rfl ?_
  refine tri_v (opv_eql rfl rfl) rfl ?_
  refine tri_v (opv_move rfl) rfl ?_
  refine tri_split rfl rfl (fun h1 => ?_) (fun h1 => ?_)
  · refine tri_guard_skip rfl rfl rfl rfl ?_
    refine tri_guard_skip rfl rfl rfl rfl ?_
    refine tri_guard_skip_u rfl rfl rfl ?_
    refine tri_guard_skip_u rfl rfl rfl ?_
    refine tri_guard_skip rfl rfl rfl rfl ?_
    refine tri_v (opv_pick_t rfl rfl) rfl ?_
    refine tri_v (opv_assign rfl) rfl ?_
    refine tri_nil ?_
    refine tri_then ?_
    refine tri_ret ?_
    refine tri_end A Suf.h rfl (.cons (rv_tmp rfl) .nil) ⟨congrArg Value.bool ?_, rfl, rfl⟩
    simp [R2.lives, h1]
  · refine tri_guard_run rfl rfl rfl ?_
    refine tri_v (opv_move rfl) rfl ?_
    refine tri_guard_run rfl rfl rfl ?_
    refine tri_v (opv_move rfl) rfl ?_
    refine tri_bool 9 rfl (fun h2 => ?_) (fun h2 => ?_)
    · refine tri_guard_run rfl rfl rfl ?_
      refine tri_v (opv_move rfl) rfl ?_
      refine tri_guard_run rfl rfl rfl ?_
      refine tri_v (opv_eql rfl rfl) rfl ?_
      refine tri_guard_run rfl rfl rfl ?_
      refine tri_v (opv_pick_t rfl rfl) rfl ?_
      refine tri_v (opv_pick_f rfl rfl) rfl ?_
      refine tri_v (opv_assign rfl) rfl ?_
      refine tri_nil ?_
      refine tri_then ?_
      refine tri_ret ?_
      refine tri_end A Suf.h rfl (.cons (rv_tmp rfl) .nil) ⟨congrArg Value.bool ?_, rfl, rfl⟩
      simp [R2.lives, h1, h2]
    · refine tri_guard_skip rfl rfl rfl rfl ?_
      refine tri_guard_skip rfl rfl rfl rfl ?_
      refine tri_guard_run rfl rfl rfl ?_
      refine tri_v (opv_pick_f rfl rfl) rfl ?_
      refine tri_v (opv_pick_f rfl rfl) rfl ?_
      refine tri_v (opv_assign rfl) rfl ?_
      refine tri_nil ?_
      refine tri_then ?_
      refine tri_ret ?_
      refine tri_end A Suf.h rfl (.cons (rv_tmp rfl) .nil) ⟨congrArg Value.bool ?_, rfl, rfl⟩
      simp [R2.lives, h1, h2]
theorem R2.around_snoc (l : List Cell) (a c : Cell) : R2.around (l ++ [a]) c = R2.around l c + if R2.near c a then 1 else 0 := by
  unfold R2.around
  rw [List.filter_append, List.length_append]
  by_cases h : R2.near c a <;> simp [h]
theorem R2.around_le (l : List Cell) (c : Cell) : 0 ≤ R2.around l c ∧ R2.around l c ≤ l.length := by
  unfold R2.around
  have := List.length_filter_le (fun d => decide (R2.near c d)) l
  omega
set_option maxHeartbeats 1000000 in
set_option maxRecDepth 100000 in
theorem ref02_around {l : List Cell} {a : Option Addr} {cap : Nat} {c : Cell} (hs : SlAt I a l) (hn : l.length ≤ 1000000000) (hb : ∀ d ∈ l, R2.bd d) (hc : R2.bd c) :
    FnC Try.prog 57 [.slice a l.length cap, cellV c].toArray A I (fun v A' I' => v = .int .i64 (R2.around l c) ∧ A = A' ∧ I = I') := by
  refine fn_enter2 Try.func57 rfl Try.ntmps57 rfl fun w0 => ?_
  refine tri_seq ?_
  refine tri_region ?_
  refine tri_g (opg_box_agg rfl) rfl ?_
  rintro _ _ _ ⟨b, rfl, rfl, rfl⟩
  refine tri_v (opv_assign rfl) rfl ?_
  refine tri_nil ?_
  refine tri_then ?_
  refine tri_seq ?_
  refine tri_region ?_
  refine tri_v (opv_assign rfl) rfl ?_
  refine tri_nil ?_
  refine tri_then ?_
  refine tri_seq ?_
  refine tri_seq ?_
  refine tri_region ?_
  refine tri_v (opv_assign rfl) rfl ?_
  refine tri_nil ?_
  refine tri_then ?_
  refine tri_block ?_
  refine tri_sub (F' := [(0, .slice a l.length cap), (3, pt b 0), (5, .int .i64 (0 : Int)), (6, .int .i64 (0 : Nat))]) ⟨rfl, rfl, rfl, rfl, trivial⟩ ?_
  refine loop_ind (G := Nat) (fun i => l.length - i) (fun i => i ≤ l.length) (fun i => [(0, .slice a l.length cap), (3, pt b 0), (5, .int .i64 (R2.around (l.take i) c)), (6, .int .i64 (i : Nat))]) (fun _ => _) (fun _ => _) ?_ 0 (by omega)
  rintro i hi K hK
  skip
  refine tri_seq ?_
  refine tri_seq ?_
  refine tri_region ?_
  refine tri_v (opv_move rfl) rfl ?_
  refine tri_v (opv_move rfl) rfl ?_
  refine tri_v (opv_len rfl) rfl ?_
  refine tri_v (opv_lss rfl rfl) rfl ?_
  refine tri_nil ?_
  refine tri_then ?_
  refine tri_cond_dec rfl (fun h => ?_) (fun h => ?_)
  · have hlt : i < l.length := by omega
    have hbi : R2.bd (l.getD i default) := hb _ (by simp [hlt])
    have hx := hbi.1
    have hx2 := hbi.2.1
    have hy := hbi.2.2.1
    have hy2 := hbi.2.2.2
    have cx := hc.1
    have cx2 := hc.2.1
    have cy := hc.2.2.1
    have cy2 := hc.2.2.2
    have hal := R2.around_le (l.take i) c
    rw [List.length_take] at hal
    have hsn := R2.around_snoc (l.take i) (l.getD i default) c
    have e : l.take (i + 1) = l.take i ++ [l.getD i default] := by rw [List.take_succ_eq_append_getElem hlt]; simp [hlt]
    rw [← e] at hsn
    have no : ¬ R2.near c (l.getD i default) → R2.around (l.take (i + 1)) c = R2.around (l.take i) c := fun h => by rw [hsn, if_neg h, Int.add_zero]
    refine tri_skip ?_
    refine tri_then ?_
    refine tri_seq ?_
    refine tri_block ?_
    refine tri_seq ?_
    refine tri_draw [0, 1, 2, 3, 4, 5, 6, 7, 8] rfl [] rfl mixed ?_
    refine th_take rfl rfl (by kernel_rfl)  (opv_move rfl) ?_
    refine th_take rfl rfl (by kernel_rfl)  (opv_move rfl) ?_
    refine th_take rfl rfl (by kernel_rfl)  (opv_indexAddrSN rfl rfl (by omega) (by assumption) rfl) ?_
    refine th_take rfl rfl (by kernel_rfl)  (opv_fieldAddrE rfl (by assumption) (by omega) rfl) ?_
    refine th_take rfl rfl (by kernel_rfl)  (opv_loadE1 rfl (by assumption) rfl (by omega) rfl rfl) ?_
    refine th_take rfl rfl (by kernel_rfl)  (opv_fieldAddr rfl rfl) ?_
    refine th_take rfl rfl (by kernel_rfl)  (opv_load1 rfl rfl rfl) ?_
    refine th_take rfl rfl (by kernel_rfl)  (opv_sub rfl rfl (w64 (by omega) (by omega))) ?_
    refine th_take rfl rfl (by kernel_rfl)  (opv_assign rfl) ?_
    refine th_done (by kernel_rfl) ?_
    refine tri_then ?_
    refine tri_seq ?_
    refine tri_draw [0, 1, 2, 3, 4, 5, 6, 7, 8] rfl [] rfl mixed ?_
    refine th_take rfl rfl (by kernel_rfl)  (opv_move rfl) ?_
    refine th_take rfl rfl (by kernel_rfl)  (opv_move rfl) ?_
    refine th_take rfl rfl (by kernel_rfl)  (opv_indexAddrSN rfl rfl (by omega) (by assumption) rfl) ?_
    refine th_take rfl rfl (by kernel_rfl)  (opv_fieldAddrE rfl (by assumption) (by omega) rfl) ?_
    refine th_take rfl rfl (by kernel_rfl)  (opv_loadE1 rfl (by assumption) rfl (by omega) rfl rfl) ?_
    refine th_take rfl rfl (by kernel_rfl)  (opv_fieldAddr rfl rfl) ?_
    refine th_take rfl rfl (by kernel_rfl)  (opv_load1 rfl rfl rfl) ?_
    refine th_take rfl rfl (by kernel_rfl)  (opv_sub rfl rfl (w64 (by omega) (by omega))) ?_
    refine th_take rfl rfl (by kernel_rfl)  (opv_assign rfl) ?_
    refine th_done (by kernel_rfl) ?_
    refine tri_then ?_
    refine tri_seq ?_
    refine tri_draw [0, 1, 2, 3, 4, 5, 6, 7, 8, 9, 10, 11, 12, 13, 14, 15, 16, 17, 18, 19, 20, 21] rfl [] rfl mixed ?_
    refine th_take rfl rfl (by kernel_rfl)  (opv_move rfl) ?_
    refine th_take rfl rfl (by kernel_rfl)  (opv_geq rfl rfl) ?_
    refine th_take rfl rfl (by kernel_rfl)  (opv_move rfl) ?_
    refine th_split rfl rfl rfl (fun h1 => ?_) (fun h1 => ?_)
    · refine th_take_g rfl rfl rfl rfl rfl (by kernel_rfl)  (opv_move rfl) ?_
      refine th_take_g rfl rfl rfl rfl rfl (by kernel_rfl)  (opv_leq rfl rfl) ?_
      refine th_take rfl rfl (by kernel_rfl)  (opv_pick_t rfl rfl) ?_
      refine th_take rfl rfl (by kernel_rfl)  (opv_move rfl) ?_
      refine th_split rfl rfl rfl (fun h2 => ?_) (fun h2 => ?_)
      · refine th_take_g rfl rfl rfl rfl rfl (by kernel_rfl)  (opv_move rfl) ?_
        refine th_take_g rfl rfl rfl rfl rfl (by kernel_rfl)  (opv_geq rfl rfl) ?_
        refine th_take rfl rfl (by kernel_rfl)  (opv_pick_t rfl rfl) ?_
        refine th_take rfl rfl (by kernel_rfl)  (opv_move rfl) ?_
        refine th_split rfl rfl rfl (fun h3 => ?_) (fun h3 => ?_)
        · refine th_take_g rfl rfl rfl rfl rfl (by kernel_rfl)  (opv_move rfl) ?_
          refine th_take_g rfl rfl rfl rfl rfl (by kernel_rfl)  (opv_leq rfl rfl) ?_
          refine th_take rfl rfl (by kernel_rfl)  (opv_pick_t rfl rfl) ?_
          refine th_take rfl rfl (by kernel_rfl)  (opv_move rfl) ?_
          refine th_split rfl rfl rfl (fun h4 => ?_) (fun h4 => ?_)
          · refine th_take_g rfl rfl rfl rfl rfl (by kernel_rfl)  (opv_move rfl) ?_
            refine th_take_g rfl rfl rfl rfl rfl (by kernel_rfl)  (opv_move rfl) ?_
            refine th_take_g rfl rfl rfl rfl rfl (by kernel_rfl)  (opv_indexAddrSN rfl rfl (by omega) (by assumption) rfl) ?_
            refine th_take_g rfl rfl rfl rfl rfl (by kernel_rfl)  (opv_loadEA rfl (by assumption) rfl (by omega) rfl rfl) ?_
            refine th_take_g rfl rfl rfl rfl rfl (by kernel_rfl)  (opv_loadA rfl rfl rfl) ?_
            refine th_take_g rfl rfl rfl rfl rfl (by kernel_rfl)  (opv_neqI rfl rfl rfl rfl rfl rfl) ?_
            refine th_take rfl rfl (by kernel_rfl)  (opv_pick_t rfl rfl) ?_
            refine th_done (by kernel_rfl) ?_
            refine tri_then ?_
            refine tri_cond_dec rfl (fun h5 => ?_) (fun h5 => ?_)
            · refine tri_region ?_
              refine tri_v (opv_move rfl) rfl ?_
              refine tri_v (opv_add rfl rfl (w64 (by omega) (by omega))) rfl ?_
              refine tri_v (opv_assign rfl) rfl ?_
              refine tri_nil ?_
              refine tri_inBlock ?_
              refine tri_then ?_
              refine tri_region ?_
              refine tri_v (opv_move rfl) rfl ?_
              refine tri_v (opv_add rfl rfl (w64 (by omega) (by omega))) rfl ?_
              refine tri_v (opv_assign rfl) rfl ?_
              refine tri_nil ?_
              refine tri_then ?_
              refine tri_sub ?_ (hK (i + 1) (by omega) (by omega))
              rw [hsn, if_pos ⟨h1, h2, h3, h4, Cell.ne_iff'.2 h5⟩]
              exact ⟨rfl, rfl, rfl, rfl, trivial⟩
            · refine tri_skip ?_
              refine tri_inBlock ?_
              refine tri_then ?_
              refine tri_region ?_
              refine tri_v (opv_move rfl) rfl ?_
              refine tri_v (opv_add rfl rfl (w64 (by omega) (by omega))) rfl ?_
              refine tri_v (opv_assign rfl) rfl ?_
              refine tri_nil ?_
              refine tri_then ?_
              refine tri_sub ?_ (hK (i + 1) (by omega) (by omega))
              rw [no fun h => h5 (Cell.ne_iff'.1 h.2.2.2.2)]
              exact ⟨rfl, rfl, rfl, rfl, trivial⟩
          · refine th_skip rfl rfl rfl rfl rfl (by kernel_rfl)  ?_
            refine th_skip rfl rfl rfl rfl rfl (by kernel_rfl)  ?_
            refine th_skip rfl rfl rfl rfl rfl (by kernel_rfl)  ?_
            refine th_skip rfl rfl rfl rfl rfl (by kernel_rfl)  ?_
            refine th_skip rfl rfl rfl rfl rfl (by kernel_rfl)  ?_
            refine th_skip rfl rfl rfl rfl rfl (by kernel_rfl)  ?_
            refine th_take rfl rfl (by kernel_rfl)  (opv_pick_f rfl rfl) ?_
            refine th_done (by kernel_rfl) ?_
            refine tri_then ?_
            refine tri_cond_false rfl ?_
            refine tri_skip ?_
            refine tri_inBlock ?_
            refine tri_then ?_
            refine tri_region ?_
            refine tri_v (opv_move rfl) rfl ?_
            refine tri_v (opv_add rfl rfl (w64 (by omega) (by omega))) rfl ?_
            refine tri_v (opv_assign rfl) rfl ?_
            refine tri_nil ?_
            refine tri_then ?_
            refine tri_sub ?_ (hK (i + 1) (by omega) (by omega))
            rw [no fun h => h4 h.2.2.2.1]
            exact ⟨rfl, rfl, rfl, rfl, trivial⟩
        · refine th_skip rfl rfl rfl rfl rfl (by kernel_rfl)  ?_
          refine th_skip rfl rfl rfl rfl rfl (by kernel_rfl)  ?_
          refine th_take rfl rfl (by kernel_rfl)  (opv_pick_f rfl rfl) ?_
          refine th_take rfl rfl (by kernel_rfl)  (opv_move rfl) ?_
          refine th_skip rfl rfl rfl rfl rfl (by kernel_rfl)  ?_
          refine th_skip rfl rfl rfl rfl rfl (by kernel_rfl)  ?_
          refine th_skip rfl rfl rfl rfl rfl (by kernel_rfl)  ?_
          refine th_skip rfl rfl rfl rfl rfl (by kernel_rfl)  ?_
          refine th_skip rfl rfl rfl rfl rfl (by kernel_rfl)  ?_
          refine th_skip rfl rfl rfl rfl rfl (by kernel_rfl)  ?_
          refine th_take rfl rfl (by kernel_rfl)  (opv_pick_f rfl rfl) ?_
          refine th_done (by kernel_rfl) ?_
          refine tri_then ?_
          refine tri_cond_false rfl ?_
          refine tri_skip ?_
          refine tri_inBlock ?_
          refine tri_then ?_
          refine tri_region ?_
          refine tri_v (opv_move rfl) rfl ?_
          refine tri_v (opv_add rfl rfl (w64 (by omega) (by omega))) rfl ?_
          refine tri_v (opv_assign rfl) rfl ?_
          refine tri_nil ?_
          refine tri_then ?_
          refine tri_sub ?_ (hK (i + 1) (by omega) (by omega))
          rw [no fun h => h3 h.2.2.1]
          exact ⟨rfl, rfl, rfl, rfl, trivial⟩
      · refine th_skip rfl rfl rfl rfl rfl (by kernel_rfl)  ?_
        refine th_skip rfl rfl rfl rfl rfl (by kernel_rfl)  ?_
        refine th_take rfl rfl (by kernel_rfl)  (opv_pick_f rfl rfl) ?_
        refine th_take rfl rfl (by kernel_rfl)  (opv_move rfl) ?_
        refine th_skip rfl rfl rfl rfl rfl (by kernel_rfl)  ?_
        refine th_skip rfl rfl rfl rfl rfl (by kernel_rfl)  ?_
        refine th_take rfl rfl (by kernel_rfl)  (opv_pick_f rfl rfl) ?_
        refine th_take rfl rfl (by kernel_rfl)  (opv_move rfl) ?_
        refine th_skip rfl rfl rfl rfl rfl (by kernel_rfl)  ?_
        refine th_skip rfl rfl rfl rfl rfl (by kernel_rfl)  ?_
        refine th_skip rfl rfl rfl rfl rfl (by kernel_rfl)  ?_
        refine th_skip rfl rfl rfl rfl rfl (by kernel_rfl)  ?_
        refine th_skip rfl rfl rfl rfl rfl (by kernel_rfl)  ?_
        refine th_skip rfl rfl rfl rfl rfl (by kernel_rfl)  ?_
        refine th_take rfl rfl (by kernel_rfl)  (opv_pick_f rfl rfl) ?_
        refine th_done (by kernel_rfl) ?_
        refine tri_then ?_
        refine tri_cond_false rfl ?_
        refine tri_skip ?_
        refine tri_inBlock ?_
        refine tri_then ?_
        refine tri_region ?_
        refine tri_v (opv_move rfl) rfl ?_
        refine tri_v (opv_add rfl rfl (w64 (by omega) (by omega))) rfl ?_
        refine tri_v (opv_assign rfl) rfl ?_
        refine tri_nil ?_
        refine tri_then ?_
        refine tri_sub ?_ (hK (i + 1) (by omega) (by omega))
        rw [no fun h => h2 h.2.1]
        exact ⟨rfl, rfl, rfl, rfl, trivial⟩
    · refine th_skip rfl rfl rfl rfl rfl (by kernel_rfl)  ?_
      refine th_skip rfl rfl rfl rfl rfl (by kernel_rfl)  ?_
      refine th_take rfl rfl (by kernel_rfl)  (opv_pick_f rfl rfl) ?_
      refine th_take rfl rfl (by kernel_rfl)  (opv_move rfl) ?_
      refine th_skip rfl rfl rfl rfl rfl (by kernel_rfl)  ?_
      refine th_skip rfl rfl rfl rfl rfl (by kernel_rfl)  ?_
      refine th_take rfl rfl (by kernel_rfl)  (opv_pick_f rfl rfl) ?_
      refine th_take rfl rfl (by kernel_rfl)  (opv_move rfl) ?_
      refine th_skip rfl rfl rfl rfl rfl (by kernel_rfl)  ?_
      refine th_skip rfl rfl rfl rfl rfl (by kernel_rfl)  ?_
      refine th_take rfl rfl (by kernel_rfl)  (opv_pick_f rfl rfl) ?_
      refine th_take rfl rfl (by kernel_rfl)  (opv_move rfl) ?_
      refine th_skip rfl rfl rfl rfl rfl (by kernel_rfl)  ?_
      refine th_skip rfl rfl rfl rfl rfl (by kernel_rfl)  ?_
      refine th_skip rfl rfl rfl rfl rfl (by kernel_rfl)  ?_
      refine th_skip rfl rfl rfl rfl rfl (by kernel_rfl)  ?_
      refine th_skip rfl rfl rfl rfl rfl (by kernel_rfl)  ?_
      refine th_skip rfl rfl rfl rfl rfl (by kernel_rfl)  ?_
      refine th_take rfl rfl (by kernel_rfl)  (opv_pick_f rfl rfl) ?_
      refine th_done (by kernel_rfl) ?_
      refine tri_then ?_
      refine tri_cond_false rfl ?_
      refine tri_skip ?_
      refine tri_inBlock ?_
      refine tri_then ?_
      refine tri_region ?_
      refine tri_v (opv_move rfl) rfl ?_
      refine tri_v (opv_add rfl rfl (w64 (by omega) (by omega))) rfl ?_
      refine tri_v (opv_assign rfl) rfl ?_
      refine tri_nil ?_
      refine tri_then ?_
      refine tri_sub ?_ (hK (i + 1) (by omega) (by omega))
      rw [no fun h => h1 h.1]
      exact ⟨rfl, rfl, rfl, rfl, trivial⟩
  · refine tri_exit ?_
    refine tri_then_exit ?_
    refine tri_then_exit ?_
    refine tri_inBlock_hit rfl ?_
    refine tri_then ?_
    refine tri_seq ?_
    refine tri_region ?_
    refine tri_v (opv_move rfl) rfl ?_
    refine tri_v (opv_assign rfl) rfl ?_
    refine tri_nil ?_
    refine tri_then ?_
    refine tri_ret ?_
    refine tri_end A Suf.h rfl (.cons (rv_tmp rfl) .nil) ⟨?_, rfl, rfl⟩
    rw [List.take_of_length_le (by omega)]; rfl
end Go.GL

set_option linter.unusedVariables false
namespace Go.GL
open Go.Proofs
attribute [local irreducible] wpList Code.wp Exit.then Exit.inBlock Ends Tri TriH OpV OpG FnC epf wpAnyH
variable {A : List Asrt} {I : List Chunk}
def R2.acc (l : List Cell) (i : Nat) : List Cell := (l.take i).flatMap (R2.about l)
def R2.part (l : List Cell) (i k : Nat) : List Cell := R2.acc l i ++ ((List.range k).map (R2.nb (l.getD i default))).filter (R2.livesAt l)
theorem R2.part_succ (l : List Cell) (i k : Nat) : R2.part l i (k + 1) = R2.part l i k ++ if R2.livesAt l (R2.nb (l.getD i default) k) = true then [R2.nb (l.getD i default) k] else [] := by
  unfold R2.part
  rw [List.range_succ, List.map_append, List.filter_append, List.append_assoc]
  simp only [List.map_cons, List.map_nil, List.filter_cons, List.filter_nil]
theorem R2.part_nine (l : List Cell) (i : Nat) (h : i < l.length) : R2.part l i 9 = R2.acc l (i + 1) := by
  unfold R2.part R2.acc
  rw [List.take_succ_eq_append_getElem h, List.flatMap_append]
  simp [R2.about, h]
theorem R2.acc_len (l : List Cell) (i : Nat) : (R2.acc l i).length ≤ 9 * l.length := by
  have h1 := R2.cands_len l (l.take i)
  have h2 : (l.take i).length ≤ l.length := by rw [List.length_take]; omega
  unfold R2.acc
  omega
theorem R2.part_len (l : List Cell) (i k : Nat) : (R2.part l i k).length ≤ 9 * l.length + k := by
  have h1 := R2.acc_len l i
  have h2 := List.length_filter_le (R2.livesAt l) ((List.range k).map (R2.nb (l.getD i default)))
  unfold R2.part
  simp only [List.length_append, List.length_map, List.length_range] at h2 ⊢
  omega
theorem R1.right_bd {l : List Cell} (h : R1.right l) : ∀ d ∈ l, R1.inB d := by
  intro d hd
  obtain ⟨i, hi, rfl⟩ := List.getElem_of_mem hd
  have := (h.1 i hi).1
  simpa [R1.g, hi] using this
set_option maxHeartbeats 1000000 in
set_option maxRecDepth 100000 in
theorem ref02_next {l : List Cell} {a : Option Addr} {cap : Nat} (hs : SlAt I a l) (hn : l.length ≤ 100000000) :
    FnC Try.prog 28 [.slice a l.length cap].toArray A I (fun v A' I' => ∃ a' cap', v = .tuple [.slice a' (R2.next l).1.length cap', .int .i64 (R2.next l).2].toArray ∧ SlAt I' a' (R2.next l).1 ∧ A = A' ∧ I ⊆ I') := by
  refine fn_enter1 Try.func28 rfl Try.ntmps28 rfl fun w0 => ?_
  refine tri_seq ?_
  refine tri_region ?_
  refine tri_v (opv_assign rfl) rfl ?_
  refine tri_v (opv_assign rfl) rfl ?_
  refine tri_nil ?_
  refine tri_then ?_
  refine tri_seq ?_
  refine tri_seq ?_
  refine tri_region ?_
  refine tri_v (opv_move rfl) rfl ?_
  refine tri_g (opg_call (xs := [_]) rfl (ref01_right hs (by omega))) rfl ?_
  rintro _ _ _ ⟨rfl, rfl, rfl⟩
  refine tri_v (opv_notD rfl) rfl ?_
  refine tri_nil ?_
  refine tri_then ?_
  refine tri_cond_dec rfl (fun hr => ?_) (fun hr => ?_)
  · refine tri_seq ?_
    refine tri_region ?_
    refine tri_v (opv_assign rfl) rfl ?_
    refine tri_v (opv_assign rfl) rfl ?_
    refine tri_nil ?_
    refine tri_then ?_
    refine tri_ret ?_
    refine tri_then_ret ?_
    refine tri_end A Suf.h rfl (.cons (rv_tmp rfl) (.cons (rv_tmp rfl) .nil)) ?_
    rw [show R2.next l = ([], 1) from if_neg hr]
    exact ⟨none, 0, rfl, SlAt.nil, rfl, fun _ h => h⟩
  refine tri_skip ?_
  refine tri_then ?_
  refine tri_seq ?_
  refine tri_region ?_
  refine tri_v (opv_assign rfl) rfl ?_
  refine tri_nil ?_
  refine tri_then ?_
  refine tri_seq ?_
  refine tri_seq ?_
  refine tri_region ?_
  refine tri_v (opv_assign rfl) rfl ?_
  refine tri_nil ?_
  refine tri_then ?_
  refine tri_block ?_
  have hr' : R1.right l := Decidable.not_not.1 hr
  refine tri_nilRow (E := 55) (sz := 2) ?_
  refine tri_sub (F' := [(0, .slice a l.length cap), (4, .slice none (R2.acc l 0).length 0), (5, .int .i64 (0 : Nat))]) ⟨rfl, rfl, rfl, trivial⟩ ?_
  refine loop_ind (G := Nat × Option Addr × Nat) (fun g => l.length - g.1) (fun g => g.1 ≤ l.length) (fun g => [(0, .slice a l.length cap), (4, .slice g.2.1 (R2.acc l g.1).length g.2.2), (5, .int .i64 (g.1 : Nat))]) (fun g => Row g.2.1 g.2.2 (R2.acc l g.1).length 55 2 (encs (R2.acc l g.1)) :: A) (fun _ => I) ?_ (0, none, 0) (by omega)
  rintro ⟨i, a1, cap1⟩ hi K hK
  simp only at hi hK ⊢
  skip
  refine tri_seq ?_
  refine tri_seq ?_
  refine tri_region ?_
  refine tri_v (opv_move rfl) rfl ?_
  refine tri_v (opv_move rfl) rfl ?_
  refine tri_v (opv_len rfl) rfl ?_
  refine tri_v (opv_lss rfl rfl) rfl ?_
  refine tri_nil ?_
  refine tri_then ?_
  refine tri_cond_dec rfl (fun h => ?_) (fun h => ?_)
  · have hlt : i < l.length := by omega
    have hbi : R1.inB (l.getD i default) := R1.right_bd hr' _ (by simp [hlt])
    have hx := hbi.1
    have hx2 := hbi.2.1
    have hy := hbi.2.2.1
    have hy2 := hbi.2.2.2
    refine tri_skip ?_
    refine tri_then ?_
    refine tri_seq ?_
    refine tri_block ?_
    refine tri_seq ?_
    refine tri_region ?_
    refine tri_v (opv_assign rfl) rfl ?_
    refine tri_nil ?_
    refine tri_then ?_
    refine tri_block ?_
    refine tri_sub (F' := [(0, .slice a l.length cap), (4, .slice a1 (R2.part l i 0).length cap1), (5, .int .i64 (i : Nat)), (6, .int .i64 (0 : Nat))]) ⟨rfl, by rw [R2.part]; simp; rfl, rfl, rfl, trivial⟩ ?_
    refine tri_rowEq (len' := (R2.part l i 0).length) (cells' := encs (R2.part l i 0)) (by rw [R2.part]; simp) (by rw [R2.part]; simp) ?_
    refine loop_ind (G := Nat × Option Addr × Nat) (fun g => 9 - g.1) (fun g => g.1 ≤ 9) (fun g => [(0, .slice a l.length cap), (4, .slice g.2.1 (R2.part l i g.1).length g.2.2), (5, .int .i64 (i : Nat)), (6, .int .i64 (g.1 : Nat))]) (fun g => Row g.2.1 g.2.2 (R2.part l i g.1).length 55 2 (encs (R2.part l i g.1)) :: A) (fun _ => I) ?_ (0, a1, cap1) (by omega)
    rintro ⟨k, a2, cap2⟩ hk K2 hK2
    simp only at hk hK2 ⊢
    skip
    refine tri_seq ?_
    refine tri_seq ?_
    refine tri_region ?_
    refine tri_v (opv_move rfl) rfl ?_
    refine tri_v (opv_lss rfl rfl) rfl ?_
    refine tri_nil ?_
    refine tri_then ?_
    refine tri_cond_dec rfl (fun h2 => ?_) (fun h2 => ?_)
    · have hpl := R2.part_len l i k
      have hps := R2.part_succ l i k
      refine tri_skip ?_
      refine tri_then ?_
      refine tri_seq ?_
      refine tri_block ?_
      refine tri_seq ?_
      refine tri_draw [0, 1, 2, 3, 4, 5, 6, 7, 8, 9, 10, 11, 12, 13, 14, 15, 16, 17, 18, 19, 20] rfl [] rfl mixed ?_
      refine th_take rfl rfl (by kernel_rfl)  (opv_move rfl) ?_
      refine th_take rfl rfl (by kernel_rfl)  (opv_move rfl) ?_
      refine th_take rfl rfl (by kernel_rfl)  (opv_indexAddrSN rfl rfl (by omega) (by assumption) rfl) ?_
      refine th_take rfl rfl (by kernel_rfl)  (opv_fieldAddrE rfl (by assumption) (by omega) rfl) ?_
      refine th_take rfl rfl (by kernel_rfl)  (opv_loadE1 rfl (by assumption) rfl (by omega) rfl rfl) ?_
      refine th_take rfl rfl (by kernel_rfl)  (opv_move rfl) ?_
      refine th_take rfl rfl (by kernel_rfl)  (opv_remE rfl rfl (by omega) (by omega)) ?_
      refine th_take rfl rfl (by kernel_rfl)  (opv_add rfl rfl (w64 (by omega) (by omega))) ?_
      refine th_take rfl rfl (by kernel_rfl)  (opv_sub rfl rfl (w64 (by omega) (by omega))) ?_
      refine th_take rfl rfl (by kernel_rfl)  (opv_move rfl) ?_
      refine th_take rfl rfl (by kernel_rfl)  (opv_move rfl) ?_
      refine th_take rfl rfl (by kernel_rfl)  (opv_indexAddrSN rfl rfl (by omega) (by assumption) rfl) ?_
      refine th_take rfl rfl (by kernel_rfl)  (opv_fieldAddrE rfl (by assumption) (by omega) rfl) ?_
      refine th_take rfl rfl (by kernel_rfl)  (opv_loadE1 rfl (by assumption) rfl (by omega) rfl rfl) ?_
      refine th_take rfl rfl (by kernel_rfl)  (opv_move rfl) ?_
      refine th_take rfl rfl (by kernel_rfl)  (opv_quoE rfl rfl (by omega) (by omega) (by omega)) ?_
      refine th_take rfl rfl (by kernel_rfl)  (opv_add rfl rfl (w64 (by omega) (by omega))) ?_
      refine th_take rfl rfl (by kernel_rfl)  (opv_sub rfl rfl (w64 (by omega) (by omega))) ?_
      refine th_take rfl rfl (by kernel_rfl)  (opv_buildS rfl rfl) ?_
      refine th_one (by kernel_rfl) (step_m rfl rfl opg_alloc ?_)
      rintro _ _ _ ⟨b, rfl, rfl, rfl⟩
      refine ⟨Suf.h, (fun _ h => h), ?_⟩
      refine th_one (by kernel_rfl) (step_m rfl rfl (opg_store rfl rfl rfl rfl rfl rfl) ?_)
      rintro _ _ _ ⟨rfl, rfl⟩
      refine ⟨Suf.h, (fun _ h => h), ?_⟩
      refine th_done (by kernel_rfl) ?_
      refine tri_then ?_
      refine tri_seq ?_
      refine tri_cut (fun F' A' I' => F' = [(0, .slice a l.length cap), (4, .slice a2 (R2.part l i k).length cap2), (5, .int .i64 (i : Nat)), (6, .int .i64 (k : Nat)), (7, pt b 0), (46, .bool (R2.livesAt l (R2.nb (l.getD i default) k)))] ∧ A' = Box b [.int .i64 (R2.nb (l.getD i default) k).x, .int .i64 (R2.nb (l.getD i default) k).y] 55 :: Row a2 cap2 (R2.part l i k).length 55 2 (encs (R2.part l i k)) :: A ∧ I' = I) ?_ ?_
      · have hnb : R2.bd (R2.nb (l.getD i default) k) := by
          unfold R2.bd R2.nb
          simp only
          omega
        have hlb : ∀ d ∈ l, R2.bd d := fun d hd => by
          have := R1.right_bd hr' d hd
          unfold R1.inB at this
          unfold R2.bd
          omega
        refine tri_draw [0, 1, 3, 4, 2, 5, 6] rfl [] rfl mixed ?_
        refine th_take rfl rfl (by kernel_rfl)  (opv_move rfl) ?_
        refine th_take rfl rfl (by kernel_rfl)  (opv_loadA rfl rfl rfl) ?_
        refine th_take rfl rfl (by kernel_rfl)  (opv_move rfl) ?_
        refine th_take rfl rfl (by kernel_rfl)  (opv_loadA rfl rfl rfl) ?_
        refine th_one (by kernel_rfl) (step_m rfl rfl (opg_call (xs := [_, _]) rfl (ref01_has (c := R2.nb (l.getD i default) k) hs (by omega))) ?_)
        rintro _ _ _ ⟨rfl, rfl, rfl⟩
        refine ⟨Suf.h, (fun _ h => h), ?_⟩
        skip
        refine th_one (by kernel_rfl) (step_m rfl rfl (opg_call (xs := [_, _]) rfl (ref02_around (c := R2.nb (l.getD i default) k) hs (by omega) hlb hnb)) ?_)
        rintro _ _ _ ⟨rfl, rfl, rfl⟩
        refine ⟨Suf.h, (fun _ h => h), ?_⟩
        skip
        refine th_one (by kernel_rfl) (step_m rfl rfl (opg_call (xs := [_, _]) rfl (ref02_lives)) ?_)
        rintro _ _ _ ⟨rfl, rfl, rfl⟩
        refine ⟨Suf.h, (fun _ h => h), ?_⟩
        refine th_done (by kernel_rfl) ?_
        refine tri_cutEnd _ ⟨rfl, rfl, rfl⟩ ⟨rfl, rfl, rfl, rfl, rfl, rfl, trivial⟩
      rintro _ _ _ ⟨rfl, rfl, rfl⟩
      skip
      refine tri_then ?_
      refine tri_cond rfl (fun hl => ?_) (fun hl => ?_)
      · rw [if_pos hl] at hps
        refine tri_region ?_
        refine tri_v (opv_move rfl) rfl ?_
        refine tri_v (opv_loadA rfl rfl rfl) rfl ?_
        refine tri_g (opg_buildSlice rfl rfl rfl rfl) rfl ?_
        rintro _ _ _ ⟨b, rfl, rfl, rfl⟩
        refine tri_g (opg_appendB rfl rfl rfl rfl (by omega) rfl) rfl ?_
        rintro _ _ _ ⟨a3, cap3, rfl, rfl, rfl⟩
        refine tri_v (opv_assign rfl) rfl ?_
        refine tri_nil ?_
        refine tri_inBlock ?_
        refine tri_then ?_
        refine tri_region ?_
        refine tri_v (opv_move rfl) rfl ?_
        refine tri_v (opv_add rfl rfl (w64 (by omega) (by omega))) rfl ?_
        refine tri_v (opv_assign rfl) rfl ?_
        refine tri_nil ?_
        refine tri_then ?_
        refine tri_drop ?_
        refine tri_drop ?_
        refine tri_rowEq (len' := (R2.part l i (k + 1)).length) (cells' := encs (R2.part l i (k + 1))) (by rw [hps, List.length_append]; rfl) (by rw [hps, encs_append]; rfl) ?_
        refine tri_sub ?_ (hK2 (k + 1, a3, cap3) (by simp only; omega) (by simp only; omega))
        exact ⟨rfl, by rw [hps, List.length_append]; rfl, rfl, rfl, trivial⟩
      · have hl2 : ¬ R2.livesAt l (R2.nb (l.getD i default) k) = true := fun h => by rw [hl] at h; cases h
        rw [if_neg hl2, List.append_nil] at hps
        refine tri_skip ?_
        refine tri_inBlock ?_
        refine tri_then ?_
        refine tri_region ?_
        refine tri_v (opv_move rfl) rfl ?_
        refine tri_v (opv_add rfl rfl (w64 (by omega) (by omega))) rfl ?_
        refine tri_v (opv_assign rfl) rfl ?_
        refine tri_nil ?_
        refine tri_then ?_
        refine tri_drop ?_
        refine tri_rowEq (len' := (R2.part l i (k + 1)).length) (cells' := encs (R2.part l i (k + 1))) (by rw [hps]) (by rw [hps]) ?_
        refine tri_sub ?_ (hK2 (k + 1, a2, cap2) (by simp only; omega) (by simp only; omega))
        exact ⟨rfl, by rw [hps]; rfl, rfl, rfl, trivial⟩
    · have hk9 : k = 9 := by omega
      subst hk9
      rw [R2.part_nine l i hlt]
      refine tri_exit ?_
      refine tri_then_exit ?_
      refine tri_then_exit ?_
      refine tri_inBlock_hit rfl ?_
      refine tri_inBlock ?_
      refine tri_then ?_
      refine tri_region ?_
      refine tri_v (opv_move rfl) rfl ?_
      refine tri_v (opv_add rfl rfl (w64 (by omega) (by omega))) rfl ?_
      refine tri_v (opv_assign rfl) rfl ?_
      refine tri_nil ?_
      refine tri_then ?_
      refine tri_sub ?_ (hK (i + 1, a2, cap2) (by simp only; omega) (by simp only; omega))
      exact ⟨rfl, rfl, rfl, trivial⟩
  · have e : R2.acc l i = R2.cands l := by rw [R2.acc, List.take_of_length_le (by omega)]; rfl
    rw [e]
    have hcl := R2.cands_len l l
    refine tri_exit ?_
    refine tri_then_exit ?_
    refine tri_then_exit ?_
    refine tri_inBlock_hit rfl ?_
    refine tri_then ?_
    refine tri_seq ?_
    refine tri_freezeRow rfl fun I1 hI1 hs1 => ?_
    refine tri_region ?_
    refine tri_v (opv_move rfl) rfl ?_
    refine tri_g (opg_call (xs := [_]) rfl (ref01_of hs1 (by unfold R2.cands; omega))) rfl ?_
    rintro _ _ I2 ⟨a2, cap2, rfl, hs2, rfl, hI2⟩
    refine tri_v (opv_extract rfl rfl) rfl ?_
    refine tri_v (opv_extract rfl rfl) rfl ?_
    refine tri_v (opv_assign rfl) rfl ?_
    refine tri_v (opv_assign rfl) rfl ?_
    refine tri_nil ?_
    refine tri_then ?_
    refine tri_ret ?_
    refine tri_end A Suf.h rfl (.cons (rv_tmp rfl) (.cons (rv_tmp rfl) .nil)) ?_
    rw [show R2.next l = R1.of (R2.cands l) from if_pos hr']
    exact ⟨a2, cap2, rfl, hs2, rfl, fun _ h => hI2 (hI1 h)⟩
end Go.GL

set_option linter.unusedVariables false
namespace Go.GL
open Go.Proofs
attribute [local irreducible] wpList Code.wp Exit.then Exit.inBlock Ends Tri TriH OpV OpG FnC epf wpAnyH
variable {A : List Asrt} {I : List Chunk}
set_option maxRecDepth 100000 in
theorem ref06_new {room : Int} : FnC Try.prog 29 [.int .i64 room].toArray A I (fun v A' I' => ∃ a' cap', v = storeV a' (R6.new room).1.length cap' (R6.new room).2 ∧ StA I' a' cap' (R6.new room).1 ∧ A = A' ∧ I ⊆ I') := by
  refine fn_enter1 Try.func29 rfl Try.ntmps29 rfl fun w0 => ?_
  refine tri_seq ?_
  refine tri_region ?_
  refine tri_g opg_alloc rfl ?_
  rintro _ _ _ ⟨b, rfl, rfl, rfl⟩
  refine tri_nil ?_
  refine tri_then ?_
  refine tri_seq ?_
  refine tri_seq ?_
  refine tri_region ?_
  refine tri_v (opv_move rfl) rfl ?_
  refine tri_v (opv_lss rfl rfl) rfl ?_
  refine tri_v (opv_move rfl) rfl ?_
  refine tri_split rfl rfl (fun h1 => ?_) (fun h1 => ?_)
  · refine tri_guard_skip rfl rfl rfl rfl ?_
    refine tri_guard_skip rfl rfl rfl rfl ?_
    refine tri_v (opv_pick_t rfl rfl) rfl ?_
    refine tri_nil ?_
    refine tri_then ?_
    refine tri_cond_true rfl ?_
    refine tri_seq ?_
    refine tri_region ?_
    refine tri_v (opv_buildS rfl rfl) rfl ?_
    refine tri_g (opg_store rfl rfl rfl rfl rfl rfl) rfl ?_
    rintro _ _ _ ⟨rfl, rfl⟩
    refine tri_nil ?_
    refine tri_then ?_
    refine tri_ret ?_
    refine tri_then_ret ?_
    refine tri_end A Suf.h rfl (.cons (rv_cellA rfl rfl rfl) .nil) ?_
    rw [show R6.new room = ([], 0) from if_pos (.inl h1)]
    exact ⟨none, 0, rfl, StA.nil, rfl, fun _ h => h⟩
  · refine tri_guard_run rfl rfl rfl ?_
    refine tri_v (opv_move rfl) rfl ?_
    refine tri_guard_run rfl rfl rfl ?_
    refine tri_v (opv_gtr rfl rfl) rfl ?_
    refine tri_v (opv_pick_f rfl rfl) rfl ?_
    refine tri_nil ?_
    refine tri_then ?_
    refine tri_cond_dec rfl (fun h2 => ?_) (fun h2 => ?_)
    · refine tri_seq ?_
      refine tri_region ?_
      refine tri_v (opv_buildS rfl rfl) rfl ?_
      refine tri_g (opg_store rfl rfl rfl rfl rfl rfl) rfl ?_
      rintro _ _ _ ⟨rfl, rfl⟩
      refine tri_nil ?_
      refine tri_then ?_
      refine tri_ret ?_
      refine tri_then_ret ?_
      refine tri_end A Suf.h rfl (.cons (rv_cellA rfl rfl rfl) .nil) ?_
      rw [show R6.new room = ([], 0) from if_pos (.inr h2)]
      exact ⟨none, 0, rfl, StA.nil, rfl, fun _ h => h⟩
    · refine tri_skip ?_
      refine tri_then ?_
      refine tri_seq ?_
      refine tri_region ?_
      refine tri_v (opv_buildS rfl rfl) rfl ?_
      refine tri_v (opv_buildS rfl rfl) rfl ?_
      refine tri_g (opg_buildSlice rfl rfl rfl rfl) rfl ?_
      rintro _ _ _ ⟨b, rfl, rfl, rfl⟩
      refine tri_v (opv_move rfl) rfl ?_
      refine tri_v (opv_buildS rfl rfl) rfl ?_
      refine tri_g (opg_store rfl rfl rfl rfl rfl rfl) rfl ?_
      rintro _ _ _ ⟨rfl, rfl⟩
      refine tri_nil ?_
      refine tri_then ?_
      refine tri_ret ?_
      refine tri_freezeBoxS [R6.n0, R6.n1] rfl fun I' hI hs' => ?_
      refine tri_end A Suf.h rfl (.cons (rv_cellA rfl rfl rfl) .nil) ?_
      rw [show R6.new room = ([R6.n0, R6.n1], room) from if_neg (by omega)]
      exact ⟨_, 2, rfl, ⟨hs', Nat.le_refl 2⟩, rfl, hI⟩
set_option maxRecDepth 100000 in
theorem ref07_in {lv : Int} {c : Cell} (h1 : 1 ≤ lv) (h2 : lv ≤ 42) : FnC Try.prog 51 [.int .i64 lv, cellV c].toArray A I (fun v A' I' => v = .bool (decide (R7.inL lv c)) ∧ A = A' ∧ I = I') := by
  have hsd := R7.side_bd h2
  unfold R7.side at hsd
  refine fn_enter2 Try.func51 rfl Try.ntmps51 rfl fun w0 => ?_
  refine tri_seq ?_
  refine tri_region ?_
  refine tri_g (opg_box_agg rfl) rfl ?_
  rintro _ _ _ ⟨b, rfl, rfl, rfl⟩
  refine tri_v (opv_assign rfl) rfl ?_
  refine tri_nil ?_
  refine tri_then ?_
  refine tri_seq ?_
  refine tri_region ?_
  refine tri_v (opv_move rfl) rfl ?_
  refine tri_v (opv_sub rfl rfl (w64 (by omega) (by omega))) rfl ?_
  refine tri_v (opv_shl1 rfl rfl (by omega) (by omega)) rfl ?_
  refine tri_v (opv_assign rfl) rfl ?_
  refine tri_nil ?_
  refine tri_then ?_
  refine tri_seq ?_
  refine tri_region ?_
  refine tri_v (opv_fieldAddr rfl rfl) rfl ?_
  refine tri_v (opv_load1 rfl rfl rfl) rfl ?_
  refine tri_v (opv_move rfl) rfl ?_
  refine tri_v (opv_negE rfl (by omega) (by omega)) rfl ?_
  refine tri_v (opv_geq rfl rfl) rfl ?_
  refine tri_v (opv_move rfl) rfl ?_
  refine tri_split rfl rfl (fun g1 => ?_) (fun g1 => ?_)
  · refine tri_guard_run rfl rfl rfl ?_
    refine tri_v (opv_fieldAddr rfl rfl) rfl ?_
    refine tri_guard_run rfl rfl rfl ?_
    refine tri_v (opv_load1 rfl rfl rfl) rfl ?_
    refine tri_guard_run rfl rfl rfl ?_
    refine tri_v (opv_move rfl) rfl ?_
    refine tri_guard_run rfl rfl rfl ?_
    refine tri_v (opv_lss rfl rfl) rfl ?_
    refine tri_v (opv_pick_t rfl rfl) rfl ?_
    refine tri_v (opv_move rfl) rfl ?_
    refine tri_split rfl rfl (fun g2 => ?_) (fun g2 => ?_)
    · refine tri_guard_run rfl rfl rfl ?_
      refine tri_v (opv_fieldAddr rfl rfl) rfl ?_
      refine tri_guard_run rfl rfl rfl ?_
      refine tri_v (opv_load1 rfl rfl rfl) rfl ?_
      refine tri_guard_run rfl rfl rfl ?_
      refine tri_v (opv_move rfl) rfl ?_
      refine tri_guard_run rfl rfl rfl ?_
      refine tri_v (opv_negE rfl (by omega) (by omega)) rfl ?_
      refine tri_guard_run rfl rfl rfl ?_
      refine tri_v (opv_geq rfl rfl) rfl ?_
      refine tri_v (opv_pick_t rfl rfl) rfl ?_
      refine tri_v (opv_move rfl) rfl ?_
      refine tri_split rfl rfl (fun g3 => ?_) (fun g3 => ?_)
      · refine tri_guard_run rfl rfl rfl ?_
        refine tri_v (opv_fieldAddr rfl rfl) rfl ?_
        refine tri_guard_run rfl rfl rfl ?_
        refine tri_v (opv_load1 rfl rfl rfl) rfl ?_
        refine tri_guard_run rfl rfl rfl ?_
        refine tri_v (opv_move rfl) rfl ?_
        refine tri_guard_run rfl rfl rfl ?_
        refine tri_v (opv_lss rfl rfl) rfl ?_
        refine tri_v (opv_pick_t rfl rfl) rfl ?_
        refine tri_v (opv_assign rfl) rfl ?_
        refine tri_nil ?_
        refine tri_then ?_
        refine tri_ret ?_
        refine tri_end A Suf.h rfl (.cons (rv_tmp rfl) .nil) ⟨congrArg Value.bool (decide_eq_decide.2 ?_), rfl, rfl⟩
        exact ⟨fun h => ⟨g1, g2, g3, h⟩, fun h => h.2.2.2⟩
      · refine tri_guard_skip rfl rfl rfl rfl ?_
        refine tri_guard_skip rfl rfl rfl rfl ?_
        refine tri_guard_skip rfl rfl rfl rfl ?_
        refine tri_guard_skip rfl rfl rfl rfl ?_
        refine tri_v (opv_pick_f rfl rfl) rfl ?_
        refine tri_v (opv_assign rfl) rfl ?_
        refine tri_nil ?_
        refine tri_then ?_
        refine tri_ret ?_
        refine tri_end A Suf.h rfl (.cons (rv_tmp rfl) .nil) ⟨congrArg Value.bool (decide_eq_false fun h => ?_).symm, rfl, rfl⟩
        exact g3 h.2.2.1
    · refine tri_guard_skip rfl rfl rfl rfl ?_
      refine tri_guard_skip rfl rfl rfl rfl ?_
      refine tri_guard_skip rfl rfl rfl rfl ?_
      refine tri_guard_skip rfl rfl rfl rfl ?_
      refine tri_guard_skip rfl rfl rfl rfl ?_
      refine tri_v (opv_pick_f rfl rfl) rfl ?_
      refine tri_v (opv_move rfl) rfl ?_
      refine tri_guard_skip rfl rfl rfl rfl ?_
      refine tri_guard_skip rfl rfl rfl rfl ?_
      refine tri_guard_skip rfl rfl rfl rfl ?_
      refine tri_guard_skip rfl rfl rfl rfl ?_
      refine tri_v (opv_pick_f rfl rfl) rfl ?_
      refine tri_v (opv_assign rfl) rfl ?_
      refine tri_nil ?_
      refine tri_then ?_
      refine tri_ret ?_
      refine tri_end A Suf.h rfl (.cons (rv_tmp rfl) .nil) ⟨congrArg Value.bool (decide_eq_false fun h => ?_).symm, rfl, rfl⟩
      exact g2 h.2.1
  · refine tri_guard_skip rfl rfl rfl rfl ?_
    refine tri_guard_skip rfl rfl rfl rfl ?_
    refine tri_guard_skip rfl rfl rfl rfl ?_
    refine tri_guard_skip rfl rfl rfl rfl ?_
    refine tri_v (opv_pick_f rfl rfl) rfl ?_
    refine tri_v (opv_move rfl) rfl ?_
    refine tri_guard_skip rfl rfl rfl rfl ?_
    refine tri_guard_skip rfl rfl rfl rfl ?_
    refine tri_guard_skip rfl rfl rfl rfl ?_
    refine tri_guard_skip rfl rfl rfl rfl ?_
    refine tri_guard_skip rfl rfl rfl rfl ?_
    refine tri_v (opv_pick_f rfl rfl) rfl ?_
    refine tri_v (opv_move rfl) rfl ?_
    refine tri_guard_skip rfl rfl rfl rfl ?_
    refine tri_guard_skip rfl rfl rfl rfl ?_
    refine tri_guard_skip rfl rfl rfl rfl ?_
    refine tri_guard_skip rfl rfl rfl rfl ?_
    refine tri_v (opv_pick_f rfl rfl) rfl ?_
    refine tri_v (opv_assign rfl) rfl ?_
    refine tri_nil ?_
    refine tri_then ?_
    refine tri_ret ?_
    refine tri_end A Suf.h rfl (.cons (rv_tmp rfl) .nil) ⟨congrArg Value.bool (decide_eq_false fun h => ?_).symm, rfl, rfl⟩
    exact g1 h.1
set_option maxHeartbeats 1000000 in
set_option maxRecDepth 100000 in
theorem ref07_corner {l : List Cell} {a : Option Addr} {cap : Nat} {lv : Int} (hs : SlAt I a l) (hn : l.length ≤ 1000000000) (h1 : 1 ≤ lv) (h2 : lv ≤ 42) (hb : ∀ c ∈ l, R2.bd c) :
    FnC Try.prog 53 [.slice a l.length cap, .int .i64 lv].toArray A I (fun v A' I' => ∃ a' cap', v = .slice a' (R7.corner (R7.side lv) l).length cap' ∧ SlAt I' a' (R7.corner (R7.side lv) l) ∧ A = A' ∧ I ⊆ I') := by
  have hsd := R7.side_bd h2
  have hsd0 := hsd
  unfold R7.side at hsd
  have hlen : ∀ i, i ≤ l.length → (R7.corner (R7.side lv) (l.take i)).length = i := by intro i hi; simp [R7.corner]; omega
  refine fn_enter2 Try.func53 rfl Try.ntmps53 rfl fun w0 => ?_
  refine tri_seq ?_
  refine tri_region ?_
  refine tri_v (opv_assign rfl) rfl ?_
  refine tri_nil ?_
  refine tri_then ?_
  refine tri_seq ?_
  refine tri_region ?_
  refine tri_v (opv_move rfl) rfl ?_
  refine tri_v (opv_sub rfl rfl (w64 (by omega) (by omega))) rfl ?_
  refine tri_v (opv_shl1 rfl rfl (by omega) (by omega)) rfl ?_
  refine tri_v (opv_assign rfl) rfl ?_
  refine tri_nil ?_
  refine tri_then ?_
  refine tri_seq ?_
  refine tri_region ?_
  refine tri_v (opv_assign rfl) rfl ?_
  refine tri_nil ?_
  refine tri_then ?_
  refine tri_seq ?_
  refine tri_seq ?_
  refine tri_region ?_
  refine tri_v (opv_assign rfl) rfl ?_
  refine tri_nil ?_
  refine tri_then ?_
  refine tri_block ?_
  refine tri_nilRow (E := 55) (sz := 2) ?_
  refine tri_sub (F' := [(0, .slice a l.length cap), (5, .int .i64 (R7.side lv)), (6, .slice none 0 0), (7, .int .i64 (0 : Nat))]) ⟨rfl, rfl, rfl, rfl, trivial⟩ ?_
  refine loop_ind (G := Nat × Option Addr × Nat) (fun g => l.length - g.1) (fun g => g.1 ≤ l.length) (fun g => [(0, .slice a l.length cap), (5, .int .i64 (R7.side lv)), (6, .slice g.2.1 g.1 g.2.2), (7, .int .i64 (g.1 : Nat))]) (fun g => Row g.2.1 g.2.2 g.1 55 2 (encs (R7.corner (R7.side lv) (l.take g.1))) :: A) (fun _ => I) ?_ (0, none, 0) (by omega)
  rintro ⟨i, a1, cap1⟩ hi K hK
  simp only at hi hK ⊢
  skip
  refine tri_seq ?_
  refine tri_seq ?_
  refine tri_region ?_
  refine tri_v (opv_move rfl) rfl ?_
  refine tri_v (opv_move rfl) rfl ?_
  refine tri_v (opv_len rfl) rfl ?_
  refine tri_v (opv_lss rfl rfl) rfl ?_
  refine tri_nil ?_
  refine tri_then ?_
  refine tri_cond_dec rfl (fun h => ?_) (fun h => ?_)
  · have hlt : i < l.length := by omega
    have hbi : R2.bd (l.getD i default) := hb _ (by simp [hlt])
    have hx := hbi.1
    have hx2 := hbi.2.1
    have hy := hbi.2.2.1
    have hy2 := hbi.2.2.2
    have e : R7.corner (R7.side lv) (l.take (i + 1)) = R7.corner (R7.side lv) (l.take i) ++ [⟨(l.getD i default).x + R7.side lv, (l.getD i default).y + R7.side lv⟩] := by
      have e0 : l.getD i default = l[i] := by simp [hlt]
      rw [e0, List.take_succ_eq_append_getElem hlt]; unfold R7.corner; rw [List.map_append]; rfl
    skip
    refine tri_skip ?_
    refine tri_then ?_
    refine tri_seq ?_
    refine tri_block ?_
    refine tri_draw [0, 1, 2, 3, 4, 5, 6, 7, 8, 9, 10, 11, 12, 13, 14, 15, 16, 17, 18] rfl [_] rfl mixed ?_
    refine th_take rfl rfl (by kernel_rfl)  (opv_move rfl) ?_
    refine th_take rfl rfl (by kernel_rfl)  (opv_move rfl) ?_
    refine th_take rfl rfl (by kernel_rfl)  (opv_move rfl) ?_
    refine th_take rfl rfl (by kernel_rfl)  (opv_indexAddrSN rfl rfl (by omega) (by assumption) rfl) ?_
    refine th_take rfl rfl (by kernel_rfl)  (opv_fieldAddrE rfl (by assumption) (by omega) rfl) ?_
    refine th_take rfl rfl (by kernel_rfl)  (opv_loadE1 rfl (by assumption) rfl (by omega) rfl rfl) ?_
    refine th_take rfl rfl (by kernel_rfl)  (opv_move rfl) ?_
    refine th_take rfl rfl (by kernel_rfl)  (opv_add rfl rfl (w64 (by omega) (by omega))) ?_
    refine th_take rfl rfl (by kernel_rfl)  (opv_move rfl) ?_
    refine th_take rfl rfl (by kernel_rfl)  (opv_move rfl) ?_
    refine th_take rfl rfl (by kernel_rfl)  (opv_indexAddrSN rfl rfl (by omega) (by assumption) rfl) ?_
    refine th_take rfl rfl (by kernel_rfl)  (opv_fieldAddrE rfl (by assumption) (by omega) rfl) ?_
    refine th_take rfl rfl (by kernel_rfl)  (opv_loadE1 rfl (by assumption) rfl (by omega) rfl rfl) ?_
    refine th_take rfl rfl (by kernel_rfl)  (opv_move rfl) ?_
    refine th_take rfl rfl (by kernel_rfl)  (opv_add rfl rfl (w64 (by omega) (by omega))) ?_
    refine th_take rfl rfl (by kernel_rfl)  (opv_buildS rfl rfl) ?_
    refine th_one (by kernel_rfl) (step_m rfl rfl (opg_buildSlice rfl rfl rfl rfl) ?_)
    rintro _ _ _ ⟨b, rfl, rfl, rfl⟩
    refine ⟨Suf.h, (fun _ h => h), ?_⟩
    refine th_one (by kernel_rfl) (step_m rfl rfl (opg_appendB rfl rfl rfl rfl (by omega) rfl) ?_)
    rintro _ _ _ ⟨a3, cap3, rfl, rfl, rfl⟩
    refine ⟨Suf.h, (fun _ h => h), ?_⟩
    refine th_take rfl rfl (by kernel_rfl)  (opv_assign rfl) ?_
    refine th_done (by kernel_rfl) ?_
    refine tri_inBlock ?_
    refine tri_then ?_
    refine tri_region ?_
    refine tri_v (opv_move rfl) rfl ?_
    refine tri_v (opv_add rfl rfl (w64 (by omega) (by omega))) rfl ?_
    refine tri_v (opv_assign rfl) rfl ?_
    refine tri_nil ?_
    refine tri_then ?_
    refine tri_drop ?_
    refine tri_rowEq (len' := i + 1) (cells' := encs (R7.corner (R7.side lv) (l.take (i + 1)))) rfl (by rw [e, encs_append]; rfl) ?_
    refine tri_sub ?_ (hK (i + 1, a3, cap3) (by simp only; omega) (by simp only; omega))
    exact ⟨rfl, rfl, rfl, rfl, trivial⟩
  · have hi' : i = l.length := by omega
    have hl := hlen i hi
    rw [List.take_of_length_le (by omega)] at hl
    refine tri_exit ?_
    refine tri_then_exit ?_
    refine tri_then_exit ?_
    refine tri_inBlock_hit rfl ?_
    refine tri_then ?_
    refine tri_seq ?_
    refine tri_region ?_
    refine tri_v (opv_move rfl) rfl ?_
    refine tri_v (opv_assign rfl) rfl ?_
    refine tri_nil ?_
    refine tri_then ?_
    refine tri_ret ?_
    refine tri_rowEq (len' := (R7.corner (R7.side lv) l).length) (cells' := encs (R7.corner (R7.side lv) l)) hl.symm (by rw [List.take_of_length_le (by omega)]) ?_
    refine tri_freezeRow rfl fun I' hI hs' => ?_
    refine tri_end A Suf.h rfl (.cons (rv_tmp rfl) .nil) ⟨a1, cap1, ?_, hs', rfl, hI⟩
    rw [hl]; rfl
end Go.GL

set_option linter.unusedVariables false
namespace Go.GL
open Go.Proofs
attribute [local irreducible] wpList Code.wp Exit.then Exit.inBlock Ends Tri TriH OpV OpG FnC epf wpAnyH
variable {A : List Asrt} {I : List Chunk}
theorem R7.part_snoc (h : Int) (k : Nat) (l : List Cell) (c : Cell) : R7.part h k (l ++ [c]) = R7.part h k l ++ if R7.qx h c = k then [R7.qc h c] else [] := by
  unfold R7.part
  rw [List.filter_append, List.map_append]
  by_cases e : R7.qx h c = k <;> simp [e]
theorem R7.part_len (h : Int) (k : Nat) (l : List Cell) : (R7.part h k l).length ≤ l.length := by
  unfold R7.part
  rw [List.length_map]
  exact List.length_filter_le ..
structure PG where
  i : Nat
  a0 : Option Addr
  a1 : Option Addr
  a2 : Option Addr
  a3 : Option Addr
  c0 : Nat
  c1 : Nat
  c2 : Nat
  c3 : Nat
set_option maxHeartbeats 1000000 in
set_option maxRecDepth 100000 in
theorem ref07_parts {l : List Cell} {a : Option Addr} {cap : Nat} {lv : Int} (hs : SlAt I a l) (hn : l.length ≤ 1000000000) (h1 : 1 ≤ lv) (h2 : lv ≤ 42) (hb : ∀ c ∈ l, c.x ≤ 4398046511104 ∧ c.y ≤ 4398046511104) :
    FnC Try.prog 69 [.slice a l.length cap, .int .i64 lv].toArray A I (fun v A' I' => ∃ a0 c0 a1 c1 a2 c2 a3 c3, v = .agg [.slice a0 (R7.part (R7.side lv) 0 l).length c0, .slice a1 (R7.part (R7.side lv) 1 l).length c1, .slice a2 (R7.part (R7.side lv) 2 l).length c2, .slice a3 (R7.part (R7.side lv) 3 l).length c3].toArray ∧ SlAt I' a0 (R7.part (R7.side lv) 0 l) ∧ SlAt I' a1 (R7.part (R7.side lv) 1 l) ∧ SlAt I' a2 (R7.part (R7.side lv) 2 l) ∧ SlAt I' a3 (R7.part (R7.side lv) 3 l) ∧ A = A' ∧ I ⊆ I') := by
  have hsd := R7.side_bd h2
  have hsd0 := hsd
  unfold R7.side at hsd
  have hpl : ∀ i k, (R7.part (R7.side lv) k (l.take i)).length ≤ 1000000000 := fun i k => by
    have h1 := R7.part_len (R7.side lv) k (l.take i)
    rw [List.length_take] at h1
    omega
  refine fn_enter2 Try.func69 rfl Try.ntmps69 rfl fun w0 => ?_
  refine tri_seq ?_
  refine tri_region ?_
  refine tri_g opg_alloc rfl ?_
  rintro _ _ _ ⟨b, rfl, rfl, rfl⟩
  refine tri_nil ?_
  refine tri_then ?_
  refine tri_seq ?_
  refine tri_region ?_
  refine tri_v (opv_move rfl) rfl ?_
  refine tri_v (opv_sub rfl rfl (w64 (by omega) (by omega))) rfl ?_
  refine tri_v (opv_shl1 rfl rfl (by omega) (by omega)) rfl ?_
  refine tri_v (opv_assign rfl) rfl ?_
  refine tri_nil ?_
  refine tri_then ?_
  refine tri_seq ?_
  refine tri_region ?_
  refine tri_g opg_alloc rfl ?_
  rintro _ _ _ ⟨b, rfl, rfl, rfl⟩
  refine tri_nil ?_
  refine tri_then ?_
  refine tri_seq ?_
  refine tri_seq ?_
  refine tri_region ?_
  refine tri_v (opv_assign rfl) rfl ?_
  refine tri_nil ?_
  refine tri_then ?_
  refine tri_block ?_
  rename_i b4
  refine tri_nilRow (E := 55) (sz := 2) ?_
  refine tri_nilRow (E := 55) (sz := 2) ?_
  refine tri_nilRow (E := 55) (sz := 2) ?_
  refine tri_nilRow (E := 55) (sz := 2) ?_
  refine tri_perm (A := ?a1_0 :: ?a1_1 :: ?a1_2 :: ?a1_3 :: ?a1_4 :: ?T1) (B := ?a1_4 :: ?a1_0 :: ?a1_1 :: ?a1_2 :: ?a1_3 :: ?T1) (by exact permL [4, 0, 1, 2, 3] [?a1_0, ?a1_1, ?a1_2, ?a1_3, ?a1_4] ?T1 (by decide) rfl) ?_
  refine tri_sub (F' := [(0, .slice a l.length cap), (4, pt b4 0), (5, .int .i64 (R7.side lv)), (6, pt b 0), (7, .int .i64 (0 : Nat))]) ⟨rfl, rfl, rfl, rfl, rfl, trivial⟩ ?_
  refine loop_ind (G := PG) (fun g => l.length - g.i) (fun g => g.i ≤ l.length) (fun g => [(0, .slice a l.length cap), (4, pt b4 0), (5, .int .i64 (R7.side lv)), (6, pt b 0), (7, .int .i64 (g.i : Nat))])
    (fun g => Box b [.slice g.a0 (R7.part (R7.side lv) 0 (l.take g.i)).length g.c0, .slice g.a1 (R7.part (R7.side lv) 1 (l.take g.i)).length g.c1, .slice g.a2 (R7.part (R7.side lv) 2 (l.take g.i)).length g.c2, .slice g.a3 (R7.part (R7.side lv) 3 (l.take g.i)).length g.c3] 102 :: Row g.a0 g.c0 (R7.part (R7.side lv) 0 (l.take g.i)).length 55 2 (encs (R7.part (R7.side lv) 0 (l.take g.i))) :: Row g.a1 g.c1 (R7.part (R7.side lv) 1 (l.take g.i)).length 55 2 (encs (R7.part (R7.side lv) 1 (l.take g.i))) :: Row g.a2 g.c2 (R7.part (R7.side lv) 2 (l.take g.i)).length 55 2 (encs (R7.part (R7.side lv) 2 (l.take g.i))) :: Row g.a3 g.c3 (R7.part (R7.side lv) 3 (l.take g.i)).length 55 2 (encs (R7.part (R7.side lv) 3 (l.take g.i))) :: Box b4 [.slice none 0 0, .slice none 0 0, .slice none 0 0, .slice none 0 0] 102 :: A) (fun _ => I) ?_ ⟨0, none, none, none, none, 0, 0, 0, 0⟩ (by simp only; omega)
  rintro ⟨i, a0, a1, a2, a3, c0, c1, c2, c3⟩ hi K hK
  simp only at hi hK ⊢
  have hp0 := hpl i 0
  have hp1 := hpl i 1
  have hp2 := hpl i 2
  have hp3 := hpl i 3
  skip
  refine tri_seq ?_
  refine tri_seq ?_
  refine tri_region ?_
  refine tri_v (opv_move rfl) rfl ?_
  refine tri_v (opv_move rfl) rfl ?_
  refine tri_v (opv_len rfl) rfl ?_
  refine tri_v (opv_lss rfl rfl) rfl ?_
  refine tri_nil ?_
  refine tri_then ?_
  refine tri_cond_dec rfl (fun h => ?_) (fun h => ?_)
  · have hlt : i < l.length := by omega
    have hbi := hb (l.getD i default) (by simp [hlt])
    have hbx := hbi.1
    have hby := hbi.2
    have et : l.take (i + 1) = l.take i ++ [l.getD i default] := by
      have e0 : l.getD i default = l[i] := by simp [hlt]
      rw [e0, List.take_succ_eq_append_getElem hlt]
    have en := fun k => R7.part_snoc (R7.side lv) k (l.take i) (l.getD i default)
    rw [← et] at en
    refine tri_skip ?_
    refine tri_then ?_
    refine tri_seq ?_
    refine tri_block ?_
    refine tri_seq ?_
    refine tri_region ?_
    refine tri_v (opv_assign rfl) rfl ?_
    refine tri_nil ?_
    refine tri_then ?_
    refine tri_seq ?_
    refine tri_region ?_
    refine tri_v (opv_move rfl) rfl ?_
    refine tri_v (opv_move rfl) rfl ?_
    refine tri_v (opv_indexAddrSN rfl rfl (by omega) (by assumption) rfl) rfl ?_
    refine tri_v (opv_loadEA rfl (by assumption) rfl (by omega) rfl rfl) rfl ?_
    refine tri_g opg_alloc rfl ?_
    rintro _ _ _ ⟨b, rfl, rfl, rfl⟩
    refine tri_g (opg_store rfl rfl rfl rfl rfl rfl) rfl ?_
    rintro _ _ _ ⟨rfl, rfl⟩
    refine tri_nil ?_
    refine tri_then ?_
    refine tri_seq ?_
    refine tri_seq ?_
    refine tri_region ?_
    refine tri_v (opv_fieldAddr rfl rfl) rfl ?_
    refine tri_v (opv_load1 rfl rfl rfl) rfl ?_
    refine tri_v (opv_move rfl) rfl ?_
    refine tri_v (opv_geq rfl rfl) rfl ?_
    refine tri_nil ?_
    refine tri_then ?_
    refine tri_cond_dec rfl (fun gx => ?_) (fun gx => ?_)
    · refine tri_seq ?_
      refine tri_region ?_
      refine tri_v (opv_assign rfl) rfl ?_
      refine tri_nil ?_
      refine tri_then ?_
      refine tri_region ?_
      refine tri_v (opv_fieldAddr rfl rfl) rfl ?_
      refine tri_v (opv_load1 rfl rfl rfl) rfl ?_
      refine tri_v (opv_move rfl) rfl ?_
      refine tri_v (opv_sub rfl rfl (w64 (by omega) (by omega))) rfl ?_
      refine tri_v (opv_fieldAddr rfl rfl) rfl ?_
      refine tri_g (opg_store rfl rfl rfl rfl rfl rfl) rfl ?_
      rintro _ _ _ ⟨rfl, rfl⟩
      refine tri_nil ?_
      refine tri_then ?_
      refine tri_seq ?_
      refine tri_seq ?_
      refine tri_region ?_
      refine tri_v (opv_fieldAddr rfl rfl) rfl ?_
      refine tri_v (opv_load1 rfl rfl rfl) rfl ?_
      refine tri_v (opv_move rfl) rfl ?_
      refine tri_v (opv_geq rfl rfl) rfl ?_
      refine tri_nil ?_
      refine tri_then ?_
      refine tri_cond_dec rfl (fun gy => ?_) (fun gy => ?_)
      · have gx' : (R7.side lv ≤ (l.getD i default).x) := gx
        have gy' : (R7.side lv ≤ (l.getD i default).y) := gy
        have e0 : R7.part (R7.side lv) 0 (l.take (i + 1)) = R7.part (R7.side lv) 0 (l.take i) := by rw [en 0, if_neg (by unfold R7.qx; rw [if_pos gx', if_pos gy']; decide), List.append_nil]
        have e1 : R7.part (R7.side lv) 1 (l.take (i + 1)) = R7.part (R7.side lv) 1 (l.take i) := by rw [en 1, if_neg (by unfold R7.qx; rw [if_pos gx', if_pos gy']; decide), List.append_nil]
        have e2 : R7.part (R7.side lv) 2 (l.take (i + 1)) = R7.part (R7.side lv) 2 (l.take i) := by rw [en 2, if_neg (by unfold R7.qx; rw [if_pos gx', if_pos gy']; decide), List.append_nil]
        have e3 : R7.part (R7.side lv) 3 (l.take (i + 1)) = R7.part (R7.side lv) 3 (l.take i) ++ [⟨(l.getD i default).x - R7.side lv, (l.getD i default).y - R7.side lv⟩] := by rw [en 3, if_pos (by unfold R7.qx; rw [if_pos gx', if_pos gy'])]; unfold R7.qc; rw [if_pos gx', if_pos gy']
        refine tri_seq ?_
        refine tri_perm (A := ?a2_0 :: ?a2_1 :: ?a2_2 :: ?a2_3 :: ?a2_4 :: ?a2_5 :: ?T2) (B := ?a2_1 :: ?a2_5 :: ?a2_0 :: ?a2_2 :: ?a2_3 :: ?a2_4 :: ?T2) (by exact permL [1, 5, 0, 2, 3, 4] [?a2_0, ?a2_1, ?a2_2, ?a2_3, ?a2_4, ?a2_5] ?T2 (by decide) rfl) ?_
        skip
        refine tri_region ?_
        refine tri_v (opv_move rfl) rfl ?_
        refine tri_v (opv_add rfl rfl (w64 (by omega) (by omega))) rfl ?_
        refine tri_v (opv_assign rfl) rfl ?_
        refine tri_nil ?_
        refine tri_then ?_
        refine tri_region ?_
        refine tri_v (opv_fieldAddr rfl rfl) rfl ?_
        refine tri_v (opv_load1 rfl rfl rfl) rfl ?_
        refine tri_v (opv_move rfl) rfl ?_
        refine tri_v (opv_sub rfl rfl (w64 (by omega) (by omega))) rfl ?_
        refine tri_v (opv_fieldAddr rfl rfl) rfl ?_
        refine tri_g (opg_store rfl rfl rfl rfl rfl rfl) rfl ?_
        rintro _ _ _ ⟨rfl, rfl⟩
        refine tri_nil ?_
        refine tri_then ?_
        refine tri_draw [0, 1, 2, 4, 3, 5, 6, 7, 8] rfl [_, _] rfl mixed ?_
        refine th_take rfl rfl (by kernel_rfl)  (opv_move rfl) ?_
        refine th_take rfl rfl (by kernel_rfl)  (opv_move rfl) ?_
        refine th_take rfl rfl (by kernel_rfl)  (opv_indexAddrA rfl rfl (by decide) (by decide)) ?_
        refine th_take rfl rfl (by kernel_rfl)  (opv_loadA rfl rfl rfl) ?_
        refine th_two (j := 5) [3, 6, 7, 8] (by kernel_rfl) rfl ?_ ?_
        · refine (step_m rfl rfl (OpV.toG (opv_load1 rfl rfl rfl)) ?_)
          rintro _ _ _ ⟨rfl, rfl, rfl⟩
          refine ⟨Suf.h, (fun _ h => h), ?_⟩
          refine th_one (by kernel_rfl) (step_m rfl rfl (opg_buildSlice rfl rfl rfl rfl) ?_)
          rintro _ _ _ ⟨b, rfl, rfl, rfl⟩
          refine ⟨Suf.h, (fun _ h => h), ?_⟩
          refine th_one (by kernel_rfl) (step_m rfl rfl (opg_appendB rfl rfl rfl rfl (by omega) rfl) ?_)
          rintro _ _ _ ⟨aa, cc, rfl, rfl, rfl⟩
          refine ⟨Suf.h, (fun _ h => h), ?_⟩
          refine th_take rfl rfl (by kernel_rfl)  (opv_indexAddrA rfl rfl (by decide) (by decide)) ?_
          refine th_one (by kernel_rfl) (step_m rfl rfl (opg_store rfl rfl rfl rfl rfl rfl) ?_)
          rintro _ _ _ ⟨rfl, rfl⟩
          refine ⟨Suf.h, (fun _ h => h), ?_⟩
          refine th_done (by kernel_rfl) ?_
          refine tri_inBlock ?_
          refine tri_then ?_
          refine tri_region ?_
          refine tri_v (opv_move rfl) rfl ?_
          refine tri_v (opv_add rfl rfl (w64 (by omega) (by omega))) rfl ?_
          refine tri_v (opv_assign rfl) rfl ?_
          refine tri_nil ?_
          refine tri_then ?_
          refine tri_perm (A := ?a3_0 :: ?a3_1 :: ?a3_2 :: ?a3_3 :: ?a3_4 :: ?a3_5 :: ?a3_6 :: ?T3) (B := ?a3_0 :: ?a3_3 :: ?a3_1 :: ?a3_4 :: ?a3_5 :: ?a3_6 :: ?a3_2 :: ?T3) (by exact permL [0, 3, 1, 4, 5, 6, 2] [?a3_0, ?a3_1, ?a3_2, ?a3_3, ?a3_4, ?a3_5, ?a3_6] ?T3 (by decide) rfl) ?_
          refine tri_drop ?_
          refine tri_drop ?_
          have hh := hK ⟨i + 1, a0, a1, a2, aa, c0, c1, c2, cc⟩ (by simp only; omega) (by simp only; omega)
          simp only [e0, e1, e2, e3, List.length_append, encs_append] at hh
          refine tri_sub ?_ hh
          exact ⟨rfl, rfl, rfl, rfl, rfl, trivial⟩
        · refine (step_m rfl rfl (opg_buildSlice rfl rfl rfl rfl) ?_)
          rintro _ _ _ ⟨b, rfl, rfl, rfl⟩
          refine ⟨Suf.h, (fun _ h => h), ?_⟩
          refine th_one (by kernel_rfl) (step_m rfl rfl (OpV.toG (opv_load1 rfl rfl rfl)) ?_)
          rintro _ _ _ ⟨rfl, rfl, rfl⟩
          refine ⟨Suf.h, (fun _ h => h), ?_⟩
          refine th_one (by kernel_rfl) (step_m rfl rfl (opg_appendB rfl rfl rfl rfl (by omega) rfl) ?_)
          rintro _ _ _ ⟨aa, cc, rfl, rfl, rfl⟩
          refine ⟨Suf.h, (fun _ h => h), ?_⟩
          refine th_take rfl rfl (by kernel_rfl)  (opv_indexAddrA rfl rfl (by decide) (by decide)) ?_
          refine th_one (by kernel_rfl) (step_m rfl rfl (opg_store rfl rfl rfl rfl rfl rfl) ?_)
          rintro _ _ _ ⟨rfl, rfl⟩
          refine ⟨Suf.h, (fun _ h => h), ?_⟩
          refine th_done (by kernel_rfl) ?_
          refine tri_inBlock ?_
          refine tri_then ?_
          refine tri_region ?_
          refine tri_v (opv_move rfl) rfl ?_
          refine tri_v (opv_add rfl rfl (w64 (by omega) (by omega))) rfl ?_
          refine tri_v (opv_assign rfl) rfl ?_
          refine tri_nil ?_
          refine tri_then ?_
          refine tri_perm (A := ?a4_0 :: ?a4_1 :: ?a4_2 :: ?a4_3 :: ?a4_4 :: ?a4_5 :: ?a4_6 :: ?T4) (B := ?a4_0 :: ?a4_3 :: ?a4_1 :: ?a4_4 :: ?a4_5 :: ?a4_6 :: ?a4_2 :: ?T4) (by exact permL [0, 3, 1, 4, 5, 6, 2] [?a4_0, ?a4_1, ?a4_2, ?a4_3, ?a4_4, ?a4_5, ?a4_6] ?T4 (by decide) rfl) ?_
          refine tri_drop ?_
          refine tri_drop ?_
          have hh := hK ⟨i + 1, a0, a1, a2, aa, c0, c1, c2, cc⟩ (by simp only; omega) (by simp only; omega)
          simp only [e0, e1, e2, e3, List.length_append, encs_append] at hh
          refine tri_sub ?_ hh
          exact ⟨rfl, rfl, rfl, rfl, rfl, trivial⟩
      · have gx' : (R7.side lv ≤ (l.getD i default).x) := gx
        have gy' : ¬ (R7.side lv ≤ (l.getD i default).y) := gy
        have e0 : R7.part (R7.side lv) 0 (l.take (i + 1)) = R7.part (R7.side lv) 0 (l.take i) := by rw [en 0, if_neg (by unfold R7.qx; rw [if_pos gx', if_neg gy']; decide), List.append_nil]
        have e1 : R7.part (R7.side lv) 1 (l.take (i + 1)) = R7.part (R7.side lv) 1 (l.take i) ++ [⟨(l.getD i default).x - R7.side lv, (l.getD i default).y⟩] := by rw [en 1, if_pos (by unfold R7.qx; rw [if_pos gx', if_neg gy'])]; unfold R7.qc; rw [if_pos gx', if_neg gy']
        have e2 : R7.part (R7.side lv) 2 (l.take (i + 1)) = R7.part (R7.side lv) 2 (l.take i) := by rw [en 2, if_neg (by unfold R7.qx; rw [if_pos gx', if_neg gy']; decide), List.append_nil]
        have e3 : R7.part (R7.side lv) 3 (l.take (i + 1)) = R7.part (R7.side lv) 3 (l.take i) := by rw [en 3, if_neg (by unfold R7.qx; rw [if_pos gx', if_neg gy']; decide), List.append_nil]
        refine tri_skip ?_
        refine tri_then ?_
        refine tri_perm (A := ?a5_0 :: ?a5_1 :: ?a5_2 :: ?a5_3 :: ?a5_4 :: ?a5_5 :: ?T5) (B := ?a5_1 :: ?a5_3 :: ?a5_0 :: ?a5_2 :: ?a5_4 :: ?a5_5 :: ?T5) (by exact permL [1, 3, 0, 2, 4, 5] [?a5_0, ?a5_1, ?a5_2, ?a5_3, ?a5_4, ?a5_5] ?T5 (by decide) rfl) ?_
        skip
        refine tri_draw [0, 1, 2, 4, 3, 5, 6, 7, 8] rfl [_, _] rfl mixed ?_
        refine th_take rfl rfl (by kernel_rfl)  (opv_move rfl) ?_
        refine th_take rfl rfl (by kernel_rfl)  (opv_move rfl) ?_
        refine th_take rfl rfl (by kernel_rfl)  (opv_indexAddrA rfl rfl (by decide) (by decide)) ?_
        refine th_take rfl rfl (by kernel_rfl)  (opv_loadA rfl rfl rfl) ?_
        refine th_two (j := 5) [3, 6, 7, 8] (by kernel_rfl) rfl ?_ ?_
        · refine (step_m rfl rfl (OpV.toG (opv_load1 rfl rfl rfl)) ?_)
          rintro _ _ _ ⟨rfl, rfl, rfl⟩
          refine ⟨Suf.h, (fun _ h => h), ?_⟩
          refine th_one (by kernel_rfl) (step_m rfl rfl (opg_buildSlice rfl rfl rfl rfl) ?_)
          rintro _ _ _ ⟨b, rfl, rfl, rfl⟩
          refine ⟨Suf.h, (fun _ h => h), ?_⟩
          refine th_one (by kernel_rfl) (step_m rfl rfl (opg_appendB rfl rfl rfl rfl (by omega) rfl) ?_)
          rintro _ _ _ ⟨aa, cc, rfl, rfl, rfl⟩
          refine ⟨Suf.h, (fun _ h => h), ?_⟩
          refine th_take rfl rfl (by kernel_rfl)  (opv_indexAddrA rfl rfl (by decide) (by decide)) ?_
          refine th_one (by kernel_rfl) (step_m rfl rfl (opg_store rfl rfl rfl rfl rfl rfl) ?_)
          rintro _ _ _ ⟨rfl, rfl⟩
          refine ⟨Suf.h, (fun _ h => h), ?_⟩
          refine th_done (by kernel_rfl) ?_
          refine tri_inBlock ?_
          refine tri_then ?_
          refine tri_region ?_
          refine tri_v (opv_move rfl) rfl ?_
          refine tri_v (opv_add rfl rfl (w64 (by omega) (by omega))) rfl ?_
          refine tri_v (opv_assign rfl) rfl ?_
          refine tri_nil ?_
          refine tri_then ?_
          refine tri_perm (A := ?a6_0 :: ?a6_1 :: ?a6_2 :: ?a6_3 :: ?a6_4 :: ?a6_5 :: ?a6_6 :: ?T6) (B := ?a6_0 :: ?a6_3 :: ?a6_1 :: ?a6_4 :: ?a6_2 :: ?a6_5 :: ?a6_6 :: ?T6) (by exact permL [0, 3, 1, 4, 2, 5, 6] [?a6_0, ?a6_1, ?a6_2, ?a6_3, ?a6_4, ?a6_5, ?a6_6] ?T6 (by decide) rfl) ?_
          refine tri_drop ?_
          refine tri_drop ?_
          have hh := hK ⟨i + 1, a0, aa, a2, a3, c0, cc, c2, c3⟩ (by simp only; omega) (by simp only; omega)
          simp only [e0, e1, e2, e3, List.length_append, encs_append] at hh
          refine tri_sub ?_ hh
          exact ⟨rfl, rfl, rfl, rfl, rfl, trivial⟩
        · refine (step_m rfl rfl (opg_buildSlice rfl rfl rfl rfl) ?_)
          rintro _ _ _ ⟨b, rfl, rfl, rfl⟩
          refine ⟨Suf.h, (fun _ h => h), ?_⟩
          refine th_one (by kernel_rfl) (step_m rfl rfl (OpV.toG (opv_load1 rfl rfl rfl)) ?_)
          rintro _ _ _ ⟨rfl, rfl, rfl⟩
          refine ⟨Suf.h, (fun _ h => h), ?_⟩
          refine th_one (by kernel_rfl) (step_m rfl rfl (opg_appendB rfl rfl rfl rfl (by omega) rfl) ?_)
          rintro _ _ _ ⟨aa, cc, rfl, rfl, rfl⟩
          refine ⟨Suf.h, (fun _ h => h), ?_⟩
          refine th_take rfl rfl (by kernel_rfl)  (opv_indexAddrA rfl rfl (by decide) (by decide)) ?_
          refine th_one (by kernel_rfl) (step_m rfl rfl (opg_store rfl rfl rfl rfl rfl rfl) ?_)
          rintro _ _ _ ⟨rfl, rfl⟩
          refine ⟨Suf.h, (fun _ h => h), ?_⟩
          refine th_done (by kernel_rfl) ?_
          refine tri_inBlock ?_
          refine tri_then ?_
          refine tri_region ?_
          refine tri_v (opv_move rfl) rfl ?_
          refine tri_v (opv_add rfl rfl (w64 (by omega) (by omega))) rfl ?_
          refine tri_v (opv_assign rfl) rfl ?_
          refine tri_nil ?_
          refine tri_then ?_
          refine tri_perm (A := ?a7_0 :: ?a7_1 :: ?a7_2 :: ?a7_3 :: ?a7_4 :: ?a7_5 :: ?a7_6 :: ?T7) (B := ?a7_0 :: ?a7_3 :: ?a7_1 :: ?a7_4 :: ?a7_2 :: ?a7_5 :: ?a7_6 :: ?T7) (by exact permL [0, 3, 1, 4, 2, 5, 6] [?a7_0, ?a7_1, ?a7_2, ?a7_3, ?a7_4, ?a7_5, ?a7_6] ?T7 (by decide) rfl) ?_
          refine tri_drop ?_
          refine tri_drop ?_
          have hh := hK ⟨i + 1, a0, aa, a2, a3, c0, cc, c2, c3⟩ (by simp only; omega) (by simp only; omega)
          simp only [e0, e1, e2, e3, List.length_append, encs_append] at hh
          refine tri_sub ?_ hh
          exact ⟨rfl, rfl, rfl, rfl, rfl, trivial⟩
    · refine tri_skip ?_
      refine tri_then ?_
      refine tri_seq ?_
      refine tri_seq ?_
      refine tri_region ?_
      refine tri_v (opv_fieldAddr rfl rfl) rfl ?_
      refine tri_v (opv_load1 rfl rfl rfl) rfl ?_
      refine tri_v (opv_move rfl) rfl ?_
      refine tri_v (opv_geq rfl rfl) rfl ?_
      refine tri_nil ?_
      refine tri_then ?_
      refine tri_cond_dec rfl (fun gy => ?_) (fun gy => ?_)
      · have gx' : ¬ (R7.side lv ≤ (l.getD i default).x) := gx
        have gy' : (R7.side lv ≤ (l.getD i default).y) := gy
        have e0 : R7.part (R7.side lv) 0 (l.take (i + 1)) = R7.part (R7.side lv) 0 (l.take i) := by rw [en 0, if_neg (by unfold R7.qx; rw [if_neg gx', if_pos gy']; decide), List.append_nil]
        have e1 : R7.part (R7.side lv) 1 (l.take (i + 1)) = R7.part (R7.side lv) 1 (l.take i) := by rw [en 1, if_neg (by unfold R7.qx; rw [if_neg gx', if_pos gy']; decide), List.append_nil]
        have e2 : R7.part (R7.side lv) 2 (l.take (i + 1)) = R7.part (R7.side lv) 2 (l.take i) ++ [⟨(l.getD i default).x, (l.getD i default).y - R7.side lv⟩] := by rw [en 2, if_pos (by unfold R7.qx; rw [if_neg gx', if_pos gy'])]; unfold R7.qc; rw [if_neg gx', if_pos gy']
        have e3 : R7.part (R7.side lv) 3 (l.take (i + 1)) = R7.part (R7.side lv) 3 (l.take i) := by rw [en 3, if_neg (by unfold R7.qx; rw [if_neg gx', if_pos gy']; decide), List.append_nil]
        refine tri_seq ?_
        refine tri_perm (A := ?a8_0 :: ?a8_1 :: ?a8_2 :: ?a8_3 :: ?a8_4 :: ?a8_5 :: ?T8) (B := ?a8_1 :: ?a8_4 :: ?a8_0 :: ?a8_2 :: ?a8_3 :: ?a8_5 :: ?T8) (by exact permL [1, 4, 0, 2, 3, 5] [?a8_0, ?a8_1, ?a8_2, ?a8_3, ?a8_4, ?a8_5] ?T8 (by decide) rfl) ?_
        skip
        refine tri_region ?_
        refine tri_v (opv_move rfl) rfl ?_
        refine tri_v (opv_add rfl rfl (w64 (by omega) (by omega))) rfl ?_
        refine tri_v (opv_assign rfl) rfl ?_
        refine tri_nil ?_
        refine tri_then ?_
        refine tri_region ?_
        refine tri_v (opv_fieldAddr rfl rfl) rfl ?_
        refine tri_v (opv_load1 rfl rfl rfl) rfl ?_
        refine tri_v (opv_move rfl) rfl ?_
        refine tri_v (opv_sub rfl rfl (w64 (by omega) (by omega))) rfl ?_
        refine tri_v (opv_fieldAddr rfl rfl) rfl ?_
        refine tri_g (opg_store rfl rfl rfl rfl rfl rfl) rfl ?_
        rintro _ _ _ ⟨rfl, rfl⟩
        refine tri_nil ?_
        refine tri_then ?_
        refine tri_draw [0, 1, 2, 4, 3, 5, 6, 7, 8] rfl [_, _] rfl mixed ?_
        refine th_take rfl rfl (by kernel_rfl)  (opv_move rfl) ?_
        refine th_take rfl rfl (by kernel_rfl)  (opv_move rfl) ?_
        refine th_take rfl rfl (by kernel_rfl)  (opv_indexAddrA rfl rfl (by decide) (by decide)) ?_
        refine th_take rfl rfl (by kernel_rfl)  (opv_loadA rfl rfl rfl) ?_
        refine th_two (j := 5) [3, 6, 7, 8] (by kernel_rfl) rfl ?_ ?_
        · refine (step_m rfl rfl (OpV.toG (opv_load1 rfl rfl rfl)) ?_)
          rintro _ _ _ ⟨rfl, rfl, rfl⟩
          refine ⟨Suf.h, (fun _ h => h), ?_⟩
          refine th_one (by kernel_rfl) (step_m rfl rfl (opg_buildSlice rfl rfl rfl rfl) ?_)
          rintro _ _ _ ⟨b, rfl, rfl, rfl⟩
          refine ⟨Suf.h, (fun _ h => h), ?_⟩
          refine th_one (by kernel_rfl) (step_m rfl rfl (opg_appendB rfl rfl rfl rfl (by omega) rfl) ?_)
          rintro _ _ _ ⟨aa, cc, rfl, rfl, rfl⟩
          refine ⟨Suf.h, (fun _ h => h), ?_⟩
          refine th_take rfl rfl (by kernel_rfl)  (opv_indexAddrA rfl rfl (by decide) (by decide)) ?_
          refine th_one (by kernel_rfl) (step_m rfl rfl (opg_store rfl rfl rfl rfl rfl rfl) ?_)
          rintro _ _ _ ⟨rfl, rfl⟩
          refine ⟨Suf.h, (fun _ h => h), ?_⟩
          refine th_done (by kernel_rfl) ?_
          refine tri_inBlock ?_
          refine tri_then ?_
          refine tri_region ?_
          refine tri_v (opv_move rfl) rfl ?_
          refine tri_v (opv_add rfl rfl (w64 (by omega) (by omega))) rfl ?_
          refine tri_v (opv_assign rfl) rfl ?_
          refine tri_nil ?_
          refine tri_then ?_
          refine tri_perm (A := ?a9_0 :: ?a9_1 :: ?a9_2 :: ?a9_3 :: ?a9_4 :: ?a9_5 :: ?a9_6 :: ?T9) (B := ?a9_0 :: ?a9_3 :: ?a9_1 :: ?a9_4 :: ?a9_5 :: ?a9_2 :: ?a9_6 :: ?T9) (by exact permL [0, 3, 1, 4, 5, 2, 6] [?a9_0, ?a9_1, ?a9_2, ?a9_3, ?a9_4, ?a9_5, ?a9_6] ?T9 (by decide) rfl) ?_
          refine tri_drop ?_
          refine tri_drop ?_
          have hh := hK ⟨i + 1, a0, a1, aa, a3, c0, c1, cc, c3⟩ (by simp only; omega) (by simp only; omega)
          simp only [e0, e1, e2, e3, List.length_append, encs_append] at hh
          refine tri_sub ?_ hh
          exact ⟨rfl, rfl, rfl, rfl, rfl, trivial⟩
        · refine (step_m rfl rfl (opg_buildSlice rfl rfl rfl rfl) ?_)
          rintro _ _ _ ⟨b, rfl, rfl, rfl⟩
          refine ⟨Suf.h, (fun _ h => h), ?_⟩
          refine th_one (by kernel_rfl) (step_m rfl rfl (OpV.toG (opv_load1 rfl rfl rfl)) ?_)
          rintro _ _ _ ⟨rfl, rfl, rfl⟩
          refine ⟨Suf.h, (fun _ h => h), ?_⟩
          refine th_one (by kernel_rfl) (step_m rfl rfl (opg_appendB rfl rfl rfl rfl (by omega) rfl) ?_)
          rintro _ _ _ ⟨aa, cc, rfl, rfl, rfl⟩
          refine ⟨Suf.h, (fun _ h => h), ?_⟩
          refine th_take rfl rfl (by kernel_rfl)  (opv_indexAddrA rfl rfl (by decide) (by decide)) ?_
          refine th_one (by kernel_rfl) (step_m rfl rfl (opg_store rfl rfl rfl rfl rfl rfl) ?_)
          rintro _ _ _ ⟨rfl, rfl⟩
          refine ⟨Suf.h, (fun _ h => h), ?_⟩
          refine th_done (by kernel_rfl) ?_
          refine tri_inBlock ?_
          refine tri_then ?_
          refine tri_region ?_
          refine tri_v (opv_move rfl) rfl ?_
          refine tri_v (opv_add rfl rfl (w64 (by omega) (by omega))) rfl ?_
          refine tri_v (opv_assign rfl) rfl ?_
          refine tri_nil ?_
          refine tri_then ?_
          refine tri_perm (A := ?a10_0 :: ?a10_1 :: ?a10_2 :: ?a10_3 :: ?a10_4 :: ?a10_5 :: ?a10_6 :: ?T10) (B := ?a10_0 :: ?a10_3 :: ?a10_1 :: ?a10_4 :: ?a10_5 :: ?a10_2 :: ?a10_6 :: ?T10) (by exact permL [0, 3, 1, 4, 5, 2, 6] [?a10_0, ?a10_1, ?a10_2, ?a10_3, ?a10_4, ?a10_5, ?a10_6] ?T10 (by decide) rfl) ?_
          refine tri_drop ?_
          refine tri_drop ?_
          have hh := hK ⟨i + 1, a0, a1, aa, a3, c0, c1, cc, c3⟩ (by simp only; omega) (by simp only; omega)
          simp only [e0, e1, e2, e3, List.length_append, encs_append] at hh
          refine tri_sub ?_ hh
          exact ⟨rfl, rfl, rfl, rfl, rfl, trivial⟩
      · have gx' : ¬ (R7.side lv ≤ (l.getD i default).x) := gx
        have gy' : ¬ (R7.side lv ≤ (l.getD i default).y) := gy
        have e0 : R7.part (R7.side lv) 0 (l.take (i + 1)) = R7.part (R7.side lv) 0 (l.take i) ++ [⟨(l.getD i default).x, (l.getD i default).y⟩] := by rw [en 0, if_pos (by unfold R7.qx; rw [if_neg gx', if_neg gy'])]; unfold R7.qc; rw [if_neg gx', if_neg gy']
        have e1 : R7.part (R7.side lv) 1 (l.take (i + 1)) = R7.part (R7.side lv) 1 (l.take i) := by rw [en 1, if_neg (by unfold R7.qx; rw [if_neg gx', if_neg gy']; decide), List.append_nil]
        have e2 : R7.part (R7.side lv) 2 (l.take (i + 1)) = R7.part (R7.side lv) 2 (l.take i) := by rw [en 2, if_neg (by unfold R7.qx; rw [if_neg gx', if_neg gy']; decide), List.append_nil]
        have e3 : R7.part (R7.side lv) 3 (l.take (i + 1)) = R7.part (R7.side lv) 3 (l.take i) := by rw [en 3, if_neg (by unfold R7.qx; rw [if_neg gx', if_neg gy']; decide), List.append_nil]
        refine tri_skip ?_
        refine tri_then ?_
        refine tri_perm (A := ?a11_0 :: ?a11_1 :: ?a11_2 :: ?a11_3 :: ?a11_4 :: ?a11_5 :: ?T11) (B := ?a11_1 :: ?a11_2 :: ?a11_0 :: ?a11_3 :: ?a11_4 :: ?a11_5 :: ?T11) (by exact permL [1, 2, 0, 3, 4, 5] [?a11_0, ?a11_1, ?a11_2, ?a11_3, ?a11_4, ?a11_5] ?T11 (by decide) rfl) ?_
        skip
        refine tri_draw [0, 1, 2, 4, 3, 5, 6, 7, 8] rfl [_, _] rfl mixed ?_
        refine th_take rfl rfl (by kernel_rfl)  (opv_move rfl) ?_
        refine th_take rfl rfl (by kernel_rfl)  (opv_move rfl) ?_
        refine th_take rfl rfl (by kernel_rfl)  (opv_indexAddrA rfl rfl (by decide) (by decide)) ?_
        refine th_take rfl rfl (by kernel_rfl)  (opv_loadA rfl rfl rfl) ?_
        refine th_two (j := 5) [3, 6, 7, 8] (by kernel_rfl) rfl ?_ ?_
        · refine (step_m rfl rfl (OpV.toG (opv_load1 rfl rfl rfl)) ?_)
          rintro _ _ _ ⟨rfl, rfl, rfl⟩
          refine ⟨Suf.h, (fun _ h => h), ?_⟩
          refine th_one (by kernel_rfl) (step_m rfl rfl (opg_buildSlice rfl rfl rfl rfl) ?_)
          rintro _ _ _ ⟨b, rfl, rfl, rfl⟩
          refine ⟨Suf.h, (fun _ h => h), ?_⟩
          refine th_one (by kernel_rfl) (step_m rfl rfl (opg_appendB rfl rfl rfl rfl (by omega) rfl) ?_)
          rintro _ _ _ ⟨aa, cc, rfl, rfl, rfl⟩
          refine ⟨Suf.h, (fun _ h => h), ?_⟩
          refine th_take rfl rfl (by kernel_rfl)  (opv_indexAddrA rfl rfl (by decide) (by decide)) ?_
          refine th_one (by kernel_rfl) (step_m rfl rfl (opg_store rfl rfl rfl rfl rfl rfl) ?_)
          rintro _ _ _ ⟨rfl, rfl⟩
          refine ⟨Suf.h, (fun _ h => h), ?_⟩
          refine th_done (by kernel_rfl) ?_
          refine tri_inBlock ?_
          refine tri_then ?_
          refine tri_region ?_
          refine tri_v (opv_move rfl) rfl ?_
          refine tri_v (opv_add rfl rfl (w64 (by omega) (by omega))) rfl ?_
          refine tri_v (opv_assign rfl) rfl ?_
          refine tri_nil ?_
          refine tri_then ?_
          refine tri_perm (A := ?a12_0 :: ?a12_1 :: ?a12_2 :: ?a12_3 :: ?a12_4 :: ?a12_5 :: ?a12_6 :: ?T12) (B := ?a12_0 :: ?a12_3 :: ?a12_1 :: ?a12_2 :: ?a12_4 :: ?a12_5 :: ?a12_6 :: ?T12) (by exact permL [0, 3, 1, 2, 4, 5, 6] [?a12_0, ?a12_1, ?a12_2, ?a12_3, ?a12_4, ?a12_5, ?a12_6] ?T12 (by decide) rfl) ?_
          refine tri_drop ?_
          refine tri_drop ?_
          have hh := hK ⟨i + 1, aa, a1, a2, a3, cc, c1, c2, c3⟩ (by simp only; omega) (by simp only; omega)
          simp only [e0, e1, e2, e3, List.length_append, encs_append] at hh
          refine tri_sub ?_ hh
          exact ⟨rfl, rfl, rfl, rfl, rfl, trivial⟩
        · refine (step_m rfl rfl (opg_buildSlice rfl rfl rfl rfl) ?_)
          rintro _ _ _ ⟨b, rfl, rfl, rfl⟩
          refine ⟨Suf.h, (fun _ h => h), ?_⟩
          refine th_one (by kernel_rfl) (step_m rfl rfl (OpV.toG (opv_load1 rfl rfl rfl)) ?_)
          rintro _ _ _ ⟨rfl, rfl, rfl⟩
          refine ⟨Suf.h, (fun _ h => h), ?_⟩
          refine th_one (by kernel_rfl) (step_m rfl rfl (opg_appendB rfl rfl rfl rfl (by omega) rfl) ?_)
          rintro _ _ _ ⟨aa, cc, rfl, rfl, rfl⟩
          refine ⟨Suf.h, (fun _ h => h), ?_⟩
          refine th_take rfl rfl (by kernel_rfl)  (opv_indexAddrA rfl rfl (by decide) (by decide)) ?_
          refine th_one (by kernel_rfl) (step_m rfl rfl (opg_store rfl rfl rfl rfl rfl rfl) ?_)
          rintro _ _ _ ⟨rfl, rfl⟩
          refine ⟨Suf.h, (fun _ h => h), ?_⟩
          refine th_done (by kernel_rfl) ?_
          refine tri_inBlock ?_
          refine tri_then ?_
          refine tri_region ?_
          refine tri_v (opv_move rfl) rfl ?_
          refine tri_v (opv_add rfl rfl (w64 (by omega) (by omega))) rfl ?_
          refine tri_v (opv_assign rfl) rfl ?_
          refine tri_nil ?_
          refine tri_then ?_
          refine tri_perm (A := ?a13_0 :: ?a13_1 :: ?a13_2 :: ?a13_3 :: ?a13_4 :: ?a13_5 :: ?a13_6 :: ?T13) (B := ?a13_0 :: ?a13_3 :: ?a13_1 :: ?a13_2 :: ?a13_4 :: ?a13_5 :: ?a13_6 :: ?T13) (by exact permL [0, 3, 1, 2, 4, 5, 6] [?a13_0, ?a13_1, ?a13_2, ?a13_3, ?a13_4, ?a13_5, ?a13_6] ?T13 (by decide) rfl) ?_
          refine tri_drop ?_
          refine tri_drop ?_
          have hh := hK ⟨i + 1, aa, a1, a2, a3, cc, c1, c2, c3⟩ (by simp only; omega) (by simp only; omega)
          simp only [e0, e1, e2, e3, List.length_append, encs_append] at hh
          refine tri_sub ?_ hh
          exact ⟨rfl, rfl, rfl, rfl, rfl, trivial⟩
  · have e : l.take i = l := List.take_of_length_le (by omega)
    rw [e]
    refine tri_exit ?_
    refine tri_then_exit ?_
    refine tri_then_exit ?_
    refine tri_inBlock_hit rfl ?_
    refine tri_then ?_
    refine tri_seq ?_
    refine tri_region ?_
    refine tri_v (opv_loadA rfl rfl rfl) rfl ?_
    refine tri_g (opg_store rfl rfl rfl rfl rfl rfl) rfl ?_
    rintro _ _ _ ⟨rfl, rfl⟩
    refine tri_nil ?_
    refine tri_then ?_
    refine tri_ret ?_
    refine tri_perm (A := ?a14_0 :: ?a14_1 :: ?a14_2 :: ?a14_3 :: ?a14_4 :: ?T14) (B := ?a14_1 :: ?a14_2 :: ?a14_3 :: ?a14_4 :: ?a14_0 :: ?T14) (by exact permL [1, 2, 3, 4, 0] [?a14_0, ?a14_1, ?a14_2, ?a14_3, ?a14_4] ?T14 (by decide) rfl) ?_
    refine tri_freezeRow rfl fun I0 hI0 hs0 => ?_
    refine tri_freezeRow rfl fun I1 hI1 hs1 => ?_
    refine tri_freezeRow rfl fun I2 hI2 hs2 => ?_
    refine tri_freezeRow rfl fun I3 hI3 hs3 => ?_
    refine tri_end A Suf.h rfl (.cons (rv_cellA rfl rfl rfl) .nil) ?_
    exact ⟨a0, c0, a1, c1, a2, c2, a3, c3, rfl, hs0.mono fun _ h => hI3 (hI2 (hI1 h)), hs1.mono fun _ h => hI3 (hI2 h), hs2.mono fun _ h => hI3 h, hs3, rfl, fun _ h => hI3 (hI2 (hI1 (hI0 h)))⟩
end Go.GL

set_option linter.unusedVariables false
namespace Go.GL
open Go.Proofs
attribute [local irreducible] wpList Code.wp Exit.then Exit.inBlock Ends Tri TriH OpV OpG FnC epf wpAnyH
variable {A : List Asrt} {I : List Chunk}
set_option maxHeartbeats 1000000 in
set_option maxRecDepth 100000 in
theorem ref07_empty {ns : List Node} {a : Option Addr} {cap lv : Nat} {room : Int} (hs : StA I a cap ns) (hg : R6.Good ns room) (hlv : lv ≤ 1000) :
    FnC Try.prog 68 [storeV a ns.length cap room, .int .i64 (lv : Nat)].toArray A I (StoreR (R7.empty ns room lv) room A I) := by
  refine fn_enter2 Try.func68 rfl Try.ntmps68 rfl fun w0 => ?_
  refine tri_seq ?_
  refine tri_region ?_
  refine tri_g (opg_box_agg rfl) rfl ?_
  rintro _ _ _ ⟨b, rfl, rfl, rfl⟩
  refine tri_g opg_alloc rfl ?_
  rintro _ _ _ ⟨b, rfl, rfl, rfl⟩
  refine tri_v (opv_assign rfl) rfl ?_
  refine tri_v (opv_assign rfl) rfl ?_
  refine tri_nil ?_
  refine tri_then ?_
  refine tri_seq ?_
  refine tri_region ?_
  refine tri_v (opv_assign rfl) rfl ?_
  refine tri_nil ?_
  refine tri_then ?_
  refine tri_seq ?_
  refine tri_seq ?_
  refine tri_region ?_
  refine tri_v (opv_assign rfl) rfl ?_
  refine tri_nil ?_
  refine tri_then ?_
  refine tri_block ?_
  rename_i b2
  revert b; intro b4
  refine tri_sub (F' := [(1, .int .i64 (lv : Nat)), (2, pt b2 0), (4, pt b4 0), (7, .int .i64 (0 : Int)), (8, .int .i64 (0 : Nat))]) ⟨rfl, rfl, rfl, rfl, rfl, trivial⟩ ?_
  refine loop_ind (G := Nat × List Node × Int × Option Addr × Nat × List Chunk) (fun g => lv - g.1) (fun g => g.1 ≤ lv ∧ StA g.2.2.2.2.2 g.2.2.2.1 g.2.2.2.2.1 g.2.1 ∧ I ⊆ g.2.2.2.2.2 ∧ R6.Good g.2.1 room ∧ R7.empty ns room lv = R7.emptyF room (lv - g.1) g.2.1 g.2.2.1) (fun g => [(1, .int .i64 (lv : Nat)), (2, pt b2 0), (4, pt b4 0), (7, .int .i64 g.2.2.1), (8, .int .i64 (g.1 : Nat))]) (fun g => Box b4 [.slice none 0 0, .int .i64 0] 26 :: Box b2 [.slice g.2.2.2.1 g.2.1.length g.2.2.2.2.1, .int .i64 room] 26 :: A) (fun g => g.2.2.2.2.2) ?_ (0, ns, 0, a, cap, I) ⟨by simp, hs, fun _ h => h, hg, rfl⟩
  rintro ⟨i, ms, n, a1, cap1, I1⟩ ⟨hi, hs1, hI1, hg1, he⟩ K hK
  simp only at hi hs1 hI1 hg1 he hK ⊢
  skip
  refine tri_seq ?_
  refine tri_seq ?_
  refine tri_region ?_
  refine tri_v (opv_move rfl) rfl ?_
  refine tri_v (opv_move rfl) rfl ?_
  refine tri_v (opv_lss rfl rfl) rfl ?_
  refine tri_nil ?_
  refine tri_then ?_
  refine tri_cond_dec rfl (fun h => ?_) (fun h => ?_)
  · have hk : lv - i = (lv - (i + 1)) + 1 := by omega
    rw [hk] at he
    unfold R7.emptyF at he
    have hg2 := hg1.put n n n n
    refine tri_skip ?_
    refine tri_then ?_
    refine tri_seq ?_
    refine tri_block ?_
    refine tri_seq ?_
    refine tri_region ?_
    refine tri_v (opv_loadA rfl rfl rfl) rfl ?_
    refine tri_v (opv_move rfl) rfl ?_
    refine tri_v (opv_move rfl) rfl ?_
    refine tri_v (opv_move rfl) rfl ?_
    refine tri_v (opv_move rfl) rfl ?_
    refine tri_v (opv_buildA rfl rfl) rfl ?_
    refine tri_g (opg_call (xs := [_, _]) rfl (ref06_put hs1 hg1.len hg1.mod)) rfl ?_
    rintro _ _ I2 ⟨a2, cap2, rfl, hs2, rfl, hI2⟩
    refine tri_v (opv_move rfl) rfl ?_
    refine tri_v (opv_extract rfl rfl) rfl ?_
    refine tri_v (opv_extract rfl rfl) rfl ?_
    refine tri_v (opv_extract rfl rfl) rfl ?_
    refine tri_g opg_alloc rfl ?_
    rintro _ _ _ ⟨b, rfl, rfl, rfl⟩
    refine tri_g (opg_store rfl rfl rfl rfl rfl rfl) rfl ?_
    rintro _ _ _ ⟨rfl, rfl⟩
    refine tri_v (opv_assign rfl) rfl ?_
    refine tri_v (opv_assign rfl) rfl ?_
    refine tri_nil ?_
    refine tri_then ?_
    refine tri_seq ?_
    refine tri_seq ?_
    refine tri_region ?_
    refine tri_v (opv_move rfl) rfl ?_
    refine tri_v (opv_neq rfl rfl) rfl ?_
    refine tri_nil ?_
    refine tri_then ?_
    refine tri_cond_dec rfl (fun h2 => ?_) (fun h2 => ?_)
    · rw [if_pos h2] at he
      refine tri_seq ?_
      refine tri_region ?_
      refine tri_v (opv_loadA rfl rfl rfl) rfl ?_
      refine tri_v (opv_move rfl) rfl ?_
      refine tri_g (opg_store rfl rfl rfl rfl rfl rfl) rfl ?_
      rintro _ _ _ ⟨rfl, rfl⟩
      refine tri_v (opv_assign rfl) rfl ?_
      refine tri_v (opv_assign rfl) rfl ?_
      refine tri_nil ?_
      refine tri_then ?_
      refine tri_ret ?_
      refine tri_then_ret ?_
      refine tri_inBlock_ret ?_
      refine tri_then_ret ?_
      refine tri_then_ret ?_
      refine tri_inBlock_ret ?_
      refine tri_then_ret ?_
      refine tri_end A Suf.h rfl (.cons (rv_cellA rfl rfl rfl) (.cons (rv_tmp rfl) (.cons (rv_tmp rfl) .nil))) ?_
      rw [he]
      exact ⟨a1, cap1, rfl, hs1.mono hI2, rfl, fun _ h => hI2 (hI1 h)⟩
    · rw [if_neg h2] at he
      refine tri_skip ?_
      refine tri_then ?_
      refine tri_seq ?_
      refine tri_region ?_
      refine tri_v (opv_loadA rfl rfl rfl) rfl ?_
      refine tri_g (opg_store rfl rfl rfl rfl rfl rfl) rfl ?_
      rintro _ _ _ ⟨rfl, rfl⟩
      refine tri_nil ?_
      refine tri_then ?_
      refine tri_region ?_
      refine tri_v (opv_move rfl) rfl ?_
      refine tri_v (opv_assign rfl) rfl ?_
      refine tri_nil ?_
      refine tri_inBlock ?_
      refine tri_then ?_
      refine tri_region ?_
      refine tri_v (opv_move rfl) rfl ?_
      refine tri_v (opv_add rfl rfl (w64 (by omega) (by omega))) rfl ?_
      refine tri_v (opv_assign rfl) rfl ?_
      refine tri_nil ?_
      refine tri_then ?_
      refine tri_drop ?_
      refine tri_sub ?_ (hK (i + 1, (R6.put ms room n n n n).1, (R6.put ms room n n n n).2.1, a2, cap2, I2) ⟨by simp only; omega, hs2, fun _ h => hI2 (hI1 h), hg2, he⟩ (by simp only; omega))
      exact ⟨rfl, rfl, rfl, rfl, rfl, trivial⟩
  · have hk : lv - i = 0 := by omega
    rw [hk] at he
    unfold R7.emptyF at he
    refine tri_exit ?_
    refine tri_then_exit ?_
    refine tri_then_exit ?_
    refine tri_inBlock_hit rfl ?_
    refine tri_then ?_
    refine tri_seq ?_
    refine tri_region ?_
    refine tri_v (opv_loadA rfl rfl rfl) rfl ?_
    refine tri_v (opv_move rfl) rfl ?_
    refine tri_g (opg_store rfl rfl rfl rfl rfl rfl) rfl ?_
    rintro _ _ _ ⟨rfl, rfl⟩
    refine tri_v (opv_assign rfl) rfl ?_
    refine tri_v (opv_assign rfl) rfl ?_
    refine tri_nil ?_
    refine tri_then ?_
    refine tri_ret ?_
    refine tri_end A Suf.h rfl (.cons (rv_cellA rfl rfl rfl) (.cons (rv_tmp rfl) (.cons (rv_tmp rfl) .nil))) ?_
    rw [he]
    exact ⟨a1, cap1, rfl, hs1, rfl, hI1⟩
end Go.GL

set_option linter.unusedVariables false
namespace Go.GL
open Go.Proofs
attribute [local irreducible] wpList Code.wp Exit.then Exit.inBlock Ends Tri TriH OpV OpG FnC epf wpAnyH
theorem R7.side_nat {z : Int} {m : Nat} (h : z = ((m + 1 : Nat) : Int)) : R7.side z = 2 ^ m := by
  unfold R7.side
  congr 1
  omega
theorem R7.build_nil (room : Int) (lv : Nat) (ns : List Node) : R7.build room lv ns [] = R7.empty ns room lv := by cases lv <;> rfl
theorem R7.build_zero (room : Int) (ns : List Node) {l : List Cell} (h : l ≠ []) : R7.build room 0 ns l = (ns, 1, 0) := by
  cases l with
  | nil => exact absurd rfl h
  | cons c l => rfl
theorem R7.build_succ (room : Int) (lv : Nat) (ns : List Node) {l : List Cell} (h : l ≠ []) {r0 r1 r2 r3 : List Node × Int × Int} (h0 : R7.build room lv ns (R7.part (2 ^ lv) 0 l) = r0) (h1 : R7.build room lv r0.1 (R7.part (2 ^ lv) 1 l) = r1) (h2 : R7.build room lv r1.1 (R7.part (2 ^ lv) 2 l) = r2) (h3 : R7.build room lv r2.1 (R7.part (2 ^ lv) 3 l) = r3) :
    R7.build room (lv + 1) ns l = if r0.2.2 ≠ 0 then (ns, 0, r0.2.2) else if r1.2.2 ≠ 0 then (r0.1, 0, r1.2.2) else if r2.2.2 ≠ 0 then (r1.1, 0, r2.2.2) else if r3.2.2 ≠ 0 then (r2.1, 0, r3.2.2) else R6.put r3.1 room r0.2.1 r1.2.1 r2.2.1 r3.2.1 := by
  subst h3; subst h2; subst h1; subst h0
  cases l with
  | nil => exact absurd rfl h
  | cons c l => rfl
theorem R7.emptyF_good (room : Int) : ∀ (k : Nat) (ns : List Node) (n : Int), R6.Good ns room → R6.Good (R7.emptyF room k ns n).1 room
  | 0, ns, n, h => h
  | k + 1, ns, n, h => by
    unfold R7.emptyF
    split
    · exact h
    · exact R7.emptyF_good room k _ _ (h.put n n n n)
theorem R7.build_good (room : Int) : ∀ (lv : Nat) (ns : List Node) (l : List Cell), R6.Good ns room → R6.Good (R7.build room lv ns l).1 room
  | lv, ns, [], h => by rw [R7.build_nil]; exact R7.emptyF_good room lv ns 0 h
  | 0, ns, c :: l, h => by rw [R7.build_zero _ _ (by simp)]; exact h
  | lv + 1, ns, c :: l, h => by
    have g0 := R7.build_good room lv ns (R7.part (2 ^ lv) 0 (c :: l)) h
    generalize h0 : R7.build room lv ns (R7.part (2 ^ lv) 0 (c :: l)) = r0 at g0
    have g1 := R7.build_good room lv r0.1 (R7.part (2 ^ lv) 1 (c :: l)) g0
    generalize h1 : R7.build room lv r0.1 (R7.part (2 ^ lv) 1 (c :: l)) = r1 at g1
    have g2 := R7.build_good room lv r1.1 (R7.part (2 ^ lv) 2 (c :: l)) g1
    generalize h2 : R7.build room lv r1.1 (R7.part (2 ^ lv) 2 (c :: l)) = r2 at g2
    have g3 := R7.build_good room lv r2.1 (R7.part (2 ^ lv) 3 (c :: l)) g2
    generalize h3 : R7.build room lv r2.1 (R7.part (2 ^ lv) 3 (c :: l)) = r3 at g3
    rw [R7.build_succ room lv ns (by simp) h0 h1 h2 h3]
    split
    · exact h
    · split
      · exact g0
      · split
        · exact g1
        · split
          · exact g2
          · exact g3.put ..
theorem R7.part_bd {hf : Int} (h0 : 0 ≤ hf) {k : Nat} {l : List Cell} {B : Int} (hb : ∀ c ∈ l, c.x ≤ B ∧ c.y ≤ B) : ∀ c ∈ R7.part hf k l, c.x ≤ B ∧ c.y ≤ B := by
  intro c hc
  unfold R7.part at hc
  obtain ⟨d, hd, rfl⟩ := List.mem_map.1 hc
  have := hb d (List.mem_filter.1 hd).1
  unfold R7.qc
  simp only
  constructor <;> split <;> omega
def BuildSpec (lv : Nat) : Prop := ∀ (z : Int) (A : List Asrt) (I : List Chunk) (ns : List Node) (a b : Option Addr) (cap cap2 : Nat) (room : Int) (l : List Cell) (r : List Node × Int × Int), z = lv → lv ≤ 42 → StA I a cap ns → R6.Good ns room → SlAt I b l → l.length ≤ 1000000000 → (∀ c ∈ l, c.x ≤ 4398046511104 ∧ c.y ≤ 4398046511104) → R7.build room lv ns l = r →
  FnC Try.prog 52 [storeV a ns.length cap room, .slice b l.length cap2, .int .i64 z].toArray A I (StoreR r room A I)
set_option maxHeartbeats 1000000 in
set_option maxRecDepth 100000 in
theorem ref07_build_step (lv : Nat) (ih : ∀ m, m < lv → BuildSpec m) : BuildSpec lv := by
  intro z A I ns a bb cap cap2 room l r hz hlv hs hg hsl hn hb hr
  skip
  refine fn_enter3 Try.func52 rfl Try.ntmps52 rfl fun w0 => ?_
  refine tri_seq ?_
  refine tri_region ?_
  refine tri_g (opg_box_agg rfl) rfl ?_
  rintro _ _ _ ⟨b3, rfl, rfl, rfl⟩
  refine tri_g opg_alloc rfl ?_
  rintro _ _ _ ⟨b6, rfl, rfl, rfl⟩
  refine tri_v (opv_assign rfl) rfl ?_
  refine tri_v (opv_assign rfl) rfl ?_
  refine tri_nil ?_
  refine tri_then ?_
  refine tri_seq ?_
  refine tri_seq ?_
  refine tri_region ?_
  refine tri_v (opv_move rfl) rfl ?_
  refine tri_v (opv_len rfl) rfl ?_
  refine tri_v (opv_eql rfl rfl) rfl ?_
  refine tri_nil ?_
  refine tri_then ?_
  refine tri_cond_dec rfl (fun h0 => ?_) (fun h0 => ?_)
  · have hl : l = [] := List.length_eq_zero_iff.1 (by omega)
    subst hl
    rw [R7.build_nil] at hr
    subst hr
    subst hz
    refine tri_seq ?_
    refine tri_region ?_
    refine tri_v (opv_loadA rfl rfl rfl) rfl ?_
    refine tri_v (opv_move rfl) rfl ?_
    refine tri_g (opg_call (xs := [_, _]) rfl (ref07_empty (lv := lv) hs hg (by omega))) rfl ?_
    rintro _ _ I2 ⟨a2, cap3, rfl, hs2, rfl, hI2⟩
    refine tri_v (opv_extract rfl rfl) rfl ?_
    refine tri_v (opv_extract rfl rfl) rfl ?_
    refine tri_v (opv_extract rfl rfl) rfl ?_
    refine tri_g (opg_store rfl rfl rfl rfl rfl rfl) rfl ?_
    rintro _ _ _ ⟨rfl, rfl⟩
    refine tri_v (opv_assign rfl) rfl ?_
    refine tri_v (opv_assign rfl) rfl ?_
    refine tri_nil ?_
    refine tri_then ?_
    refine tri_ret ?_
    refine tri_then_ret ?_
    refine tri_end A Suf.h rfl (.cons (rv_cellA rfl rfl rfl) (.cons (rv_tmp rfl) (.cons (rv_tmp rfl) .nil))) ?_
    exact ⟨a2, cap3, rfl, hs2, rfl, hI2⟩
  have hne : l ≠ [] := fun h => h0 (by rw [h]; rfl)
  refine tri_skip ?_
  refine tri_then ?_
  refine tri_seq ?_
  refine tri_seq ?_
  refine tri_region ?_
  refine tri_v (opv_move rfl) rfl ?_
  refine tri_v (opv_eql rfl rfl) rfl ?_
  refine tri_nil ?_
  refine tri_then ?_
  refine tri_cond_dec rfl (fun hz0 => ?_) (fun hz0 => ?_)
  · have hl : lv = 0 := by omega
    subst hl
    rw [R7.build_zero _ _ hne] at hr
    subst hr
    refine tri_seq ?_
    refine tri_region ?_
    refine tri_v (opv_loadA rfl rfl rfl) rfl ?_
    refine tri_g (opg_store rfl rfl rfl rfl rfl rfl) rfl ?_
    rintro _ _ _ ⟨rfl, rfl⟩
    refine tri_v (opv_assign rfl) rfl ?_
    refine tri_v (opv_assign rfl) rfl ?_
    refine tri_nil ?_
    refine tri_then ?_
    refine tri_ret ?_
    refine tri_then_ret ?_
    refine tri_end A Suf.h rfl (.cons (rv_cellA rfl rfl rfl) (.cons (rv_tmp rfl) (.cons (rv_tmp rfl) .nil))) ?_
    exact ⟨a, cap, rfl, hs, rfl, fun _ h => h⟩
  obtain ⟨m, rfl⟩ : ∃ m, lv = m + 1 := ⟨lv - 1, by omega⟩
  have hsd : R7.side z = 2 ^ m := R7.side_nat hz
  have hnn : 0 ≤ R7.side z := by have := (R7.side_bd (lv := z) (by omega)).1; omega
  obtain ⟨r0, hr0⟩ : ∃ r, R7.build room m ns (R7.part (R7.side z) 0 l) = r := ⟨_, rfl⟩
  obtain ⟨r1, hr1⟩ : ∃ r, R7.build room m r0.1 (R7.part (R7.side z) 1 l) = r := ⟨_, rfl⟩
  obtain ⟨r2, hr2⟩ : ∃ r, R7.build room m r1.1 (R7.part (R7.side z) 2 l) = r := ⟨_, rfl⟩
  obtain ⟨r3, hr3⟩ : ∃ r, R7.build room m r2.1 (R7.part (R7.side z) 3 l) = r := ⟨_, rfl⟩
  have hb' := R7.build_succ room m ns hne (hsd ▸ hr0) (hsd ▸ hr1) (hsd ▸ hr2) (hsd ▸ hr3)
  rw [hr] at hb'
  have g0 : R6.Good r0.1 room := hr0 ▸ R7.build_good room m ns _ hg
  have g1 : R6.Good r1.1 room := hr1 ▸ R7.build_good room m _ _ g0
  have g2 : R6.Good r2.1 room := hr2 ▸ R7.build_good room m _ _ g1
  have g3 : R6.Good r3.1 room := hr3 ▸ R7.build_good room m _ _ g2
  have pl := fun k => R7.part_len (R7.side z) k l
  refine tri_skip ?_
  refine tri_then ?_
  refine tri_seq ?_
  refine tri_region ?_
  refine tri_v (opv_move rfl) rfl ?_
  refine tri_v (opv_move rfl) rfl ?_
  refine tri_g (opg_call (xs := [_, _]) rfl (ref07_parts (lv := z) hsl hn (by omega) (by omega) hb)) rfl ?_
  rintro _ _ J0 ⟨a0, c0, a1, c1, a2, c2, a3, c3, rfl, hp0, hp1, hp2, hp3, rfl, hJ0⟩
  refine tri_g opg_alloc rfl ?_
  rintro _ _ _ ⟨b9, rfl, rfl, rfl⟩
  refine tri_g (opg_store rfl rfl rfl rfl rfl rfl) rfl ?_
  rintro _ _ _ ⟨rfl, rfl⟩
  refine tri_nil ?_
  refine tri_then ?_
  refine tri_seq ?_
  refine tri_region ?_
  refine tri_g opg_alloc rfl ?_
  rintro _ _ _ ⟨b10, rfl, rfl, rfl⟩
  refine tri_nil ?_
  refine tri_then ?_
  refine tri_seq ?_
  refine tri_seq ?_
  refine tri_region ?_
  refine tri_v (opv_assign rfl) rfl ?_
  refine tri_nil ?_
  refine tri_then ?_
  refine tri_block ?_
  refine tri_rounds 5 ?_
  refine tri_round ?_
  refine tri_seq ?_
  refine tri_seq ?_
  refine tri_region ?_
  refine tri_v (opv_move rfl) rfl ?_
  refine tri_v (opv_lss rfl rfl) rfl ?_
  refine tri_nil ?_
  refine tri_then ?_
  refine tri_cond_is rfl (by decide) ?_
  refine tri_skip ?_
  refine tri_then ?_
  refine tri_seq ?_
  refine tri_block ?_
  refine tri_seq ?_
  refine tri_cut (fun F' A' J1 => ∃ b12 d0 e0, F' = [(1, .slice bb l.length cap2), (2, .int .i64 z), (3, pt b3 0), (6, pt b6 0), (9, pt b9 0), (10, pt b10 0), (11, .int .i64 0), (12, pt b12 0), (13, .int .i64 r0.2.1), (14, .int .i64 r0.2.2)] ∧ A' = Box b12 [.slice d0 r0.1.length e0, .int .i64 room] 26 :: Box b10 [.int .i64 0, .int .i64 0, .int .i64 0, .int .i64 0] 43 :: Box b9 [.slice a0 (R7.part (R7.side z) 0 l).length c0, .slice a1 (R7.part (R7.side z) 1 l).length c1, .slice a2 (R7.part (R7.side z) 2 l).length c2, .slice a3 (R7.part (R7.side z) 3 l).length c3] 102 :: Box b6 [.slice none 0 0, .int .i64 0] 26 :: Box b3 [.slice a ns.length cap, .int .i64 room] 26 :: A ∧ StA J1 d0 e0 r0.1 ∧ J0 ⊆ J1) ?_ ?_
  · refine tri_draw [0, 1, 2, 3, 4, 5, 6, 7, 8, 9, 10, 11, 12, 13, 14] rfl [] rfl mixed ?_
    refine th_take rfl rfl (by kernel_rfl)  (opv_loadA rfl rfl rfl) ?_
    refine th_take rfl rfl (by kernel_rfl)  (opv_move rfl) ?_
    refine th_take rfl rfl (by kernel_rfl)  (opv_indexAddrA rfl rfl (by decide) (by decide)) ?_
    refine th_take rfl rfl (by kernel_rfl)  (opv_load1 rfl rfl rfl) ?_
    refine th_take rfl rfl (by kernel_rfl)  (opv_move rfl) ?_
    refine th_take rfl rfl (by kernel_rfl)  (opv_sub rfl rfl (w64 (by omega) (by omega))) ?_
    refine th_two (j := 11) [6, 7, 8, 9, 10, 12, 13, 14] (by kernel_rfl) rfl ?_ ?_
    · refine (step_m rfl rfl (opg_call (xs := [_, _, _]) rfl (ih m (by omega) _ _ _ _ _ _ _ _ room _ r0 (by omega) (by omega) (hs.mono hJ0) hg hp0 (by have := pl 0; omega) (R7.part_bd hnn hb) hr0)) ?_)
      rintro _ _ J1 ⟨d0, e0, rfl, hq0, rfl, hJ1⟩
      refine ⟨Suf.h, hJ1, ?_⟩
      refine th_take rfl rfl (by kernel_rfl)  (opv_move rfl) ?_
      refine th_take rfl rfl (by kernel_rfl)  (opv_extract rfl rfl) ?_
      refine th_take rfl rfl (by kernel_rfl)  (opv_extract rfl rfl) ?_
      refine th_take rfl rfl (by kernel_rfl)  (opv_extract rfl rfl) ?_
      refine th_one (by kernel_rfl) (step_m rfl rfl opg_alloc ?_)
      rintro _ _ _ ⟨b12, rfl, rfl, rfl⟩
      refine ⟨Suf.h, (by assumption), ?_⟩
      refine th_one (by kernel_rfl) (step_m rfl rfl (opg_store rfl rfl rfl rfl rfl rfl) ?_)
      rintro _ _ _ ⟨rfl, rfl⟩
      refine ⟨Suf.h, (by assumption), ?_⟩
      refine th_take rfl rfl (by kernel_rfl)  (opv_assign rfl) ?_
      refine th_take rfl rfl (by kernel_rfl)  (opv_assign rfl) ?_
      refine th_done (by kernel_rfl) ?_
      refine tri_cutEnd _ ⟨b12, d0, e0, rfl, rfl, hq0, hJ1⟩ ⟨rfl, rfl, rfl, rfl, rfl, rfl, rfl, rfl, rfl, rfl, trivial⟩
    · refine (step_m rfl rfl opg_alloc ?_)
      rintro _ _ _ ⟨b12, rfl, rfl, rfl⟩
      refine ⟨Suf.h, (fun _ h => h), ?_⟩
      refine th_one (by kernel_rfl) (step_m rfl rfl (opg_call (xs := [_, _, _]) rfl (ih m (by omega) _ _ _ _ _ _ _ _ room _ r0 (by omega) (by omega) (hs.mono hJ0) hg hp0 (by have := pl 0; omega) (R7.part_bd hnn hb) hr0)) ?_)
      rintro _ _ J1 ⟨d0, e0, rfl, hq0, rfl, hJ1⟩
      refine ⟨Suf.h, hJ1, ?_⟩
      refine th_take rfl rfl (by kernel_rfl)  (opv_move rfl) ?_
      refine th_take rfl rfl (by kernel_rfl)  (opv_extract rfl rfl) ?_
      refine th_take rfl rfl (by kernel_rfl)  (opv_extract rfl rfl) ?_
      refine th_take rfl rfl (by kernel_rfl)  (opv_extract rfl rfl) ?_
      refine th_one (by kernel_rfl) (step_m rfl rfl (opg_store rfl rfl rfl rfl rfl rfl) ?_)
      rintro _ _ _ ⟨rfl, rfl⟩
      refine ⟨Suf.h, (by assumption), ?_⟩
      refine th_take rfl rfl (by kernel_rfl)  (opv_assign rfl) ?_
      refine th_take rfl rfl (by kernel_rfl)  (opv_assign rfl) ?_
      refine th_done (by kernel_rfl) ?_
      refine tri_cutEnd _ ⟨b12, d0, e0, rfl, rfl, hq0, hJ1⟩ ⟨rfl, rfl, rfl, rfl, rfl, rfl, rfl, rfl, rfl, rfl, trivial⟩
  rintro _ _ J1 ⟨b12, d0, e0, rfl, rfl, hq0, hJ1⟩
  skip
  refine tri_then ?_
  refine tri_seq ?_
  refine tri_seq ?_
  refine tri_region ?_
  refine tri_v (opv_move rfl) rfl ?_
  refine tri_v (opv_neq rfl rfl) rfl ?_
  refine tri_nil ?_
  refine tri_then ?_
  refine tri_cond_dec rfl (fun x0 => ?_) (fun x0 => ?_)
  · rw [if_pos x0] at hb'
    refine tri_seq ?_
    refine tri_region ?_
    refine tri_v (opv_loadA rfl rfl rfl) rfl ?_
    refine tri_v (opv_move rfl) rfl ?_
    refine tri_g (opg_store rfl rfl rfl rfl rfl rfl) rfl ?_
    rintro _ _ _ ⟨rfl, rfl⟩
    refine tri_v (opv_assign rfl) rfl ?_
    refine tri_v (opv_assign rfl) rfl ?_
    refine tri_nil ?_
    refine tri_then ?_
    refine tri_ret ?_
    refine tri_then_ret ?_
    refine tri_inBlock_ret ?_
    refine tri_then_ret ?_
    refine tri_then_ret ?_
    refine tri_inBlock_ret ?_
    refine tri_then_ret ?_
    refine tri_end A Suf.h rfl (.cons (rv_cellA rfl rfl rfl) (.cons (rv_tmp rfl) (.cons (rv_tmp rfl) .nil))) ?_
    rw [hb']
    exact ⟨a, cap, rfl, hs.mono (fun _ h => hJ1 (hJ0 (h))), rfl, fun _ h => hJ1 (hJ0 (h))⟩
  skip
  refine tri_skip ?_
  refine tri_then ?_
  refine tri_seq ?_
  refine tri_region ?_
  refine tri_v (opv_loadA rfl rfl rfl) rfl ?_
  refine tri_g (opg_store rfl rfl rfl rfl rfl rfl) rfl ?_
  rintro _ _ _ ⟨rfl, rfl⟩
  refine tri_nil ?_
  refine tri_then ?_
  refine tri_region ?_
  refine tri_v (opv_move rfl) rfl ?_
  refine tri_v (opv_move rfl) rfl ?_
  refine tri_v (opv_indexAddrA rfl rfl (by decide) (by decide)) rfl ?_
  refine tri_g (opg_store rfl rfl rfl rfl rfl rfl) rfl ?_
  rintro _ _ _ ⟨rfl, rfl⟩
  refine tri_nil ?_
  refine tri_inBlock ?_
  refine tri_then ?_
  refine tri_drop ?_
  refine tri_region ?_
  refine tri_v (opv_move rfl) rfl ?_
  refine tri_v (opv_add rfl rfl (w64 (by omega) (by omega))) rfl ?_
  refine tri_v (opv_assign rfl) rfl ?_
  refine tri_nil ?_
  refine tri_then ?_
  refine tri_round ?_
  refine tri_seq ?_
  refine tri_seq ?_
  refine tri_region ?_
  refine tri_v (opv_move rfl) rfl ?_
  refine tri_v (opv_lss rfl rfl) rfl ?_
  refine tri_nil ?_
  refine tri_then ?_
  refine tri_cond_is rfl (by decide) ?_
  refine tri_skip ?_
  refine tri_then ?_
  refine tri_seq ?_
  refine tri_block ?_
  refine tri_seq ?_
  refine tri_cut (fun F' A' J2 => ∃ b12 d1 e1, F' = [(1, .slice bb l.length cap2), (2, .int .i64 z), (3, pt b3 0), (6, pt b6 0), (9, pt b9 0), (10, pt b10 0), (11, .int .i64 1), (12, pt b12 0), (13, .int .i64 r1.2.1), (14, .int .i64 r1.2.2)] ∧ A' = Box b12 [.slice d1 r1.1.length e1, .int .i64 room] 26 :: Box b10 [.int .i64 r0.2.1, .int .i64 0, .int .i64 0, .int .i64 0] 43 :: Box b9 [.slice a0 (R7.part (R7.side z) 0 l).length c0, .slice a1 (R7.part (R7.side z) 1 l).length c1, .slice a2 (R7.part (R7.side z) 2 l).length c2, .slice a3 (R7.part (R7.side z) 3 l).length c3] 102 :: Box b6 [.slice none 0 0, .int .i64 0] 26 :: Box b3 [.slice d0 r0.1.length e0, .int .i64 room] 26 :: A ∧ StA J2 d1 e1 r1.1 ∧ J1 ⊆ J2) ?_ ?_
  · refine tri_draw [0, 1, 2, 3, 4, 5, 6, 7, 8, 9, 10, 11, 12, 13, 14] rfl [] rfl mixed ?_
    refine th_take rfl rfl (by kernel_rfl)  (opv_loadA rfl rfl rfl) ?_
    refine th_take rfl rfl (by kernel_rfl)  (opv_move rfl) ?_
    refine th_take rfl rfl (by kernel_rfl)  (opv_indexAddrA rfl rfl (by decide) (by decide)) ?_
    refine th_take rfl rfl (by kernel_rfl)  (opv_load1 rfl rfl rfl) ?_
    refine th_take rfl rfl (by kernel_rfl)  (opv_move rfl) ?_
    refine th_take rfl rfl (by kernel_rfl)  (opv_sub rfl rfl (w64 (by omega) (by omega))) ?_
    refine th_two (j := 11) [6, 7, 8, 9, 10, 12, 13, 14] (by kernel_rfl) rfl ?_ ?_
    · refine (step_m rfl rfl (opg_call (xs := [_, _, _]) rfl (ih m (by omega) _ _ _ _ _ _ _ _ room _ r1 (by omega) (by omega) (hq0) g0 (hp1.mono (fun _ h => hJ1 (h))) (by have := pl 1; omega) (R7.part_bd hnn hb) hr1)) ?_)
      rintro _ _ J2 ⟨d1, e1, rfl, hq1, rfl, hJ2⟩
      refine ⟨Suf.h, hJ2, ?_⟩
      refine th_take rfl rfl (by kernel_rfl)  (opv_move rfl) ?_
      refine th_take rfl rfl (by kernel_rfl)  (opv_extract rfl rfl) ?_
      refine th_take rfl rfl (by kernel_rfl)  (opv_extract rfl rfl) ?_
      refine th_take rfl rfl (by kernel_rfl)  (opv_extract rfl rfl) ?_
      refine th_one (by kernel_rfl) (step_m rfl rfl opg_alloc ?_)
      rintro _ _ _ ⟨b12, rfl, rfl, rfl⟩
      refine ⟨Suf.h, (by assumption), ?_⟩
      refine th_one (by kernel_rfl) (step_m rfl rfl (opg_store rfl rfl rfl rfl rfl rfl) ?_)
      rintro _ _ _ ⟨rfl, rfl⟩
      refine ⟨Suf.h, (by assumption), ?_⟩
      refine th_take rfl rfl (by kernel_rfl)  (opv_assign rfl) ?_
      refine th_take rfl rfl (by kernel_rfl)  (opv_assign rfl) ?_
      refine th_done (by kernel_rfl) ?_
      refine tri_cutEnd _ ⟨b12, d1, e1, rfl, rfl, hq1, hJ2⟩ ⟨rfl, rfl, rfl, rfl, rfl, rfl, rfl, rfl, rfl, rfl, trivial⟩
    · refine (step_m rfl rfl opg_alloc ?_)
      rintro _ _ _ ⟨b12, rfl, rfl, rfl⟩
      refine ⟨Suf.h, (fun _ h => h), ?_⟩
      refine th_one (by kernel_rfl) (step_m rfl rfl (opg_call (xs := [_, _, _]) rfl (ih m (by omega) _ _ _ _ _ _ _ _ room _ r1 (by omega) (by omega) (hq0) g0 (hp1.mono (fun _ h => hJ1 (h))) (by have := pl 1; omega) (R7.part_bd hnn hb) hr1)) ?_)
      rintro _ _ J2 ⟨d1, e1, rfl, hq1, rfl, hJ2⟩
      refine ⟨Suf.h, hJ2, ?_⟩
      refine th_take rfl rfl (by kernel_rfl)  (opv_move rfl) ?_
      refine th_take rfl rfl (by kernel_rfl)  (opv_extract rfl rfl) ?_
      refine th_take rfl rfl (by kernel_rfl)  (opv_extract rfl rfl) ?_
      refine th_take rfl rfl (by kernel_rfl)  (opv_extract rfl rfl) ?_
      refine th_one (by kernel_rfl) (step_m rfl rfl (opg_store rfl rfl rfl rfl rfl rfl) ?_)
      rintro _ _ _ ⟨rfl, rfl⟩
      refine ⟨Suf.h, (by assumption), ?_⟩
      refine th_take rfl rfl (by kernel_rfl)  (opv_assign rfl) ?_
      refine th_take rfl rfl (by kernel_rfl)  (opv_assign rfl) ?_
      refine th_done (by kernel_rfl) ?_
      refine tri_cutEnd _ ⟨b12, d1, e1, rfl, rfl, hq1, hJ2⟩ ⟨rfl, rfl, rfl, rfl, rfl, rfl, rfl, rfl, rfl, rfl, trivial⟩
  rintro _ _ J2 ⟨b12, d1, e1, rfl, rfl, hq1, hJ2⟩
  skip
  refine tri_then ?_
  refine tri_seq ?_
  refine tri_seq ?_
  refine tri_region ?_
  refine tri_v (opv_move rfl) rfl ?_
  refine tri_v (opv_neq rfl rfl) rfl ?_
  refine tri_nil ?_
  refine tri_then ?_
  refine tri_cond_dec rfl (fun x1 => ?_) (fun x1 => ?_)
  · rw [if_neg x0, if_pos x1] at hb'
    refine tri_seq ?_
    refine tri_region ?_
    refine tri_v (opv_loadA rfl rfl rfl) rfl ?_
    refine tri_v (opv_move rfl) rfl ?_
    refine tri_g (opg_store rfl rfl rfl rfl rfl rfl) rfl ?_
    rintro _ _ _ ⟨rfl, rfl⟩
    refine tri_v (opv_assign rfl) rfl ?_
    refine tri_v (opv_assign rfl) rfl ?_
    refine tri_nil ?_
    refine tri_then ?_
    refine tri_ret ?_
    refine tri_then_ret ?_
    refine tri_inBlock_ret ?_
    refine tri_then_ret ?_
    refine tri_then_ret ?_
    refine tri_inBlock_ret ?_
    refine tri_then_ret ?_
    refine tri_end A Suf.h rfl (.cons (rv_cellA rfl rfl rfl) (.cons (rv_tmp rfl) (.cons (rv_tmp rfl) .nil))) ?_
    rw [hb']
    exact ⟨d0, e0, rfl, hq0.mono hJ2, rfl, fun _ h => hJ2 (hJ1 (hJ0 (h)))⟩
  skip
  refine tri_skip ?_
  refine tri_then ?_
  refine tri_seq ?_
  refine tri_region ?_
  refine tri_v (opv_loadA rfl rfl rfl) rfl ?_
  refine tri_g (opg_store rfl rfl rfl rfl rfl rfl) rfl ?_
  rintro _ _ _ ⟨rfl, rfl⟩
  refine tri_nil ?_
  refine tri_then ?_
  refine tri_region ?_
  refine tri_v (opv_move rfl) rfl ?_
  refine tri_v (opv_move rfl) rfl ?_
  refine tri_v (opv_indexAddrA rfl rfl (by decide) (by decide)) rfl ?_
  refine tri_g (opg_store rfl rfl rfl rfl rfl rfl) rfl ?_
  rintro _ _ _ ⟨rfl, rfl⟩
  refine tri_nil ?_
  refine tri_inBlock ?_
  refine tri_then ?_
  refine tri_drop ?_
  refine tri_region ?_
  refine tri_v (opv_move rfl) rfl ?_
  refine tri_v (opv_add rfl rfl (w64 (by omega) (by omega))) rfl ?_
  refine tri_v (opv_assign rfl) rfl ?_
  refine tri_nil ?_
  refine tri_then ?_
  refine tri_round ?_
  refine tri_seq ?_
  refine tri_seq ?_
  refine tri_region ?_
  refine tri_v (opv_move rfl) rfl ?_
  refine tri_v (opv_lss rfl rfl) rfl ?_
  refine tri_nil ?_
  refine tri_then ?_
  refine tri_cond_is rfl (by decide) ?_
  refine tri_skip ?_
  refine tri_then ?_
  refine tri_seq ?_
  refine tri_block ?_
  refine tri_seq ?_
  refine tri_cut (fun F' A' J3 => ∃ b12 d2 e2, F' = [(1, .slice bb l.length cap2), (2, .int .i64 z), (3, pt b3 0), (6, pt b6 0), (9, pt b9 0), (10, pt b10 0), (11, .int .i64 2), (12, pt b12 0), (13, .int .i64 r2.2.1), (14, .int .i64 r2.2.2)] ∧ A' = Box b12 [.slice d2 r2.1.length e2, .int .i64 room] 26 :: Box b10 [.int .i64 r0.2.1, .int .i64 r1.2.1, .int .i64 0, .int .i64 0] 43 :: Box b9 [.slice a0 (R7.part (R7.side z) 0 l).length c0, .slice a1 (R7.part (R7.side z) 1 l).length c1, .slice a2 (R7.part (R7.side z) 2 l).length c2, .slice a3 (R7.part (R7.side z) 3 l).length c3] 102 :: Box b6 [.slice none 0 0, .int .i64 0] 26 :: Box b3 [.slice d1 r1.1.length e1, .int .i64 room] 26 :: A ∧ StA J3 d2 e2 r2.1 ∧ J2 ⊆ J3) ?_ ?_
  · refine tri_draw [0, 1, 2, 3, 4, 5, 6, 7, 8, 9, 10, 11, 12, 13, 14] rfl [] rfl mixed ?_
    refine th_take rfl rfl (by kernel_rfl)  (opv_loadA rfl rfl rfl) ?_
    refine th_take rfl rfl (by kernel_rfl)  (opv_move rfl) ?_
    refine th_take rfl rfl (by kernel_rfl)  (opv_indexAddrA rfl rfl (by decide) (by decide)) ?_
    refine th_take rfl rfl (by kernel_rfl)  (opv_load1 rfl rfl rfl) ?_
    refine th_take rfl rfl (by kernel_rfl)  (opv_move rfl) ?_
    refine th_take rfl rfl (by kernel_rfl)  (opv_sub rfl rfl (w64 (by omega) (by omega))) ?_
    refine th_two (j := 11) [6, 7, 8, 9, 10, 12, 13, 14] (by kernel_rfl) rfl ?_ ?_
    · refine (step_m rfl rfl (opg_call (xs := [_, _, _]) rfl (ih m (by omega) _ _ _ _ _ _ _ _ room _ r2 (by omega) (by omega) (hq1) g1 (hp2.mono (fun _ h => hJ2 (hJ1 (h)))) (by have := pl 2; omega) (R7.part_bd hnn hb) hr2)) ?_)
      rintro _ _ J3 ⟨d2, e2, rfl, hq2, rfl, hJ3⟩
      refine ⟨Suf.h, hJ3, ?_⟩
      refine th_take rfl rfl (by kernel_rfl)  (opv_move rfl) ?_
      refine th_take rfl rfl (by kernel_rfl)  (opv_extract rfl rfl) ?_
      refine th_take rfl rfl (by kernel_rfl)  (opv_extract rfl rfl) ?_
      refine th_take rfl rfl (by kernel_rfl)  (opv_extract rfl rfl) ?_
      refine th_one (by kernel_rfl) (step_m rfl rfl opg_alloc ?_)
      rintro _ _ _ ⟨b12, rfl, rfl, rfl⟩
      refine ⟨Suf.h, (by assumption), ?_⟩
      refine th_one (by kernel_rfl) (step_m rfl rfl (opg_store rfl rfl rfl rfl rfl rfl) ?_)
      rintro _ _ _ ⟨rfl, rfl⟩
      refine ⟨Suf.h, (by assumption), ?_⟩
      refine th_take rfl rfl (by kernel_rfl)  (opv_assign rfl) ?_
      refine th_take rfl rfl (by kernel_rfl)  (opv_assign rfl) ?_
      refine th_done (by kernel_rfl) ?_
      refine tri_cutEnd _ ⟨b12, d2, e2, rfl, rfl, hq2, hJ3⟩ ⟨rfl, rfl, rfl, rfl, rfl, rfl, rfl, rfl, rfl, rfl, trivial⟩
    · refine (step_m rfl rfl opg_alloc ?_)
      rintro _ _ _ ⟨b12, rfl, rfl, rfl⟩
      refine ⟨Suf.h, (fun _ h => h), ?_⟩
      refine th_one (by kernel_rfl) (step_m rfl rfl (opg_call (xs := [_, _, _]) rfl (ih m (by omega) _ _ _ _ _ _ _ _ room _ r2 (by omega) (by omega) (hq1) g1 (hp2.mono (fun _ h => hJ2 (hJ1 (h)))) (by have := pl 2; omega) (R7.part_bd hnn hb) hr2)) ?_)
      rintro _ _ J3 ⟨d2, e2, rfl, hq2, rfl, hJ3⟩
      refine ⟨Suf.h, hJ3, ?_⟩
      refine th_take rfl rfl (by kernel_rfl)  (opv_move rfl) ?_
      refine th_take rfl rfl (by kernel_rfl)  (opv_extract rfl rfl) ?_
      refine th_take rfl rfl (by kernel_rfl)  (opv_extract rfl rfl) ?_
      refine th_take rfl rfl (by kernel_rfl)  (opv_extract rfl rfl) ?_
      refine th_one (by kernel_rfl) (step_m rfl rfl (opg_store rfl rfl rfl rfl rfl rfl) ?_)
      rintro _ _ _ ⟨rfl, rfl⟩
      refine ⟨Suf.h, (by assumption), ?_⟩
      refine th_take rfl rfl (by kernel_rfl)  (opv_assign rfl) ?_
      refine th_take rfl rfl (by kernel_rfl)  (opv_assign rfl) ?_
      refine th_done (by kernel_rfl) ?_
      refine tri_cutEnd _ ⟨b12, d2, e2, rfl, rfl, hq2, hJ3⟩ ⟨rfl, rfl, rfl, rfl, rfl, rfl, rfl, rfl, rfl, rfl, trivial⟩
  rintro _ _ J3 ⟨b12, d2, e2, rfl, rfl, hq2, hJ3⟩
  skip
  refine tri_then ?_
  refine tri_seq ?_
  refine tri_seq ?_
  refine tri_region ?_
  refine tri_v (opv_move rfl) rfl ?_
  refine tri_v (opv_neq rfl rfl) rfl ?_
  refine tri_nil ?_
  refine tri_then ?_
  refine tri_cond_dec rfl (fun x2 => ?_) (fun x2 => ?_)
  · rw [if_neg x0, if_neg x1, if_pos x2] at hb'
    refine tri_seq ?_
    refine tri_region ?_
    refine tri_v (opv_loadA rfl rfl rfl) rfl ?_
    refine tri_v (opv_move rfl) rfl ?_
    refine tri_g (opg_store rfl rfl rfl rfl rfl rfl) rfl ?_
    rintro _ _ _ ⟨rfl, rfl⟩
    refine tri_v (opv_assign rfl) rfl ?_
    refine tri_v (opv_assign rfl) rfl ?_
    refine tri_nil ?_
    refine tri_then ?_
    refine tri_ret ?_
    refine tri_then_ret ?_
    refine tri_inBlock_ret ?_
    refine tri_then_ret ?_
    refine tri_then_ret ?_
    refine tri_inBlock_ret ?_
    refine tri_then_ret ?_
    refine tri_end A Suf.h rfl (.cons (rv_cellA rfl rfl rfl) (.cons (rv_tmp rfl) (.cons (rv_tmp rfl) .nil))) ?_
    rw [hb']
    exact ⟨d1, e1, rfl, hq1.mono hJ3, rfl, fun _ h => hJ3 (hJ2 (hJ1 (hJ0 (h))))⟩
  skip
  refine tri_skip ?_
  refine tri_then ?_
  refine tri_seq ?_
  refine tri_region ?_
  refine tri_v (opv_loadA rfl rfl rfl) rfl ?_
  refine tri_g (opg_store rfl rfl rfl rfl rfl rfl) rfl ?_
  rintro _ _ _ ⟨rfl, rfl⟩
  refine tri_nil ?_
  refine tri_then ?_
  refine tri_region ?_
  refine tri_v (opv_move rfl) rfl ?_
  refine tri_v (opv_move rfl) rfl ?_
  refine tri_v (opv_indexAddrA rfl rfl (by decide) (by decide)) rfl ?_
  refine tri_g (opg_store rfl rfl rfl rfl rfl rfl) rfl ?_
  rintro _ _ _ ⟨rfl, rfl⟩
  refine tri_nil ?_
  refine tri_inBlock ?_
  refine tri_then ?_
  refine tri_drop ?_
  refine tri_region ?_
  refine tri_v (opv_move rfl) rfl ?_
  refine tri_v (opv_add rfl rfl (w64 (by omega) (by omega))) rfl ?_
  refine tri_v (opv_assign rfl) rfl ?_
  refine tri_nil ?_
  refine tri_then ?_
  refine tri_round ?_
  refine tri_seq ?_
  refine tri_seq ?_
  refine tri_region ?_
  refine tri_v (opv_move rfl) rfl ?_
  refine tri_v (opv_lss rfl rfl) rfl ?_
  refine tri_nil ?_
  refine tri_then ?_
  refine tri_cond_is rfl (by decide) ?_
  refine tri_skip ?_
  refine tri_then ?_
  refine tri_seq ?_
  refine tri_block ?_
  refine tri_seq ?_
  refine tri_cut (fun F' A' J4 => ∃ b12 d3 e3, F' = [(1, .slice bb l.length cap2), (2, .int .i64 z), (3, pt b3 0), (6, pt b6 0), (9, pt b9 0), (10, pt b10 0), (11, .int .i64 3), (12, pt b12 0), (13, .int .i64 r3.2.1), (14, .int .i64 r3.2.2)] ∧ A' = Box b12 [.slice d3 r3.1.length e3, .int .i64 room] 26 :: Box b10 [.int .i64 r0.2.1, .int .i64 r1.2.1, .int .i64 r2.2.1, .int .i64 0] 43 :: Box b9 [.slice a0 (R7.part (R7.side z) 0 l).length c0, .slice a1 (R7.part (R7.side z) 1 l).length c1, .slice a2 (R7.part (R7.side z) 2 l).length c2, .slice a3 (R7.part (R7.side z) 3 l).length c3] 102 :: Box b6 [.slice none 0 0, .int .i64 0] 26 :: Box b3 [.slice d2 r2.1.length e2, .int .i64 room] 26 :: A ∧ StA J4 d3 e3 r3.1 ∧ J3 ⊆ J4) ?_ ?_
  · refine tri_draw [0, 1, 2, 3, 4, 5, 6, 7, 8, 9, 10, 11, 12, 13, 14] rfl [] rfl mixed ?_
    refine th_take rfl rfl (by kernel_rfl)  (opv_loadA rfl rfl rfl) ?_
    refine th_take rfl rfl (by kernel_rfl)  (opv_move rfl) ?_
    refine th_take rfl rfl (by kernel_rfl)  (opv_indexAddrA rfl rfl (by decide) (by decide)) ?_
    refine th_take rfl rfl (by kernel_rfl)  (opv_load1 rfl rfl rfl) ?_
    refine th_take rfl rfl (by kernel_rfl)  (opv_move rfl) ?_
    refine th_take rfl rfl (by kernel_rfl)  (opv_sub rfl rfl (w64 (by omega) (by omega))) ?_
    refine th_two (j := 11) [6, 7, 8, 9, 10, 12, 13, 14] (by kernel_rfl) rfl ?_ ?_
    · refine (step_m rfl rfl (opg_call (xs := [_, _, _]) rfl (ih m (by omega) _ _ _ _ _ _ _ _ room _ r3 (by omega) (by omega) (hq2) g2 (hp3.mono (fun _ h => hJ3 (hJ2 (hJ1 (h))))) (by have := pl 3; omega) (R7.part_bd hnn hb) hr3)) ?_)
      rintro _ _ J4 ⟨d3, e3, rfl, hq3, rfl, hJ4⟩
      refine ⟨Suf.h, hJ4, ?_⟩
      refine th_take rfl rfl (by kernel_rfl)  (opv_move rfl) ?_
      refine th_take rfl rfl (by kernel_rfl)  (opv_extract rfl rfl) ?_
      refine th_take rfl rfl (by kernel_rfl)  (opv_extract rfl rfl) ?_
      refine th_take rfl rfl (by kernel_rfl)  (opv_extract rfl rfl) ?_
      refine th_one (by kernel_rfl) (step_m rfl rfl opg_alloc ?_)
      rintro _ _ _ ⟨b12, rfl, rfl, rfl⟩
      refine ⟨Suf.h, (by assumption), ?_⟩
      refine th_one (by kernel_rfl) (step_m rfl rfl (opg_store rfl rfl rfl rfl rfl rfl) ?_)
      rintro _ _ _ ⟨rfl, rfl⟩
      refine ⟨Suf.h, (by assumption), ?_⟩
      refine th_take rfl rfl (by kernel_rfl)  (opv_assign rfl) ?_
      refine th_take rfl rfl (by kernel_rfl)  (opv_assign rfl) ?_
      refine th_done (by kernel_rfl) ?_
      refine tri_cutEnd _ ⟨b12, d3, e3, rfl, rfl, hq3, hJ4⟩ ⟨rfl, rfl, rfl, rfl, rfl, rfl, rfl, rfl, rfl, rfl, trivial⟩
    · refine (step_m rfl rfl opg_alloc ?_)
      rintro _ _ _ ⟨b12, rfl, rfl, rfl⟩
      refine ⟨Suf.h, (fun _ h => h), ?_⟩
      refine th_one (by kernel_rfl) (step_m rfl rfl (opg_call (xs := [_, _, _]) rfl (ih m (by omega) _ _ _ _ _ _ _ _ room _ r3 (by omega) (by omega) (hq2) g2 (hp3.mono (fun _ h => hJ3 (hJ2 (hJ1 (h))))) (by have := pl 3; omega) (R7.part_bd hnn hb) hr3)) ?_)
      rintro _ _ J4 ⟨d3, e3, rfl, hq3, rfl, hJ4⟩
      refine ⟨Suf.h, hJ4, ?_⟩
      refine th_take rfl rfl (by kernel_rfl)  (opv_move rfl) ?_
      refine th_take rfl rfl (by kernel_rfl)  (opv_extract rfl rfl) ?_
      refine th_take rfl rfl (by kernel_rfl)  (opv_extract rfl rfl) ?_
      refine th_take rfl rfl (by kernel_rfl)  (opv_extract rfl rfl) ?_
      refine th_one (by kernel_rfl) (step_m rfl rfl (opg_store rfl rfl rfl rfl rfl rfl) ?_)
      rintro _ _ _ ⟨rfl, rfl⟩
      refine ⟨Suf.h, (by assumption), ?_⟩
      refine th_take rfl rfl (by kernel_rfl)  (opv_assign rfl) ?_
      refine th_take rfl rfl (by kernel_rfl)  (opv_assign rfl) ?_
      refine th_done (by kernel_rfl) ?_
      refine tri_cutEnd _ ⟨b12, d3, e3, rfl, rfl, hq3, hJ4⟩ ⟨rfl, rfl, rfl, rfl, rfl, rfl, rfl, rfl, rfl, rfl, trivial⟩
  rintro _ _ J4 ⟨b12, d3, e3, rfl, rfl, hq3, hJ4⟩
  skip
  refine tri_then ?_
  refine tri_seq ?_
  refine tri_seq ?_
  refine tri_region ?_
  refine tri_v (opv_move rfl) rfl ?_
  refine tri_v (opv_neq rfl rfl) rfl ?_
  refine tri_nil ?_
  refine tri_then ?_
  refine tri_cond_dec rfl (fun x3 => ?_) (fun x3 => ?_)
  · rw [if_neg x0, if_neg x1, if_neg x2, if_pos x3] at hb'
    refine tri_seq ?_
    refine tri_region ?_
    refine tri_v (opv_loadA rfl rfl rfl) rfl ?_
    refine tri_v (opv_move rfl) rfl ?_
    refine tri_g (opg_store rfl rfl rfl rfl rfl rfl) rfl ?_
    rintro _ _ _ ⟨rfl, rfl⟩
    refine tri_v (opv_assign rfl) rfl ?_
    refine tri_v (opv_assign rfl) rfl ?_
    refine tri_nil ?_
    refine tri_then ?_
    refine tri_ret ?_
    refine tri_then_ret ?_
    refine tri_inBlock_ret ?_
    refine tri_then_ret ?_
    refine tri_then_ret ?_
    refine tri_inBlock_ret ?_
    refine tri_then_ret ?_
    refine tri_end A Suf.h rfl (.cons (rv_cellA rfl rfl rfl) (.cons (rv_tmp rfl) (.cons (rv_tmp rfl) .nil))) ?_
    rw [hb']
    exact ⟨d2, e2, rfl, hq2.mono hJ4, rfl, fun _ h => hJ4 (hJ3 (hJ2 (hJ1 (hJ0 (h)))))⟩
  skip
  refine tri_skip ?_
  refine tri_then ?_
  refine tri_seq ?_
  refine tri_region ?_
  refine tri_v (opv_loadA rfl rfl rfl) rfl ?_
  refine tri_g (opg_store rfl rfl rfl rfl rfl rfl) rfl ?_
  rintro _ _ _ ⟨rfl, rfl⟩
  refine tri_nil ?_
  refine tri_then ?_
  refine tri_region ?_
  refine tri_v (opv_move rfl) rfl ?_
  refine tri_v (opv_move rfl) rfl ?_
  refine tri_v (opv_indexAddrA rfl rfl (by decide) (by decide)) rfl ?_
  refine tri_g (opg_store rfl rfl rfl rfl rfl rfl) rfl ?_
  rintro _ _ _ ⟨rfl, rfl⟩
  refine tri_nil ?_
  refine tri_inBlock ?_
  refine tri_then ?_
  refine tri_drop ?_
  rw [if_neg x0, if_neg x1, if_neg x2, if_neg x3] at hb'
  refine tri_region ?_
  refine tri_v (opv_move rfl) rfl ?_
  refine tri_v (opv_add rfl rfl (w64 (by omega) (by omega))) rfl ?_
  refine tri_v (opv_assign rfl) rfl ?_
  refine tri_nil ?_
  refine tri_then ?_
  refine tri_round ?_
  refine tri_seq ?_
  refine tri_seq ?_
  refine tri_region ?_
  refine tri_v (opv_move rfl) rfl ?_
  refine tri_v (opv_lss rfl rfl) rfl ?_
  refine tri_nil ?_
  refine tri_then ?_
  refine tri_cond_not rfl (by decide) ?_
  refine tri_exit ?_
  refine tri_then_exit ?_
  refine tri_then_exit ?_
  refine tri_inBlock_hit rfl ?_
  refine tri_then ?_
  refine tri_seq ?_
  refine tri_region ?_
  refine tri_v (opv_loadA rfl rfl rfl) rfl ?_
  refine tri_v (opv_loadA rfl rfl rfl) rfl ?_
  refine tri_g (opg_call (xs := [_, _]) rfl (ref06_put hq3 g3.len g3.mod)) rfl ?_
  rintro _ _ J5 ⟨d4, e4, rfl, hq4, rfl, hJ5⟩
  refine tri_v (opv_extract rfl rfl) rfl ?_
  refine tri_v (opv_extract rfl rfl) rfl ?_
  refine tri_v (opv_extract rfl rfl) rfl ?_
  refine tri_g (opg_store rfl rfl rfl rfl rfl rfl) rfl ?_
  rintro _ _ _ ⟨rfl, rfl⟩
  refine tri_v (opv_assign rfl) rfl ?_
  refine tri_v (opv_assign rfl) rfl ?_
  refine tri_nil ?_
  refine tri_then ?_
  refine tri_ret ?_
  refine tri_end A Suf.h rfl (.cons (rv_cellA rfl rfl rfl) (.cons (rv_tmp rfl) (.cons (rv_tmp rfl) .nil))) ?_
  rw [hb']
  exact ⟨d4, e4, rfl, hq4, rfl, fun _ h => hJ5 (hJ4 (hJ3 (hJ2 (hJ1 (hJ0 h)))))⟩
theorem ref07_build (lv : Nat) : BuildSpec lv := by
  induction lv using Nat.strongRecOn with
  | ind lv ih => exact ref07_build_step lv ih
end Go.GL

set_option linter.unusedVariables false
namespace Go.GL
open Go.Proofs
attribute [local irreducible] wpList Code.wp Exit.then Exit.inBlock Ends Tri TriH OpV OpG FnC epf wpAnyH
variable {A : List Asrt} {I : List Chunk}
theorem R7.corner_bd {l : List Cell} {s : Int} (hb : ∀ c ∈ l, R2.bd c) (hs : s ≤ 2199023255552) : ∀ c ∈ R7.corner s l, c.x ≤ 4398046511104 ∧ c.y ≤ 4398046511104 := by
  intro c hc
  obtain ⟨d, hd, rfl⟩ := List.mem_map.1 hc
  have := hb d hd
  unfold R2.bd at this
  simp only
  omega
theorem R7.corner_len (l : List Cell) (s : Int) : (R7.corner s l).length = l.length := by simp [R7.corner]
set_option maxHeartbeats 1000000 in
set_option maxRecDepth 100000 in
theorem ref07_make {ns : List Node} {a bb : Option Addr} {cap cap2 : Nat} {room lv : Int} {l : List Cell} (hs : StA I a cap ns) (hn : ns.length ≤ 1000000000) (hr : R6.Rng ns) (hsl : SlAt I bb l) (hnl : l.length ≤ 1000000000) :
    FnC Try.prog 26 [storeV a ns.length cap room, .slice bb l.length cap2, .int .i64 lv].toArray A I (StoreR (R7.make ns room l lv) room A I) := by
  have bad : ¬ (R6.right ns room ∧ 1 ≤ lv ∧ lv ≤ 42 ∧ R1.right l) → R7.make ns room l lv = (ns, 0, 1) := fun h => if_neg h
  skip
  refine fn_enter3 Try.func26 rfl Try.ntmps26 rfl fun w0 => ?_
  refine tri_seq ?_
  refine tri_region ?_
  refine tri_g (opg_box_agg rfl) rfl ?_
  rintro _ _ _ ⟨b3, rfl, rfl, rfl⟩
  refine tri_g opg_alloc rfl ?_
  rintro _ _ _ ⟨b6, rfl, rfl, rfl⟩
  refine tri_v (opv_assign rfl) rfl ?_
  refine tri_v (opv_assign rfl) rfl ?_
  refine tri_nil ?_
  refine tri_then ?_
  refine tri_seq ?_
  refine tri_seq ?_
  refine tri_region ?_
  refine tri_v (opv_loadA rfl rfl rfl) rfl ?_
  refine tri_g (opg_call (xs := [_]) rfl (ref06_right hs.sl hn hr)) rfl ?_
  rintro _ _ _ ⟨rfl, rfl, rfl⟩
  refine tri_v (opv_notD rfl) rfl ?_
  refine tri_v (opv_move rfl) rfl ?_
  refine tri_split rfl rfl (fun h1 => ?_) (fun h1 => ?_)
  · refine tri_guard_skip rfl rfl rfl rfl ?_
    refine tri_guard_skip rfl rfl rfl rfl ?_
    refine tri_v (opv_pick_t rfl rfl) rfl ?_
    refine tri_v (opv_move rfl) rfl ?_
    refine tri_guard_skip rfl rfl rfl rfl ?_
    refine tri_guard_skip rfl rfl rfl rfl ?_
    refine tri_v (opv_pick_t rfl rfl) rfl ?_
    refine tri_v (opv_move rfl) rfl ?_
    refine tri_guard_skip rfl rfl rfl rfl ?_
    refine tri_guard_skip rfl rfl rfl rfl ?_
    refine tri_guard_skip rfl rfl rfl rfl ?_
    refine tri_v (opv_pick_t rfl rfl) rfl ?_
    refine tri_nil ?_
    refine tri_then ?_
    refine tri_cond_true rfl ?_
    refine tri_seq ?_
    refine tri_region ?_
    refine tri_v (opv_loadA rfl rfl rfl) rfl ?_
    refine tri_g (opg_store rfl rfl rfl rfl rfl rfl) rfl ?_
    rintro _ _ _ ⟨rfl, rfl⟩
    refine tri_v (opv_assign rfl) rfl ?_
    refine tri_v (opv_assign rfl) rfl ?_
    refine tri_nil ?_
    refine tri_then ?_
    refine tri_ret ?_
    refine tri_then_ret ?_
    refine tri_end A Suf.h rfl (.cons (rv_cellA rfl rfl rfl) (.cons (rv_tmp rfl) (.cons (rv_tmp rfl) .nil))) ?_
    rw [bad fun h => h1 h.1]
    exact ⟨a, cap, rfl, hs, rfl, fun _ h => h⟩
  refine tri_guard_run rfl rfl rfl ?_
  refine tri_v (opv_move rfl) rfl ?_
  refine tri_guard_run rfl rfl rfl ?_
  refine tri_v (opv_lss rfl rfl) rfl ?_
  refine tri_v (opv_pick_f rfl rfl) rfl ?_
  refine tri_v (opv_move rfl) rfl ?_
  refine tri_split rfl rfl (fun h2 => ?_) (fun h2 => ?_)
  · refine tri_guard_skip rfl rfl rfl rfl ?_
    refine tri_guard_skip rfl rfl rfl rfl ?_
    refine tri_v (opv_pick_t rfl rfl) rfl ?_
    refine tri_v (opv_move rfl) rfl ?_
    refine tri_guard_skip rfl rfl rfl rfl ?_
    refine tri_guard_skip rfl rfl rfl rfl ?_
    refine tri_guard_skip rfl rfl rfl rfl ?_
    refine tri_v (opv_pick_t rfl rfl) rfl ?_
    refine tri_nil ?_
    refine tri_then ?_
    refine tri_cond_true rfl ?_
    refine tri_seq ?_
    refine tri_region ?_
    refine tri_v (opv_loadA rfl rfl rfl) rfl ?_
    refine tri_g (opg_store rfl rfl rfl rfl rfl rfl) rfl ?_
    rintro _ _ _ ⟨rfl, rfl⟩
    refine tri_v (opv_assign rfl) rfl ?_
    refine tri_v (opv_assign rfl) rfl ?_
    refine tri_nil ?_
    refine tri_then ?_
    refine tri_ret ?_
    refine tri_then_ret ?_
    refine tri_end A Suf.h rfl (.cons (rv_cellA rfl rfl rfl) (.cons (rv_tmp rfl) (.cons (rv_tmp rfl) .nil))) ?_
    rw [bad fun h => by omega]
    exact ⟨a, cap, rfl, hs, rfl, fun _ h => h⟩
  refine tri_guard_run rfl rfl rfl ?_
  refine tri_v (opv_move rfl) rfl ?_
  refine tri_guard_run rfl rfl rfl ?_
  refine tri_v (opv_gtr rfl rfl) rfl ?_
  refine tri_v (opv_pick_f rfl rfl) rfl ?_
  refine tri_v (opv_move rfl) rfl ?_
  refine tri_split rfl rfl (fun h3 => ?_) (fun h3 => ?_)
  · refine tri_guard_skip rfl rfl rfl rfl ?_
    refine tri_guard_skip rfl rfl rfl rfl ?_
    refine tri_guard_skip rfl rfl rfl rfl ?_
    refine tri_v (opv_pick_t rfl rfl) rfl ?_
    refine tri_nil ?_
    refine tri_then ?_
    refine tri_cond_true rfl ?_
    refine tri_seq ?_
    refine tri_region ?_
    refine tri_v (opv_loadA rfl rfl rfl) rfl ?_
    refine tri_g (opg_store rfl rfl rfl rfl rfl rfl) rfl ?_
    rintro _ _ _ ⟨rfl, rfl⟩
    refine tri_v (opv_assign rfl) rfl ?_
    refine tri_v (opv_assign rfl) rfl ?_
    refine tri_nil ?_
    refine tri_then ?_
    refine tri_ret ?_
    refine tri_then_ret ?_
    refine tri_end A Suf.h rfl (.cons (rv_cellA rfl rfl rfl) (.cons (rv_tmp rfl) (.cons (rv_tmp rfl) .nil))) ?_
    rw [bad fun h => by omega]
    exact ⟨a, cap, rfl, hs, rfl, fun _ h => h⟩
  refine tri_guard_run rfl rfl rfl ?_
  refine tri_v (opv_move rfl) rfl ?_
  refine tri_guard_run rfl rfl rfl ?_
  refine tri_g (opg_call (xs := [_]) rfl (ref01_right hsl hnl)) rfl ?_
  rintro _ _ _ ⟨rfl, rfl, rfl⟩
  refine tri_guard_run rfl rfl rfl ?_
  refine tri_v (opv_notD rfl) rfl ?_
  refine tri_v (opv_pick_f rfl rfl) rfl ?_
  refine tri_nil ?_
  refine tri_then ?_
  refine tri_cond_dec rfl (fun h4 => ?_) (fun h4 => ?_)
  · refine tri_seq ?_
    refine tri_region ?_
    refine tri_v (opv_loadA rfl rfl rfl) rfl ?_
    refine tri_g (opg_store rfl rfl rfl rfl rfl rfl) rfl ?_
    rintro _ _ _ ⟨rfl, rfl⟩
    refine tri_v (opv_assign rfl) rfl ?_
    refine tri_v (opv_assign rfl) rfl ?_
    refine tri_nil ?_
    refine tri_then ?_
    refine tri_ret ?_
    refine tri_then_ret ?_
    refine tri_end A Suf.h rfl (.cons (rv_cellA rfl rfl rfl) (.cons (rv_tmp rfl) (.cons (rv_tmp rfl) .nil))) ?_
    rw [bad fun h => h4 h.2.2.2]
    exact ⟨a, cap, rfl, hs, rfl, fun _ h => h⟩
  refine tri_skip ?_
  refine tri_then ?_
  refine tri_seq ?_
  refine tri_seq ?_
  refine tri_region ?_
  refine tri_v (opv_assign rfl) rfl ?_
  refine tri_nil ?_
  refine tri_then ?_
  refine tri_block ?_
  have g1 : R6.right ns room := Decidable.not_not.1 h1
  have g4 : R1.right l := Decidable.not_not.1 h4
  have good : R7.make ns room l lv = if ∀ i, i < l.length → R7.inL lv (R1.g l i) then (if (R7.build room lv.toNat ns (R7.corner (R7.side lv) l)).2.2 ≠ 0 then (ns, 0, (R7.build room lv.toNat ns (R7.corner (R7.side lv) l)).2.2) else R7.build room lv.toNat ns (R7.corner (R7.side lv) l)) else (ns, 0, 2) :=
    if_pos ⟨g1, by omega, by omega, g4⟩
  refine tri_sub (F' := [(1, .slice bb l.length cap2), (2, .int .i64 lv), (3, pt b3 0), (6, pt b6 0), (9, .int .i64 (0 : Nat))]) ⟨rfl, rfl, rfl, rfl, rfl, trivial⟩ ?_
  refine loop_ind (G := Nat) (fun i => l.length - i) (fun i => i ≤ l.length ∧ ∀ j, j < i → R7.inL lv (R1.g l j)) (fun i => [(1, .slice bb l.length cap2), (2, .int .i64 lv), (3, pt b3 0), (6, pt b6 0), (9, .int .i64 (i : Nat))]) (fun _ => _) (fun _ => _) ?_ 0 ⟨by omega, fun j h => absurd h (by omega)⟩
  rintro i ⟨hi, hok⟩ K hK
  skip
  refine tri_seq ?_
  refine tri_seq ?_
  refine tri_region ?_
  refine tri_v (opv_move rfl) rfl ?_
  refine tri_v (opv_move rfl) rfl ?_
  refine tri_v (opv_len rfl) rfl ?_
  refine tri_v (opv_lss rfl rfl) rfl ?_
  refine tri_nil ?_
  refine tri_then ?_
  refine tri_cond_dec rfl (fun h => ?_) (fun h => ?_)
  · refine tri_skip ?_
    refine tri_then ?_
    refine tri_seq ?_
    refine tri_block ?_
    refine tri_seq ?_
    refine tri_region ?_
    refine tri_v (opv_move rfl) rfl ?_
    refine tri_v (opv_move rfl) rfl ?_
    refine tri_v (opv_move rfl) rfl ?_
    refine tri_v (opv_indexAddrSN rfl rfl (by omega) (by assumption) rfl) rfl ?_
    refine tri_v (opv_loadEA rfl (by assumption) rfl (by omega) rfl rfl) rfl ?_
    refine tri_g (opg_call (xs := [_, _]) rfl (ref07_in (lv := lv) (c := R1.g l i) (by omega) (by omega))) rfl ?_
    rintro _ _ _ ⟨rfl, rfl, rfl⟩
    refine tri_v (opv_notD rfl) rfl ?_
    refine tri_nil ?_
    refine tri_then ?_
    refine tri_cond_dec rfl (fun h5 => ?_) (fun h5 => ?_)
    · refine tri_seq ?_
      refine tri_region ?_
      refine tri_v (opv_loadA rfl rfl rfl) rfl ?_
      refine tri_g (opg_store rfl rfl rfl rfl rfl rfl) rfl ?_
      rintro _ _ _ ⟨rfl, rfl⟩
      refine tri_v (opv_assign rfl) rfl ?_
      refine tri_v (opv_assign rfl) rfl ?_
      refine tri_nil ?_
      refine tri_then ?_
      refine tri_ret ?_
      refine tri_inBlock_ret ?_
      refine tri_then_ret ?_
      refine tri_then_ret ?_
      refine tri_inBlock_ret ?_
      refine tri_then_ret ?_
      refine tri_end A Suf.h rfl (.cons (rv_cellA rfl rfl rfl) (.cons (rv_tmp rfl) (.cons (rv_tmp rfl) .nil))) ?_
      rw [good, if_neg fun h => h5 (h i (by omega))]
      exact ⟨a, cap, rfl, hs, rfl, fun _ h => h⟩
    · refine tri_skip ?_
      refine tri_inBlock ?_
      refine tri_then ?_
      refine tri_region ?_
      refine tri_v (opv_move rfl) rfl ?_
      refine tri_v (opv_add rfl rfl (w64 (by omega) (by omega))) rfl ?_
      refine tri_v (opv_assign rfl) rfl ?_
      refine tri_nil ?_
      refine tri_then ?_
      refine tri_sub ?_ (hK (i + 1) ⟨by omega, fun j hj => ?_⟩ (by omega))
      · exact ⟨rfl, rfl, rfl, rfl, rfl, trivial⟩
      · by_cases e : j = i
        · subst e; exact Decidable.not_not.1 h5
        · exact hok j (by omega)
  · rw [if_pos fun j hj => hok j (by omega)] at good
    have hbd : ∀ d ∈ l, R2.bd d := fun d hd => by
      have := R1.right_bd g4 d hd
      unfold R1.inB at this
      unfold R2.bd
      omega
    have hcb := R7.corner_bd (s := R7.side lv) hbd (R7.side_bd (lv := lv) (by omega)).2
    have hcl : (R7.corner (R7.side lv) l).length ≤ 1000000000 := by rw [R7.corner_len]; exact hnl
    obtain ⟨r, hbr⟩ : ∃ r, R7.build room lv.toNat ns (R7.corner (R7.side lv) l) = r := ⟨_, rfl⟩
    rw [hbr] at good
    refine tri_exit ?_
    refine tri_then_exit ?_
    refine tri_then_exit ?_
    refine tri_inBlock_hit rfl ?_
    refine tri_then ?_
    refine tri_seq ?_
    refine tri_cut (fun F' A' J => ∃ b10 d e, F' = [(3, pt b3 0), (6, pt b6 0), (10, pt b10 0), (11, .int .i64 r.2.1), (12, .int .i64 r.2.2)] ∧ A' = Box b10 [.slice d r.1.length e, .int .i64 room] 26 :: Box b6 [.slice none 0 0, .int .i64 0] 26 :: Box b3 [.slice a ns.length cap, .int .i64 room] 26 :: A ∧ StA J d e r.1 ∧ I ⊆ J) ?_ ?_
    · refine tri_draw [0, 1, 2, 4, 3, 5, 6, 7, 8, 9, 10, 11, 12, 13] rfl [] rfl mixed ?_
      refine th_take rfl rfl (by kernel_rfl)  (opv_loadA rfl rfl rfl) ?_
      refine th_take rfl rfl (by kernel_rfl)  (opv_move rfl) ?_
      refine th_take rfl rfl (by kernel_rfl)  (opv_move rfl) ?_
      refine th_take rfl rfl (by kernel_rfl)  (opv_move rfl) ?_
      refine th_two (j := 10) [3, 5, 6, 7, 8, 9, 11, 12, 13] (by kernel_rfl) rfl ?_ ?_
      · refine (step_m rfl rfl (opg_call (xs := [_, _]) rfl (ref07_corner hsl hnl (by omega) (by omega) hbd)) ?_)
        rintro _ _ J0 ⟨a0, c0, rfl, hc0, rfl, hJ0⟩
        refine ⟨Suf.h, hJ0, ?_⟩
        skip
        refine th_two (j := 10) [5, 6, 7, 8, 9, 11, 12, 13] (by kernel_rfl) rfl ?_ ?_
        · refine (step_m rfl rfl (opg_call (xs := [_, _, _]) rfl (ref07_build lv.toNat lv _ _ _ _ _ _ _ room _ r (by omega) (by omega) (hs.mono hJ0) (g1.good (by have := g1.1.2.1; omega)) hc0 hcl hcb hbr)) ?_)
          rintro _ _ J1 ⟨d0, e0, rfl, hq0, rfl, hJ1⟩
          refine ⟨Suf.h, (fun _ h => hJ1 (hJ0 h)), ?_⟩
          have hJ2 : I ⊆ J1 := fun _ h => hJ1 (hJ0 h)
          refine th_take rfl rfl (by kernel_rfl)  (opv_move rfl) ?_
          refine th_take rfl rfl (by kernel_rfl)  (opv_extract rfl rfl) ?_
          refine th_take rfl rfl (by kernel_rfl)  (opv_extract rfl rfl) ?_
          refine th_take rfl rfl (by kernel_rfl)  (opv_extract rfl rfl) ?_
          refine th_one (by kernel_rfl) (step_m rfl rfl opg_alloc ?_)
          rintro _ _ _ ⟨b10, rfl, rfl, rfl⟩
          refine ⟨Suf.h, (by assumption), ?_⟩
          refine th_one (by kernel_rfl) (step_m rfl rfl (opg_store rfl rfl rfl rfl rfl rfl) ?_)
          rintro _ _ _ ⟨rfl, rfl⟩
          refine ⟨Suf.h, (by assumption), ?_⟩
          refine th_take rfl rfl (by kernel_rfl)  (opv_assign rfl) ?_
          refine th_take rfl rfl (by kernel_rfl)  (opv_assign rfl) ?_
          refine th_done (by kernel_rfl) ?_
          exact tri_cutEnd _ ⟨b10, d0, e0, rfl, rfl, hq0, hJ2⟩ ⟨rfl, rfl, rfl, rfl, rfl, trivial⟩
        · refine (step_m rfl rfl opg_alloc ?_)
          rintro _ _ _ ⟨b10, rfl, rfl, rfl⟩
          refine ⟨Suf.h, (by assumption), ?_⟩
          refine th_one (by kernel_rfl) (step_m rfl rfl (opg_call (xs := [_, _, _]) rfl (ref07_build lv.toNat lv _ _ _ _ _ _ _ room _ r (by omega) (by omega) (hs.mono hJ0) (g1.good (by have := g1.1.2.1; omega)) hc0 hcl hcb hbr)) ?_)
          rintro _ _ J1 ⟨d0, e0, rfl, hq0, rfl, hJ1⟩
          refine ⟨Suf.h, (fun _ h => hJ1 (hJ0 h)), ?_⟩
          have hJ2 : I ⊆ J1 := fun _ h => hJ1 (hJ0 h)
          refine th_take rfl rfl (by kernel_rfl)  (opv_move rfl) ?_
          refine th_take rfl rfl (by kernel_rfl)  (opv_extract rfl rfl) ?_
          refine th_take rfl rfl (by kernel_rfl)  (opv_extract rfl rfl) ?_
          refine th_take rfl rfl (by kernel_rfl)  (opv_extract rfl rfl) ?_
          refine th_one (by kernel_rfl) (step_m rfl rfl (opg_store rfl rfl rfl rfl rfl rfl) ?_)
          rintro _ _ _ ⟨rfl, rfl⟩
          refine ⟨Suf.h, (by assumption), ?_⟩
          refine th_take rfl rfl (by kernel_rfl)  (opv_assign rfl) ?_
          refine th_take rfl rfl (by kernel_rfl)  (opv_assign rfl) ?_
          refine th_done (by kernel_rfl) ?_
          exact tri_cutEnd _ ⟨b10, d0, e0, rfl, rfl, hq0, hJ2⟩ ⟨rfl, rfl, rfl, rfl, rfl, trivial⟩
      · refine (step_m rfl rfl opg_alloc ?_)
        rintro _ _ _ ⟨b10, rfl, rfl, rfl⟩
        refine ⟨Suf.h, (fun _ h => h), ?_⟩
        refine th_one (by kernel_rfl) (step_m rfl rfl (opg_call (xs := [_, _]) rfl (ref07_corner hsl hnl (by omega) (by omega) hbd)) ?_)
        rintro _ _ J0 ⟨a0, c0, rfl, hc0, rfl, hJ0⟩
        refine ⟨Suf.h, hJ0, ?_⟩
        skip
        refine th_one (by kernel_rfl) (step_m rfl rfl (opg_call (xs := [_, _, _]) rfl (ref07_build lv.toNat lv _ _ _ _ _ _ _ room _ r (by omega) (by omega) (hs.mono hJ0) (g1.good (by have := g1.1.2.1; omega)) hc0 hcl hcb hbr)) ?_)
        rintro _ _ J1 ⟨d0, e0, rfl, hq0, rfl, hJ1⟩
        refine ⟨Suf.h, (fun _ h => hJ1 (hJ0 h)), ?_⟩
        have hJ2 : I ⊆ J1 := fun _ h => hJ1 (hJ0 h)
        refine th_take rfl rfl (by kernel_rfl)  (opv_move rfl) ?_
        refine th_take rfl rfl (by kernel_rfl)  (opv_extract rfl rfl) ?_
        refine th_take rfl rfl (by kernel_rfl)  (opv_extract rfl rfl) ?_
        refine th_take rfl rfl (by kernel_rfl)  (opv_extract rfl rfl) ?_
        refine th_one (by kernel_rfl) (step_m rfl rfl (opg_store rfl rfl rfl rfl rfl rfl) ?_)
        rintro _ _ _ ⟨rfl, rfl⟩
        refine ⟨Suf.h, (by assumption), ?_⟩
        refine th_take rfl rfl (by kernel_rfl)  (opv_assign rfl) ?_
        refine th_take rfl rfl (by kernel_rfl)  (opv_assign rfl) ?_
        refine th_done (by kernel_rfl) ?_
        exact tri_cutEnd _ ⟨b10, d0, e0, rfl, rfl, hq0, hJ2⟩ ⟨rfl, rfl, rfl, rfl, rfl, trivial⟩
    rintro _ _ J ⟨b10, d, e, rfl, rfl, hq, hJ⟩
    skip
    refine tri_then ?_
    refine tri_seq ?_
    refine tri_seq ?_
    refine tri_region ?_
    refine tri_v (opv_move rfl) rfl ?_
    refine tri_v (opv_neq rfl rfl) rfl ?_
    refine tri_nil ?_
    refine tri_then ?_
    refine tri_cond_dec rfl (fun h6 => ?_) (fun h6 => ?_)
    · refine tri_seq ?_
      refine tri_region ?_
      refine tri_v (opv_loadA rfl rfl rfl) rfl ?_
      refine tri_v (opv_move rfl) rfl ?_
      refine tri_g (opg_store rfl rfl rfl rfl rfl rfl) rfl ?_
      rintro _ _ _ ⟨rfl, rfl⟩
      refine tri_v (opv_assign rfl) rfl ?_
      refine tri_v (opv_assign rfl) rfl ?_
      refine tri_nil ?_
      refine tri_then ?_
      refine tri_ret ?_
      refine tri_then_ret ?_
      refine tri_end A Suf.h rfl (.cons (rv_cellA rfl rfl rfl) (.cons (rv_tmp rfl) (.cons (rv_tmp rfl) .nil))) ?_
      rw [good, if_pos h6]
      exact ⟨a, cap, rfl, hs.mono hJ, rfl, hJ⟩
    · refine tri_skip ?_
      refine tri_then ?_
      refine tri_seq ?_
      refine tri_region ?_
      refine tri_v (opv_loadA rfl rfl rfl) rfl ?_
      refine tri_v (opv_move rfl) rfl ?_
      refine tri_g (opg_store rfl rfl rfl rfl rfl rfl) rfl ?_
      rintro _ _ _ ⟨rfl, rfl⟩
      refine tri_v (opv_assign rfl) rfl ?_
      refine tri_v (opv_assign rfl) rfl ?_
      refine tri_nil ?_
      refine tri_then ?_
      refine tri_ret ?_
      refine tri_end A Suf.h rfl (.cons (rv_cellA rfl rfl rfl) (.cons (rv_tmp rfl) (.cons (rv_tmp rfl) .nil))) ?_
      rw [good, if_neg h6]
      have h7 : r.2.2 = 0 := Decidable.not_not.1 h6
      exact ⟨d, e, by rw [h7]; rfl, hq, rfl, hJ⟩
end Go.GL

set_option linter.unusedVariables false
namespace Go.GL
open Go.Proofs
attribute [local irreducible] wpList Code.wp Exit.then Exit.inBlock Ends Tri TriH OpV OpG FnC epf wpAnyH
theorem R6.right.kid {ns : List Node} {room : Int} (h : R6.right ns room) {n : Int} (hn : R6.inS ns n) {m : Nat} (hl : (R6.nd ns n).lv = ((m + 1 : Nat) : Int)) {q : Int} (hq : q ∈ (R6.nd ns n).kids) : R6.inS ns q ∧ q < n ∧ (R6.nd ns q).lv = m := by
  have h0 := h.1.2.2.2.2.1
  have h1 := h.1.2.2.2.2.2
  obtain ⟨hn0, hn1⟩ := hn
  have h2 : 2 ≤ n.toNat := by
    rcases Nat.lt_or_ge n.toNat 2 with h3 | h3
    · exfalso
      rcases (by omega : n.toNat = 0 ∨ n.toNat = 1) with e | e
      · unfold R6.nd at hl; rw [e, h0] at hl; simp [R6.n0] at hl; omega
      · unfold R6.nd at hl; rw [e, h1] at hl; simp [R6.n1] at hl; omega
    · exact h3
  obtain ⟨k0, k1, k2, k3, _⟩ := h.2 n.toNat (by omega) h2
  have key : R6.kidOk ns n.toNat q (R6.nd ns n).lv := by
    unfold Node.kids at hq
    simp only [List.mem_cons, List.not_mem_nil, or_false] at hq
    rcases hq with rfl | rfl | rfl | rfl
    · exact k0
    · exact k1
    · exact k2
    · exact k3
  obtain ⟨g1, g2, g3⟩ := key
  exact ⟨⟨g1, by omega⟩, by omega, by omega⟩
def FlatSpec (lv : Nat) : Prop := ∀ (A : List Asrt) (I : List Chunk) (ns : List Node) (a : Option Addr) (cap : Nat) (room n cx cy : Int) (c : Cell) (r : List Cell), cx = c.x → cy = c.y → R6.right ns room → SlAt I a ns → R6.inS ns n → (R6.nd ns n).lv = lv →
  -1152921504606846976 ≤ c.x ∧ c.x + 2 ^ lv ≤ 1152921504606846976 ∧ -1152921504606846976 ≤ c.y ∧ c.y + 2 ^ lv ≤ 1152921504606846976 → R7.flat ns lv n c = r → r.length ≤ 100000000 →
  FnC Try.prog 43 [storeV a ns.length cap room, .int .i64 n, .agg [.int .i64 cx, .int .i64 cy].toArray].toArray A I (fun v A' I' => ∃ a' cap', v = .slice a' r.length cap' ∧ SlAt I' a' r ∧ A = A' ∧ I ⊆ I')
theorem R7.flat_dead {ns : List Node} {lv : Nat} {n : Int} {c : Cell} (h : (R6.nd ns n).pop = 0) : R7.flat ns lv n c = [] := by unfold R7.flat; rw [if_pos h]
theorem R7.flat_zero {ns : List Node} {n : Int} {c : Cell} (h : ¬ (R6.nd ns n).pop = 0) : R7.flat ns 0 n c = [c] := by unfold R7.flat; rw [if_neg h]
theorem R7.flat_succ {ns : List Node} {m : Nat} {n : Int} {c : Cell} (h : ¬ (R6.nd ns n).pop = 0) : R7.flat ns (m + 1) n c = R7.flat ns m (R6.nd ns n).k0 c ++ R7.flat ns m (R6.nd ns n).k1 ⟨c.x + 2 ^ m, c.y⟩ ++ R7.flat ns m (R6.nd ns n).k2 ⟨c.x, c.y + 2 ^ m⟩ ++ R7.flat ns m (R6.nd ns n).k3 ⟨c.x + 2 ^ m, c.y + 2 ^ m⟩ := by rw [R7.flat]; rw [if_neg h]
set_option maxHeartbeats 1000000 in
set_option maxRecDepth 100000 in
theorem ref07_flat_step (lv : Nat) (ih : ∀ m, m < lv → FlatSpec m) : FlatSpec lv := by
  intro A I ns a cap room n cx cy c r hcx hcy hr hs hn hlv hc hfl hlen
  subst hcx; subst hcy
  obtain ⟨hn0, hn1⟩ := hn
  have hmod := hr.modTo.mod.nd ⟨hn0, hn1⟩
  have hmod' : 0 ≤ (ns.getD n.toNat default).lv ∧ (ns.getD n.toNat default).lv ≤ 42 := ⟨hmod.1, hmod.2.1⟩
  skip
  refine fn_enter3 Try.func43 rfl Try.ntmps43 rfl fun w0 => ?_
  refine tri_seq ?_
  refine tri_region ?_
  refine tri_g (opg_box_agg rfl) rfl ?_
  rintro _ _ _ ⟨b3, rfl, rfl, rfl⟩
  refine tri_g (opg_box_agg rfl) rfl ?_
  rintro _ _ _ ⟨b5, rfl, rfl, rfl⟩
  refine tri_v (opv_assign rfl) rfl ?_
  refine tri_nil ?_
  refine tri_then ?_
  refine tri_seq ?_
  refine tri_region ?_
  refine tri_v (opv_fieldAddr rfl rfl) rfl ?_
  refine tri_v (opv_load1 rfl rfl rfl) rfl ?_
  refine tri_v (opv_move rfl) rfl ?_
  refine tri_v (opv_indexAddrS rfl rfl (by omega) (by omega) (by assumption) rfl) rfl ?_
  refine tri_v (opv_loadEA rfl (by assumption) rfl (by omega) rfl rfl) rfl ?_
  refine tri_g opg_alloc rfl ?_
  rintro _ _ _ ⟨b7, rfl, rfl, rfl⟩
  refine tri_g (opg_store rfl rfl rfl rfl rfl rfl) rfl ?_
  rintro _ _ _ ⟨rfl, rfl⟩
  refine tri_nil ?_
  refine tri_then ?_
  refine tri_seq ?_
  refine tri_seq ?_
  refine tri_region ?_
  refine tri_v (opv_fieldAddr rfl rfl) rfl ?_
  refine tri_v (opv_load1 rfl rfl rfl) rfl ?_
  refine tri_v (opv_eql rfl rfl) rfl ?_
  refine tri_nil ?_
  refine tri_then ?_
  refine tri_cond_dec rfl (fun h0 => ?_) (fun h0 => ?_)
  · rw [R7.flat_dead h0] at hfl
    subst hfl
    refine tri_seq ?_
    refine tri_region ?_
    refine tri_v (opv_assign rfl) rfl ?_
    refine tri_nil ?_
    refine tri_then ?_
    refine tri_ret ?_
    refine tri_then_ret ?_
    refine tri_end A Suf.h rfl (.cons (rv_tmp rfl) .nil) ⟨none, 0, rfl, SlAt.nil, rfl, fun _ h => h⟩
  refine tri_skip ?_
  refine tri_then ?_
  refine tri_seq ?_
  refine tri_seq ?_
  refine tri_region ?_
  refine tri_v (opv_fieldAddr rfl rfl) rfl ?_
  refine tri_v (opv_load1 rfl rfl rfl) rfl ?_
  refine tri_v (opv_eql rfl rfl) rfl ?_
  refine tri_nil ?_
  refine tri_then ?_
  refine tri_cond_dec rfl (fun h1 => ?_) (fun h1 => ?_)
  · have hl0 : lv = 0 := by
      have h2 : (R6.nd ns n).lv = 0 := h1
      omega
    subst hl0
    rw [R7.flat_zero h0] at hfl
    subst hfl
    refine tri_seq ?_
    refine tri_region ?_
    refine tri_v (opv_loadA rfl rfl rfl) rfl ?_
    refine tri_g (opg_buildSlice rfl rfl rfl rfl) rfl ?_
    rintro _ _ _ ⟨b23, rfl, rfl, rfl⟩
    refine tri_v (opv_assign rfl) rfl ?_
    refine tri_nil ?_
    refine tri_then ?_
    refine tri_ret ?_
    refine tri_then_ret ?_
    refine tri_freezeBoxS [c] rfl fun I' hI hs' => ?_
    refine tri_end A Suf.h rfl (.cons (rv_tmp rfl) .nil) ⟨_, 1, rfl, hs', rfl, hI⟩
  have hl0 : ¬ (R6.nd ns n).lv = 0 := h1
  obtain ⟨m, rfl⟩ : ∃ m, lv = m + 1 := ⟨lv - 1, by omega⟩
  rw [R7.flat_succ h0] at hfl
  have kid := fun q hq => hr.kid ⟨hn0, hn1⟩ hlv (q := q) hq
  obtain ⟨r0, hr0⟩ : ∃ r, R7.flat ns m (R6.nd ns n).k0 c = r := ⟨_, rfl⟩
  obtain ⟨r1, hr1⟩ : ∃ r, R7.flat ns m (R6.nd ns n).k1 ⟨c.x + 2 ^ m, c.y⟩ = r := ⟨_, rfl⟩
  obtain ⟨r2, hr2⟩ : ∃ r, R7.flat ns m (R6.nd ns n).k2 ⟨c.x, c.y + 2 ^ m⟩ = r := ⟨_, rfl⟩
  obtain ⟨r3, hr3⟩ : ∃ r, R7.flat ns m (R6.nd ns n).k3 ⟨c.x + 2 ^ m, c.y + 2 ^ m⟩ = r := ⟨_, rfl⟩
  rw [hr0, hr1, hr2, hr3] at hfl
  subst hfl
  simp only [List.length_append] at hlen
  have hpow : (2:Int) ^ (m + 1) = 2 ^ m * 2 := Int.pow_succ 2 m
  have hpos : (0:Int) < 2 ^ m := Int.pow_pos (by omega)
  rw [hpow] at hc
  obtain ⟨hc1, hc2, hc3, hc4⟩ := hc
  have e8 : (2:Int) ^ ((R6.nd ns n).lv - 1).toNat = 2 ^ m := by congr 1; omega
  skip
  refine tri_skip ?_
  refine tri_then ?_
  refine tri_seq ?_
  refine tri_region ?_
  refine tri_v (opv_fieldAddr rfl rfl) rfl ?_
  refine tri_v (opv_load1 rfl rfl rfl) rfl ?_
  refine tri_v (opv_sub rfl rfl (w64 (by omega) (by omega))) rfl ?_
  refine tri_v (opv_shl1 rfl rfl (by omega) (by omega)) rfl ?_
  refine tri_v (opv_assign rfl) rfl ?_
  refine tri_nil ?_
  refine tri_then ?_
  refine tri_seq ?_
  refine tri_region ?_
  refine tri_v (opv_assign rfl) rfl ?_
  refine tri_nil ?_
  refine tri_then ?_
  refine tri_seq ?_
  refine tri_seq ?_
  refine tri_region ?_
  refine tri_v (opv_assign rfl) rfl ?_
  refine tri_nil ?_
  refine tri_then ?_
  refine tri_block ?_
  refine tri_sub (F' := [(3, pt b3 0), (5, pt b5 0), (7, pt b7 0), (8, .int .i64 (2 ^ m)), (9, .slice none 0 0), (10, .int .i64 (0 : Int))]) ⟨rfl, rfl, rfl, by rw [← e8]; rfl, rfl, rfl, trivial⟩ ?_
  refine tri_nilRow (E := 55) (sz := 2) ?_
  refine tri_rounds 5 ?_
  refine tri_round ?_
  refine tri_seq ?_
  refine tri_seq ?_
  refine tri_region ?_
  refine tri_v (opv_move rfl) rfl ?_
  refine tri_v (opv_lss rfl rfl) rfl ?_
  refine tri_nil ?_
  refine tri_then ?_
  refine tri_cond_is rfl (by decide) ?_
  skip
  refine tri_skip ?_
  refine tri_then ?_
  refine tri_seq ?_
  refine tri_block ?_
  refine tri_draw [0, 1, 2, 3, 4, 5, 6, 7, 8, 9, 10, 11, 12, 13, 14, 15, 16, 17, 18, 19, 20, 21, 22, 23] rfl [_] rfl mixed ?_
  refine th_take rfl rfl (by kernel_rfl)  (opv_move rfl) ?_
  refine th_take rfl rfl (by kernel_rfl)  (opv_loadA rfl rfl rfl) ?_
  refine th_take rfl rfl (by kernel_rfl)  (opv_move rfl) ?_
  refine th_take rfl rfl (by kernel_rfl)  (opv_fieldAddr rfl rfl) ?_
  refine th_take rfl rfl (by kernel_rfl)  (opv_indexAddrA rfl rfl (by decide) (by decide)) ?_
  refine th_take rfl rfl (by kernel_rfl)  (opv_load1 rfl rfl rfl) ?_
  refine th_take rfl rfl (by kernel_rfl)  (opv_fieldAddr rfl rfl) ?_
  refine th_take rfl rfl (by kernel_rfl)  (opv_load1 rfl rfl rfl) ?_
  refine th_take rfl rfl (by kernel_rfl)  (opv_move rfl) ?_
  refine th_take rfl rfl (by kernel_rfl)  (opv_remE rfl rfl (by omega) (by omega)) ?_
  refine th_take rfl rfl (by kernel_rfl)  (opv_move rfl) ?_
  refine th_take rfl rfl (by kernel_rfl)  (opv_mul rfl rfl (w64 (by omega) (by omega))) ?_
  refine th_take rfl rfl (by kernel_rfl)  (opv_add rfl rfl (w64 (by omega) (by omega))) ?_
  refine th_take rfl rfl (by kernel_rfl)  (opv_fieldAddr rfl rfl) ?_
  refine th_take rfl rfl (by kernel_rfl)  (opv_load1 rfl rfl rfl) ?_
  refine th_take rfl rfl (by kernel_rfl)  (opv_move rfl) ?_
  refine th_take rfl rfl (by kernel_rfl)  (opv_quoE rfl rfl (by omega) (by omega) (by omega)) ?_
  refine th_take rfl rfl (by kernel_rfl)  (opv_move rfl) ?_
  refine th_take rfl rfl (by kernel_rfl)  (opv_mul rfl rfl (w64 (by omega) (by omega))) ?_
  refine th_take rfl rfl (by kernel_rfl)  (opv_add rfl rfl (w64 (by omega) (by omega))) ?_
  refine th_take rfl rfl (by kernel_rfl)  (opv_buildS rfl rfl) ?_
  refine th_one (by kernel_rfl) (step_m rfl rfl (opg_call (xs := [_, _, _]) rfl (ih m (by omega) _ _ _ _ _ room _ _ _ ⟨c.x, c.y⟩ r0 (by simp only; omega) (by simp only; omega) hr (hs) (kid _ (by simp [Node.kids, R6.nd])).1 (kid _ (by simp [Node.kids, R6.nd])).2.2 (by simp only; omega) hr0 (by omega))) ?_)
  rintro _ _ J1 ⟨a0, c0, rfl, hq0, rfl, hJ1⟩
  refine ⟨Suf.h, (by assumption), ?_⟩
  skip
  refine th_one (by kernel_rfl) (step_m rfl rfl (opg_appendS rfl rfl hq0 rfl rfl (by omega) rfl) ?_)
  rintro _ _ _ ⟨d0, e0, rfl, rfl, rfl⟩
  refine ⟨Suf.h, (by assumption), ?_⟩
  refine th_take rfl rfl (by kernel_rfl)  (opv_assign rfl) ?_
  refine th_done (by kernel_rfl) ?_
  refine tri_inBlock ?_
  refine tri_then ?_
  refine tri_region ?_
  refine tri_v (opv_move rfl) rfl ?_
  refine tri_v (opv_add rfl rfl (w64 (by omega) (by omega))) rfl ?_
  refine tri_v (opv_assign rfl) rfl ?_
  refine tri_nil ?_
  refine tri_then ?_
  refine tri_round ?_
  refine tri_seq ?_
  refine tri_seq ?_
  refine tri_region ?_
  refine tri_v (opv_move rfl) rfl ?_
  refine tri_v (opv_lss rfl rfl) rfl ?_
  refine tri_nil ?_
  refine tri_then ?_
  skip
  refine tri_cond_is rfl (by decide) ?_
  skip
  refine tri_skip ?_
  refine tri_then ?_
  refine tri_seq ?_
  refine tri_block ?_
  refine tri_draw [0, 1, 2, 3, 4, 5, 6, 7, 8, 9, 10, 11, 12, 13, 14, 15, 16, 17, 18, 19, 20, 21, 22, 23] rfl [_] rfl mixed ?_
  refine th_take rfl rfl (by kernel_rfl)  (opv_move rfl) ?_
  refine th_take rfl rfl (by kernel_rfl)  (opv_loadA rfl rfl rfl) ?_
  refine th_take rfl rfl (by kernel_rfl)  (opv_move rfl) ?_
  refine th_take rfl rfl (by kernel_rfl)  (opv_fieldAddr rfl rfl) ?_
  refine th_take rfl rfl (by kernel_rfl)  (opv_indexAddrA rfl rfl (by decide) (by decide)) ?_
  refine th_take rfl rfl (by kernel_rfl)  (opv_load1 rfl rfl rfl) ?_
  refine th_take rfl rfl (by kernel_rfl)  (opv_fieldAddr rfl rfl) ?_
  refine th_take rfl rfl (by kernel_rfl)  (opv_load1 rfl rfl rfl) ?_
  refine th_take rfl rfl (by kernel_rfl)  (opv_move rfl) ?_
  refine th_take rfl rfl (by kernel_rfl)  (opv_remE rfl rfl (by omega) (by omega)) ?_
  refine th_take rfl rfl (by kernel_rfl)  (opv_move rfl) ?_
  refine th_take rfl rfl (by kernel_rfl)  (opv_mul rfl rfl (w64 (by omega) (by omega))) ?_
  refine th_take rfl rfl (by kernel_rfl)  (opv_add rfl rfl (w64 (by omega) (by omega))) ?_
  refine th_take rfl rfl (by kernel_rfl)  (opv_fieldAddr rfl rfl) ?_
  refine th_take rfl rfl (by kernel_rfl)  (opv_load1 rfl rfl rfl) ?_
  refine th_take rfl rfl (by kernel_rfl)  (opv_move rfl) ?_
  refine th_take rfl rfl (by kernel_rfl)  (opv_quoE rfl rfl (by omega) (by omega) (by omega)) ?_
  refine th_take rfl rfl (by kernel_rfl)  (opv_move rfl) ?_
  refine th_take rfl rfl (by kernel_rfl)  (opv_mul rfl rfl (w64 (by omega) (by omega))) ?_
  refine th_take rfl rfl (by kernel_rfl)  (opv_add rfl rfl (w64 (by omega) (by omega))) ?_
  refine th_take rfl rfl (by kernel_rfl)  (opv_buildS rfl rfl) ?_
  refine th_one (by kernel_rfl) (step_m rfl rfl (opg_call (xs := [_, _, _]) rfl (ih m (by omega) _ _ _ _ _ room _ _ _ ⟨c.x + 2 ^ m, c.y⟩ r1 (by simp only; omega) (by simp only; omega) hr (hs.mono hJ1) (kid _ (by simp [Node.kids, R6.nd])).1 (kid _ (by simp [Node.kids, R6.nd])).2.2 (by simp only; omega) hr1 (by omega))) ?_)
  rintro _ _ J2 ⟨a1, c1, rfl, hq1, rfl, hJ2⟩
  refine ⟨Suf.h, (by assumption), ?_⟩
  skip
  refine th_one (by kernel_rfl) (step_m rfl rfl (opg_appendS rfl rfl hq1 rfl rfl (by omega) rfl) ?_)
  rintro _ _ _ ⟨d1, e1, rfl, rfl, rfl⟩
  refine ⟨Suf.h, (by assumption), ?_⟩
  refine th_take rfl rfl (by kernel_rfl)  (opv_assign rfl) ?_
  refine th_done (by kernel_rfl) ?_
  refine tri_inBlock ?_
  refine tri_then ?_
  refine tri_region ?_
  refine tri_v (opv_move rfl) rfl ?_
  refine tri_v (opv_add rfl rfl (w64 (by omega) (by omega))) rfl ?_
  refine tri_v (opv_assign rfl) rfl ?_
  refine tri_nil ?_
  refine tri_then ?_
  refine tri_round ?_
  refine tri_seq ?_
  refine tri_seq ?_
  refine tri_region ?_
  refine tri_v (opv_move rfl) rfl ?_
  refine tri_v (opv_lss rfl rfl) rfl ?_
  refine tri_nil ?_
  refine tri_then ?_
  skip
  refine tri_cond_is rfl (by decide) ?_
  skip
  refine tri_skip ?_
  refine tri_then ?_
  refine tri_seq ?_
  refine tri_block ?_
  refine tri_draw [0, 1, 2, 3, 4, 5, 6, 7, 8, 9, 10, 11, 12, 13, 14, 15, 16, 17, 18, 19, 20, 21, 22, 23] rfl [_] rfl mixed ?_
  refine th_take rfl rfl (by kernel_rfl)  (opv_move rfl) ?_
  refine th_take rfl rfl (by kernel_rfl)  (opv_loadA rfl rfl rfl) ?_
  refine th_take rfl rfl (by kernel_rfl)  (opv_move rfl) ?_
  refine th_take rfl rfl (by kernel_rfl)  (opv_fieldAddr rfl rfl) ?_
  refine th_take rfl rfl (by kernel_rfl)  (opv_indexAddrA rfl rfl (by decide) (by decide)) ?_
  refine th_take rfl rfl (by kernel_rfl)  (opv_load1 rfl rfl rfl) ?_
  refine th_take rfl rfl (by kernel_rfl)  (opv_fieldAddr rfl rfl) ?_
  refine th_take rfl rfl (by kernel_rfl)  (opv_load1 rfl rfl rfl) ?_
  refine th_take rfl rfl (by kernel_rfl)  (opv_move rfl) ?_
  refine th_take rfl rfl (by kernel_rfl)  (opv_remE rfl rfl (by omega) (by omega)) ?_
  refine th_take rfl rfl (by kernel_rfl)  (opv_move rfl) ?_
  refine th_take rfl rfl (by kernel_rfl)  (opv_mul rfl rfl (w64 (by omega) (by omega))) ?_
  refine th_take rfl rfl (by kernel_rfl)  (opv_add rfl rfl (w64 (by omega) (by omega))) ?_
  refine th_take rfl rfl (by kernel_rfl)  (opv_fieldAddr rfl rfl) ?_
  refine th_take rfl rfl (by kernel_rfl)  (opv_load1 rfl rfl rfl) ?_
  refine th_take rfl rfl (by kernel_rfl)  (opv_move rfl) ?_
  refine th_take rfl rfl (by kernel_rfl)  (opv_quoE rfl rfl (by omega) (by omega) (by omega)) ?_
  refine th_take rfl rfl (by kernel_rfl)  (opv_move rfl) ?_
  refine th_take rfl rfl (by kernel_rfl)  (opv_mul rfl rfl (w64 (by omega) (by omega))) ?_
  refine th_take rfl rfl (by kernel_rfl)  (opv_add rfl rfl (w64 (by omega) (by omega))) ?_
  refine th_take rfl rfl (by kernel_rfl)  (opv_buildS rfl rfl) ?_
  refine th_one (by kernel_rfl) (step_m rfl rfl (opg_call (xs := [_, _, _]) rfl (ih m (by omega) _ _ _ _ _ room _ _ _ ⟨c.x, c.y + 2 ^ m⟩ r2 (by simp only; omega) (by simp only; omega) hr ((hs.mono hJ1).mono hJ2) (kid _ (by simp [Node.kids, R6.nd])).1 (kid _ (by simp [Node.kids, R6.nd])).2.2 (by simp only; omega) hr2 (by omega))) ?_)
  rintro _ _ J3 ⟨a2, c2, rfl, hq2, rfl, hJ3⟩
  refine ⟨Suf.h, (by assumption), ?_⟩
  skip
  refine th_one (by kernel_rfl) (step_m rfl rfl (opg_appendS rfl rfl hq2 rfl rfl (by omega) rfl) ?_)
  rintro _ _ _ ⟨d2, e2, rfl, rfl, rfl⟩
  refine ⟨Suf.h, (by assumption), ?_⟩
  refine th_take rfl rfl (by kernel_rfl)  (opv_assign rfl) ?_
  refine th_done (by kernel_rfl) ?_
  refine tri_inBlock ?_
  refine tri_then ?_
  refine tri_region ?_
  refine tri_v (opv_move rfl) rfl ?_
  refine tri_v (opv_add rfl rfl (w64 (by omega) (by omega))) rfl ?_
  refine tri_v (opv_assign rfl) rfl ?_
  refine tri_nil ?_
  refine tri_then ?_
  refine tri_round ?_
  refine tri_seq ?_
  refine tri_seq ?_
  refine tri_region ?_
  refine tri_v (opv_move rfl) rfl ?_
  refine tri_v (opv_lss rfl rfl) rfl ?_
  refine tri_nil ?_
  refine tri_then ?_
  skip
  refine tri_cond_is rfl (by decide) ?_
  skip
  refine tri_skip ?_
  refine tri_then ?_
  refine tri_seq ?_
  refine tri_block ?_
  refine tri_draw [0, 1, 2, 3, 4, 5, 6, 7, 8, 9, 10, 11, 12, 13, 14, 15, 16, 17, 18, 19, 20, 21, 22, 23] rfl [_] rfl mixed ?_
  refine th_take rfl rfl (by kernel_rfl)  (opv_move rfl) ?_
  refine th_take rfl rfl (by kernel_rfl)  (opv_loadA rfl rfl rfl) ?_
  refine th_take rfl rfl (by kernel_rfl)  (opv_move rfl) ?_
  refine th_take rfl rfl (by kernel_rfl)  (opv_fieldAddr rfl rfl) ?_
  refine th_take rfl rfl (by kernel_rfl)  (opv_indexAddrA rfl rfl (by decide) (by decide)) ?_
  refine th_take rfl rfl (by kernel_rfl)  (opv_load1 rfl rfl rfl) ?_
  refine th_take rfl rfl (by kernel_rfl)  (opv_fieldAddr rfl rfl) ?_
  refine th_take rfl rfl (by kernel_rfl)  (opv_load1 rfl rfl rfl) ?_
  refine th_take rfl rfl (by kernel_rfl)  (opv_move rfl) ?_
  refine th_take rfl rfl (by kernel_rfl)  (opv_remE rfl rfl (by omega) (by omega)) ?_
  refine th_take rfl rfl (by kernel_rfl)  (opv_move rfl) ?_
  refine th_take rfl rfl (by kernel_rfl)  (opv_mul rfl rfl (w64 (by omega) (by omega))) ?_
  refine th_take rfl rfl (by kernel_rfl)  (opv_add rfl rfl (w64 (by omega) (by omega))) ?_
  refine th_take rfl rfl (by kernel_rfl)  (opv_fieldAddr rfl rfl) ?_
  refine th_take rfl rfl (by kernel_rfl)  (opv_load1 rfl rfl rfl) ?_
  refine th_take rfl rfl (by kernel_rfl)  (opv_move rfl) ?_
  refine th_take rfl rfl (by kernel_rfl)  (opv_quoE rfl rfl (by omega) (by omega) (by omega)) ?_
  refine th_take rfl rfl (by kernel_rfl)  (opv_move rfl) ?_
  refine th_take rfl rfl (by kernel_rfl)  (opv_mul rfl rfl (w64 (by omega) (by omega))) ?_
  refine th_take rfl rfl (by kernel_rfl)  (opv_add rfl rfl (w64 (by omega) (by omega))) ?_
  refine th_take rfl rfl (by kernel_rfl)  (opv_buildS rfl rfl) ?_
  refine th_one (by kernel_rfl) (step_m rfl rfl (opg_call (xs := [_, _, _]) rfl (ih m (by omega) _ _ _ _ _ room _ _ _ ⟨c.x + 2 ^ m, c.y + 2 ^ m⟩ r3 (by simp only; omega) (by simp only; omega) hr (((hs.mono hJ1).mono hJ2).mono hJ3) (kid _ (by simp [Node.kids, R6.nd])).1 (kid _ (by simp [Node.kids, R6.nd])).2.2 (by simp only; omega) hr3 (by omega))) ?_)
  rintro _ _ J4 ⟨a3, c3, rfl, hq3, rfl, hJ4⟩
  refine ⟨Suf.h, (by assumption), ?_⟩
  skip
  refine th_one (by kernel_rfl) (step_m rfl rfl (opg_appendS rfl rfl hq3 rfl rfl (by omega) rfl) ?_)
  rintro _ _ _ ⟨d3, e3, rfl, rfl, rfl⟩
  refine ⟨Suf.h, (by assumption), ?_⟩
  refine th_take rfl rfl (by kernel_rfl)  (opv_assign rfl) ?_
  refine th_done (by kernel_rfl) ?_
  refine tri_inBlock ?_
  refine tri_then ?_
  refine tri_region ?_
  refine tri_v (opv_move rfl) rfl ?_
  refine tri_v (opv_add rfl rfl (w64 (by omega) (by omega))) rfl ?_
  refine tri_v (opv_assign rfl) rfl ?_
  refine tri_nil ?_
  refine tri_then ?_
  refine tri_round ?_
  refine tri_seq ?_
  refine tri_seq ?_
  refine tri_region ?_
  refine tri_v (opv_move rfl) rfl ?_
  refine tri_v (opv_lss rfl rfl) rfl ?_
  refine tri_nil ?_
  refine tri_then ?_
  refine tri_cond_not rfl (by decide) ?_
  refine tri_exit ?_
  refine tri_then_exit ?_
  refine tri_then_exit ?_
  refine tri_inBlock_hit rfl ?_
  refine tri_then ?_
  refine tri_seq ?_
  refine tri_region ?_
  refine tri_v (opv_move rfl) rfl ?_
  refine tri_v (opv_assign rfl) rfl ?_
  refine tri_nil ?_
  refine tri_then ?_
  refine tri_ret ?_
  refine tri_rowEq (len' := (r0 ++ r1 ++ r2 ++ r3).length) (cells' := encs (r0 ++ r1 ++ r2 ++ r3)) (by simp only [List.length_append, Nat.zero_add]) (by rw [encs_append, encs_append, encs_append]; rfl) ?_
  refine tri_freezeRow rfl fun I' hI hs' => ?_
  refine tri_end A Suf.h rfl (.cons (rv_tmp rfl) .nil) ⟨d3, e3, ?_, hs', rfl, fun _ h => hI (hJ4 (hJ3 (hJ2 (hJ1 h))))⟩
  simp only [List.length_append, Nat.zero_add]; rfl
theorem ref07_flat (lv : Nat) : FlatSpec lv := by
  induction lv using Nat.strongRecOn with
  | ind lv ih => exact ref07_flat_step lv ih
set_option maxRecDepth 100000 in
theorem ref07_of {A : List Asrt} {I : List Chunk} {ns : List Node} {a : Option Addr} {cap : Nat} {room n : Int} (hr : R6.right ns room) (hs : SlAt I a ns) (hn : R6.inS ns n) (hl1 : 1 ≤ (R6.nd ns n).lv) (hlen : (R7.of ns n).length ≤ 100000000) :
    FnC Try.prog 19 [storeV a ns.length cap room, .int .i64 n].toArray A I (fun v A' I' => ∃ a' cap', v = .slice a' (R7.of ns n).length cap' ∧ SlAt I' a' (R7.of ns n) ∧ A = A' ∧ I ⊆ I') := by
  have hmod := hr.modTo.mod.nd hn
  have hmod' : 1 ≤ (ns.getD n.toNat default).lv ∧ (ns.getD n.toNat default).lv ≤ 42 := ⟨hl1, hmod.2.1⟩
  have hsd := R7.side_bd (lv := (ns.getD n.toNat default).lv) hmod'.2
  have hsd2 : (2:Int) ^ ((ns.getD n.toNat default).lv).toNat = 2 * R7.side (ns.getD n.toNat default).lv := by
    unfold R7.side
    obtain ⟨k, hk⟩ : ∃ k : Nat, (ns.getD n.toNat default).lv = k + 1 := ⟨((ns.getD n.toNat default).lv - 1).toNat, by omega⟩
    rw [hk]
    have e1 : ((k:Int) + 1).toNat = k + 1 := by omega
    have e2 : ((k:Int) + 1 - 1).toNat = k := by omega
    rw [e1, e2, Int.pow_succ]; omega
  have hn0 := hn.1
  have hn1 := hn.2
  have hsd' := hsd
  unfold R7.side at hsd'
  refine fn_enter2 Try.func19 rfl Try.ntmps19 rfl fun w0 => ?_
  refine tri_seq ?_
  refine tri_region ?_
  refine tri_g (opg_box_agg rfl) rfl ?_
  rintro _ _ _ ⟨b2, rfl, rfl, rfl⟩
  refine tri_v (opv_assign rfl) rfl ?_
  refine tri_nil ?_
  refine tri_then ?_
  refine tri_seq ?_
  refine tri_region ?_
  refine tri_v (opv_fieldAddr rfl rfl) rfl ?_
  refine tri_v (opv_load1 rfl rfl rfl) rfl ?_
  refine tri_v (opv_move rfl) rfl ?_
  refine tri_v (opv_indexAddrS rfl rfl (by omega) (by omega) (by assumption) rfl) rfl ?_
  refine tri_v (opv_fieldAddrE rfl (by assumption) (by omega) rfl) rfl ?_
  refine tri_v (opv_loadE1 rfl (by assumption) rfl (by omega) rfl rfl) rfl ?_
  refine tri_v (opv_sub rfl rfl (w64 (by omega) (by omega))) rfl ?_
  refine tri_v (opv_shl1 rfl rfl (by omega) (by omega)) rfl ?_
  refine tri_v (opv_assign rfl) rfl ?_
  refine tri_nil ?_
  refine tri_then ?_
  refine tri_seq ?_
  refine tri_region ?_
  refine tri_v (opv_loadA rfl rfl rfl) rfl ?_
  refine tri_v (opv_move rfl) rfl ?_
  refine tri_v (opv_move rfl) rfl ?_
  refine tri_v (opv_negE rfl (by omega) (by omega)) rfl ?_
  refine tri_v (opv_move rfl) rfl ?_
  refine tri_v (opv_negE rfl (by omega) (by omega)) rfl ?_
  refine tri_v (opv_buildS rfl rfl) rfl ?_
  refine tri_g (opg_call (xs := [_, _, _]) rfl (ref07_flat (R6.nd ns n).lv.toNat _ _ _ _ _ room _ _ _ ⟨-R7.side (R6.nd ns n).lv, -R7.side (R6.nd ns n).lv⟩ (R7.of ns n) rfl rfl hr hs hn (by unfold R6.nd; omega) (by show _ ∧ -R7.side (ns.getD n.toNat default).lv + 2 ^ ((ns.getD n.toNat default).lv).toNat ≤ _ ∧ _ ∧ -R7.side (ns.getD n.toNat default).lv + 2 ^ ((ns.getD n.toNat default).lv).toNat ≤ _; rw [hsd2]; simp only [R6.nd]; omega) rfl hlen)) rfl ?_
  rintro _ _ J ⟨a1, c1, rfl, hq, rfl, hJ⟩
  refine tri_v (opv_assign rfl) rfl ?_
  refine tri_nil ?_
  refine tri_then ?_
  refine tri_ret ?_
  refine tri_end A Suf.h rfl (.cons (rv_tmp rfl) .nil) ⟨a1, c1, rfl, hq, rfl, hJ⟩
end Go.GL

set_option linter.unusedVariables false
namespace Go.GL
open Go.Proofs
attribute [local irreducible] wpList Code.wp Exit.then Exit.inBlock Ends Tri TriH OpV OpG FnC epf wpAnyH
variable {A : List Asrt} {I : List Chunk}
set_option maxRecDepth 100000 in
theorem ref08_may {ns : List Node} {a : Option Addr} {cap : Nat} {room n lv : Int} (hs : SlAt I a ns) (hn : ns.length ≤ 1000000000) (hr : R6.Rng ns) :
    FnC Try.prog 34 [storeV a ns.length cap room, .int .i64 n, .int .i64 lv].toArray A I (fun v A' I' => v = .bool (decide (R8.may ns room n lv)) ∧ A = A' ∧ I = I') := by
  skip
  refine fn_enter3 Try.func34 rfl Try.ntmps34 rfl fun w0 => ?_
  refine tri_seq ?_
  refine tri_region ?_
  refine tri_g (opg_box_agg rfl) rfl ?_
  rintro _ _ _ ⟨b3, rfl, rfl, rfl⟩
  refine tri_v (opv_assign rfl) rfl ?_
  refine tri_nil ?_
  refine tri_then ?_
  refine tri_seq ?_
  refine tri_region ?_
  refine tri_v (opv_loadA rfl rfl rfl) rfl ?_
  refine tri_g (opg_call (xs := [_]) rfl (ref06_right hs hn hr)) rfl ?_
  rintro _ _ _ ⟨rfl, rfl, rfl⟩
  refine tri_v (opv_move rfl) rfl ?_
  refine tri_split rfl rfl (fun h1 => ?_) (fun h1 => ?_)
  · refine tri_guard_run rfl rfl rfl ?_
    refine tri_v (opv_move rfl) rfl ?_
    refine tri_guard_run rfl rfl rfl ?_
    refine tri_v (opv_geq rfl rfl) rfl ?_
    refine tri_v (opv_pick_t rfl rfl) rfl ?_
    refine tri_v (opv_move rfl) rfl ?_
    refine tri_split rfl rfl (fun h2 => ?_) (fun h2 => ?_)
    · refine tri_guard_run rfl rfl rfl ?_
      refine tri_v (opv_move rfl) rfl ?_
      refine tri_guard_run rfl rfl rfl ?_
      refine tri_v (opv_fieldAddr rfl rfl) rfl ?_
      refine tri_guard_run rfl rfl rfl ?_
      refine tri_v (opv_load1 rfl rfl rfl) rfl ?_
      refine tri_guard_run rfl rfl rfl ?_
      refine tri_v (opv_len rfl) rfl ?_
      refine tri_guard_run rfl rfl rfl ?_
      refine tri_v (opv_lss rfl rfl) rfl ?_
      refine tri_v (opv_pick_t rfl rfl) rfl ?_
      refine tri_v (opv_move rfl) rfl ?_
      refine tri_split rfl rfl (fun h3 => ?_) (fun h3 => ?_)
      · refine tri_guard_run rfl rfl rfl ?_
        refine tri_v (opv_fieldAddr rfl rfl) rfl ?_
        refine tri_guard_run rfl rfl rfl ?_
        refine tri_v (opv_load1 rfl rfl rfl) rfl ?_
        refine tri_guard_run rfl rfl rfl ?_
        refine tri_v (opv_move rfl) rfl ?_
        refine tri_guard_run rfl rfl rfl ?_
        refine tri_v (opv_indexAddrS rfl rfl (by omega) (by omega) (by assumption) rfl) rfl ?_
        refine tri_guard_run rfl rfl rfl ?_
        refine tri_v (opv_fieldAddrE rfl (by assumption) (by omega) rfl) rfl ?_
        refine tri_guard_run rfl rfl rfl ?_
        refine tri_v (opv_loadE1 rfl (by assumption) rfl (by omega) rfl rfl) rfl ?_
        refine tri_guard_run rfl rfl rfl ?_
        refine tri_v (opv_move rfl) rfl ?_
        refine tri_guard_run rfl rfl rfl ?_
        refine tri_v (opv_geq rfl rfl) rfl ?_
        refine tri_v (opv_pick_t rfl rfl) rfl ?_
        refine tri_v (opv_assign rfl) rfl ?_
        refine tri_nil ?_
        refine tri_then ?_
        refine tri_ret ?_
        refine tri_end A Suf.h rfl (.cons (rv_tmp rfl) .nil) ⟨congrArg Value.bool (decide_eq_decide.2 ?_), rfl, rfl⟩
        exact ⟨fun h => ⟨h1, ⟨h2, h3⟩, h⟩, fun h => h.2.2⟩
      · refine tri_guard_skip rfl rfl rfl rfl ?_
        refine tri_guard_skip rfl rfl rfl rfl ?_
        refine tri_guard_skip rfl rfl rfl rfl ?_
        refine tri_guard_skip rfl rfl rfl rfl ?_
        refine tri_guard_skip rfl rfl rfl rfl ?_
        refine tri_guard_skip rfl rfl rfl rfl ?_
        refine tri_guard_skip rfl rfl rfl rfl ?_
        refine tri_guard_skip rfl rfl rfl rfl ?_
        refine tri_v (opv_pick_f rfl rfl) rfl ?_
        refine tri_v (opv_assign rfl) rfl ?_
        refine tri_nil ?_
        refine tri_then ?_
        refine tri_ret ?_
        refine tri_end A Suf.h rfl (.cons (rv_tmp rfl) .nil) ⟨congrArg Value.bool (decide_eq_false fun h => ?_).symm, rfl, rfl⟩
        exact h3 h.2.1.2
    · refine tri_guard_skip rfl rfl rfl rfl ?_
      refine tri_guard_skip rfl rfl rfl rfl ?_
      refine tri_guard_skip rfl rfl rfl rfl ?_
      refine tri_guard_skip rfl rfl rfl rfl ?_
      refine tri_guard_skip rfl rfl rfl rfl ?_
      refine tri_v (opv_pick_f rfl rfl) rfl ?_
      refine tri_v (opv_move rfl) rfl ?_
      refine tri_guard_skip rfl rfl rfl rfl ?_
      refine tri_guard_skip rfl rfl rfl rfl ?_
      refine tri_guard_skip rfl rfl rfl rfl ?_
      refine tri_guard_skip rfl rfl rfl rfl ?_
      refine tri_guard_skip rfl rfl rfl rfl ?_
      refine tri_guard_skip rfl rfl rfl rfl ?_
      refine tri_guard_skip rfl rfl rfl rfl ?_
      refine tri_guard_skip rfl rfl rfl rfl ?_
      refine tri_v (opv_pick_f rfl rfl) rfl ?_
      refine tri_v (opv_assign rfl) rfl ?_
      refine tri_nil ?_
      refine tri_then ?_
      refine tri_ret ?_
      refine tri_end A Suf.h rfl (.cons (rv_tmp rfl) .nil) ⟨congrArg Value.bool (decide_eq_false fun h => ?_).symm, rfl, rfl⟩
      exact h2 h.2.1.1
  · refine tri_guard_skip rfl rfl rfl rfl ?_
    refine tri_guard_skip rfl rfl rfl rfl ?_
    refine tri_v (opv_pick_f rfl rfl) rfl ?_
    refine tri_v (opv_move rfl) rfl ?_
    refine tri_guard_skip rfl rfl rfl rfl ?_
    refine tri_guard_skip rfl rfl rfl rfl ?_
    refine tri_guard_skip rfl rfl rfl rfl ?_
    refine tri_guard_skip rfl rfl rfl rfl ?_
    refine tri_guard_skip rfl rfl rfl rfl ?_
    refine tri_v (opv_pick_f rfl rfl) rfl ?_
    refine tri_v (opv_move rfl) rfl ?_
    refine tri_guard_skip rfl rfl rfl rfl ?_
    refine tri_guard_skip rfl rfl rfl rfl ?_
    refine tri_guard_skip rfl rfl rfl rfl ?_
    refine tri_guard_skip rfl rfl rfl rfl ?_
    refine tri_guard_skip rfl rfl rfl rfl ?_
    refine tri_guard_skip rfl rfl rfl rfl ?_
    refine tri_guard_skip rfl rfl rfl rfl ?_
    refine tri_guard_skip rfl rfl rfl rfl ?_
    refine tri_v (opv_pick_f rfl rfl) rfl ?_
    refine tri_v (opv_assign rfl) rfl ?_
    refine tri_nil ?_
    refine tri_then ?_
    refine tri_ret ?_
    refine tri_end A Suf.h rfl (.cons (rv_tmp rfl) .nil) ⟨congrArg Value.bool (decide_eq_false fun h => ?_).symm, rfl, rfl⟩
    exact h1 h.1
/-- Whose kids can be asked for. -/
def R8.Kid (ns : List Node) (n : Int) : Prop := R6.inS ns n ∧ R6.inS ns (R6.nd ns n).k0 ∧ R6.inS ns (R6.nd ns n).k1 ∧ R6.inS ns (R6.nd ns n).k2 ∧ R6.inS ns (R6.nd ns n).k3
theorem R6.right.kids {ns : List Node} {room n : Int} (h : R6.right ns room) (hn : R6.inS ns n) (hl : 1 ≤ (R6.nd ns n).lv) : R8.Kid ns n := by
  obtain ⟨m, hm⟩ : ∃ m : Nat, (R6.nd ns n).lv = ((m + 1 : Nat) : Int) := ⟨((R6.nd ns n).lv - 1).toNat, by omega⟩
  have k := fun q hq => (h.kid hn hm (q := q) hq).1
  exact ⟨hn, k _ (by simp [Node.kids]), k _ (by simp [Node.kids]), k _ (by simp [Node.kids]), k _ (by simp [Node.kids])⟩
set_option maxHeartbeats 1000000 in
set_option maxRecDepth 100000 in
theorem ref08_sixteen {ns : List Node} {a : Option Addr} {cap : Nat} {room n : Int} (hs : SlAt I a ns) (hk : R8.Kid ns n) :
    FnC Try.prog 64 [storeV a ns.length cap room, .int .i64 n].toArray A I (fun v A' I' => ∃ a' cap', v = .slice a' (R8.s16 ns n).length cap' ∧ SlAt I' a' (R8.s16 ns n) ∧ A = A' ∧ I ⊆ I') := by
  obtain ⟨⟨hn0, hn1⟩, ⟨ha0, ha1⟩, ⟨hb0, hb1⟩, ⟨hc0, hc1⟩, ⟨hd0, hd1⟩⟩ := hk
  unfold R6.nd at ha0 ha1 hb0 hb1 hc0 hc1 hd0 hd1
  refine fn_enter2 Try.func64 rfl Try.ntmps64 rfl fun w0 => ?_
  refine tri_seq ?_
  refine tri_region ?_
  refine tri_g (opg_box_agg rfl) rfl ?_
  rintro _ _ _ ⟨b2, rfl, rfl, rfl⟩
  refine tri_v (opv_assign rfl) rfl ?_
  refine tri_nil ?_
  refine tri_then ?_
  refine tri_seq ?_
  refine tri_region ?_
  refine tri_v (opv_assign rfl) rfl ?_
  refine tri_nil ?_
  refine tri_then ?_
  refine tri_seq ?_
  refine tri_seq ?_
  refine tri_region ?_
  refine tri_v (opv_assign rfl) rfl ?_
  refine tri_nil ?_
  refine tri_then ?_
  refine tri_block ?_
  refine tri_nilRow (E := 3) (sz := 1) ?_
  refine tri_rounds 5 ?_
  refine tri_round ?_
  refine tri_seq ?_
  refine tri_seq ?_
  refine tri_region ?_
  refine tri_v (opv_move rfl) rfl ?_
  refine tri_v (opv_lss rfl rfl) rfl ?_
  refine tri_nil ?_
  refine tri_then ?_
  refine tri_cond_is rfl (by decide) ?_
  refine tri_skip ?_
  refine tri_then ?_
  refine tri_seq ?_
  refine tri_block ?_
  refine tri_seq ?_
  refine tri_region ?_
  refine tri_v (opv_assign rfl) rfl ?_
  refine tri_nil ?_
  refine tri_then ?_
  refine tri_block ?_
  refine tri_rounds 5 ?_
  refine tri_round ?_
  refine tri_seq ?_
  refine tri_seq ?_
  refine tri_region ?_
  refine tri_v (opv_move rfl) rfl ?_
  refine tri_v (opv_lss rfl rfl) rfl ?_
  refine tri_nil ?_
  refine tri_then ?_
  refine tri_cond_is rfl (by decide) ?_
  refine tri_skip ?_
  refine tri_then ?_
  refine tri_seq ?_
  refine tri_block ?_
  refine tri_seq ?_
  refine tri_region ?_
  refine tri_v (opv_fieldAddr rfl rfl) rfl ?_
  refine tri_v (opv_load1 rfl rfl rfl) rfl ?_
  refine tri_v (opv_move rfl) rfl ?_
  refine tri_v (opv_move rfl) rfl ?_
  refine tri_v (opv_quoE rfl rfl (by omega) (by omega) (by omega)) rfl ?_
  refine tri_v (opv_mul rfl rfl (w64 (by omega) (by omega))) rfl ?_
  refine tri_v (opv_move rfl) rfl ?_
  refine tri_v (opv_quoE rfl rfl (by omega) (by omega) (by omega)) rfl ?_
  refine tri_v (opv_add rfl rfl (w64 (by omega) (by omega))) rfl ?_
  refine tri_v (opv_indexAddrS rfl rfl (by omega) (by omega) (by assumption) rfl) rfl ?_
  refine tri_v (opv_fieldAddrE rfl (by assumption) (by omega) rfl) rfl ?_
  refine tri_v (opv_indexAddrE rfl (by assumption) (by omega) rfl (by decide) (by decide)) rfl ?_
  refine tri_v (opv_loadE1 rfl (by assumption) rfl (by omega) rfl rfl) rfl ?_
  refine tri_v (opv_assign rfl) rfl ?_
  refine tri_nil ?_
  refine tri_then ?_
  refine tri_region ?_
  refine tri_v (opv_move rfl) rfl ?_
  refine tri_v (opv_fieldAddr rfl rfl) rfl ?_
  refine tri_v (opv_load1 rfl rfl rfl) rfl ?_
  refine tri_v (opv_move rfl) rfl ?_
  refine tri_v (opv_move rfl) rfl ?_
  refine tri_v (opv_remE rfl rfl (by omega) (by omega)) rfl ?_
  refine tri_v (opv_mul rfl rfl (w64 (by omega) (by omega))) rfl ?_
  refine tri_v (opv_move rfl) rfl ?_
  refine tri_v (opv_remE rfl rfl (by omega) (by omega)) rfl ?_
  refine tri_v (opv_add rfl rfl (w64 (by omega) (by omega))) rfl ?_
  refine tri_v (opv_indexAddrS rfl rfl (by omega) (by omega) (by assumption) rfl) rfl ?_
  refine tri_v (opv_fieldAddrE rfl (by assumption) (by omega) rfl) rfl ?_
  refine tri_v (opv_indexAddrE rfl (by assumption) (by omega) rfl (by decide) (by decide)) rfl ?_
  refine tri_v (opv_loadE1 rfl (by assumption) rfl (by omega) rfl rfl) rfl ?_
  refine tri_g (opg_buildSlice rfl rfl rfl rfl) rfl ?_
  rintro _ _ _ ⟨b44, rfl, rfl, rfl⟩
  refine tri_g (opg_appendB rfl rfl rfl rfl (by omega) rfl) rfl ?_
  rintro _ _ _ ⟨a00, c00, rfl, rfl, rfl⟩
  refine tri_drop ?_
  refine tri_v (opv_assign rfl) rfl ?_
  refine tri_nil ?_
  refine tri_inBlock ?_
  refine tri_then ?_
  refine tri_region ?_
  refine tri_v (opv_move rfl) rfl ?_
  refine tri_v (opv_add rfl rfl (w64 (by omega) (by omega))) rfl ?_
  refine tri_v (opv_assign rfl) rfl ?_
  refine tri_nil ?_
  refine tri_then ?_
  refine tri_round ?_
  refine tri_seq ?_
  refine tri_seq ?_
  refine tri_region ?_
  refine tri_v (opv_move rfl) rfl ?_
  refine tri_v (opv_lss rfl rfl) rfl ?_
  refine tri_nil ?_
  refine tri_then ?_
  refine tri_cond_is rfl (by decide) ?_
  refine tri_skip ?_
  refine tri_then ?_
  refine tri_seq ?_
  refine tri_block ?_
  refine tri_seq ?_
  refine tri_region ?_
  refine tri_v (opv_fieldAddr rfl rfl) rfl ?_
  refine tri_v (opv_load1 rfl rfl rfl) rfl ?_
  refine tri_v (opv_move rfl) rfl ?_
  refine tri_v (opv_move rfl) rfl ?_
  refine tri_v (opv_quoE rfl rfl (by omega) (by omega) (by omega)) rfl ?_
  refine tri_v (opv_mul rfl rfl (w64 (by omega) (by omega))) rfl ?_
  refine tri_v (opv_move rfl) rfl ?_
  refine tri_v (opv_quoE rfl rfl (by omega) (by omega) (by omega)) rfl ?_
  refine tri_v (opv_add rfl rfl (w64 (by omega) (by omega))) rfl ?_
  refine tri_v (opv_indexAddrS rfl rfl (by omega) (by omega) (by assumption) rfl) rfl ?_
  refine tri_v (opv_fieldAddrE rfl (by assumption) (by omega) rfl) rfl ?_
  refine tri_v (opv_indexAddrE rfl (by assumption) (by omega) rfl (by decide) (by decide)) rfl ?_
  refine tri_v (opv_loadE1 rfl (by assumption) rfl (by omega) rfl rfl) rfl ?_
  refine tri_v (opv_assign rfl) rfl ?_
  refine tri_nil ?_
  refine tri_then ?_
  refine tri_region ?_
  refine tri_v (opv_move rfl) rfl ?_
  refine tri_v (opv_fieldAddr rfl rfl) rfl ?_
  refine tri_v (opv_load1 rfl rfl rfl) rfl ?_
  refine tri_v (opv_move rfl) rfl ?_
  refine tri_v (opv_move rfl) rfl ?_
  refine tri_v (opv_remE rfl rfl (by omega) (by omega)) rfl ?_
  refine tri_v (opv_mul rfl rfl (w64 (by omega) (by omega))) rfl ?_
  refine tri_v (opv_move rfl) rfl ?_
  refine tri_v (opv_remE rfl rfl (by omega) (by omega)) rfl ?_
  refine tri_v (opv_add rfl rfl (w64 (by omega) (by omega))) rfl ?_
  refine tri_v (opv_indexAddrS rfl rfl (by omega) (by omega) (by assumption) rfl) rfl ?_
  refine tri_v (opv_fieldAddrE rfl (by assumption) (by omega) rfl) rfl ?_
  refine tri_v (opv_indexAddrE rfl (by assumption) (by omega) rfl (by decide) (by decide)) rfl ?_
  refine tri_v (opv_loadE1 rfl (by assumption) rfl (by omega) rfl rfl) rfl ?_
  refine tri_g (opg_buildSlice rfl rfl rfl rfl) rfl ?_
  rintro _ _ _ ⟨b44, rfl, rfl, rfl⟩
  refine tri_g (opg_appendB rfl rfl rfl rfl (by omega) rfl) rfl ?_
  rintro _ _ _ ⟨a01, c01, rfl, rfl, rfl⟩
  refine tri_drop ?_
  refine tri_v (opv_assign rfl) rfl ?_
  refine tri_nil ?_
  refine tri_inBlock ?_
  refine tri_then ?_
  refine tri_region ?_
  refine tri_v (opv_move rfl) rfl ?_
  refine tri_v (opv_add rfl rfl (w64 (by omega) (by omega))) rfl ?_
  refine tri_v (opv_assign rfl) rfl ?_
  refine tri_nil ?_
  refine tri_then ?_
  refine tri_round ?_
  refine tri_seq ?_
  refine tri_seq ?_
  refine tri_region ?_
  refine tri_v (opv_move rfl) rfl ?_
  refine tri_v (opv_lss rfl rfl) rfl ?_
  refine tri_nil ?_
  refine tri_then ?_
  refine tri_cond_is rfl (by decide) ?_
  refine tri_skip ?_
  refine tri_then ?_
  refine tri_seq ?_
  refine tri_block ?_
  refine tri_seq ?_
  refine tri_region ?_
  refine tri_v (opv_fieldAddr rfl rfl) rfl ?_
  refine tri_v (opv_load1 rfl rfl rfl) rfl ?_
  refine tri_v (opv_move rfl) rfl ?_
  refine tri_v (opv_move rfl) rfl ?_
  refine tri_v (opv_quoE rfl rfl (by omega) (by omega) (by omega)) rfl ?_
  refine tri_v (opv_mul rfl rfl (w64 (by omega) (by omega))) rfl ?_
  refine tri_v (opv_move rfl) rfl ?_
  refine tri_v (opv_quoE rfl rfl (by omega) (by omega) (by omega)) rfl ?_
  refine tri_v (opv_add rfl rfl (w64 (by omega) (by omega))) rfl ?_
  refine tri_v (opv_indexAddrS rfl rfl (by omega) (by omega) (by assumption) rfl) rfl ?_
  refine tri_v (opv_fieldAddrE rfl (by assumption) (by omega) rfl) rfl ?_
  refine tri_v (opv_indexAddrE rfl (by assumption) (by omega) rfl (by decide) (by decide)) rfl ?_
  refine tri_v (opv_loadE1 rfl (by assumption) rfl (by omega) rfl rfl) rfl ?_
  refine tri_v (opv_assign rfl) rfl ?_
  refine tri_nil ?_
  refine tri_then ?_
  refine tri_region ?_
  refine tri_v (opv_move rfl) rfl ?_
  refine tri_v (opv_fieldAddr rfl rfl) rfl ?_
  refine tri_v (opv_load1 rfl rfl rfl) rfl ?_
  refine tri_v (opv_move rfl) rfl ?_
  refine tri_v (opv_move rfl) rfl ?_
  refine tri_v (opv_remE rfl rfl (by omega) (by omega)) rfl ?_
  refine tri_v (opv_mul rfl rfl (w64 (by omega) (by omega))) rfl ?_
  refine tri_v (opv_move rfl) rfl ?_
  refine tri_v (opv_remE rfl rfl (by omega) (by omega)) rfl ?_
  refine tri_v (opv_add rfl rfl (w64 (by omega) (by omega))) rfl ?_
  refine tri_v (opv_indexAddrS rfl rfl (by omega) (by omega) (by assumption) rfl) rfl ?_
  refine tri_v (opv_fieldAddrE rfl (by assumption) (by omega) rfl) rfl ?_
  refine tri_v (opv_indexAddrE rfl (by assumption) (by omega) rfl (by decide) (by decide)) rfl ?_
  refine tri_v (opv_loadE1 rfl (by assumption) rfl (by omega) rfl rfl) rfl ?_
  refine tri_g (opg_buildSlice rfl rfl rfl rfl) rfl ?_
  rintro _ _ _ ⟨b44, rfl, rfl, rfl⟩
  refine tri_g (opg_appendB rfl rfl rfl rfl (by omega) rfl) rfl ?_
  rintro _ _ _ ⟨a02, c02, rfl, rfl, rfl⟩
  refine tri_drop ?_
  refine tri_v (opv_assign rfl) rfl ?_
  refine tri_nil ?_
  refine tri_inBlock ?_
  refine tri_then ?_
  refine tri_region ?_
  refine tri_v (opv_move rfl) rfl ?_
  refine tri_v (opv_add rfl rfl (w64 (by omega) (by omega))) rfl ?_
  refine tri_v (opv_assign rfl) rfl ?_
  refine tri_nil ?_
  refine tri_then ?_
  refine tri_round ?_
  refine tri_seq ?_
  refine tri_seq ?_
  refine tri_region ?_
  refine tri_v (opv_move rfl) rfl ?_
  refine tri_v (opv_lss rfl rfl) rfl ?_
  refine tri_nil ?_
  refine tri_then ?_
  refine tri_cond_is rfl (by decide) ?_
  refine tri_skip ?_
  refine tri_then ?_
  refine tri_seq ?_
  refine tri_block ?_
  refine tri_seq ?_
  refine tri_region ?_
  refine tri_v (opv_fieldAddr rfl rfl) rfl ?_
  refine tri_v (opv_load1 rfl rfl rfl) rfl ?_
  refine tri_v (opv_move rfl) rfl ?_
  refine tri_v (opv_move rfl) rfl ?_
  refine tri_v (opv_quoE rfl rfl (by omega) (by omega) (by omega)) rfl ?_
  refine tri_v (opv_mul rfl rfl (w64 (by omega) (by omega))) rfl ?_
  refine tri_v (opv_move rfl) rfl ?_
  refine tri_v (opv_quoE rfl rfl (by omega) (by omega) (by omega)) rfl ?_
  refine tri_v (opv_add rfl rfl (w64 (by omega) (by omega))) rfl ?_
  refine tri_v (opv_indexAddrS rfl rfl (by omega) (by omega) (by assumption) rfl) rfl ?_
  refine tri_v (opv_fieldAddrE rfl (by assumption) (by omega) rfl) rfl ?_
  refine tri_v (opv_indexAddrE rfl (by assumption) (by omega) rfl (by decide) (by decide)) rfl ?_
  refine tri_v (opv_loadE1 rfl (by assumption) rfl (by omega) rfl rfl) rfl ?_
  refine tri_v (opv_assign rfl) rfl ?_
  refine tri_nil ?_
  refine tri_then ?_
  refine tri_region ?_
  refine tri_v (opv_move rfl) rfl ?_
  refine tri_v (opv_fieldAddr rfl rfl) rfl ?_
  refine tri_v (opv_load1 rfl rfl rfl) rfl ?_
  refine tri_v (opv_move rfl) rfl ?_
  refine tri_v (opv_move rfl) rfl ?_
  refine tri_v (opv_remE rfl rfl (by omega) (by omega)) rfl ?_
  refine tri_v (opv_mul rfl rfl (w64 (by omega) (by omega))) rfl ?_
  refine tri_v (opv_move rfl) rfl ?_
  refine tri_v (opv_remE rfl rfl (by omega) (by omega)) rfl ?_
  refine tri_v (opv_add rfl rfl (w64 (by omega) (by omega))) rfl ?_
  refine tri_v (opv_indexAddrS rfl rfl (by omega) (by omega) (by assumption) rfl) rfl ?_
  refine tri_v (opv_fieldAddrE rfl (by assumption) (by omega) rfl) rfl ?_
  refine tri_v (opv_indexAddrE rfl (by assumption) (by omega) rfl (by decide) (by decide)) rfl ?_
  refine tri_v (opv_loadE1 rfl (by assumption) rfl (by omega) rfl rfl) rfl ?_
  refine tri_g (opg_buildSlice rfl rfl rfl rfl) rfl ?_
  rintro _ _ _ ⟨b44, rfl, rfl, rfl⟩
  refine tri_g (opg_appendB rfl rfl rfl rfl (by omega) rfl) rfl ?_
  rintro _ _ _ ⟨a03, c03, rfl, rfl, rfl⟩
  refine tri_drop ?_
  refine tri_v (opv_assign rfl) rfl ?_
  refine tri_nil ?_
  refine tri_inBlock ?_
  refine tri_then ?_
  refine tri_region ?_
  refine tri_v (opv_move rfl) rfl ?_
  refine tri_v (opv_add rfl rfl (w64 (by omega) (by omega))) rfl ?_
  refine tri_v (opv_assign rfl) rfl ?_
  refine tri_nil ?_
  refine tri_then ?_
  refine tri_round ?_
  refine tri_seq ?_
  refine tri_seq ?_
  refine tri_region ?_
  refine tri_v (opv_move rfl) rfl ?_
  refine tri_v (opv_lss rfl rfl) rfl ?_
  refine tri_nil ?_
  refine tri_then ?_
  refine tri_cond_not rfl (by decide) ?_
  refine tri_exit ?_
  refine tri_then_exit ?_
  refine tri_then_exit ?_
  refine tri_inBlock_hit rfl ?_
  refine tri_inBlock ?_
  refine tri_then ?_
  refine tri_region ?_
  refine tri_v (opv_move rfl) rfl ?_
  refine tri_v (opv_add rfl rfl (w64 (by omega) (by omega))) rfl ?_
  refine tri_v (opv_assign rfl) rfl ?_
  refine tri_nil ?_
  refine tri_then ?_
  refine tri_round ?_
  refine tri_seq ?_
  refine tri_seq ?_
  refine tri_region ?_
  refine tri_v (opv_move rfl) rfl ?_
  refine tri_v (opv_lss rfl rfl) rfl ?_
  refine tri_nil ?_
  refine tri_then ?_
  refine tri_cond_is rfl (by decide) ?_
  refine tri_skip ?_
  refine tri_then ?_
  refine tri_seq ?_
  refine tri_block ?_
  refine tri_seq ?_
  refine tri_region ?_
  refine tri_v (opv_assign rfl) rfl ?_
  refine tri_nil ?_
  refine tri_then ?_
  refine tri_block ?_
  refine tri_rounds 5 ?_
  refine tri_round ?_
  refine tri_seq ?_
  refine tri_seq ?_
  refine tri_region ?_
  refine tri_v (opv_move rfl) rfl ?_
  refine tri_v (opv_lss rfl rfl) rfl ?_
  refine tri_nil ?_
  refine tri_then ?_
  refine tri_cond_is rfl (by decide) ?_
  refine tri_skip ?_
  refine tri_then ?_
  refine tri_seq ?_
  refine tri_block ?_
  refine tri_seq ?_
  refine tri_region ?_
  refine tri_v (opv_fieldAddr rfl rfl) rfl ?_
  refine tri_v (opv_load1 rfl rfl rfl) rfl ?_
  refine tri_v (opv_move rfl) rfl ?_
  refine tri_v (opv_move rfl) rfl ?_
  refine tri_v (opv_quoE rfl rfl (by omega) (by omega) (by omega)) rfl ?_
  refine tri_v (opv_mul rfl rfl (w64 (by omega) (by omega))) rfl ?_
  refine tri_v (opv_move rfl) rfl ?_
  refine tri_v (opv_quoE rfl rfl (by omega) (by omega) (by omega)) rfl ?_
  refine tri_v (opv_add rfl rfl (w64 (by omega) (by omega))) rfl ?_
  refine tri_v (opv_indexAddrS rfl rfl (by omega) (by omega) (by assumption) rfl) rfl ?_
  refine tri_v (opv_fieldAddrE rfl (by assumption) (by omega) rfl) rfl ?_
  refine tri_v (opv_indexAddrE rfl (by assumption) (by omega) rfl (by decide) (by decide)) rfl ?_
  refine tri_v (opv_loadE1 rfl (by assumption) rfl (by omega) rfl rfl) rfl ?_
  refine tri_v (opv_assign rfl) rfl ?_
  refine tri_nil ?_
  refine tri_then ?_
  refine tri_region ?_
  refine tri_v (opv_move rfl) rfl ?_
  refine tri_v (opv_fieldAddr rfl rfl) rfl ?_
  refine tri_v (opv_load1 rfl rfl rfl) rfl ?_
  refine tri_v (opv_move rfl) rfl ?_
  refine tri_v (opv_move rfl) rfl ?_
  refine tri_v (opv_remE rfl rfl (by omega) (by omega)) rfl ?_
  refine tri_v (opv_mul rfl rfl (w64 (by omega) (by omega))) rfl ?_
  refine tri_v (opv_move rfl) rfl ?_
  refine tri_v (opv_remE rfl rfl (by omega) (by omega)) rfl ?_
  refine tri_v (opv_add rfl rfl (w64 (by omega) (by omega))) rfl ?_
  refine tri_v (opv_indexAddrS rfl rfl (by omega) (by omega) (by assumption) rfl) rfl ?_
  refine tri_v (opv_fieldAddrE rfl (by assumption) (by omega) rfl) rfl ?_
  refine tri_v (opv_indexAddrE rfl (by assumption) (by omega) rfl (by decide) (by decide)) rfl ?_
  refine tri_v (opv_loadE1 rfl (by assumption) rfl (by omega) rfl rfl) rfl ?_
  refine tri_g (opg_buildSlice rfl rfl rfl rfl) rfl ?_
  rintro _ _ _ ⟨b44, rfl, rfl, rfl⟩
  refine tri_g (opg_appendB rfl rfl rfl rfl (by omega) rfl) rfl ?_
  rintro _ _ _ ⟨a10, c10, rfl, rfl, rfl⟩
  refine tri_drop ?_
  refine tri_v (opv_assign rfl) rfl ?_
  refine tri_nil ?_
  refine tri_inBlock ?_
  refine tri_then ?_
  refine tri_region ?_
  refine tri_v (opv_move rfl) rfl ?_
  refine tri_v (opv_add rfl rfl (w64 (by omega) (by omega))) rfl ?_
  refine tri_v (opv_assign rfl) rfl ?_
  refine tri_nil ?_
  refine tri_then ?_
  refine tri_round ?_
  refine tri_seq ?_
  refine tri_seq ?_
  refine tri_region ?_
  refine tri_v (opv_move rfl) rfl ?_
  refine tri_v (opv_lss rfl rfl) rfl ?_
  refine tri_nil ?_
  refine tri_then ?_
  refine tri_cond_is rfl (by decide) ?_
  refine tri_skip ?_
  refine tri_then ?_
  refine tri_seq ?_
  refine tri_block ?_
  refine tri_seq ?_
  refine tri_region ?_
  refine tri_v (opv_fieldAddr rfl rfl) rfl ?_
  refine tri_v (opv_load1 rfl rfl rfl) rfl ?_
  refine tri_v (opv_move rfl) rfl ?_
  refine tri_v (opv_move rfl) rfl ?_
  refine tri_v (opv_quoE rfl rfl (by omega) (by omega) (by omega)) rfl ?_
  refine tri_v (opv_mul rfl rfl (w64 (by omega) (by omega))) rfl ?_
  refine tri_v (opv_move rfl) rfl ?_
  refine tri_v (opv_quoE rfl rfl (by omega) (by omega) (by omega)) rfl ?_
  refine tri_v (opv_add rfl rfl (w64 (by omega) (by omega))) rfl ?_
  refine tri_v (opv_indexAddrS rfl rfl (by omega) (by omega) (by assumption) rfl) rfl ?_
  refine tri_v (opv_fieldAddrE rfl (by assumption) (by omega) rfl) rfl ?_
  refine tri_v (opv_indexAddrE rfl (by assumption) (by omega) rfl (by decide) (by decide)) rfl ?_
  refine tri_v (opv_loadE1 rfl (by assumption) rfl (by omega) rfl rfl) rfl ?_
  refine tri_v (opv_assign rfl) rfl ?_
  refine tri_nil ?_
  refine tri_then ?_
  refine tri_region ?_
  refine tri_v (opv_move rfl) rfl ?_
  refine tri_v (opv_fieldAddr rfl rfl) rfl ?_
  refine tri_v (opv_load1 rfl rfl rfl) rfl ?_
  refine tri_v (opv_move rfl) rfl ?_
  refine tri_v (opv_move rfl) rfl ?_
  refine tri_v (opv_remE rfl rfl (by omega) (by omega)) rfl ?_
  refine tri_v (opv_mul rfl rfl (w64 (by omega) (by omega))) rfl ?_
  refine tri_v (opv_move rfl) rfl ?_
  refine tri_v (opv_remE rfl rfl (by omega) (by omega)) rfl ?_
  refine tri_v (opv_add rfl rfl (w64 (by omega) (by omega))) rfl ?_
  refine tri_v (opv_indexAddrS rfl rfl (by omega) (by omega) (by assumption) rfl) rfl ?_
  refine tri_v (opv_fieldAddrE rfl (by assumption) (by omega) rfl) rfl ?_
  refine tri_v (opv_indexAddrE rfl (by assumption) (by omega) rfl (by decide) (by decide)) rfl ?_
  refine tri_v (opv_loadE1 rfl (by assumption) rfl (by omega) rfl rfl) rfl ?_
  refine tri_g (opg_buildSlice rfl rfl rfl rfl) rfl ?_
  rintro _ _ _ ⟨b44, rfl, rfl, rfl⟩
  refine tri_g (opg_appendB rfl rfl rfl rfl (by omega) rfl) rfl ?_
  rintro _ _ _ ⟨a11, c11, rfl, rfl, rfl⟩
  refine tri_drop ?_
  refine tri_v (opv_assign rfl) rfl ?_
  refine tri_nil ?_
  refine tri_inBlock ?_
  refine tri_then ?_
  refine tri_region ?_
  refine tri_v (opv_move rfl) rfl ?_
  refine tri_v (opv_add rfl rfl (w64 (by omega) (by omega))) rfl ?_
  refine tri_v (opv_assign rfl) rfl ?_
  refine tri_nil ?_
  refine tri_then ?_
  refine tri_round ?_
  refine tri_seq ?_
  refine tri_seq ?_
  refine tri_region ?_
  refine tri_v (opv_move rfl) rfl ?_
  refine tri_v (opv_lss rfl rfl) rfl ?_
  refine tri_nil ?_
  refine tri_then ?_
  refine tri_cond_is rfl (by decide) ?_
  refine tri_skip ?_
  refine tri_then ?_
  refine tri_seq ?_
  refine tri_block ?_
  refine tri_seq ?_
  refine tri_region ?_
  refine tri_v (opv_fieldAddr rfl rfl) rfl ?_
  refine tri_v (opv_load1 rfl rfl rfl) rfl ?_
  refine tri_v (opv_move rfl) rfl ?_
  refine tri_v (opv_move rfl) rfl ?_
  refine tri_v (opv_quoE rfl rfl (by omega) (by omega) (by omega)) rfl ?_
  refine tri_v (opv_mul rfl rfl (w64 (by omega) (by omega))) rfl ?_
  refine tri_v (opv_move rfl) rfl ?_
  refine tri_v (opv_quoE rfl rfl (by omega) (by omega) (by omega)) rfl ?_
  refine tri_v (opv_add rfl rfl (w64 (by omega) (by omega))) rfl ?_
  refine tri_v (opv_indexAddrS rfl rfl (by omega) (by omega) (by assumption) rfl) rfl ?_
  refine tri_v (opv_fieldAddrE rfl (by assumption) (by omega) rfl) rfl ?_
  refine tri_v (opv_indexAddrE rfl (by assumption) (by omega) rfl (by decide) (by decide)) rfl ?_
  refine tri_v (opv_loadE1 rfl (by assumption) rfl (by omega) rfl rfl) rfl ?_
  refine tri_v (opv_assign rfl) rfl ?_
  refine tri_nil ?_
  refine tri_then ?_
  refine tri_region ?_
  refine tri_v (opv_move rfl) rfl ?_
  refine tri_v (opv_fieldAddr rfl rfl) rfl ?_
  refine tri_v (opv_load1 rfl rfl rfl) rfl ?_
  refine tri_v (opv_move rfl) rfl ?_
  refine tri_v (opv_move rfl) rfl ?_
  refine tri_v (opv_remE rfl rfl (by omega) (by omega)) rfl ?_
  refine tri_v (opv_mul rfl rfl (w64 (by omega) (by omega))) rfl ?_
  refine tri_v (opv_move rfl) rfl ?_
  refine tri_v (opv_remE rfl rfl (by omega) (by omega)) rfl ?_
  refine tri_v (opv_add rfl rfl (w64 (by omega) (by omega))) rfl ?_
  refine tri_v (opv_indexAddrS rfl rfl (by omega) (by omega) (by assumption) rfl) rfl ?_
  refine tri_v (opv_fieldAddrE rfl (by assumption) (by omega) rfl) rfl ?_
  refine tri_v (opv_indexAddrE rfl (by assumption) (by omega) rfl (by decide) (by decide)) rfl ?_
  refine tri_v (opv_loadE1 rfl (by assumption) rfl (by omega) rfl rfl) rfl ?_
  refine tri_g (opg_buildSlice rfl rfl rfl rfl) rfl ?_
  rintro _ _ _ ⟨b44, rfl, rfl, rfl⟩
  refine tri_g (opg_appendB rfl rfl rfl rfl (by omega) rfl) rfl ?_
  rintro _ _ _ ⟨a12, c12, rfl, rfl, rfl⟩
  refine tri_drop ?_
  refine tri_v (opv_assign rfl) rfl ?_
  refine tri_nil ?_
  refine tri_inBlock ?_
  refine tri_then ?_
  refine tri_region ?_
  refine tri_v (opv_move rfl) rfl ?_
  refine tri_v (opv_add rfl rfl (w64 (by omega) (by omega))) rfl ?_
  refine tri_v (opv_assign rfl) rfl ?_
  refine tri_nil ?_
  refine tri_then ?_
  refine tri_round ?_
  refine tri_seq ?_
  refine tri_seq ?_
  refine tri_region ?_
  refine tri_v (opv_move rfl) rfl ?_
  refine tri_v (opv_lss rfl rfl) rfl ?_
  refine tri_nil ?_
  refine tri_then ?_
  refine tri_cond_is rfl (by decide) ?_
  refine tri_skip ?_
  refine tri_then ?_
  refine tri_seq ?_
  refine tri_block ?_
  refine tri_seq ?_
  refine tri_region ?_
  refine tri_v (opv_fieldAddr rfl rfl) rfl ?_
  refine tri_v (opv_load1 rfl rfl rfl) rfl ?_
  refine tri_v (opv_move rfl) rfl ?_
  refine tri_v (opv_move rfl) rfl ?_
  refine tri_v (opv_quoE rfl rfl (by omega) (by omega) (by omega)) rfl ?_
  refine tri_v (opv_mul rfl rfl (w64 (by omega) (by omega))) rfl ?_
  refine tri_v (opv_move rfl) rfl ?_
  refine tri_v (opv_quoE rfl rfl (by omega) (by omega) (by omega)) rfl ?_
  refine tri_v (opv_add rfl rfl (w64 (by omega) (by omega))) rfl ?_
  refine tri_v (opv_indexAddrS rfl rfl (by omega) (by omega) (by assumption) rfl) rfl ?_
  refine tri_v (opv_fieldAddrE rfl (by assumption) (by omega) rfl) rfl ?_
  refine tri_v (opv_indexAddrE rfl (by assumption) (by omega) rfl (by decide) (by decide)) rfl ?_
  refine tri_v (opv_loadE1 rfl (by assumption) rfl (by omega) rfl rfl) rfl ?_
  refine tri_v (opv_assign rfl) rfl ?_
  refine tri_nil ?_
  refine tri_then ?_
  refine tri_region ?_
  refine tri_v (opv_move rfl) rfl ?_
  refine tri_v (opv_fieldAddr rfl rfl) rfl ?_
  refine tri_v (opv_load1 rfl rfl rfl) rfl ?_
  refine tri_v (opv_move rfl) rfl ?_
  refine tri_v (opv_move rfl) rfl ?_
  refine tri_v (opv_remE rfl rfl (by omega) (by omega)) rfl ?_
  refine tri_v (opv_mul rfl rfl (w64 (by omega) (by omega))) rfl ?_
  refine tri_v (opv_move rfl) rfl ?_
  refine tri_v (opv_remE rfl rfl (by omega) (by omega)) rfl ?_
  refine tri_v (opv_add rfl rfl (w64 (by omega) (by omega))) rfl ?_
  refine tri_v (opv_indexAddrS rfl rfl (by omega) (by omega) (by assumption) rfl) rfl ?_
  refine tri_v (opv_fieldAddrE rfl (by assumption) (by omega) rfl) rfl ?_
  refine tri_v (opv_indexAddrE rfl (by assumption) (by omega) rfl (by decide) (by decide)) rfl ?_
  refine tri_v (opv_loadE1 rfl (by assumption) rfl (by omega) rfl rfl) rfl ?_
  refine tri_g (opg_buildSlice rfl rfl rfl rfl) rfl ?_
  rintro _ _ _ ⟨b44, rfl, rfl, rfl⟩
  refine tri_g (opg_appendB rfl rfl rfl rfl (by omega) rfl) rfl ?_
  rintro _ _ _ ⟨a13, c13, rfl, rfl, rfl⟩
  refine tri_drop ?_
  refine tri_v (opv_assign rfl) rfl ?_
  refine tri_nil ?_
  refine tri_inBlock ?_
  refine tri_then ?_
  refine tri_region ?_
  refine tri_v (opv_move rfl) rfl ?_
  refine tri_v (opv_add rfl rfl (w64 (by omega) (by omega))) rfl ?_
  refine tri_v (opv_assign rfl) rfl ?_
  refine tri_nil ?_
  refine tri_then ?_
  refine tri_round ?_
  refine tri_seq ?_
  refine tri_seq ?_
  refine tri_region ?_
  refine tri_v (opv_move rfl) rfl ?_
  refine tri_v (opv_lss rfl rfl) rfl ?_
  refine tri_nil ?_
  refine tri_then ?_
  refine tri_cond_not rfl (by decide) ?_
  refine tri_exit ?_
  refine tri_then_exit ?_
  refine tri_then_exit ?_
  refine tri_inBlock_hit rfl ?_
  refine tri_inBlock ?_
  refine tri_then ?_
  refine tri_region ?_
  refine tri_v (opv_move rfl) rfl ?_
  refine tri_v (opv_add rfl rfl (w64 (by omega) (by omega))) rfl ?_
  refine tri_v (opv_assign rfl) rfl ?_
  refine tri_nil ?_
  refine tri_then ?_
  refine tri_round ?_
  refine tri_seq ?_
  refine tri_seq ?_
  refine tri_region ?_
  refine tri_v (opv_move rfl) rfl ?_
  refine tri_v (opv_lss rfl rfl) rfl ?_
  refine tri_nil ?_
  refine tri_then ?_
  refine tri_cond_is rfl (by decide) ?_
  refine tri_skip ?_
  refine tri_then ?_
  refine tri_seq ?_
  refine tri_block ?_
  refine tri_seq ?_
  refine tri_region ?_
  refine tri_v (opv_assign rfl) rfl ?_
  refine tri_nil ?_
  refine tri_then ?_
  refine tri_block ?_
  refine tri_rounds 5 ?_
  refine tri_round ?_
  refine tri_seq ?_
  refine tri_seq ?_
  refine tri_region ?_
  refine tri_v (opv_move rfl) rfl ?_
  refine tri_v (opv_lss rfl rfl) rfl ?_
  refine tri_nil ?_
  refine tri_then ?_
  refine tri_cond_is rfl (by decide) ?_
  refine tri_skip ?_
  refine tri_then ?_
  refine tri_seq ?_
  refine tri_block ?_
  refine tri_seq ?_
  refine tri_region ?_
  refine tri_v (opv_fieldAddr rfl rfl) rfl ?_
  refine tri_v (opv_load1 rfl rfl rfl) rfl ?_
  refine tri_v (opv_move rfl) rfl ?_
  refine tri_v (opv_move rfl) rfl ?_
  refine tri_v (opv_quoE rfl rfl (by omega) (by omega) (by omega)) rfl ?_
  refine tri_v (opv_mul rfl rfl (w64 (by omega) (by omega))) rfl ?_
  refine tri_v (opv_move rfl) rfl ?_
  refine tri_v (opv_quoE rfl rfl (by omega) (by omega) (by omega)) rfl ?_
  refine tri_v (opv_add rfl rfl (w64 (by omega) (by omega))) rfl ?_
  refine tri_v (opv_indexAddrS rfl rfl (by omega) (by omega) (by assumption) rfl) rfl ?_
  refine tri_v (opv_fieldAddrE rfl (by assumption) (by omega) rfl) rfl ?_
  refine tri_v (opv_indexAddrE rfl (by assumption) (by omega) rfl (by decide) (by decide)) rfl ?_
  refine tri_v (opv_loadE1 rfl (by assumption) rfl (by omega) rfl rfl) rfl ?_
  refine tri_v (opv_assign rfl) rfl ?_
  refine tri_nil ?_
  refine tri_then ?_
  refine tri_region ?_
  refine tri_v (opv_move rfl) rfl ?_
  refine tri_v (opv_fieldAddr rfl rfl) rfl ?_
  refine tri_v (opv_load1 rfl rfl rfl) rfl ?_
  refine tri_v (opv_move rfl) rfl ?_
  refine tri_v (opv_move rfl) rfl ?_
  refine tri_v (opv_remE rfl rfl (by omega) (by omega)) rfl ?_
  refine tri_v (opv_mul rfl rfl (w64 (by omega) (by omega))) rfl ?_
  refine tri_v (opv_move rfl) rfl ?_
  refine tri_v (opv_remE rfl rfl (by omega) (by omega)) rfl ?_
  refine tri_v (opv_add rfl rfl (w64 (by omega) (by omega))) rfl ?_
  refine tri_v (opv_indexAddrS rfl rfl (by omega) (by omega) (by assumption) rfl) rfl ?_
  refine tri_v (opv_fieldAddrE rfl (by assumption) (by omega) rfl) rfl ?_
  refine tri_v (opv_indexAddrE rfl (by assumption) (by omega) rfl (by decide) (by decide)) rfl ?_
  refine tri_v (opv_loadE1 rfl (by assumption) rfl (by omega) rfl rfl) rfl ?_
  refine tri_g (opg_buildSlice rfl rfl rfl rfl) rfl ?_
  rintro _ _ _ ⟨b44, rfl, rfl, rfl⟩
  refine tri_g (opg_appendB rfl rfl rfl rfl (by omega) rfl) rfl ?_
  rintro _ _ _ ⟨a20, c20, rfl, rfl, rfl⟩
  refine tri_drop ?_
  refine tri_v (opv_assign rfl) rfl ?_
  refine tri_nil ?_
  refine tri_inBlock ?_
  refine tri_then ?_
  refine tri_region ?_
  refine tri_v (opv_move rfl) rfl ?_
  refine tri_v (opv_add rfl rfl (w64 (by omega) (by omega))) rfl ?_
  refine tri_v (opv_assign rfl) rfl ?_
  refine tri_nil ?_
  refine tri_then ?_
  refine tri_round ?_
  refine tri_seq ?_
  refine tri_seq ?_
  refine tri_region ?_
  refine tri_v (opv_move rfl) rfl ?_
  refine tri_v (opv_lss rfl rfl) rfl ?_
  refine tri_nil ?_
  refine tri_then ?_
  refine tri_cond_is rfl (by decide) ?_
  refine tri_skip ?_
  refine tri_then ?_
  refine tri_seq ?_
  refine tri_block ?_
  refine tri_seq ?_
  refine tri_region ?_
  refine tri_v (opv_fieldAddr rfl rfl) rfl ?_
  refine tri_v (opv_load1 rfl rfl rfl) rfl ?_
  refine tri_v (opv_move rfl) rfl ?_
  refine tri_v (opv_move rfl) rfl ?_
  refine tri_v (opv_quoE rfl rfl (by omega) (by omega) (by omega)) rfl ?_
  refine tri_v (opv_mul rfl rfl (w64 (by omega) (by omega))) rfl ?_
  refine tri_v (opv_move rfl) rfl ?_
  refine tri_v (opv_quoE rfl rfl (by omega) (by omega) (by omega)) rfl ?_
  refine tri_v (opv_add rfl rfl (w64 (by omega) (by omega))) rfl ?_
  refine tri_v (opv_indexAddrS rfl rfl (by omega) (by omega) (by assumption) rfl) rfl ?_
  refine tri_v (opv_fieldAddrE rfl (by assumption) (by omega) rfl) rfl ?_
  refine tri_v (opv_indexAddrE rfl (by assumption) (by omega) rfl (by decide) (by decide)) rfl ?_
  refine tri_v (opv_loadE1 rfl (by assumption) rfl (by omega) rfl rfl) rfl ?_
  refine tri_v (opv_assign rfl) rfl ?_
  refine tri_nil ?_
  refine tri_then ?_
  refine tri_region ?_
  refine tri_v (opv_move rfl) rfl ?_
  refine tri_v (opv_fieldAddr rfl rfl) rfl ?_
  refine tri_v (opv_load1 rfl rfl rfl) rfl ?_
  refine tri_v (opv_move rfl) rfl ?_
  refine tri_v (opv_move rfl) rfl ?_
  refine tri_v (opv_remE rfl rfl (by omega) (by omega)) rfl ?_
  refine tri_v (opv_mul rfl rfl (w64 (by omega) (by omega))) rfl ?_
  refine tri_v (opv_move rfl) rfl ?_
  refine tri_v (opv_remE rfl rfl (by omega) (by omega)) rfl ?_
  refine tri_v (opv_add rfl rfl (w64 (by omega) (by omega))) rfl ?_
  refine tri_v (opv_indexAddrS rfl rfl (by omega) (by omega) (by assumption) rfl) rfl ?_
  refine tri_v (opv_fieldAddrE rfl (by assumption) (by omega) rfl) rfl ?_
  refine tri_v (opv_indexAddrE rfl (by assumption) (by omega) rfl (by decide) (by decide)) rfl ?_
  refine tri_v (opv_loadE1 rfl (by assumption) rfl (by omega) rfl rfl) rfl ?_
  refine tri_g (opg_buildSlice rfl rfl rfl rfl) rfl ?_
  rintro _ _ _ ⟨b44, rfl, rfl, rfl⟩
  refine tri_g (opg_appendB rfl rfl rfl rfl (by omega) rfl) rfl ?_
  rintro _ _ _ ⟨a21, c21, rfl, rfl, rfl⟩
  refine tri_drop ?_
  refine tri_v (opv_assign rfl) rfl ?_
  refine tri_nil ?_
  refine tri_inBlock ?_
  refine tri_then ?_
  refine tri_region ?_
  refine tri_v (opv_move rfl) rfl ?_
  refine tri_v (opv_add rfl rfl (w64 (by omega) (by omega))) rfl ?_
  refine tri_v (opv_assign rfl) rfl ?_
  refine tri_nil ?_
  refine tri_then ?_
  refine tri_round ?_
  refine tri_seq ?_
  refine tri_seq ?_
  refine tri_region ?_
  refine tri_v (opv_move rfl) rfl ?_
  refine tri_v (opv_lss rfl rfl) rfl ?_
  refine tri_nil ?_
  refine tri_then ?_
  refine tri_cond_is rfl (by decide) ?_
  refine tri_skip ?_
  refine tri_then ?_
  refine tri_seq ?_
  refine tri_block ?_
  refine tri_seq ?_
  refine tri_region ?_
  refine tri_v (opv_fieldAddr rfl rfl) rfl ?_
  refine tri_v (opv_load1 rfl rfl rfl) rfl ?_
  refine tri_v (opv_move rfl) rfl ?_
  refine tri_v (opv_move rfl) rfl ?_
  refine tri_v (opv_quoE rfl rfl (by omega) (by omega) (by omega)) rfl ?_
  refine tri_v (opv_mul rfl rfl (w64 (by omega) (by omega))) rfl ?_
  refine tri_v (opv_move rfl) rfl ?_
  refine tri_v (opv_quoE rfl rfl (by omega) (by omega) (by omega)) rfl ?_
  refine tri_v (opv_add rfl rfl (w64 (by omega) (by omega))) rfl ?_
  refine tri_v (opv_indexAddrS rfl rfl (by omega) (by omega) (by assumption) rfl) rfl ?_
  refine tri_v (opv_fieldAddrE rfl (by assumption) (by omega) rfl) rfl ?_
  refine tri_v (opv_indexAddrE rfl (by assumption) (by omega) rfl (by decide) (by decide)) rfl ?_
  refine tri_v (opv_loadE1 rfl (by assumption) rfl (by omega) rfl rfl) rfl ?_
  refine tri_v (opv_assign rfl) rfl ?_
  refine tri_nil ?_
  refine tri_then ?_
  refine tri_region ?_
  refine tri_v (opv_move rfl) rfl ?_
  refine tri_v (opv_fieldAddr rfl rfl) rfl ?_
  refine tri_v (opv_load1 rfl rfl rfl) rfl ?_
  refine tri_v (opv_move rfl) rfl ?_
  refine tri_v (opv_move rfl) rfl ?_
  refine tri_v (opv_remE rfl rfl (by omega) (by omega)) rfl ?_
  refine tri_v (opv_mul rfl rfl (w64 (by omega) (by omega))) rfl ?_
  refine tri_v (opv_move rfl) rfl ?_
  refine tri_v (opv_remE rfl rfl (by omega) (by omega)) rfl ?_
  refine tri_v (opv_add rfl rfl (w64 (by omega) (by omega))) rfl ?_
  refine tri_v (opv_indexAddrS rfl rfl (by omega) (by omega) (by assumption) rfl) rfl ?_
  refine tri_v (opv_fieldAddrE rfl (by assumption) (by omega) rfl) rfl ?_
  refine tri_v (opv_indexAddrE rfl (by assumption) (by omega) rfl (by decide) (by decide)) rfl ?_
  refine tri_v (opv_loadE1 rfl (by assumption) rfl (by omega) rfl rfl) rfl ?_
  refine tri_g (opg_buildSlice rfl rfl rfl rfl) rfl ?_
  rintro _ _ _ ⟨b44, rfl, rfl, rfl⟩
  refine tri_g (opg_appendB rfl rfl rfl rfl (by omega) rfl) rfl ?_
  rintro _ _ _ ⟨a22, c22, rfl, rfl, rfl⟩
  refine tri_drop ?_
  refine tri_v (opv_assign rfl) rfl ?_
  refine tri_nil ?_
  refine tri_inBlock ?_
  refine tri_then ?_
  refine tri_region ?_
  refine tri_v (opv_move rfl) rfl ?_
  refine tri_v (opv_add rfl rfl (w64 (by omega) (by omega))) rfl ?_
  refine tri_v (opv_assign rfl) rfl ?_
  refine tri_nil ?_
  refine tri_then ?_
  refine tri_round ?_
  refine tri_seq ?_
  refine tri_seq ?_
  refine tri_region ?_
  refine tri_v (opv_move rfl) rfl ?_
  refine tri_v (opv_lss rfl rfl) rfl ?_
  refine tri_nil ?_
  refine tri_then ?_
  refine tri_cond_is rfl (by decide) ?_
  refine tri_skip ?_
  refine tri_then ?_
  refine tri_seq ?_
  refine tri_block ?_
  refine tri_seq ?_
  refine tri_region ?_
  refine tri_v (opv_fieldAddr rfl rfl) rfl ?_
  refine tri_v (opv_load1 rfl rfl rfl) rfl ?_
  refine tri_v (opv_move rfl) rfl ?_
  refine tri_v (opv_move rfl) rfl ?_
  refine tri_v (opv_quoE rfl rfl (by omega) (by omega) (by omega)) rfl ?_
  refine tri_v (opv_mul rfl rfl (w64 (by omega) (by omega))) rfl ?_
  refine tri_v (opv_move rfl) rfl ?_
  refine tri_v (opv_quoE rfl rfl (by omega) (by omega) (by omega)) rfl ?_
  refine tri_v (opv_add rfl rfl (w64 (by omega) (by omega))) rfl ?_
  refine tri_v (opv_indexAddrS rfl rfl (by omega) (by omega) (by assumption) rfl) rfl ?_
  refine tri_v (opv_fieldAddrE rfl (by assumption) (by omega) rfl) rfl ?_
  refine tri_v (opv_indexAddrE rfl (by assumption) (by omega) rfl (by decide) (by decide)) rfl ?_
  refine tri_v (opv_loadE1 rfl (by assumption) rfl (by omega) rfl rfl) rfl ?_
  refine tri_v (opv_assign rfl) rfl ?_
  refine tri_nil ?_
  refine tri_then ?_
  refine tri_region ?_
  refine tri_v (opv_move rfl) rfl ?_
  refine tri_v (opv_fieldAddr rfl rfl) rfl ?_
  refine tri_v (opv_load1 rfl rfl rfl) rfl ?_
  refine tri_v (opv_move rfl) rfl ?_
  refine tri_v (opv_move rfl) rfl ?_
  refine tri_v (opv_remE rfl rfl (by omega) (by omega)) rfl ?_
  refine tri_v (opv_mul rfl rfl (w64 (by omega) (by omega))) rfl ?_
  refine tri_v (opv_move rfl) rfl ?_
  refine tri_v (opv_remE rfl rfl (by omega) (by omega)) rfl ?_
  refine tri_v (opv_add rfl rfl (w64 (by omega) (by omega))) rfl ?_
  refine tri_v (opv_indexAddrS rfl rfl (by omega) (by omega) (by assumption) rfl) rfl ?_
  refine tri_v (opv_fieldAddrE rfl (by assumption) (by omega) rfl) rfl ?_
  refine tri_v (opv_indexAddrE rfl (by assumption) (by omega) rfl (by decide) (by decide)) rfl ?_
  refine tri_v (opv_loadE1 rfl (by assumption) rfl (by omega) rfl rfl) rfl ?_
  refine tri_g (opg_buildSlice rfl rfl rfl rfl) rfl ?_
  rintro _ _ _ ⟨b44, rfl, rfl, rfl⟩
  refine tri_g (opg_appendB rfl rfl rfl rfl (by omega) rfl) rfl ?_
  rintro _ _ _ ⟨a23, c23, rfl, rfl, rfl⟩
  refine tri_drop ?_
  refine tri_v (opv_assign rfl) rfl ?_
  refine tri_nil ?_
  refine tri_inBlock ?_
  refine tri_then ?_
  refine tri_region ?_
  refine tri_v (opv_move rfl) rfl ?_
  refine tri_v (opv_add rfl rfl (w64 (by omega) (by omega))) rfl ?_
  refine tri_v (opv_assign rfl) rfl ?_
  refine tri_nil ?_
  refine tri_then ?_
  refine tri_round ?_
  refine tri_seq ?_
  refine tri_seq ?_
  refine tri_region ?_
  refine tri_v (opv_move rfl) rfl ?_
  refine tri_v (opv_lss rfl rfl) rfl ?_
  refine tri_nil ?_
  refine tri_then ?_
  refine tri_cond_not rfl (by decide) ?_
  refine tri_exit ?_
  refine tri_then_exit ?_
  refine tri_then_exit ?_
  refine tri_inBlock_hit rfl ?_
  refine tri_inBlock ?_
  refine tri_then ?_
  refine tri_region ?_
  refine tri_v (opv_move rfl) rfl ?_
  refine tri_v (opv_add rfl rfl (w64 (by omega) (by omega))) rfl ?_
  refine tri_v (opv_assign rfl) rfl ?_
  refine tri_nil ?_
  refine tri_then ?_
  refine tri_round ?_
  refine tri_seq ?_
  refine tri_seq ?_
  refine tri_region ?_
  refine tri_v (opv_move rfl) rfl ?_
  refine tri_v (opv_lss rfl rfl) rfl ?_
  refine tri_nil ?_
  refine tri_then ?_
  refine tri_cond_is rfl (by decide) ?_
  refine tri_skip ?_
  refine tri_then ?_
  refine tri_seq ?_
  refine tri_block ?_
  refine tri_seq ?_
  refine tri_region ?_
  refine tri_v (opv_assign rfl) rfl ?_
  refine tri_nil ?_
  refine tri_then ?_
  refine tri_block ?_
  refine tri_rounds 5 ?_
  refine tri_round ?_
  refine tri_seq ?_
  refine tri_seq ?_
  refine tri_region ?_
  refine tri_v (opv_move rfl) rfl ?_
  refine tri_v (opv_lss rfl rfl) rfl ?_
  refine tri_nil ?_
  refine tri_then ?_
  refine tri_cond_is rfl (by decide) ?_
  refine tri_skip ?_
  refine tri_then ?_
  refine tri_seq ?_
  refine tri_block ?_
  refine tri_seq ?_
  refine tri_region ?_
  refine tri_v (opv_fieldAddr rfl rfl) rfl ?_
  refine tri_v (opv_load1 rfl rfl rfl) rfl ?_
  refine tri_v (opv_move rfl) rfl ?_
  refine tri_v (opv_move rfl) rfl ?_
  refine tri_v (opv_quoE rfl rfl (by omega) (by omega) (by omega)) rfl ?_
  refine tri_v (opv_mul rfl rfl (w64 (by omega) (by omega))) rfl ?_
  refine tri_v (opv_move rfl) rfl ?_
  refine tri_v (opv_quoE rfl rfl (by omega) (by omega) (by omega)) rfl ?_
  refine tri_v (opv_add rfl rfl (w64 (by omega) (by omega))) rfl ?_
  refine tri_v (opv_indexAddrS rfl rfl (by omega) (by omega) (by assumption) rfl) rfl ?_
  refine tri_v (opv_fieldAddrE rfl (by assumption) (by omega) rfl) rfl ?_
  refine tri_v (opv_indexAddrE rfl (by assumption) (by omega) rfl (by decide) (by decide)) rfl ?_
  refine tri_v (opv_loadE1 rfl (by assumption) rfl (by omega) rfl rfl) rfl ?_
  refine tri_v (opv_assign rfl) rfl ?_
  refine tri_nil ?_
  refine tri_then ?_
  refine tri_region ?_
  refine tri_v (opv_move rfl) rfl ?_
  refine tri_v (opv_fieldAddr rfl rfl) rfl ?_
  refine tri_v (opv_load1 rfl rfl rfl) rfl ?_
  refine tri_v (opv_move rfl) rfl ?_
  refine tri_v (opv_move rfl) rfl ?_
  refine tri_v (opv_remE rfl rfl (by omega) (by omega)) rfl ?_
  refine tri_v (opv_mul rfl rfl (w64 (by omega) (by omega))) rfl ?_
  refine tri_v (opv_move rfl) rfl ?_
  refine tri_v (opv_remE rfl rfl (by omega) (by omega)) rfl ?_
  refine tri_v (opv_add rfl rfl (w64 (by omega) (by omega))) rfl ?_
  refine tri_v (opv_indexAddrS rfl rfl (by omega) (by omega) (by assumption) rfl) rfl ?_
  refine tri_v (opv_fieldAddrE rfl (by assumption) (by omega) rfl) rfl ?_
  refine tri_v (opv_indexAddrE rfl (by assumption) (by omega) rfl (by decide) (by decide)) rfl ?_
  refine tri_v (opv_loadE1 rfl (by assumption) rfl (by omega) rfl rfl) rfl ?_
  refine tri_g (opg_buildSlice rfl rfl rfl rfl) rfl ?_
  rintro _ _ _ ⟨b44, rfl, rfl, rfl⟩
  refine tri_g (opg_appendB rfl rfl rfl rfl (by omega) rfl) rfl ?_
  rintro _ _ _ ⟨a30, c30, rfl, rfl, rfl⟩
  refine tri_drop ?_
  refine tri_v (opv_assign rfl) rfl ?_
  refine tri_nil ?_
  refine tri_inBlock ?_
  refine tri_then ?_
  refine tri_region ?_
  refine tri_v (opv_move rfl) rfl ?_
  refine tri_v (opv_add rfl rfl (w64 (by omega) (by omega))) rfl ?_
  refine tri_v (opv_assign rfl) rfl ?_
  refine tri_nil ?_
  refine tri_then ?_
  refine tri_round ?_
  refine tri_seq ?_
  refine tri_seq ?_
  refine tri_region ?_
  refine tri_v (opv_move rfl) rfl ?_
  refine tri_v (opv_lss rfl rfl) rfl ?_
  refine tri_nil ?_
  refine tri_then ?_
  refine tri_cond_is rfl (by decide) ?_
  refine tri_skip ?_
  refine tri_then ?_
  refine tri_seq ?_
  refine tri_block ?_
  refine tri_seq ?_
  refine tri_region ?_
  refine tri_v (opv_fieldAddr rfl rfl) rfl ?_
  refine tri_v (opv_load1 rfl rfl rfl) rfl ?_
  refine tri_v (opv_move rfl) rfl ?_
  refine tri_v (opv_move rfl) rfl ?_
  refine tri_v (opv_quoE rfl rfl (by omega) (by omega) (by omega)) rfl ?_
  refine tri_v (opv_mul rfl rfl (w64 (by omega) (by omega))) rfl ?_
  refine tri_v (opv_move rfl) rfl ?_
  refine tri_v (opv_quoE rfl rfl (by omega) (by omega) (by omega)) rfl ?_
  refine tri_v (opv_add rfl rfl (w64 (by omega) (by omega))) rfl ?_
  refine tri_v (opv_indexAddrS rfl rfl (by omega) (by omega) (by assumption) rfl) rfl ?_
  refine tri_v (opv_fieldAddrE rfl (by assumption) (by omega) rfl) rfl ?_
  refine tri_v (opv_indexAddrE rfl (by assumption) (by omega) rfl (by decide) (by decide)) rfl ?_
  refine tri_v (opv_loadE1 rfl (by assumption) rfl (by omega) rfl rfl) rfl ?_
  refine tri_v (opv_assign rfl) rfl ?_
  refine tri_nil ?_
  refine tri_then ?_
  refine tri_region ?_
  refine tri_v (opv_move rfl) rfl ?_
  refine tri_v (opv_fieldAddr rfl rfl) rfl ?_
  refine tri_v (opv_load1 rfl rfl rfl) rfl ?_
  refine tri_v (opv_move rfl) rfl ?_
  refine tri_v (opv_move rfl) rfl ?_
  refine tri_v (opv_remE rfl rfl (by omega) (by omega)) rfl ?_
  refine tri_v (opv_mul rfl rfl (w64 (by omega) (by omega))) rfl ?_
  refine tri_v (opv_move rfl) rfl ?_
  refine tri_v (opv_remE rfl rfl (by omega) (by omega)) rfl ?_
  refine tri_v (opv_add rfl rfl (w64 (by omega) (by omega))) rfl ?_
  refine tri_v (opv_indexAddrS rfl rfl (by omega) (by omega) (by assumption) rfl) rfl ?_
  refine tri_v (opv_fieldAddrE rfl (by assumption) (by omega) rfl) rfl ?_
  refine tri_v (opv_indexAddrE rfl (by assumption) (by omega) rfl (by decide) (by decide)) rfl ?_
  refine tri_v (opv_loadE1 rfl (by assumption) rfl (by omega) rfl rfl) rfl ?_
  refine tri_g (opg_buildSlice rfl rfl rfl rfl) rfl ?_
  rintro _ _ _ ⟨b44, rfl, rfl, rfl⟩
  refine tri_g (opg_appendB rfl rfl rfl rfl (by omega) rfl) rfl ?_
  rintro _ _ _ ⟨a31, c31, rfl, rfl, rfl⟩
  refine tri_drop ?_
  refine tri_v (opv_assign rfl) rfl ?_
  refine tri_nil ?_
  refine tri_inBlock ?_
  refine tri_then ?_
  refine tri_region ?_
  refine tri_v (opv_move rfl) rfl ?_
  refine tri_v (opv_add rfl rfl (w64 (by omega) (by omega))) rfl ?_
  refine tri_v (opv_assign rfl) rfl ?_
  refine tri_nil ?_
  refine tri_then ?_
  refine tri_round ?_
  refine tri_seq ?_
  refine tri_seq ?_
  refine tri_region ?_
  refine tri_v (opv_move rfl) rfl ?_
  refine tri_v (opv_lss rfl rfl) rfl ?_
  refine tri_nil ?_
  refine tri_then ?_
  refine tri_cond_is rfl (by decide) ?_
  refine tri_skip ?_
  refine tri_then ?_
  refine tri_seq ?_
  refine tri_block ?_
  refine tri_seq ?_
  refine tri_region ?_
  refine tri_v (opv_fieldAddr rfl rfl) rfl ?_
  refine tri_v (opv_load1 rfl rfl rfl) rfl ?_
  refine tri_v (opv_move rfl) rfl ?_
  refine tri_v (opv_move rfl) rfl ?_
  refine tri_v (opv_quoE rfl rfl (by omega) (by omega) (by omega)) rfl ?_
  refine tri_v (opv_mul rfl rfl (w64 (by omega) (by omega))) rfl ?_
  refine tri_v (opv_move rfl) rfl ?_
  refine tri_v (opv_quoE rfl rfl (by omega) (by omega) (by omega)) rfl ?_
  refine tri_v (opv_add rfl rfl (w64 (by omega) (by omega))) rfl ?_
  refine tri_v (opv_indexAddrS rfl rfl (by omega) (by omega) (by assumption) rfl) rfl ?_
  refine tri_v (opv_fieldAddrE rfl (by assumption) (by omega) rfl) rfl ?_
  refine tri_v (opv_indexAddrE rfl (by assumption) (by omega) rfl (by decide) (by decide)) rfl ?_
  refine tri_v (opv_loadE1 rfl (by assumption) rfl (by omega) rfl rfl) rfl ?_
  refine tri_v (opv_assign rfl) rfl ?_
  refine tri_nil ?_
  refine tri_then ?_
  refine tri_region ?_
  refine tri_v (opv_move rfl) rfl ?_
  refine tri_v (opv_fieldAddr rfl rfl) rfl ?_
  refine tri_v (opv_load1 rfl rfl rfl) rfl ?_
  refine tri_v (opv_move rfl) rfl ?_
  refine tri_v (opv_move rfl) rfl ?_
  refine tri_v (opv_remE rfl rfl (by omega) (by omega)) rfl ?_
  refine tri_v (opv_mul rfl rfl (w64 (by omega) (by omega))) rfl ?_
  refine tri_v (opv_move rfl) rfl ?_
  refine tri_v (opv_remE rfl rfl (by omega) (by omega)) rfl ?_
  refine tri_v (opv_add rfl rfl (w64 (by omega) (by omega))) rfl ?_
  refine tri_v (opv_indexAddrS rfl rfl (by omega) (by omega) (by assumption) rfl) rfl ?_
  refine tri_v (opv_fieldAddrE rfl (by assumption) (by omega) rfl) rfl ?_
  refine tri_v (opv_indexAddrE rfl (by assumption) (by omega) rfl (by decide) (by decide)) rfl ?_
  refine tri_v (opv_loadE1 rfl (by assumption) rfl (by omega) rfl rfl) rfl ?_
  refine tri_g (opg_buildSlice rfl rfl rfl rfl) rfl ?_
  rintro _ _ _ ⟨b44, rfl, rfl, rfl⟩
  refine tri_g (opg_appendB rfl rfl rfl rfl (by omega) rfl) rfl ?_
  rintro _ _ _ ⟨a32, c32, rfl, rfl, rfl⟩
  refine tri_drop ?_
  refine tri_v (opv_assign rfl) rfl ?_
  refine tri_nil ?_
  refine tri_inBlock ?_
  refine tri_then ?_
  refine tri_region ?_
  refine tri_v (opv_move rfl) rfl ?_
  refine tri_v (opv_add rfl rfl (w64 (by omega) (by omega))) rfl ?_
  refine tri_v (opv_assign rfl) rfl ?_
  refine tri_nil ?_
  refine tri_then ?_
  refine tri_round ?_
  refine tri_seq ?_
  refine tri_seq ?_
  refine tri_region ?_
  refine tri_v (opv_move rfl) rfl ?_
  refine tri_v (opv_lss rfl rfl) rfl ?_
  refine tri_nil ?_
  refine tri_then ?_
  refine tri_cond_is rfl (by decide) ?_
  refine tri_skip ?_
  refine tri_then ?_
  refine tri_seq ?_
  refine tri_block ?_
  refine tri_seq ?_
  refine tri_region ?_
  refine tri_v (opv_fieldAddr rfl rfl) rfl ?_
  refine tri_v (opv_load1 rfl rfl rfl) rfl ?_
  refine tri_v (opv_move rfl) rfl ?_
  refine tri_v (opv_move rfl) rfl ?_
  refine tri_v (opv_quoE rfl rfl (by omega) (by omega) (by omega)) rfl ?_
  refine tri_v (opv_mul rfl rfl (w64 (by omega) (by omega))) rfl ?_
  refine tri_v (opv_move rfl) rfl ?_
  refine tri_v (opv_quoE rfl rfl (by omega) (by omega) (by omega)) rfl ?_
  refine tri_v (opv_add rfl rfl (w64 (by omega) (by omega))) rfl ?_
  refine tri_v (opv_indexAddrS rfl rfl (by omega) (by omega) (by assumption) rfl) rfl ?_
  refine tri_v (opv_fieldAddrE rfl (by assumption) (by omega) rfl) rfl ?_
  refine tri_v (opv_indexAddrE rfl (by assumption) (by omega) rfl (by decide) (by decide)) rfl ?_
  refine tri_v (opv_loadE1 rfl (by assumption) rfl (by omega) rfl rfl) rfl ?_
  refine tri_v (opv_assign rfl) rfl ?_
  refine tri_nil ?_
  refine tri_then ?_
  refine tri_region ?_
  refine tri_v (opv_move rfl) rfl ?_
  refine tri_v (opv_fieldAddr rfl rfl) rfl ?_
  refine tri_v (opv_load1 rfl rfl rfl) rfl ?_
  refine tri_v (opv_move rfl) rfl ?_
  refine tri_v (opv_move rfl) rfl ?_
  refine tri_v (opv_remE rfl rfl (by omega) (by omega)) rfl ?_
  refine tri_v (opv_mul rfl rfl (w64 (by omega) (by omega))) rfl ?_
  refine tri_v (opv_move rfl) rfl ?_
  refine tri_v (opv_remE rfl rfl (by omega) (by omega)) rfl ?_
  refine tri_v (opv_add rfl rfl (w64 (by omega) (by omega))) rfl ?_
  refine tri_v (opv_indexAddrS rfl rfl (by omega) (by omega) (by assumption) rfl) rfl ?_
  refine tri_v (opv_fieldAddrE rfl (by assumption) (by omega) rfl) rfl ?_
  refine tri_v (opv_indexAddrE rfl (by assumption) (by omega) rfl (by decide) (by decide)) rfl ?_
  refine tri_v (opv_loadE1 rfl (by assumption) rfl (by omega) rfl rfl) rfl ?_
  refine tri_g (opg_buildSlice rfl rfl rfl rfl) rfl ?_
  rintro _ _ _ ⟨b44, rfl, rfl, rfl⟩
  refine tri_g (opg_appendB rfl rfl rfl rfl (by omega) rfl) rfl ?_
  rintro _ _ _ ⟨a33, c33, rfl, rfl, rfl⟩
  refine tri_drop ?_
  refine tri_v (opv_assign rfl) rfl ?_
  refine tri_nil ?_
  refine tri_inBlock ?_
  refine tri_then ?_
  refine tri_region ?_
  refine tri_v (opv_move rfl) rfl ?_
  refine tri_v (opv_add rfl rfl (w64 (by omega) (by omega))) rfl ?_
  refine tri_v (opv_assign rfl) rfl ?_
  refine tri_nil ?_
  refine tri_then ?_
  refine tri_round ?_
  refine tri_seq ?_
  refine tri_seq ?_
  refine tri_region ?_
  refine tri_v (opv_move rfl) rfl ?_
  refine tri_v (opv_lss rfl rfl) rfl ?_
  refine tri_nil ?_
  refine tri_then ?_
  refine tri_cond_not rfl (by decide) ?_
  refine tri_exit ?_
  refine tri_then_exit ?_
  refine tri_then_exit ?_
  refine tri_inBlock_hit rfl ?_
  refine tri_inBlock ?_
  refine tri_then ?_
  refine tri_region ?_
  refine tri_v (opv_move rfl) rfl ?_
  refine tri_v (opv_add rfl rfl (w64 (by omega) (by omega))) rfl ?_
  refine tri_v (opv_assign rfl) rfl ?_
  refine tri_nil ?_
  refine tri_then ?_
  refine tri_round ?_
  refine tri_seq ?_
  refine tri_seq ?_
  refine tri_region ?_
  refine tri_v (opv_move rfl) rfl ?_
  refine tri_v (opv_lss rfl rfl) rfl ?_
  refine tri_nil ?_
  refine tri_then ?_
  refine tri_cond_not rfl (by decide) ?_
  refine tri_exit ?_
  refine tri_then_exit ?_
  refine tri_then_exit ?_
  refine tri_inBlock_hit rfl ?_
  refine tri_then ?_
  refine tri_seq ?_
  refine tri_region ?_
  refine tri_v (opv_move rfl) rfl ?_
  refine tri_v (opv_assign rfl) rfl ?_
  refine tri_nil ?_
  refine tri_then ?_
  refine tri_ret ?_
  refine tri_rowEq (len' := 16) (cells' := encs (R8.s16 ns n)) rfl rfl ?_
  refine tri_freezeRow rfl fun I' hI hs' => ?_
  refine tri_end A Suf.h rfl (.cons (rv_tmp rfl) .nil) ⟨a33, c33, rfl, hs', rfl, hI⟩
set_option maxRecDepth 100000 in
theorem ref08_square {l : List Int} {a : Option Addr} {cap : Nat} {y x : Int} (hs : SlAt I a l) (hl : l.length = 16) (y0 : 0 ≤ y) (y1 : y ≤ 2) (x0 : 0 ≤ x) (x1 : x ≤ 2) :
    FnC Try.prog 63 [.slice a l.length cap, .int .i64 y, .int .i64 x].toArray A I (fun v A' I' => v = int4V (R8.g l (4 * y + x)) (R8.g l (4 * y + x + 1)) (R8.g l (4 * y + x + 4)) (R8.g l (4 * y + x + 5)) ∧ A = A' ∧ I = I') := by
  refine fn_enter3 Try.func63 rfl Try.ntmps63 rfl fun w0 => ?_
  refine tri_seq ?_
  refine tri_region ?_
  refine tri_g opg_alloc rfl ?_
  rintro _ _ _ ⟨b6, rfl, rfl, rfl⟩
  refine tri_nil ?_
  refine tri_then ?_
  refine tri_seq ?_
  skip
  refine tri_draw [0, 1, 2, 3, 4, 5, 6, 7, 8, 9, 10, 11, 12, 13, 14, 15, 16, 17, 18, 19, 20, 21, 22, 23, 24, 25, 26, 27, 28, 29, 30, 31, 32] rfl [_] rfl mixed ?_
  refine th_take rfl rfl (by kernel_rfl)  (opv_move rfl) ?_
  refine th_take rfl rfl (by kernel_rfl)  (opv_move rfl) ?_
  refine th_take rfl rfl (by kernel_rfl)  (opv_mul rfl rfl (w64 (by omega) (by omega))) ?_
  refine th_take rfl rfl (by kernel_rfl)  (opv_move rfl) ?_
  refine th_take rfl rfl (by kernel_rfl)  (opv_add rfl rfl (w64 (by omega) (by omega))) ?_
  refine th_take rfl rfl (by kernel_rfl)  (opv_indexAddrS rfl rfl (by omega) (by omega) (by assumption) rfl) ?_
  refine th_take rfl rfl (by kernel_rfl)  (opv_loadE1 rfl (by assumption) rfl (by omega) rfl rfl) ?_
  refine th_take rfl rfl (by kernel_rfl)  (opv_move rfl) ?_
  refine th_take rfl rfl (by kernel_rfl)  (opv_move rfl) ?_
  refine th_take rfl rfl (by kernel_rfl)  (opv_mul rfl rfl (w64 (by omega) (by omega))) ?_
  refine th_take rfl rfl (by kernel_rfl)  (opv_move rfl) ?_
  refine th_take rfl rfl (by kernel_rfl)  (opv_add rfl rfl (w64 (by omega) (by omega))) ?_
  refine th_take rfl rfl (by kernel_rfl)  (opv_add rfl rfl (w64 (by omega) (by omega))) ?_
  refine th_take rfl rfl (by kernel_rfl)  (opv_indexAddrS rfl rfl (by omega) (by omega) (by assumption) rfl) ?_
  refine th_take rfl rfl (by kernel_rfl)  (opv_loadE1 rfl (by assumption) rfl (by omega) rfl rfl) ?_
  refine th_take rfl rfl (by kernel_rfl)  (opv_move rfl) ?_
  refine th_take rfl rfl (by kernel_rfl)  (opv_move rfl) ?_
  refine th_take rfl rfl (by kernel_rfl)  (opv_mul rfl rfl (w64 (by omega) (by omega))) ?_
  refine th_take rfl rfl (by kernel_rfl)  (opv_move rfl) ?_
  refine th_take rfl rfl (by kernel_rfl)  (opv_add rfl rfl (w64 (by omega) (by omega))) ?_
  refine th_take rfl rfl (by kernel_rfl)  (opv_add rfl rfl (w64 (by omega) (by omega))) ?_
  refine th_take rfl rfl (by kernel_rfl)  (opv_indexAddrS rfl rfl (by omega) (by omega) (by assumption) rfl) ?_
  refine th_take rfl rfl (by kernel_rfl)  (opv_loadE1 rfl (by assumption) rfl (by omega) rfl rfl) ?_
  refine th_take rfl rfl (by kernel_rfl)  (opv_move rfl) ?_
  refine th_take rfl rfl (by kernel_rfl)  (opv_move rfl) ?_
  refine th_take rfl rfl (by kernel_rfl)  (opv_mul rfl rfl (w64 (by omega) (by omega))) ?_
  refine th_take rfl rfl (by kernel_rfl)  (opv_move rfl) ?_
  refine th_take rfl rfl (by kernel_rfl)  (opv_add rfl rfl (w64 (by omega) (by omega))) ?_
  refine th_take rfl rfl (by kernel_rfl)  (opv_add rfl rfl (w64 (by omega) (by omega))) ?_
  refine th_take rfl rfl (by kernel_rfl)  (opv_indexAddrS rfl rfl (by omega) (by omega) (by assumption) rfl) ?_
  refine th_take rfl rfl (by kernel_rfl)  (opv_loadE1 rfl (by assumption) rfl (by omega) rfl rfl) ?_
  refine th_take rfl rfl (by kernel_rfl)  (opv_buildA rfl rfl) ?_
  refine th_one (by kernel_rfl) (step_m rfl rfl (opg_store rfl rfl rfl rfl rfl rfl) ?_)
  rintro _ _ _ ⟨rfl, rfl⟩
  refine ⟨Suf.h, (fun _ h => h), ?_⟩
  refine th_done (by kernel_rfl) ?_
  refine tri_then ?_
  refine tri_ret ?_
  refine tri_end A Suf.h rfl (.cons (rv_cellA rfl rfl rfl) .nil) ⟨rfl, rfl, rfl⟩
end Go.GL

set_option linter.unusedVariables false
namespace Go.GL
open Go.Proofs
attribute [local irreducible] wpList Code.wp Exit.then Exit.inBlock Ends Tri TriH OpV OpG FnC epf wpAnyH
variable {A : List Asrt} {I : List Chunk}
set_option maxRecDepth 100000 in
theorem life_lives {alive : Bool} {k : Int} : FnC Try.prog 65 [.bool alive, .int .i64 k].toArray A I (fun v A' I' => v = .bool (R2.lives alive k) ∧ A = A' ∧ I = I') := by
  refine fn_enter2 Try.func65 rfl Try.ntmps65 rfl fun w0 => ?_
  refine tri_seq ?_
  refine tri_region ?_
  refine tri_v (opv_assign rfl) rfl ?_
  refine tri_nil ?_
  refine tri_then ?_
  refine tri_seq ?_
  refine tri_seq ?_
  refine tri_region ?_
  refine tri_v (opv_move rfl) rfl ?_
  refine tri_nil ?_
  refine tri_then ?_
  refine tri_block ?_
  refine tri_seq ?_
  refine tri_region ?_
  refine tri_v (opv_eql rfl rfl) rfl ?_
  refine tri_v (opv_assign rfl) rfl ?_
  refine tri_nil ?_
  refine tri_then ?_
  refine tri_cond_dec rfl (fun h1 => ?_) (fun h1 => ?_)
  · refine tri_seq ?_
    refine tri_region ?_
    refine tri_v (opv_move rfl) rfl ?_
    refine tri_v (opv_assign rfl) rfl ?_
    refine tri_nil ?_
    refine tri_then ?_
    refine tri_ret ?_
    refine tri_inBlock_ret ?_
    refine tri_then_ret ?_
    refine tri_end A Suf.h rfl (.cons (rv_tmp rfl) .nil) ⟨congrArg Value.bool ?_, rfl, rfl⟩
    have h3 : ¬ k = 3 := by omega
    simp [R2.lives, h1]
  · refine tri_seq ?_
    refine tri_region ?_
    refine tri_v (opv_eql rfl rfl) rfl ?_
    refine tri_v (opv_assign rfl) rfl ?_
    refine tri_nil ?_
    refine tri_then ?_
    refine tri_cond_dec rfl (fun h2 => ?_) (fun h2 => ?_)
    · refine tri_seq ?_
      refine tri_region ?_
      refine tri_v (opv_assign rfl) rfl ?_
      refine tri_nil ?_
      refine tri_then ?_
      refine tri_ret ?_
      refine tri_inBlock_ret ?_
      refine tri_then_ret ?_
      refine tri_end A Suf.h rfl (.cons (rv_tmp rfl) .nil) ⟨congrArg Value.bool ?_, rfl, rfl⟩
      simp [R2.lives, h2]
    · refine tri_skip ?_
      refine tri_inBlock ?_
      refine tri_then ?_
      refine tri_seq ?_
      refine tri_region ?_
      refine tri_v (opv_assign rfl) rfl ?_
      refine tri_nil ?_
      refine tri_then ?_
      refine tri_ret ?_
      refine tri_end A Suf.h rfl (.cons (rv_tmp rfl) .nil) ⟨congrArg Value.bool ?_, rfl, rfl⟩
      simp [R2.lives, h1, h2]
theorem R8.g_off (l : List Int) (i : Int) : l.getD (0 + i.toNat * 1) default = R8.g l i := by
  rw [Nat.zero_add, Nat.mul_one]; rfl
set_option maxRecDepth 100000 in
theorem base_square {l : List Int} {y x : Int} (hl : l.length = 16) (y0 : 0 ≤ y) (y1 : y ≤ 2) (x0 : 0 ≤ x) (x1 : x ≤ 2) :
    FnC Try.prog 61 [.agg (ints l).toArray, .int .i64 y, .int .i64 x].toArray A I (fun v A' I' => v = int4V (R8.g l (4 * y + x)) (R8.g l (4 * y + x + 1)) (R8.g l (4 * y + x + 4)) (R8.g l (4 * y + x + 5)) ∧ A = A' ∧ I = I') := by
  skip
  refine fn_enter3 Try.func61 rfl Try.ntmps61 rfl fun w0 => ?_
  refine tri_seq ?_
  refine tri_region ?_
  refine tri_g (opg_box_agg rfl) rfl ?_
  rintro _ _ _ ⟨b3, rfl, rfl, rfl⟩
  refine tri_g opg_alloc rfl ?_
  rintro _ _ _ ⟨b6, rfl, rfl, rfl⟩
  refine tri_nil ?_
  refine tri_then ?_
  refine tri_seq ?_
  refine tri_region ?_
  refine tri_v (opv_move rfl) rfl ?_
  refine tri_v (opv_mul rfl rfl (w64 (by omega) (by omega))) rfl ?_
  refine tri_v (opv_move rfl) rfl ?_
  refine tri_v (opv_add rfl rfl (w64 (by omega) (by omega))) rfl ?_
  refine tri_v (opv_assign rfl) rfl ?_
  refine tri_nil ?_
  refine tri_then ?_
  refine tri_seq ?_
  skip
  refine tri_draw [0, 1, 2, 3, 4, 5, 6, 7, 8, 9, 10, 11, 12, 13, 14, 15, 16, 17] rfl [_] rfl mixed ?_
  refine th_take rfl rfl (by kernel_rfl)  (opv_move rfl) ?_
  refine th_take rfl rfl (by kernel_rfl)  (opv_indexAddrA rfl rfl (by omega) (by omega)) ?_
  refine th_take rfl rfl (by kernel_rfl)  (opv_loadIX rfl rfl (by omega)) ?_
  refine th_take rfl rfl (by kernel_rfl)  (opv_move rfl) ?_
  refine th_take rfl rfl (by kernel_rfl)  (opv_add rfl rfl (w64 (by omega) (by omega))) ?_
  refine th_take rfl rfl (by kernel_rfl)  (opv_indexAddrA rfl rfl (by omega) (by omega)) ?_
  refine th_take rfl rfl (by kernel_rfl)  (opv_loadIX rfl rfl (by omega)) ?_
  refine th_take rfl rfl (by kernel_rfl)  (opv_move rfl) ?_
  refine th_take rfl rfl (by kernel_rfl)  (opv_add rfl rfl (w64 (by omega) (by omega))) ?_
  refine th_take rfl rfl (by kernel_rfl)  (opv_indexAddrA rfl rfl (by omega) (by omega)) ?_
  refine th_take rfl rfl (by kernel_rfl)  (opv_loadIX rfl rfl (by omega)) ?_
  refine th_take rfl rfl (by kernel_rfl)  (opv_move rfl) ?_
  refine th_take rfl rfl (by kernel_rfl)  (opv_add rfl rfl (w64 (by omega) (by omega))) ?_
  refine th_take rfl rfl (by kernel_rfl)  (opv_add rfl rfl (w64 (by omega) (by omega))) ?_
  refine th_take rfl rfl (by kernel_rfl)  (opv_indexAddrA rfl rfl (by omega) (by omega)) ?_
  refine th_take rfl rfl (by kernel_rfl)  (opv_loadIX rfl rfl (by omega)) ?_
  refine th_take rfl rfl (by kernel_rfl)  (opv_buildA rfl rfl) ?_
  refine th_one (by kernel_rfl) (step_m rfl rfl (opg_store rfl rfl rfl rfl rfl rfl) ?_)
  rintro _ _ _ ⟨rfl, rfl⟩
  refine ⟨Suf.h, (fun _ h => h), ?_⟩
  refine th_done (by kernel_rfl) ?_
  refine tri_then ?_
  refine tri_ret ?_
  refine tri_end A Suf.h rfl (.cons (rv_cellA rfl rfl rfl) .nil) ⟨?_, rfl, rfl⟩
  simp only [R8.g_off, retV]
  rw [show y * 4 = 4 * y by omega, show 4 * y + x + 4 + 1 = 4 * y + x + 5 by omega]
def R8.ar (l : List Int) (i : Int) : Int := 0 + (R8.g l (i + -4 - 1) + R8.g l (i + -4) + R8.g l (i + -4 + 1)) + (R8.g l (i + 0 - 1) + R8.g l (i + 0) + R8.g l (i + 0 + 1)) + (R8.g l (i + 4 - 1) + R8.g l (i + 4) + R8.g l (i + 4 + 1)) - R8.g l i
set_option maxHeartbeats 1000000 in
set_option maxRecDepth 100000 in
theorem base_around {l : List Int} {i : Int} (hl : l.length = 16) (hb : ∀ i, 0 ≤ R8.g l i ∧ R8.g l i ≤ 1) (i0 : 5 ≤ i) (i1 : i ≤ 10) :
    FnC Try.prog 66 [.agg (ints l).toArray, .int .i64 i].toArray A I (fun v A' I' => v = .int .i64 (R8.ar l i) ∧ A = A' ∧ I = I') := by
  have hb' : ∀ j : Int, 0 ≤ l.getD (0 + j.toNat * 1) default ∧ l.getD (0 + j.toNat * 1) default ≤ 1 := fun j => by rw [R8.g_off]; exact hb j
  skip
  refine fn_enter2 Try.func66 rfl Try.ntmps66 rfl fun w0 => ?_
  refine tri_seq ?_
  refine tri_region ?_
  refine tri_g (opg_box_agg rfl) rfl ?_
  rintro _ _ _ ⟨b2, rfl, rfl, rfl⟩
  refine tri_v (opv_assign rfl) rfl ?_
  refine tri_nil ?_
  refine tri_then ?_
  refine tri_seq ?_
  refine tri_seq ?_
  refine tri_region ?_
  refine tri_v (opv_assign rfl) rfl ?_
  refine tri_nil ?_
  refine tri_then ?_
  refine tri_block ?_
  refine tri_rounds 4 ?_
  refine tri_round ?_
  refine tri_seq ?_
  refine tri_seq ?_
  refine tri_region ?_
  refine tri_v (opv_move rfl) rfl ?_
  refine tri_v (opv_leq rfl rfl) rfl ?_
  refine tri_nil ?_
  refine tri_then ?_
  refine tri_cond_is rfl (by decide) ?_
  have a0 := hb' (i + (-4) - 1)
  have b0 := hb' (i + (-4))
  have c0 := hb' (i + (-4) + 1)
  refine tri_skip ?_
  refine tri_then ?_
  refine tri_seq ?_
  refine tri_block ?_
  refine tri_draw [0, 1, 2, 3, 4, 5, 6, 7, 8, 9, 10, 11, 12, 13, 14, 15, 16, 17, 18, 19, 20, 21] rfl [] rfl mixed ?_
  refine th_take rfl rfl (by kernel_rfl)  (opv_move rfl) ?_
  refine th_take rfl rfl (by kernel_rfl)  (opv_move rfl) ?_
  refine th_take rfl rfl (by kernel_rfl)  (opv_move rfl) ?_
  refine th_take rfl rfl (by kernel_rfl)  (opv_add rfl rfl (w64 (by omega) (by omega))) ?_
  refine th_take rfl rfl (by kernel_rfl)  (opv_sub rfl rfl (w64 (by omega) (by omega))) ?_
  refine th_take rfl rfl (by kernel_rfl)  (opv_indexAddrA rfl rfl (by omega) (by omega)) ?_
  refine th_take rfl rfl (by kernel_rfl)  (opv_loadIX rfl rfl (by omega)) ?_
  refine th_take rfl rfl (by kernel_rfl)  (opv_move rfl) ?_
  refine th_take rfl rfl (by kernel_rfl)  (opv_move rfl) ?_
  refine th_take rfl rfl (by kernel_rfl)  (opv_add rfl rfl (w64 (by omega) (by omega))) ?_
  refine th_take rfl rfl (by kernel_rfl)  (opv_indexAddrA rfl rfl (by omega) (by omega)) ?_
  refine th_take rfl rfl (by kernel_rfl)  (opv_loadIX rfl rfl (by omega)) ?_
  refine th_take rfl rfl (by kernel_rfl)  (opv_add rfl rfl (w64 (by omega) (by omega))) ?_
  refine th_take rfl rfl (by kernel_rfl)  (opv_move rfl) ?_
  refine th_take rfl rfl (by kernel_rfl)  (opv_move rfl) ?_
  refine th_take rfl rfl (by kernel_rfl)  (opv_add rfl rfl (w64 (by omega) (by omega))) ?_
  refine th_take rfl rfl (by kernel_rfl)  (opv_add rfl rfl (w64 (by omega) (by omega))) ?_
  refine th_take rfl rfl (by kernel_rfl)  (opv_indexAddrA rfl rfl (by omega) (by omega)) ?_
  refine th_take rfl rfl (by kernel_rfl)  (opv_loadIX rfl rfl (by omega)) ?_
  refine th_take rfl rfl (by kernel_rfl)  (opv_add rfl rfl (w64 (by omega) (by omega))) ?_
  refine th_take rfl rfl (by kernel_rfl)  (opv_add rfl rfl (w64 (by omega) (by omega))) ?_
  refine th_take rfl rfl (by kernel_rfl)  (opv_assign rfl) ?_
  refine th_done (by kernel_rfl) ?_
  refine tri_inBlock ?_
  refine tri_then ?_
  refine tri_region ?_
  refine tri_v (opv_move rfl) rfl ?_
  refine tri_v (opv_add rfl rfl (w64 (by omega) (by omega))) rfl ?_
  refine tri_v (opv_assign rfl) rfl ?_
  refine tri_nil ?_
  refine tri_then ?_
  refine tri_round ?_
  refine tri_seq ?_
  refine tri_seq ?_
  refine tri_region ?_
  refine tri_v (opv_move rfl) rfl ?_
  refine tri_v (opv_leq rfl rfl) rfl ?_
  refine tri_nil ?_
  refine tri_then ?_
  skip
  refine tri_cond_is rfl (by decide) ?_
  have a4 := hb' (i + (-4 + 4) - 1)
  have b4 := hb' (i + (-4 + 4))
  have c4 := hb' (i + (-4 + 4) + 1)
  refine tri_skip ?_
  refine tri_then ?_
  refine tri_seq ?_
  refine tri_block ?_
  refine tri_draw [0, 1, 2, 3, 4, 5, 6, 7, 8, 9, 10, 11, 12, 13, 14, 15, 16, 17, 18, 19, 20, 21] rfl [] rfl mixed ?_
  refine th_take rfl rfl (by kernel_rfl)  (opv_move rfl) ?_
  refine th_take rfl rfl (by kernel_rfl)  (opv_move rfl) ?_
  refine th_take rfl rfl (by kernel_rfl)  (opv_move rfl) ?_
  refine th_take rfl rfl (by kernel_rfl)  (opv_add rfl rfl (w64 (by omega) (by omega))) ?_
  refine th_take rfl rfl (by kernel_rfl)  (opv_sub rfl rfl (w64 (by omega) (by omega))) ?_
  refine th_take rfl rfl (by kernel_rfl)  (opv_indexAddrA rfl rfl (by omega) (by omega)) ?_
  refine th_take rfl rfl (by kernel_rfl)  (opv_loadIX rfl rfl (by omega)) ?_
  refine th_take rfl rfl (by kernel_rfl)  (opv_move rfl) ?_
  refine th_take rfl rfl (by kernel_rfl)  (opv_move rfl) ?_
  refine th_take rfl rfl (by kernel_rfl)  (opv_add rfl rfl (w64 (by omega) (by omega))) ?_
  refine th_take rfl rfl (by kernel_rfl)  (opv_indexAddrA rfl rfl (by omega) (by omega)) ?_
  refine th_take rfl rfl (by kernel_rfl)  (opv_loadIX rfl rfl (by omega)) ?_
  refine th_take rfl rfl (by kernel_rfl)  (opv_add rfl rfl (w64 (by omega) (by omega))) ?_
  refine th_take rfl rfl (by kernel_rfl)  (opv_move rfl) ?_
  refine th_take rfl rfl (by kernel_rfl)  (opv_move rfl) ?_
  refine th_take rfl rfl (by kernel_rfl)  (opv_add rfl rfl (w64 (by omega) (by omega))) ?_
  refine th_take rfl rfl (by kernel_rfl)  (opv_add rfl rfl (w64 (by omega) (by omega))) ?_
  refine th_take rfl rfl (by kernel_rfl)  (opv_indexAddrA rfl rfl (by omega) (by omega)) ?_
  refine th_take rfl rfl (by kernel_rfl)  (opv_loadIX rfl rfl (by omega)) ?_
  refine th_take rfl rfl (by kernel_rfl)  (opv_add rfl rfl (w64 (by omega) (by omega))) ?_
  refine th_take rfl rfl (by kernel_rfl)  (opv_add rfl rfl (w64 (by omega) (by omega))) ?_
  refine th_take rfl rfl (by kernel_rfl)  (opv_assign rfl) ?_
  refine th_done (by kernel_rfl) ?_
  refine tri_inBlock ?_
  refine tri_then ?_
  refine tri_region ?_
  refine tri_v (opv_move rfl) rfl ?_
  refine tri_v (opv_add rfl rfl (w64 (by omega) (by omega))) rfl ?_
  refine tri_v (opv_assign rfl) rfl ?_
  refine tri_nil ?_
  refine tri_then ?_
  refine tri_round ?_
  refine tri_seq ?_
  refine tri_seq ?_
  refine tri_region ?_
  refine tri_v (opv_move rfl) rfl ?_
  refine tri_v (opv_leq rfl rfl) rfl ?_
  refine tri_nil ?_
  refine tri_then ?_
  skip
  refine tri_cond_is rfl (by decide) ?_
  have a8 := hb' (i + (-4 + 4 + 4) - 1)
  have b8 := hb' (i + (-4 + 4 + 4))
  have c8 := hb' (i + (-4 + 4 + 4) + 1)
  refine tri_skip ?_
  refine tri_then ?_
  refine tri_seq ?_
  refine tri_block ?_
  refine tri_draw [0, 1, 2, 3, 4, 5, 6, 7, 8, 9, 10, 11, 12, 13, 14, 15, 16, 17, 18, 19, 20, 21] rfl [] rfl mixed ?_
  refine th_take rfl rfl (by kernel_rfl)  (opv_move rfl) ?_
  refine th_take rfl rfl (by kernel_rfl)  (opv_move rfl) ?_
  refine th_take rfl rfl (by kernel_rfl)  (opv_move rfl) ?_
  refine th_take rfl rfl (by kernel_rfl)  (opv_add rfl rfl (w64 (by omega) (by omega))) ?_
  refine th_take rfl rfl (by kernel_rfl)  (opv_sub rfl rfl (w64 (by omega) (by omega))) ?_
  refine th_take rfl rfl (by kernel_rfl)  (opv_indexAddrA rfl rfl (by omega) (by omega)) ?_
  refine th_take rfl rfl (by kernel_rfl)  (opv_loadIX rfl rfl (by omega)) ?_
  refine th_take rfl rfl (by kernel_rfl)  (opv_move rfl) ?_
  refine th_take rfl rfl (by kernel_rfl)  (opv_move rfl) ?_
  refine th_take rfl rfl (by kernel_rfl)  (opv_add rfl rfl (w64 (by omega) (by omega))) ?_
  refine th_take rfl rfl (by kernel_rfl)  (opv_indexAddrA rfl rfl (by omega) (by omega)) ?_
  refine th_take rfl rfl (by kernel_rfl)  (opv_loadIX rfl rfl (by omega)) ?_
  refine th_take rfl rfl (by kernel_rfl)  (opv_add rfl rfl (w64 (by omega) (by omega))) ?_
  refine th_take rfl rfl (by kernel_rfl)  (opv_move rfl) ?_
  refine th_take rfl rfl (by kernel_rfl)  (opv_move rfl) ?_
  refine th_take rfl rfl (by kernel_rfl)  (opv_add rfl rfl (w64 (by omega) (by omega))) ?_
  refine th_take rfl rfl (by kernel_rfl)  (opv_add rfl rfl (w64 (by omega) (by omega))) ?_
  refine th_take rfl rfl (by kernel_rfl)  (opv_indexAddrA rfl rfl (by omega) (by omega)) ?_
  refine th_take rfl rfl (by kernel_rfl)  (opv_loadIX rfl rfl (by omega)) ?_
  refine th_take rfl rfl (by kernel_rfl)  (opv_add rfl rfl (w64 (by omega) (by omega))) ?_
  refine th_take rfl rfl (by kernel_rfl)  (opv_add rfl rfl (w64 (by omega) (by omega))) ?_
  refine th_take rfl rfl (by kernel_rfl)  (opv_assign rfl) ?_
  refine th_done (by kernel_rfl) ?_
  refine tri_inBlock ?_
  refine tri_then ?_
  refine tri_region ?_
  refine tri_v (opv_move rfl) rfl ?_
  refine tri_v (opv_add rfl rfl (w64 (by omega) (by omega))) rfl ?_
  refine tri_v (opv_assign rfl) rfl ?_
  refine tri_nil ?_
  refine tri_then ?_
  refine tri_round ?_
  refine tri_seq ?_
  refine tri_seq ?_
  refine tri_region ?_
  refine tri_v (opv_move rfl) rfl ?_
  refine tri_v (opv_leq rfl rfl) rfl ?_
  refine tri_nil ?_
  refine tri_then ?_
  refine tri_cond_not rfl (by decide) ?_
  have d0 := hb' i
  refine tri_exit ?_
  refine tri_then_exit ?_
  refine tri_then_exit ?_
  refine tri_inBlock_hit rfl ?_
  refine tri_then ?_
  refine tri_seq ?_
  refine tri_region ?_
  refine tri_v (opv_move rfl) rfl ?_
  refine tri_v (opv_move rfl) rfl ?_
  refine tri_v (opv_indexAddrA rfl rfl (by omega) (by omega)) rfl ?_
  refine tri_v (opv_loadIX rfl rfl (by omega)) rfl ?_
  refine tri_v (opv_sub rfl rfl (w64 (by omega) (by omega))) rfl ?_
  refine tri_v (opv_assign rfl) rfl ?_
  refine tri_nil ?_
  refine tri_then ?_
  refine tri_ret ?_
  refine tri_end A Suf.h rfl (.cons (rv_tmp rfl) .nil) ⟨?_, rfl, rfl⟩
  simp only [R8.g_off, retV]
  rfl
end Go.GL

set_option linter.unusedVariables false
namespace Go.GL
open Go.Proofs
attribute [local irreducible] wpList Code.wp Exit.then Exit.inBlock Ends Tri TriH OpV OpG FnC epf wpAnyH
variable {A : List Asrt} {I : List Chunk}
theorem R8.s16_len (ns : List Node) (n : Int) : (R8.s16 ns n).length = 16 := rfl
set_option maxRecDepth 100000 in
theorem ref08_middle {ns : List Node} {a : Option Addr} {cap : Nat} {room n : Int} (hs : StA I a cap ns) (hg : R6.Good ns room) (hk : R8.Kid ns n) :
    FnC Try.prog 35 [storeV a ns.length cap room, .int .i64 n].toArray A I (StoreR (R8.putSq ns room (R8.s16 ns n) 1 1) room A I) := by
  skip
  refine fn_enter2 Try.func35 rfl Try.ntmps35 rfl fun w0 => ?_
  skip
  refine tri_seq ?_
  refine tri_region ?_
  refine tri_g (opg_box_agg rfl) rfl ?_
  rintro _ _ _ ⟨b2, rfl, rfl, rfl⟩
  refine tri_g opg_alloc rfl ?_
  rintro _ _ _ ⟨b4, rfl, rfl, rfl⟩
  refine tri_v (opv_assign rfl) rfl ?_
  refine tri_v (opv_assign rfl) rfl ?_
  refine tri_nil ?_
  refine tri_then ?_
  refine tri_seq ?_
  refine tri_draw [0, 1, 2, 3, 4, 5, 6, 7, 8, 9, 10, 11] rfl [_] rfl mixed ?_
  refine th_take rfl rfl (by kernel_rfl)  (opv_loadA rfl rfl rfl) ?_
  refine th_take rfl rfl (by kernel_rfl)  (opv_loadA rfl rfl rfl) ?_
  refine th_take rfl rfl (by kernel_rfl)  (opv_move rfl) ?_
  refine th_one (by kernel_rfl) (step_m rfl rfl (opg_call (xs := [_, _]) rfl (ref08_sixteen hs.sl hk)) ?_)
  rintro _ _ J1 ⟨a1, c1, rfl, hq1, rfl, hJ1⟩
  refine ⟨Suf.h, hJ1, ?_⟩
  skip
  refine th_one (by kernel_rfl) (step_m rfl rfl (opg_call (xs := [_, _, _]) rfl (ref08_square hq1 rfl (by omega) (by omega) (by omega) (by omega))) ?_)
  rintro _ _ _ ⟨rfl, rfl, rfl⟩
  refine ⟨Suf.h, hJ1, ?_⟩
  skip
  refine th_one (by kernel_rfl) (step_m rfl rfl (opg_call (xs := [_, _]) rfl (ref06_put (hs.mono hJ1) hg.len hg.mod)) ?_)
  rintro _ _ J2 ⟨a2, c2, rfl, hq2, rfl, hJ2⟩
  refine ⟨Suf.h, fun _ h => hJ2 (hJ1 h), ?_⟩
  have hJ3 : I ⊆ J2 := fun _ h => hJ2 (hJ1 h)
  refine th_take rfl rfl (by kernel_rfl)  (opv_extract rfl rfl) ?_
  refine th_take rfl rfl (by kernel_rfl)  (opv_extract rfl rfl) ?_
  refine th_take rfl rfl (by kernel_rfl)  (opv_extract rfl rfl) ?_
  refine th_one (by kernel_rfl) (step_m rfl rfl (opg_store rfl rfl rfl rfl rfl rfl) ?_)
  rintro _ _ _ ⟨rfl, rfl⟩
  refine ⟨Suf.h, (by assumption), ?_⟩
  refine th_take rfl rfl (by kernel_rfl)  (opv_assign rfl) ?_
  refine th_take rfl rfl (by kernel_rfl)  (opv_assign rfl) ?_
  refine th_done (by kernel_rfl) ?_
  refine tri_then ?_
  refine tri_ret ?_
  refine tri_end A Suf.h rfl (.cons (rv_cellA rfl rfl rfl) (.cons (rv_tmp rfl) (.cons (rv_tmp rfl) .nil))) ?_
  exact ⟨a2, c2, rfl, hq2, rfl, hJ3⟩
set_option maxRecDepth 100000 in
theorem ref08_centre {ns : List Node} {a : Option Addr} {cap : Nat} {room n : Int} (hs : StA I a cap ns) (hn : ns.length ≤ 1000000000) (hr : R6.Rng ns) :
    FnC Try.prog 13 [storeV a ns.length cap room, .int .i64 n].toArray A I (StoreR (R8.centre ns room n) room A I) := by
  skip
  refine fn_enter2 Try.func13 rfl Try.ntmps13 rfl fun w0 => ?_
  refine tri_seq ?_
  refine tri_region ?_
  refine tri_g (opg_box_agg rfl) rfl ?_
  rintro _ _ _ ⟨b2, rfl, rfl, rfl⟩
  refine tri_g opg_alloc rfl ?_
  rintro _ _ _ ⟨b4, rfl, rfl, rfl⟩
  refine tri_v (opv_assign rfl) rfl ?_
  refine tri_v (opv_assign rfl) rfl ?_
  refine tri_nil ?_
  refine tri_then ?_
  refine tri_seq ?_
  refine tri_seq ?_
  refine tri_region ?_
  refine tri_v (opv_loadA rfl rfl rfl) rfl ?_
  refine tri_v (opv_move rfl) rfl ?_
  refine tri_g (opg_call (xs := [_, _, _]) rfl (ref08_may (lv := 2) hs.sl hn hr)) rfl ?_
  rintro _ _ _ ⟨rfl, rfl, rfl⟩
  refine tri_v (opv_notD rfl) rfl ?_
  refine tri_nil ?_
  refine tri_then ?_
  refine tri_cond_dec rfl (fun h => ?_) (fun h => ?_)
  · refine tri_seq ?_
    refine tri_region ?_
    refine tri_v (opv_loadA rfl rfl rfl) rfl ?_
    refine tri_g (opg_store rfl rfl rfl rfl rfl rfl) rfl ?_
    rintro _ _ _ ⟨rfl, rfl⟩
    refine tri_v (opv_assign rfl) rfl ?_
    refine tri_v (opv_assign rfl) rfl ?_
    refine tri_nil ?_
    refine tri_then ?_
    refine tri_ret ?_
    refine tri_then_ret ?_
    refine tri_end A Suf.h rfl (.cons (rv_cellA rfl rfl rfl) (.cons (rv_tmp rfl) (.cons (rv_tmp rfl) .nil))) ?_
    rw [show R8.centre ns room n = (ns, 0, 1) from if_neg h]
    exact ⟨a, cap, rfl, hs, rfl, fun _ h => h⟩
  · have h' : R8.may ns room n 2 := Decidable.not_not.1 h
    rw [show R8.centre ns room n = R8.putSq ns room (R8.s16 ns n) 1 1 from if_pos h']
    have hk := h'.1.kids h'.2.1 (by have := h'.2.2; omega)
    refine tri_skip ?_
    refine tri_then ?_
    refine tri_seq ?_
    refine tri_region ?_
    refine tri_v (opv_loadA rfl rfl rfl) rfl ?_
    refine tri_v (opv_move rfl) rfl ?_
    refine tri_g (opg_call (xs := [_, _]) rfl (ref08_middle hs (h'.1.good (by have := h'.1.1.2.1; omega)) hk)) rfl ?_
    rintro _ _ J ⟨a2, c2, rfl, hq2, rfl, hJ⟩
    refine tri_v (opv_extract rfl rfl) rfl ?_
    refine tri_v (opv_extract rfl rfl) rfl ?_
    refine tri_v (opv_extract rfl rfl) rfl ?_
    refine tri_g (opg_store rfl rfl rfl rfl rfl rfl) rfl ?_
    rintro _ _ _ ⟨rfl, rfl⟩
    refine tri_v (opv_assign rfl) rfl ?_
    refine tri_v (opv_assign rfl) rfl ?_
    refine tri_nil ?_
    refine tri_then ?_
    refine tri_ret ?_
    refine tri_end A Suf.h rfl (.cons (rv_cellA rfl rfl rfl) (.cons (rv_tmp rfl) (.cons (rv_tmp rfl) .nil))) ?_
    exact ⟨a2, c2, rfl, hq2, rfl, hJ⟩
theorem R8.about_bd {l : List Int} (hb : ∀ i, 0 ≤ R8.g l i ∧ R8.g l i ≤ 1) (y x : Int) : ∀ i, 0 ≤ R8.about l y x i ∧ R8.about l y x i ≤ i
  | 0 => by simp [R8.about]
  | i + 1 => by
    have := R8.about_bd hb y x i
    have h2 := hb (4 * (y + (i : Int) / 3 - 1) + x + (i : Int) % 3 - 1)
    unfold R8.about
    split <;> omega
theorem R8.about_ne {l : List Int} {y x : Int} {i : Nat} (h : (i : Int) ≠ 4) : R8.about l y x (i + 1) = R8.about l y x i + R8.g l (4 * (y + (i : Int) / 3 - 1) + x + (i : Int) % 3 - 1) := by
  rw [R8.about, if_neg (by omega)]
theorem R8.about_eq {l : List Int} {y x : Int} {i : Nat} (h : ¬ (i : Int) ≠ 4) : R8.about l y x (i + 1) = R8.about l y x i := by
  rw [R8.about, if_pos (by omega), Int.add_zero]
set_option maxHeartbeats 2000000 in
set_option maxRecDepth 100000 in
theorem ref08_one {ns : List Node} {a : Option Addr} {cap : Nat} {room n : Int} (hs : StA I a cap ns) (hg : R6.Good ns room) (hk : R8.Kid ns n) (hb : ∀ i, 0 ≤ R8.g (R8.s16 ns n) i ∧ R8.g (R8.s16 ns n) i ≤ 1) :
    FnC Try.prog 38 [storeV a ns.length cap room, .int .i64 n].toArray A I (StoreR (R8.one ns room n) room A I) := by
  have hlen := R8.s16_len ns n
  skip
  refine fn_enter2 Try.func38 rfl Try.ntmps38 rfl fun w0 => ?_
  refine tri_seq ?_
  refine tri_region ?_
  refine tri_g (opg_box_agg rfl) rfl ?_
  rintro _ _ _ ⟨b2, rfl, rfl, rfl⟩
  refine tri_g opg_alloc rfl ?_
  rintro _ _ _ ⟨b4, rfl, rfl, rfl⟩
  refine tri_v (opv_assign rfl) rfl ?_
  refine tri_v (opv_assign rfl) rfl ?_
  refine tri_nil ?_
  refine tri_then ?_
  refine tri_seq ?_
  refine tri_region ?_
  refine tri_v (opv_loadA rfl rfl rfl) rfl ?_
  refine tri_v (opv_move rfl) rfl ?_
  refine tri_g (opg_call (xs := [_, _]) rfl (ref08_sixteen hs.sl hk)) rfl ?_
  rintro _ _ J1 ⟨a1, c1, rfl, hq1, rfl, hJ1⟩
  refine tri_v (opv_assign rfl) rfl ?_
  refine tri_nil ?_
  refine tri_then ?_
  refine tri_seq ?_
  refine tri_region ?_
  refine tri_g opg_alloc rfl ?_
  rintro _ _ _ ⟨b8, rfl, rfl, rfl⟩
  refine tri_nil ?_
  refine tri_then ?_
  refine tri_seq ?_
  refine tri_seq ?_
  refine tri_region ?_
  refine tri_v (opv_assign rfl) rfl ?_
  refine tri_nil ?_
  refine tri_then ?_
  refine tri_block ?_
  refine tri_rounds 5 ?_
  refine tri_round ?_
  refine tri_seq ?_
  refine tri_seq ?_
  refine tri_region ?_
  refine tri_v (opv_move rfl) rfl ?_
  refine tri_v (opv_lss rfl rfl) rfl ?_
  refine tri_nil ?_
  refine tri_then ?_
  refine tri_cond_is rfl (by decide) ?_
  refine tri_skip ?_
  refine tri_then ?_
  refine tri_seq ?_
  refine tri_block ?_
  refine tri_seq ?_
  refine tri_region ?_
  refine tri_v (opv_move rfl) rfl ?_
  refine tri_v (opv_quoE rfl rfl (by omega) (by omega) (by omega)) rfl ?_
  refine tri_v (opv_add rfl rfl (w64 (by omega) (by omega))) rfl ?_
  refine tri_v (opv_assign rfl) rfl ?_
  refine tri_nil ?_
  refine tri_then ?_
  refine tri_seq ?_
  refine tri_region ?_
  refine tri_v (opv_move rfl) rfl ?_
  refine tri_v (opv_remE rfl rfl (by omega) (by omega)) rfl ?_
  refine tri_v (opv_add rfl rfl (w64 (by omega) (by omega))) rfl ?_
  refine tri_v (opv_assign rfl) rfl ?_
  refine tri_nil ?_
  refine tri_then ?_
  refine tri_seq ?_
  refine tri_region ?_
  refine tri_v (opv_assign rfl) rfl ?_
  refine tri_nil ?_
  refine tri_then ?_
  refine tri_seq ?_
  refine tri_seq ?_
  refine tri_region ?_
  refine tri_v (opv_assign rfl) rfl ?_
  refine tri_nil ?_
  refine tri_then ?_
  refine tri_block ?_
  refine tri_sub (F' := [(1, .int .i64 n), (2, pt b2 0), (4, pt b4 0), (7, .slice a1 (R8.s16 ns n).length c1), (8, pt b8 0), (9, .int .i64 0), (10, .int .i64 1), (11, .int .i64 1), (12, .int .i64 (R8.about (R8.s16 ns n) 1 1 0)), (13, .int .i64 (0 : Nat))]) ⟨rfl, rfl, rfl, rfl, rfl, rfl, rfl, rfl, rfl, rfl, trivial⟩ ?_
  refine loop_ind (G := Nat) (fun i => 9 - i) (fun i => i ≤ 9) (fun i => [(1, .int .i64 n), (2, pt b2 0), (4, pt b4 0), (7, .slice a1 (R8.s16 ns n).length c1), (8, pt b8 0), (9, .int .i64 0), (10, .int .i64 1), (11, .int .i64 1), (12, .int .i64 (R8.about (R8.s16 ns n) 1 1 i)), (13, .int .i64 (i : Nat))]) (fun _ => _) (fun _ => _) ?_ 0 (by omega)
  rintro i hi K hK
  have hab := R8.about_bd hb 1 1 i
  have hgi := hb (4 * (1 + (i : Int) / 3 - 1) + 1 + (i : Int) % 3 - 1)
  have hgi' : 0 ≤ (R8.s16 ns n).getD (4 * (1 + (i : Int) / 3 - 1) + 1 + (i : Int) % 3 - 1).toNat default ∧ (R8.s16 ns n).getD (4 * (1 + (i : Int) / 3 - 1) + 1 + (i : Int) % 3 - 1).toNat default ≤ 1 := hgi
  skip
  refine tri_seq ?_
  refine tri_seq ?_
  refine tri_region ?_
  refine tri_v (opv_move rfl) rfl ?_
  refine tri_v (opv_lss rfl rfl) rfl ?_
  refine tri_nil ?_
  refine tri_then ?_
  refine tri_cond_dec rfl (fun h0 => ?_) (fun h0 => ?_)
  · refine tri_skip ?_
    refine tri_then ?_
    refine tri_seq ?_
    refine tri_block ?_
    refine tri_seq ?_
    refine tri_region ?_
    refine tri_v (opv_move rfl) rfl ?_
    refine tri_v (opv_neq rfl rfl) rfl ?_
    refine tri_nil ?_
    refine tri_then ?_
    refine tri_cond_dec rfl (fun h => ?_) (fun h => ?_)
    · have e := R8.about_ne (l := R8.s16 ns n) (y := 1) (x := 1) h
      refine tri_region ?_
      refine tri_v (opv_move rfl) rfl ?_
      refine tri_v (opv_move rfl) rfl ?_
      refine tri_v (opv_move rfl) rfl ?_
      refine tri_v (opv_move rfl) rfl ?_
      refine tri_v (opv_quoE rfl rfl (by omega) (by omega) (by omega)) rfl ?_
      refine tri_v (opv_add rfl rfl (w64 (by omega) (by omega))) rfl ?_
      refine tri_v (opv_sub rfl rfl (w64 (by omega) (by omega))) rfl ?_
      refine tri_v (opv_mul rfl rfl (w64 (by omega) (by omega))) rfl ?_
      refine tri_v (opv_move rfl) rfl ?_
      refine tri_v (opv_add rfl rfl (w64 (by omega) (by omega))) rfl ?_
      refine tri_v (opv_move rfl) rfl ?_
      refine tri_v (opv_remE rfl rfl (by omega) (by omega)) rfl ?_
      refine tri_v (opv_add rfl rfl (w64 (by omega) (by omega))) rfl ?_
      refine tri_v (opv_sub rfl rfl (w64 (by omega) (by omega))) rfl ?_
      refine tri_v (opv_indexAddrS rfl rfl (by omega) (by omega) (by assumption) rfl) rfl ?_
      refine tri_v (opv_loadE1 rfl (by assumption) rfl (by omega) rfl rfl) rfl ?_
      refine tri_v (opv_add rfl rfl (w64 (by omega) (by omega))) rfl ?_
      refine tri_v (opv_assign rfl) rfl ?_
      refine tri_nil ?_
      refine tri_inBlock ?_
      refine tri_then ?_
      refine tri_region ?_
      refine tri_v (opv_move rfl) rfl ?_
      refine tri_v (opv_add rfl rfl (w64 (by omega) (by omega))) rfl ?_
      refine tri_v (opv_assign rfl) rfl ?_
      refine tri_nil ?_
      refine tri_then ?_
      refine tri_sub ?_ (hK (i + 1) (by omega) (by omega))
      rw [e]
      exact ⟨rfl, rfl, rfl, rfl, rfl, rfl, rfl, rfl, rfl, rfl, trivial⟩
    · have e := R8.about_eq (l := R8.s16 ns n) (y := 1) (x := 1) h
      refine tri_skip ?_
      refine tri_inBlock ?_
      refine tri_then ?_
      refine tri_region ?_
      refine tri_v (opv_move rfl) rfl ?_
      refine tri_v (opv_add rfl rfl (w64 (by omega) (by omega))) rfl ?_
      refine tri_v (opv_assign rfl) rfl ?_
      refine tri_nil ?_
      refine tri_then ?_
      refine tri_sub ?_ (hK (i + 1) (by omega) (by omega))
      rw [e]
      exact ⟨rfl, rfl, rfl, rfl, rfl, rfl, rfl, rfl, rfl, rfl, trivial⟩
  obtain rfl : i = 9 := by omega
  clear hK hgi' hgi
  refine tri_exit ?_
  refine tri_then_exit ?_
  refine tri_then_exit ?_
  refine tri_inBlock_hit rfl ?_
  refine tri_then ?_
  refine tri_seq ?_
  refine tri_region ?_
  refine tri_v (opv_move rfl) rfl ?_
  refine tri_v (opv_move rfl) rfl ?_
  refine tri_v (opv_mul rfl rfl (w64 (by omega) (by omega))) rfl ?_
  refine tri_v (opv_move rfl) rfl ?_
  refine tri_v (opv_add rfl rfl (w64 (by omega) (by omega))) rfl ?_
  refine tri_v (opv_indexAddrS rfl rfl (by omega) (by omega) (by assumption) rfl) rfl ?_
  refine tri_v (opv_loadE1 rfl (by assumption) rfl (by omega) rfl rfl) rfl ?_
  refine tri_v (opv_eql rfl rfl) rfl ?_
  refine tri_v (opv_move rfl) rfl ?_
  refine tri_g (opg_call (xs := [_, _]) rfl (ref02_lives)) rfl ?_
  rintro _ _ _ ⟨rfl, rfl, rfl⟩
  refine tri_nil ?_
  refine tri_then ?_
  refine tri_cut (fun F' A' J => F' = [(1, .int .i64 n), (2, pt b2 0), (4, pt b4 0), (7, .slice a1 (R8.s16 ns n).length c1), (8, pt b8 0), (9, .int .i64 0)] ∧ A' = Box b8 [.int .i64 (R8.bit (R8.s16 ns n) 1 1), .int .i64 (0), .int .i64 (0), .int .i64 (0)] 43 :: Box b4 [.slice none 0 0, .int .i64 0] 26 :: Box b2 [.slice a ns.length cap, .int .i64 room] 26 :: A ∧ J1 = J) ?_ ?_
  · refine tri_cond rfl (fun hv => ?_) (fun hv => ?_)
    · refine tri_region ?_
      refine tri_v (opv_move rfl) rfl ?_
      refine tri_v (opv_indexAddrA rfl rfl (by decide) (by decide)) rfl ?_
      refine tri_g (opg_store rfl rfl rfl rfl rfl rfl) rfl ?_
      rintro _ _ _ ⟨rfl, rfl⟩
      refine tri_nil ?_
      exact tri_cutEnd _ ⟨rfl, by rw [show R8.bit (R8.s16 ns n) 1 1 = 1 from if_pos hv], rfl⟩ ⟨rfl, rfl, rfl, rfl, rfl, rfl, trivial⟩
    · refine tri_skip ?_
      exact tri_cutEnd _ ⟨rfl, by rw [show R8.bit (R8.s16 ns n) 1 1 = 0 from if_neg (fun h => Bool.false_ne_true (hv.symm.trans h))], rfl⟩ ⟨rfl, rfl, rfl, rfl, rfl, rfl, trivial⟩
  rintro _ _ _ ⟨rfl, rfl, rfl⟩
  skip
  refine tri_inBlock ?_
  refine tri_then ?_
  refine tri_region ?_
  refine tri_v (opv_move rfl) rfl ?_
  refine tri_v (opv_add rfl rfl (w64 (by omega) (by omega))) rfl ?_
  refine tri_v (opv_assign rfl) rfl ?_
  refine tri_nil ?_
  refine tri_then ?_
  refine tri_round ?_
  refine tri_seq ?_
  refine tri_seq ?_
  refine tri_region ?_
  refine tri_v (opv_move rfl) rfl ?_
  refine tri_v (opv_lss rfl rfl) rfl ?_
  refine tri_nil ?_
  refine tri_then ?_
  skip
  refine tri_cond_is rfl (by decide) ?_
  refine tri_skip ?_
  refine tri_then ?_
  refine tri_seq ?_
  refine tri_block ?_
  refine tri_seq ?_
  refine tri_region ?_
  refine tri_v (opv_move rfl) rfl ?_
  refine tri_v (opv_quoE rfl rfl (by omega) (by omega) (by omega)) rfl ?_
  refine tri_v (opv_add rfl rfl (w64 (by omega) (by omega))) rfl ?_
  refine tri_v (opv_assign rfl) rfl ?_
  refine tri_nil ?_
  refine tri_then ?_
  refine tri_seq ?_
  refine tri_region ?_
  refine tri_v (opv_move rfl) rfl ?_
  refine tri_v (opv_remE rfl rfl (by omega) (by omega)) rfl ?_
  refine tri_v (opv_add rfl rfl (w64 (by omega) (by omega))) rfl ?_
  refine tri_v (opv_assign rfl) rfl ?_
  refine tri_nil ?_
  refine tri_then ?_
  refine tri_seq ?_
  refine tri_region ?_
  refine tri_v (opv_assign rfl) rfl ?_
  refine tri_nil ?_
  refine tri_then ?_
  refine tri_seq ?_
  refine tri_seq ?_
  refine tri_region ?_
  refine tri_v (opv_assign rfl) rfl ?_
  refine tri_nil ?_
  refine tri_then ?_
  refine tri_block ?_
  refine tri_sub (F' := [(1, .int .i64 n), (2, pt b2 0), (4, pt b4 0), (7, .slice a1 (R8.s16 ns n).length c1), (8, pt b8 0), (9, .int .i64 1), (10, .int .i64 1), (11, .int .i64 2), (12, .int .i64 (R8.about (R8.s16 ns n) 1 2 0)), (13, .int .i64 (0 : Nat))]) ⟨rfl, rfl, rfl, rfl, rfl, rfl, rfl, rfl, rfl, rfl, trivial⟩ ?_
  refine loop_ind (G := Nat) (fun i => 9 - i) (fun i => i ≤ 9) (fun i => [(1, .int .i64 n), (2, pt b2 0), (4, pt b4 0), (7, .slice a1 (R8.s16 ns n).length c1), (8, pt b8 0), (9, .int .i64 1), (10, .int .i64 1), (11, .int .i64 2), (12, .int .i64 (R8.about (R8.s16 ns n) 1 2 i)), (13, .int .i64 (i : Nat))]) (fun _ => _) (fun _ => _) ?_ 0 (by omega)
  rintro i hi K hK
  have hab := R8.about_bd hb 1 2 i
  have hgi := hb (4 * (1 + (i : Int) / 3 - 1) + 2 + (i : Int) % 3 - 1)
  have hgi' : 0 ≤ (R8.s16 ns n).getD (4 * (1 + (i : Int) / 3 - 1) + 2 + (i : Int) % 3 - 1).toNat default ∧ (R8.s16 ns n).getD (4 * (1 + (i : Int) / 3 - 1) + 2 + (i : Int) % 3 - 1).toNat default ≤ 1 := hgi
  skip
  refine tri_seq ?_
  refine tri_seq ?_
  refine tri_region ?_
  refine tri_v (opv_move rfl) rfl ?_
  refine tri_v (opv_lss rfl rfl) rfl ?_
  refine tri_nil ?_
  refine tri_then ?_
  refine tri_cond_dec rfl (fun h1 => ?_) (fun h1 => ?_)
  · refine tri_skip ?_
    refine tri_then ?_
    refine tri_seq ?_
    refine tri_block ?_
    refine tri_seq ?_
    refine tri_region ?_
    refine tri_v (opv_move rfl) rfl ?_
    refine tri_v (opv_neq rfl rfl) rfl ?_
    refine tri_nil ?_
    refine tri_then ?_
    refine tri_cond_dec rfl (fun h => ?_) (fun h => ?_)
    · have e := R8.about_ne (l := R8.s16 ns n) (y := 1) (x := 2) h
      refine tri_region ?_
      refine tri_v (opv_move rfl) rfl ?_
      refine tri_v (opv_move rfl) rfl ?_
      refine tri_v (opv_move rfl) rfl ?_
      refine tri_v (opv_move rfl) rfl ?_
      refine tri_v (opv_quoE rfl rfl (by omega) (by omega) (by omega)) rfl ?_
      refine tri_v (opv_add rfl rfl (w64 (by omega) (by omega))) rfl ?_
      refine tri_v (opv_sub rfl rfl (w64 (by omega) (by omega))) rfl ?_
      refine tri_v (opv_mul rfl rfl (w64 (by omega) (by omega))) rfl ?_
      refine tri_v (opv_move rfl) rfl ?_
      refine tri_v (opv_add rfl rfl (w64 (by omega) (by omega))) rfl ?_
      refine tri_v (opv_move rfl) rfl ?_
      refine tri_v (opv_remE rfl rfl (by omega) (by omega)) rfl ?_
      refine tri_v (opv_add rfl rfl (w64 (by omega) (by omega))) rfl ?_
      refine tri_v (opv_sub rfl rfl (w64 (by omega) (by omega))) rfl ?_
      refine tri_v (opv_indexAddrS rfl rfl (by omega) (by omega) (by assumption) rfl) rfl ?_
      refine tri_v (opv_loadE1 rfl (by assumption) rfl (by omega) rfl rfl) rfl ?_
      refine tri_v (opv_add rfl rfl (w64 (by omega) (by omega))) rfl ?_
      refine tri_v (opv_assign rfl) rfl ?_
      refine tri_nil ?_
      refine tri_inBlock ?_
      refine tri_then ?_
      refine tri_region ?_
      refine tri_v (opv_move rfl) rfl ?_
      refine tri_v (opv_add rfl rfl (w64 (by omega) (by omega))) rfl ?_
      refine tri_v (opv_assign rfl) rfl ?_
      refine tri_nil ?_
      refine tri_then ?_
      refine tri_sub ?_ (hK (i + 1) (by omega) (by omega))
      rw [e]
      exact ⟨rfl, rfl, rfl, rfl, rfl, rfl, rfl, rfl, rfl, rfl, trivial⟩
    · have e := R8.about_eq (l := R8.s16 ns n) (y := 1) (x := 2) h
      refine tri_skip ?_
      refine tri_inBlock ?_
      refine tri_then ?_
      refine tri_region ?_
      refine tri_v (opv_move rfl) rfl ?_
      refine tri_v (opv_add rfl rfl (w64 (by omega) (by omega))) rfl ?_
      refine tri_v (opv_assign rfl) rfl ?_
      refine tri_nil ?_
      refine tri_then ?_
      refine tri_sub ?_ (hK (i + 1) (by omega) (by omega))
      rw [e]
      exact ⟨rfl, rfl, rfl, rfl, rfl, rfl, rfl, rfl, rfl, rfl, trivial⟩
  obtain rfl : i = 9 := by omega
  clear hK hgi' hgi
  refine tri_exit ?_
  refine tri_then_exit ?_
  refine tri_then_exit ?_
  refine tri_inBlock_hit rfl ?_
  refine tri_then ?_
  refine tri_seq ?_
  refine tri_region ?_
  refine tri_v (opv_move rfl) rfl ?_
  refine tri_v (opv_move rfl) rfl ?_
  refine tri_v (opv_mul rfl rfl (w64 (by omega) (by omega))) rfl ?_
  refine tri_v (opv_move rfl) rfl ?_
  refine tri_v (opv_add rfl rfl (w64 (by omega) (by omega))) rfl ?_
  refine tri_v (opv_indexAddrS rfl rfl (by omega) (by omega) (by assumption) rfl) rfl ?_
  refine tri_v (opv_loadE1 rfl (by assumption) rfl (by omega) rfl rfl) rfl ?_
  refine tri_v (opv_eql rfl rfl) rfl ?_
  refine tri_v (opv_move rfl) rfl ?_
  refine tri_g (opg_call (xs := [_, _]) rfl (ref02_lives)) rfl ?_
  rintro _ _ _ ⟨rfl, rfl, rfl⟩
  refine tri_nil ?_
  refine tri_then ?_
  refine tri_cut (fun F' A' J => F' = [(1, .int .i64 n), (2, pt b2 0), (4, pt b4 0), (7, .slice a1 (R8.s16 ns n).length c1), (8, pt b8 0), (9, .int .i64 1)] ∧ A' = Box b8 [.int .i64 (R8.bit (R8.s16 ns n) 1 1), .int .i64 (R8.bit (R8.s16 ns n) 1 2), .int .i64 (0), .int .i64 (0)] 43 :: Box b4 [.slice none 0 0, .int .i64 0] 26 :: Box b2 [.slice a ns.length cap, .int .i64 room] 26 :: A ∧ J1 = J) ?_ ?_
  · refine tri_cond rfl (fun hv => ?_) (fun hv => ?_)
    · refine tri_region ?_
      refine tri_v (opv_move rfl) rfl ?_
      refine tri_v (opv_indexAddrA rfl rfl (by decide) (by decide)) rfl ?_
      refine tri_g (opg_store rfl rfl rfl rfl rfl rfl) rfl ?_
      rintro _ _ _ ⟨rfl, rfl⟩
      refine tri_nil ?_
      exact tri_cutEnd _ ⟨rfl, by rw [show R8.bit (R8.s16 ns n) 1 2 = 1 from if_pos hv], rfl⟩ ⟨rfl, rfl, rfl, rfl, rfl, rfl, trivial⟩
    · refine tri_skip ?_
      exact tri_cutEnd _ ⟨rfl, by rw [show R8.bit (R8.s16 ns n) 1 2 = 0 from if_neg (fun h => Bool.false_ne_true (hv.symm.trans h))], rfl⟩ ⟨rfl, rfl, rfl, rfl, rfl, rfl, trivial⟩
  rintro _ _ _ ⟨rfl, rfl, rfl⟩
  skip
  refine tri_inBlock ?_
  refine tri_then ?_
  refine tri_region ?_
  refine tri_v (opv_move rfl) rfl ?_
  refine tri_v (opv_add rfl rfl (w64 (by omega) (by omega))) rfl ?_
  refine tri_v (opv_assign rfl) rfl ?_
  refine tri_nil ?_
  refine tri_then ?_
  refine tri_round ?_
  refine tri_seq ?_
  refine tri_seq ?_
  refine tri_region ?_
  refine tri_v (opv_move rfl) rfl ?_
  refine tri_v (opv_lss rfl rfl) rfl ?_
  refine tri_nil ?_
  refine tri_then ?_
  skip
  refine tri_cond_is rfl (by decide) ?_
  refine tri_skip ?_
  refine tri_then ?_
  refine tri_seq ?_
  refine tri_block ?_
  refine tri_seq ?_
  refine tri_region ?_
  refine tri_v (opv_move rfl) rfl ?_
  refine tri_v (opv_quoE rfl rfl (by omega) (by omega) (by omega)) rfl ?_
  refine tri_v (opv_add rfl rfl (w64 (by omega) (by omega))) rfl ?_
  refine tri_v (opv_assign rfl) rfl ?_
  refine tri_nil ?_
  refine tri_then ?_
  refine tri_seq ?_
  refine tri_region ?_
  refine tri_v (opv_move rfl) rfl ?_
  refine tri_v (opv_remE rfl rfl (by omega) (by omega)) rfl ?_
  refine tri_v (opv_add rfl rfl (w64 (by omega) (by omega))) rfl ?_
  refine tri_v (opv_assign rfl) rfl ?_
  refine tri_nil ?_
  refine tri_then ?_
  refine tri_seq ?_
  refine tri_region ?_
  refine tri_v (opv_assign rfl) rfl ?_
  refine tri_nil ?_
  refine tri_then ?_
  refine tri_seq ?_
  refine tri_seq ?_
  refine tri_region ?_
  refine tri_v (opv_assign rfl) rfl ?_
  refine tri_nil ?_
  refine tri_then ?_
  refine tri_block ?_
  refine tri_sub (F' := [(1, .int .i64 n), (2, pt b2 0), (4, pt b4 0), (7, .slice a1 (R8.s16 ns n).length c1), (8, pt b8 0), (9, .int .i64 2), (10, .int .i64 2), (11, .int .i64 1), (12, .int .i64 (R8.about (R8.s16 ns n) 2 1 0)), (13, .int .i64 (0 : Nat))]) ⟨rfl, rfl, rfl, rfl, rfl, rfl, rfl, rfl, rfl, rfl, trivial⟩ ?_
  refine loop_ind (G := Nat) (fun i => 9 - i) (fun i => i ≤ 9) (fun i => [(1, .int .i64 n), (2, pt b2 0), (4, pt b4 0), (7, .slice a1 (R8.s16 ns n).length c1), (8, pt b8 0), (9, .int .i64 2), (10, .int .i64 2), (11, .int .i64 1), (12, .int .i64 (R8.about (R8.s16 ns n) 2 1 i)), (13, .int .i64 (i : Nat))]) (fun _ => _) (fun _ => _) ?_ 0 (by omega)
  rintro i hi K hK
  have hab := R8.about_bd hb 2 1 i
  have hgi := hb (4 * (2 + (i : Int) / 3 - 1) + 1 + (i : Int) % 3 - 1)
  have hgi' : 0 ≤ (R8.s16 ns n).getD (4 * (2 + (i : Int) / 3 - 1) + 1 + (i : Int) % 3 - 1).toNat default ∧ (R8.s16 ns n).getD (4 * (2 + (i : Int) / 3 - 1) + 1 + (i : Int) % 3 - 1).toNat default ≤ 1 := hgi
  skip
  refine tri_seq ?_
  refine tri_seq ?_
  refine tri_region ?_
  refine tri_v (opv_move rfl) rfl ?_
  refine tri_v (opv_lss rfl rfl) rfl ?_
  refine tri_nil ?_
  refine tri_then ?_
  refine tri_cond_dec rfl (fun h2 => ?_) (fun h2 => ?_)
  · refine tri_skip ?_
    refine tri_then ?_
    refine tri_seq ?_
    refine tri_block ?_
    refine tri_seq ?_
    refine tri_region ?_
    refine tri_v (opv_move rfl) rfl ?_
    refine tri_v (opv_neq rfl rfl) rfl ?_
    refine tri_nil ?_
    refine tri_then ?_
    refine tri_cond_dec rfl (fun h => ?_) (fun h => ?_)
    · have e := R8.about_ne (l := R8.s16 ns n) (y := 2) (x := 1) h
      refine tri_region ?_
      refine tri_v (opv_move rfl) rfl ?_
      refine tri_v (opv_move rfl) rfl ?_
      refine tri_v (opv_move rfl) rfl ?_
      refine tri_v (opv_move rfl) rfl ?_
      refine tri_v (opv_quoE rfl rfl (by omega) (by omega) (by omega)) rfl ?_
      refine tri_v (opv_add rfl rfl (w64 (by omega) (by omega))) rfl ?_
      refine tri_v (opv_sub rfl rfl (w64 (by omega) (by omega))) rfl ?_
      refine tri_v (opv_mul rfl rfl (w64 (by omega) (by omega))) rfl ?_
      refine tri_v (opv_move rfl) rfl ?_
      refine tri_v (opv_add rfl rfl (w64 (by omega) (by omega))) rfl ?_
      refine tri_v (opv_move rfl) rfl ?_
      refine tri_v (opv_remE rfl rfl (by omega) (by omega)) rfl ?_
      refine tri_v (opv_add rfl rfl (w64 (by omega) (by omega))) rfl ?_
      refine tri_v (opv_sub rfl rfl (w64 (by omega) (by omega))) rfl ?_
      refine tri_v (opv_indexAddrS rfl rfl (by omega) (by omega) (by assumption) rfl) rfl ?_
      refine tri_v (opv_loadE1 rfl (by assumption) rfl (by omega) rfl rfl) rfl ?_
      refine tri_v (opv_add rfl rfl (w64 (by omega) (by omega))) rfl ?_
      refine tri_v (opv_assign rfl) rfl ?_
      refine tri_nil ?_
      refine tri_inBlock ?_
      refine tri_then ?_
      refine tri_region ?_
      refine tri_v (opv_move rfl) rfl ?_
      refine tri_v (opv_add rfl rfl (w64 (by omega) (by omega))) rfl ?_
      refine tri_v (opv_assign rfl) rfl ?_
      refine tri_nil ?_
      refine tri_then ?_
      refine tri_sub ?_ (hK (i + 1) (by omega) (by omega))
      rw [e]
      exact ⟨rfl, rfl, rfl, rfl, rfl, rfl, rfl, rfl, rfl, rfl, trivial⟩
    · have e := R8.about_eq (l := R8.s16 ns n) (y := 2) (x := 1) h
      refine tri_skip ?_
      refine tri_inBlock ?_
      refine tri_then ?_
      refine tri_region ?_
      refine tri_v (opv_move rfl) rfl ?_
      refine tri_v (opv_add rfl rfl (w64 (by omega) (by omega))) rfl ?_
      refine tri_v (opv_assign rfl) rfl ?_
      refine tri_nil ?_
      refine tri_then ?_
      refine tri_sub ?_ (hK (i + 1) (by omega) (by omega))
      rw [e]
      exact ⟨rfl, rfl, rfl, rfl, rfl, rfl, rfl, rfl, rfl, rfl, trivial⟩
  obtain rfl : i = 9 := by omega
  clear hK hgi' hgi
  refine tri_exit ?_
  refine tri_then_exit ?_
  refine tri_then_exit ?_
  refine tri_inBlock_hit rfl ?_
  refine tri_then ?_
  refine tri_seq ?_
  refine tri_region ?_
  refine tri_v (opv_move rfl) rfl ?_
  refine tri_v (opv_move rfl) rfl ?_
  refine tri_v (opv_mul rfl rfl (w64 (by omega) (by omega))) rfl ?_
  refine tri_v (opv_move rfl) rfl ?_
  refine tri_v (opv_add rfl rfl (w64 (by omega) (by omega))) rfl ?_
  refine tri_v (opv_indexAddrS rfl rfl (by omega) (by omega) (by assumption) rfl) rfl ?_
  refine tri_v (opv_loadE1 rfl (by assumption) rfl (by omega) rfl rfl) rfl ?_
  refine tri_v (opv_eql rfl rfl) rfl ?_
  refine tri_v (opv_move rfl) rfl ?_
  refine tri_g (opg_call (xs := [_, _]) rfl (ref02_lives)) rfl ?_
  rintro _ _ _ ⟨rfl, rfl, rfl⟩
  refine tri_nil ?_
  refine tri_then ?_
  refine tri_cut (fun F' A' J => F' = [(1, .int .i64 n), (2, pt b2 0), (4, pt b4 0), (7, .slice a1 (R8.s16 ns n).length c1), (8, pt b8 0), (9, .int .i64 2)] ∧ A' = Box b8 [.int .i64 (R8.bit (R8.s16 ns n) 1 1), .int .i64 (R8.bit (R8.s16 ns n) 1 2), .int .i64 (R8.bit (R8.s16 ns n) 2 1), .int .i64 (0)] 43 :: Box b4 [.slice none 0 0, .int .i64 0] 26 :: Box b2 [.slice a ns.length cap, .int .i64 room] 26 :: A ∧ J1 = J) ?_ ?_
  · refine tri_cond rfl (fun hv => ?_) (fun hv => ?_)
    · refine tri_region ?_
      refine tri_v (opv_move rfl) rfl ?_
      refine tri_v (opv_indexAddrA rfl rfl (by decide) (by decide)) rfl ?_
      refine tri_g (opg_store rfl rfl rfl rfl rfl rfl) rfl ?_
      rintro _ _ _ ⟨rfl, rfl⟩
      refine tri_nil ?_
      exact tri_cutEnd _ ⟨rfl, by rw [show R8.bit (R8.s16 ns n) 2 1 = 1 from if_pos hv], rfl⟩ ⟨rfl, rfl, rfl, rfl, rfl, rfl, trivial⟩
    · refine tri_skip ?_
      exact tri_cutEnd _ ⟨rfl, by rw [show R8.bit (R8.s16 ns n) 2 1 = 0 from if_neg (fun h => Bool.false_ne_true (hv.symm.trans h))], rfl⟩ ⟨rfl, rfl, rfl, rfl, rfl, rfl, trivial⟩
  rintro _ _ _ ⟨rfl, rfl, rfl⟩
  skip
  refine tri_inBlock ?_
  refine tri_then ?_
  refine tri_region ?_
  refine tri_v (opv_move rfl) rfl ?_
  refine tri_v (opv_add rfl rfl (w64 (by omega) (by omega))) rfl ?_
  refine tri_v (opv_assign rfl) rfl ?_
  refine tri_nil ?_
  refine tri_then ?_
  refine tri_round ?_
  refine tri_seq ?_
  refine tri_seq ?_
  refine tri_region ?_
  refine tri_v (opv_move rfl) rfl ?_
  refine tri_v (opv_lss rfl rfl) rfl ?_
  refine tri_nil ?_
  refine tri_then ?_
  skip
  refine tri_cond_is rfl (by decide) ?_
  refine tri_skip ?_
  refine tri_then ?_
  refine tri_seq ?_
  refine tri_block ?_
  refine tri_seq ?_
  refine tri_region ?_
  refine tri_v (opv_move rfl) rfl ?_
  refine tri_v (opv_quoE rfl rfl (by omega) (by omega) (by omega)) rfl ?_
  refine tri_v (opv_add rfl rfl (w64 (by omega) (by omega))) rfl ?_
  refine tri_v (opv_assign rfl) rfl ?_
  refine tri_nil ?_
  refine tri_then ?_
  refine tri_seq ?_
  refine tri_region ?_
  refine tri_v (opv_move rfl) rfl ?_
  refine tri_v (opv_remE rfl rfl (by omega) (by omega)) rfl ?_
  refine tri_v (opv_add rfl rfl (w64 (by omega) (by omega))) rfl ?_
  refine tri_v (opv_assign rfl) rfl ?_
  refine tri_nil ?_
  refine tri_then ?_
  refine tri_seq ?_
  refine tri_region ?_
  refine tri_v (opv_assign rfl) rfl ?_
  refine tri_nil ?_
  refine tri_then ?_
  refine tri_seq ?_
  refine tri_seq ?_
  refine tri_region ?_
  refine tri_v (opv_assign rfl) rfl ?_
  refine tri_nil ?_
  refine tri_then ?_
  refine tri_block ?_
  refine tri_sub (F' := [(1, .int .i64 n), (2, pt b2 0), (4, pt b4 0), (7, .slice a1 (R8.s16 ns n).length c1), (8, pt b8 0), (9, .int .i64 3), (10, .int .i64 2), (11, .int .i64 2), (12, .int .i64 (R8.about (R8.s16 ns n) 2 2 0)), (13, .int .i64 (0 : Nat))]) ⟨rfl, rfl, rfl, rfl, rfl, rfl, rfl, rfl, rfl, rfl, trivial⟩ ?_
  refine loop_ind (G := Nat) (fun i => 9 - i) (fun i => i ≤ 9) (fun i => [(1, .int .i64 n), (2, pt b2 0), (4, pt b4 0), (7, .slice a1 (R8.s16 ns n).length c1), (8, pt b8 0), (9, .int .i64 3), (10, .int .i64 2), (11, .int .i64 2), (12, .int .i64 (R8.about (R8.s16 ns n) 2 2 i)), (13, .int .i64 (i : Nat))]) (fun _ => _) (fun _ => _) ?_ 0 (by omega)
  rintro i hi K hK
  have hab := R8.about_bd hb 2 2 i
  have hgi := hb (4 * (2 + (i : Int) / 3 - 1) + 2 + (i : Int) % 3 - 1)
  have hgi' : 0 ≤ (R8.s16 ns n).getD (4 * (2 + (i : Int) / 3 - 1) + 2 + (i : Int) % 3 - 1).toNat default ∧ (R8.s16 ns n).getD (4 * (2 + (i : Int) / 3 - 1) + 2 + (i : Int) % 3 - 1).toNat default ≤ 1 := hgi
  skip
  refine tri_seq ?_
  refine tri_seq ?_
  refine tri_region ?_
  refine tri_v (opv_move rfl) rfl ?_
  refine tri_v (opv_lss rfl rfl) rfl ?_
  refine tri_nil ?_
  refine tri_then ?_
  refine tri_cond_dec rfl (fun h3 => ?_) (fun h3 => ?_)
  · refine tri_skip ?_
    refine tri_then ?_
    refine tri_seq ?_
    refine tri_block ?_
    refine tri_seq ?_
    refine tri_region ?_
    refine tri_v (opv_move rfl) rfl ?_
    refine tri_v (opv_neq rfl rfl) rfl ?_
    refine tri_nil ?_
    refine tri_then ?_
    refine tri_cond_dec rfl (fun h => ?_) (fun h => ?_)
    · have e := R8.about_ne (l := R8.s16 ns n) (y := 2) (x := 2) h
      refine tri_region ?_
      refine tri_v (opv_move rfl) rfl ?_
      refine tri_v (opv_move rfl) rfl ?_
      refine tri_v (opv_move rfl) rfl ?_
      refine tri_v (opv_move rfl) rfl ?_
      refine tri_v (opv_quoE rfl rfl (by omega) (by omega) (by omega)) rfl ?_
      refine tri_v (opv_add rfl rfl (w64 (by omega) (by omega))) rfl ?_
      refine tri_v (opv_sub rfl rfl (w64 (by omega) (by omega))) rfl ?_
      refine tri_v (opv_mul rfl rfl (w64 (by omega) (by omega))) rfl ?_
      refine tri_v (opv_move rfl) rfl ?_
      refine tri_v (opv_add rfl rfl (w64 (by omega) (by omega))) rfl ?_
      refine tri_v (opv_move rfl) rfl ?_
      refine tri_v (opv_remE rfl rfl (by omega) (by omega)) rfl ?_
      refine tri_v (opv_add rfl rfl (w64 (by omega) (by omega))) rfl ?_
      refine tri_v (opv_sub rfl rfl (w64 (by omega) (by omega))) rfl ?_
      refine tri_v (opv_indexAddrS rfl rfl (by omega) (by omega) (by assumption) rfl) rfl ?_
      refine tri_v (opv_loadE1 rfl (by assumption) rfl (by omega) rfl rfl) rfl ?_
      refine tri_v (opv_add rfl rfl (w64 (by omega) (by omega))) rfl ?_
      refine tri_v (opv_assign rfl) rfl ?_
      refine tri_nil ?_
      refine tri_inBlock ?_
      refine tri_then ?_
      refine tri_region ?_
      refine tri_v (opv_move rfl) rfl ?_
      refine tri_v (opv_add rfl rfl (w64 (by omega) (by omega))) rfl ?_
      refine tri_v (opv_assign rfl) rfl ?_
      refine tri_nil ?_
      refine tri_then ?_
      refine tri_sub ?_ (hK (i + 1) (by omega) (by omega))
      rw [e]
      exact ⟨rfl, rfl, rfl, rfl, rfl, rfl, rfl, rfl, rfl, rfl, trivial⟩
    · have e := R8.about_eq (l := R8.s16 ns n) (y := 2) (x := 2) h
      refine tri_skip ?_
      refine tri_inBlock ?_
      refine tri_then ?_
      refine tri_region ?_
      refine tri_v (opv_move rfl) rfl ?_
      refine tri_v (opv_add rfl rfl (w64 (by omega) (by omega))) rfl ?_
      refine tri_v (opv_assign rfl) rfl ?_
      refine tri_nil ?_
      refine tri_then ?_
      refine tri_sub ?_ (hK (i + 1) (by omega) (by omega))
      rw [e]
      exact ⟨rfl, rfl, rfl, rfl, rfl, rfl, rfl, rfl, rfl, rfl, trivial⟩
  obtain rfl : i = 9 := by omega
  clear hK hgi' hgi
  refine tri_exit ?_
  refine tri_then_exit ?_
  refine tri_then_exit ?_
  refine tri_inBlock_hit rfl ?_
  refine tri_then ?_
  refine tri_seq ?_
  refine tri_region ?_
  refine tri_v (opv_move rfl) rfl ?_
  refine tri_v (opv_move rfl) rfl ?_
  refine tri_v (opv_mul rfl rfl (w64 (by omega) (by omega))) rfl ?_
  refine tri_v (opv_move rfl) rfl ?_
  refine tri_v (opv_add rfl rfl (w64 (by omega) (by omega))) rfl ?_
  refine tri_v (opv_indexAddrS rfl rfl (by omega) (by omega) (by assumption) rfl) rfl ?_
  refine tri_v (opv_loadE1 rfl (by assumption) rfl (by omega) rfl rfl) rfl ?_
  refine tri_v (opv_eql rfl rfl) rfl ?_
  refine tri_v (opv_move rfl) rfl ?_
  refine tri_g (opg_call (xs := [_, _]) rfl (ref02_lives)) rfl ?_
  rintro _ _ _ ⟨rfl, rfl, rfl⟩
  refine tri_nil ?_
  refine tri_then ?_
  refine tri_cut (fun F' A' J => F' = [(1, .int .i64 n), (2, pt b2 0), (4, pt b4 0), (7, .slice a1 (R8.s16 ns n).length c1), (8, pt b8 0), (9, .int .i64 3)] ∧ A' = Box b8 [.int .i64 (R8.bit (R8.s16 ns n) 1 1), .int .i64 (R8.bit (R8.s16 ns n) 1 2), .int .i64 (R8.bit (R8.s16 ns n) 2 1), .int .i64 (R8.bit (R8.s16 ns n) 2 2)] 43 :: Box b4 [.slice none 0 0, .int .i64 0] 26 :: Box b2 [.slice a ns.length cap, .int .i64 room] 26 :: A ∧ J1 = J) ?_ ?_
  · refine tri_cond rfl (fun hv => ?_) (fun hv => ?_)
    · refine tri_region ?_
      refine tri_v (opv_move rfl) rfl ?_
      refine tri_v (opv_indexAddrA rfl rfl (by decide) (by decide)) rfl ?_
      refine tri_g (opg_store rfl rfl rfl rfl rfl rfl) rfl ?_
      rintro _ _ _ ⟨rfl, rfl⟩
      refine tri_nil ?_
      exact tri_cutEnd _ ⟨rfl, by rw [show R8.bit (R8.s16 ns n) 2 2 = 1 from if_pos hv], rfl⟩ ⟨rfl, rfl, rfl, rfl, rfl, rfl, trivial⟩
    · refine tri_skip ?_
      exact tri_cutEnd _ ⟨rfl, by rw [show R8.bit (R8.s16 ns n) 2 2 = 0 from if_neg (fun h => Bool.false_ne_true (hv.symm.trans h))], rfl⟩ ⟨rfl, rfl, rfl, rfl, rfl, rfl, trivial⟩
  rintro _ _ _ ⟨rfl, rfl, rfl⟩
  skip
  refine tri_inBlock ?_
  refine tri_then ?_
  refine tri_region ?_
  refine tri_v (opv_move rfl) rfl ?_
  refine tri_v (opv_add rfl rfl (w64 (by omega) (by omega))) rfl ?_
  refine tri_v (opv_assign rfl) rfl ?_
  refine tri_nil ?_
  refine tri_then ?_
  refine tri_round ?_
  refine tri_seq ?_
  refine tri_seq ?_
  refine tri_region ?_
  refine tri_v (opv_move rfl) rfl ?_
  refine tri_v (opv_lss rfl rfl) rfl ?_
  refine tri_nil ?_
  refine tri_then ?_
  refine tri_cond_not rfl (by decide) ?_
  refine tri_exit ?_
  refine tri_then_exit ?_
  refine tri_then_exit ?_
  refine tri_inBlock_hit rfl ?_
  refine tri_then ?_
  refine tri_seq ?_
  refine tri_region ?_
  refine tri_v (opv_loadA rfl rfl rfl) rfl ?_
  refine tri_v (opv_loadA rfl rfl rfl) rfl ?_
  refine tri_g (opg_call (xs := [_, _]) rfl (ref06_put (hs.mono hJ1) hg.len hg.mod)) rfl ?_
  rintro _ _ J2 ⟨a2, c2, rfl, hq2, rfl, hJ2⟩
  refine tri_v (opv_extract rfl rfl) rfl ?_
  refine tri_v (opv_extract rfl rfl) rfl ?_
  refine tri_v (opv_extract rfl rfl) rfl ?_
  refine tri_g (opg_store rfl rfl rfl rfl rfl rfl) rfl ?_
  rintro _ _ _ ⟨rfl, rfl⟩
  refine tri_v (opv_assign rfl) rfl ?_
  refine tri_v (opv_assign rfl) rfl ?_
  refine tri_nil ?_
  refine tri_then ?_
  refine tri_ret ?_
  refine tri_end A Suf.h rfl (.cons (rv_cellA rfl rfl rfl) (.cons (rv_tmp rfl) (.cons (rv_tmp rfl) .nil))) ?_
  exact ⟨a2, c2, rfl, hq2, rfl, fun _ h => hJ2 (hJ1 h)⟩
end Go.GL
