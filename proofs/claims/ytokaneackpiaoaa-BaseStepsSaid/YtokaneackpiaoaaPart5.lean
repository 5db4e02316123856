/- Part 5: contracts of the functions that the law reaches: each answers as its model does. No condition beyond those that each theorem states. -/
import Derived.Test.YtokaneackpiaoaaPart4
set_option linter.unusedVariables false
namespace Go.GL
open Go.Proofs
attribute [local irreducible] wpList Code.wp Exit.then Exit.inBlock Ends Tri TriH OpV OpG FnC epf wpAnyH
variable {A : List Asrt} {I : List Chunk}
set_option maxRecDepth 100000 in
theorem law01_set {l : List Cell} {a : Option Addr} {cap : Nat} (hs : SlAt I a l) (hc : RL.Cs l) :
    FnC Try.prog 27 [.slice a l.length cap].toArray A I (fun v A' I' => ∃ a' cap', v = .slice a' (RL.set l).length cap' ∧ SlAt I' a' (RL.set l) ∧ A = A' ∧ I ⊆ I') := by
  refine fn_enter1 Try.func27 rfl Try.ntmps27 rfl fun w0 => ?_
  refine tri_seq ?_
  refine tri_region ?_
  refine tri_v (opv_assign rfl) rfl ?_
  refine tri_nil ?_
  refine tri_then ?_
  refine tri_seq ?_
  refine tri_region ?_
  refine tri_v (opv_assign rfl) rfl ?_
  refine tri_nil ?_
  refine tri_then ?_
  refine tri_seq ?_
  refine tri_seq ?_
  refine tri_region ?_
  refine tri_v (opv_assign rfl) rfl ?_
  refine tri_nil ?_
  refine tri_then ?_
  refine tri_block ?_
  refine tri_sub (F' := [(0, .slice a l.length cap), (3, .slice none 0 0), (4, .int .i64 (0 : Nat))]) ⟨rfl, rfl, rfl, trivial⟩ ?_
  refine loop_ind (G := Nat × Option Addr × Nat × List Chunk) (fun g => 60 - g.1) (fun g => g.1 ≤ l.length ∧ g.1 ≤ 60 ∧ SlAt g.2.2.2 g.2.1 (R1.puts ((l.take g.1).map RL.cell16)) ∧ I ⊆ g.2.2.2) (fun g => [(0, .slice a l.length cap), (3, .slice g.2.1 (R1.puts ((l.take g.1).map RL.cell16)).length g.2.2.1), (4, .int .i64 (g.1 : Nat))]) (fun _ => A) (fun g => g.2.2.2) ?_ (0, none, 0, I) ⟨by omega, by omega, SlAt.nil, fun _ h => h⟩
  rintro ⟨i, a1, cap1, I1⟩ ⟨hi, hi6, hs1, hI1⟩ K hK
  simp only at hi hi6 hs1 hI1 hK ⊢
  have hsm : SlAt I1 a l := hs.mono hI1
  have fin : i = l.length ∨ i = 60 → RL.set l = R1.puts ((l.take i).map RL.cell16) := by
    rintro (rfl | rfl)
    · unfold RL.set
      rw [List.take_length, List.take_of_length_le (by omega)]
    · rfl
  skip
  refine tri_seq ?_
  refine tri_seq ?_
  refine tri_region ?_
  refine tri_v (opv_move rfl) rfl ?_
  refine tri_v (opv_move rfl) rfl ?_
  refine tri_v (opv_len rfl) rfl ?_
  refine tri_v (opv_lss rfl rfl) rfl ?_
  refine tri_v (opv_move rfl) rfl ?_
  refine tri_split rfl rfl (fun h => ?_) (fun h => ?_)
  · refine tri_guard_run rfl rfl rfl ?_
    refine tri_v (opv_move rfl) rfl ?_
    refine tri_guard_run rfl rfl rfl ?_
    refine tri_v (opv_lss rfl rfl) rfl ?_
    refine tri_v (opv_pick_t rfl rfl) rfl ?_
    refine tri_nil ?_
    refine tri_then ?_
    refine tri_cond_dec rfl (fun h2 => ?_) (fun h2 => ?_)
    · refine tri_skip ?_
      refine tri_then ?_
      refine tri_seq ?_
      refine tri_block ?_
      refine tri_draw [0, 1, 2, 3, 4, 5, 8, 9, 10, 11, 12, 6, 7, 13, 14, 15, 16, 17] rfl [] rfl mixed ?_
      refine th_take rfl rfl (by kernel_rfl)  (opv_move rfl) ?_
      refine th_take rfl rfl (by kernel_rfl)  (opv_move rfl) ?_
      refine th_take rfl rfl (by kernel_rfl)  (opv_move rfl) ?_
      refine th_take rfl rfl (by kernel_rfl)  (opv_indexAddrSN rfl rfl (by omega) (by assumption) rfl) ?_
      refine th_take rfl rfl (by kernel_rfl)  (opv_indexAddrE rfl (by assumption) (by omega) rfl (by decide) (by decide)) ?_
      refine th_take rfl rfl (by kernel_rfl)  (opv_loadE1 rfl (by assumption) rfl (by omega) rfl rfl) ?_
      refine th_take rfl rfl (by kernel_rfl)  (opv_move rfl) ?_
      refine th_take rfl rfl (by kernel_rfl)  (opv_move rfl) ?_
      refine th_take rfl rfl (by kernel_rfl)  (opv_indexAddrSN rfl rfl (by omega) (by assumption) rfl) ?_
      refine th_take rfl rfl (by kernel_rfl)  (opv_indexAddrE rfl (by assumption) (by omega) rfl (by decide) (by decide)) ?_
      refine th_take rfl rfl (by kernel_rfl)  (opv_loadE1 rfl (by assumption) rfl (by omega) rfl rfl) ?_
      have hlt : i < l.length := by omega
      have hci := hc i hlt
      have hcx := hci.1
      have hcy := hci.2
      have px := pk_bd (c := (l.getD i default).x) (n := 16) (by omega)
      have py := pk_bd (c := (l.getD i default).y) (n := 16) (by omega)
      have hl1 := R1.puts_len ((l.take i).map RL.cell16)
      rw [List.length_map, List.length_take] at hl1
      refine th_one (by kernel_rfl) (step_m rfl rfl (opg_call (xs := [_, _]) rfl (law01_pick (c := (l.getD i default).x) hcx.1 hcx.2 (by decide))) ?_)
      rintro _ _ _ ⟨rfl, rfl, rfl⟩
      refine ⟨Suf.h, (fun _ h => h), ?_⟩
      refine th_take rfl rfl (by kernel_rfl)  (opv_sub rfl rfl (w64 (by omega) (by omega))) ?_
      refine th_one (by kernel_rfl) (step_m rfl rfl (opg_call (xs := [_, _]) rfl (law01_pick (c := (l.getD i default).y) hcy.1 hcy.2 (by decide))) ?_)
      rintro _ _ _ ⟨rfl, rfl, rfl⟩
      refine ⟨Suf.h, (fun _ h => h), ?_⟩
      refine th_take rfl rfl (by kernel_rfl)  (opv_sub rfl rfl (w64 (by omega) (by omega))) ?_
      refine th_take rfl rfl (by kernel_rfl)  (opv_buildS rfl rfl) ?_
      refine th_one (by kernel_rfl) (step_m rfl rfl (opg_call (xs := [_, _]) rfl (ref01_put (c := RL.cell16 (l.getD i default)) hs1 (by omega))) ?_)
      rintro _ _ I2 ⟨a2, cap2, rfl, hs2, rfl, hI2⟩
      refine ⟨Suf.h, (by assumption), ?_⟩
      refine th_take rfl rfl (by kernel_rfl)  (opv_assign rfl) ?_
      refine th_done (by kernel_rfl) ?_
      refine tri_inBlock ?_
      refine tri_then ?_
      refine tri_region ?_
      refine tri_v (opv_move rfl) rfl ?_
      refine tri_v (opv_add rfl rfl (w64 (by omega) (by omega))) rfl ?_
      refine tri_v (opv_assign rfl) rfl ?_
      refine tri_nil ?_
      refine tri_then ?_
      have e : R1.puts ((l.take (i + 1)).map RL.cell16) = R1.put (R1.puts ((l.take i).map RL.cell16)) (RL.cell16 (l.getD i default)) := by
        rw [← R1.puts_snoc, List.take_succ_eq_append_getElem hlt, List.map_append, show l.getD i default = l[i] by simp [hlt]]; rfl
      refine tri_sub ?_ (hK (i + 1, a2, cap2, I2) ⟨by simp only; omega, by simp only; omega, by simp only [e]; exact hs2, fun _ h => hI2 (hI1 h)⟩ (by simp only; omega))
      simp only [e]
      exact ⟨rfl, rfl, rfl, trivial⟩
    · refine tri_exit ?_
      refine tri_then_exit ?_
      refine tri_then_exit ?_
      refine tri_inBlock_hit rfl ?_
      refine tri_then ?_
      refine tri_seq ?_
      refine tri_region ?_
      refine tri_v (opv_move rfl) rfl ?_
      refine tri_v (opv_assign rfl) rfl ?_
      refine tri_nil ?_
      refine tri_then ?_
      refine tri_ret ?_
      refine tri_end A Suf.h rfl (.cons (rv_tmp rfl) .nil) ⟨a1, cap1, ?_, ?_, rfl, hI1⟩
      · rw [fin (by omega)]; rfl
      · rw [fin (by omega)]; exact hs1
  · refine tri_guard_skip rfl rfl rfl rfl ?_
    refine tri_guard_skip rfl rfl rfl rfl ?_
    refine tri_v (opv_pick_f rfl rfl) rfl ?_
    refine tri_nil ?_
    refine tri_then ?_
    refine tri_cond_false rfl ?_
    refine tri_exit ?_
    refine tri_then_exit ?_
    refine tri_then_exit ?_
    refine tri_inBlock_hit rfl ?_
    refine tri_then ?_
    refine tri_seq ?_
    refine tri_region ?_
    refine tri_v (opv_move rfl) rfl ?_
    refine tri_v (opv_assign rfl) rfl ?_
    refine tri_nil ?_
    refine tri_then ?_
    refine tri_ret ?_
    refine tri_end A Suf.h rfl (.cons (rv_tmp rfl) .nil) ⟨a1, cap1, ?_, ?_, rfl, hI1⟩
    · rw [fin (by omega)]; rfl
    · rw [fin (by omega)]; exact hs1
set_option maxRecDepth 100000 in
theorem law06_kids {ns : List Node} {a : Option Addr} {cap : Nat} {room : Int} {r : Five} (hs : SlAt I a ns) (hn : ns.length ≤ 1000000000)
    (h0 : I64 r.r0) (h1 : I64 r.r1) (h2 : I64 r.r2) (h3 : I64 r.r3) (h4 : I64 r.r4) :
    FnC Try.prog 49 [storeV a ns.length cap room, int5V r].toArray A I (fun v A' I' => v = int4V (RL.kids ns r).1 (RL.kids ns r).2.1 (RL.kids ns r).2.2.1 (RL.kids ns r).2.2.2 ∧ A = A' ∧ I = I') := by
  skip
  refine fn_enter2 Try.func49 rfl Try.ntmps49 rfl fun w0 => ?_
  refine tri_seq ?_
  refine tri_region ?_
  refine tri_g (opg_box_agg rfl) rfl ?_
  rintro _ _ _ ⟨b2, rfl, rfl, rfl⟩
  refine tri_g (opg_box_agg rfl) rfl ?_
  rintro _ _ _ ⟨b3, rfl, rfl, rfl⟩
  refine tri_g opg_alloc rfl ?_
  rintro _ _ _ ⟨b4, rfl, rfl, rfl⟩
  refine tri_nil ?_
  refine tri_then ?_
  refine tri_seq ?_
  refine tri_region ?_
  refine tri_v (opv_assign rfl) rfl ?_
  refine tri_nil ?_
  refine tri_then ?_
  refine tri_seq ?_
  refine tri_region ?_
  refine tri_v (opv_assign rfl) rfl ?_
  refine tri_nil ?_
  refine tri_then ?_
  refine tri_seq ?_
  refine tri_seq ?_
  refine tri_region ?_
  refine tri_v (opv_fieldAddr rfl rfl) rfl ?_
  refine tri_v (opv_load1 rfl rfl rfl) rfl ?_
  refine tri_v (opv_len rfl) rfl ?_
  refine tri_v (opv_gtr rfl rfl) rfl ?_
  refine tri_nil ?_
  refine tri_then ?_
  refine tri_cut (fun F' A' I' => F' = [(2, pt b2 0), (3, pt b3 0), (4, pt b4 0), (5, .slice none 0 0), (6, .int .i64 (RL.lev ns r)), (13, .bool (decide ((0:Int) < ns.length)))] ∧ A' = Box b4 [.int .i64 0, .int .i64 0, .int .i64 0, .int .i64 0] 43 :: Box b3 [.int .i64 r.r0, .int .i64 r.r1, .int .i64 r.r2, .int .i64 r.r3, .int .i64 r.r4] 84 :: Box b2 [.slice a ns.length cap, .int .i64 room] 26 :: A ∧ I = I') ?_ ?_
  · refine tri_cond_dec rfl (fun hp => ?_) (fun hp => ?_)
    · have hpk := pk_bd (c := r.r4) hp
      refine tri_draw [0, 1, 2, 3, 4, 5, 6, 7, 8, 9, 10, 11] rfl [] rfl mixed ?_
      refine th_take rfl rfl (by kernel_rfl)  (opv_fieldAddr rfl rfl) ?_
      refine th_take rfl rfl (by kernel_rfl)  (opv_load1 rfl rfl rfl) ?_
      refine th_take rfl rfl (by kernel_rfl)  (opv_indexAddrA rfl rfl (by decide) (by decide)) ?_
      refine th_take rfl rfl (by kernel_rfl)  (opv_load1 rfl rfl rfl) ?_
      refine th_take rfl rfl (by kernel_rfl)  (opv_fieldAddr rfl rfl) ?_
      refine th_take rfl rfl (by kernel_rfl)  (opv_load1 rfl rfl rfl) ?_
      refine th_take rfl rfl (by kernel_rfl)  (opv_len rfl) ?_
      refine th_one (by kernel_rfl) (step_m rfl rfl (opg_call (xs := [_, _]) rfl (law06_pick h4.1 h4.2 hp)) ?_)
      rintro _ _ _ ⟨rfl, rfl, rfl⟩
      refine ⟨Suf.h, (fun _ h => h), ?_⟩
      refine th_take rfl rfl (by kernel_rfl)  (opv_indexAddrS rfl rfl (by omega) (by omega) (by assumption) rfl) ?_
      refine th_take rfl rfl (by kernel_rfl)  (opv_fieldAddrE rfl (by assumption) (by omega) rfl) ?_
      refine th_take rfl rfl (by kernel_rfl)  (opv_loadE1 rfl (by assumption) rfl (by omega) rfl rfl) ?_
      refine th_take rfl rfl (by kernel_rfl)  (opv_assign rfl) ?_
      refine th_done (by kernel_rfl) ?_
      refine tri_cutEnd _ ⟨rfl, rfl, rfl⟩ ⟨rfl, rfl, rfl, rfl, ?_, rfl, trivial⟩
      unfold RL.lev
      rw [if_pos (by omega)]
      rfl
    · refine tri_skip ?_
      refine tri_cutEnd _ ⟨rfl, rfl, rfl⟩ ⟨rfl, rfl, rfl, rfl, ?_, rfl, trivial⟩
      unfold RL.lev
      rw [if_neg (by omega)]
      rfl
  · rintro _ _ _ ⟨rfl, rfl, rfl⟩
    refine tri_then ?_
    refine tri_seq ?_
    refine tri_seq ?_
    refine tri_region ?_
    refine tri_v (opv_assign rfl) rfl ?_
    refine tri_nil ?_
    refine tri_then ?_
    refine tri_block ?_
    refine tri_nilRow (E := 3) (sz := 1) ?_
    refine tri_sub (F' := [(2, pt b2 0), (3, pt b3 0), (4, pt b4 0), (5, .slice none 0 0), (6, .int .i64 (RL.lev ns r)), (7, .int .i64 (0 : Nat))]) ⟨rfl, rfl, rfl, rfl, rfl, rfl, trivial⟩ ?_
    refine loop_ind (G := Nat × Option Addr × Nat) (fun g => ns.length - g.1) (fun g => g.1 ≤ ns.length) (fun g => [(2, pt b2 0), (3, pt b3 0), (4, pt b4 0), (5, .slice g.2.1 (RL.sameFrom (RL.lev ns r) 0 (ns.take g.1)).length g.2.2), (6, .int .i64 (RL.lev ns r)), (7, .int .i64 (g.1 : Nat))]) (fun g => Row g.2.1 g.2.2 (RL.sameFrom (RL.lev ns r) 0 (ns.take g.1)).length 3 1 (encs (RL.sameFrom (RL.lev ns r) 0 (ns.take g.1))) :: Box b4 [.int .i64 0, .int .i64 0, .int .i64 0, .int .i64 0] 43 :: Box b3 [.int .i64 r.r0, .int .i64 r.r1, .int .i64 r.r2, .int .i64 r.r3, .int .i64 r.r4] 84 :: Box b2 [.slice a ns.length cap, .int .i64 room] 26 :: A) (fun _ => I) ?_ (0, none, 0) (by simp)
    rintro ⟨i, a1, cap1⟩ hi K hK
    simp only at hi hK ⊢
    have hl1 := RL.sameFrom_len (RL.lev ns r) (ns.take i) 0
    rw [List.length_take] at hl1
    skip
    refine tri_seq ?_
    refine tri_seq ?_
    refine tri_region ?_
    refine tri_v (opv_move rfl) rfl ?_
    refine tri_v (opv_fieldAddr rfl rfl) rfl ?_
    refine tri_v (opv_load1 rfl rfl rfl) rfl ?_
    refine tri_v (opv_len rfl) rfl ?_
    refine tri_v (opv_lss rfl rfl) rfl ?_
    refine tri_nil ?_
    refine tri_then ?_
    refine tri_cond_dec rfl (fun h => ?_) (fun h => ?_)
    · have hlt : i < ns.length := by omega
      have e : ns.take (i + 1) = ns.take i ++ [ns.getD i default] := by
        rw [List.take_succ_eq_append_getElem hlt, show ns.getD i default = ns[i] by simp [hlt]]
      have el : 0 + (ns.take i).length = i := by rw [List.length_take]; omega
      refine tri_skip ?_
      refine tri_then ?_
      refine tri_seq ?_
      refine tri_block ?_
      refine tri_seq ?_
      refine tri_region ?_
      refine tri_v (opv_fieldAddr rfl rfl) rfl ?_
      refine tri_v (opv_load1 rfl rfl rfl) rfl ?_
      refine tri_v (opv_move rfl) rfl ?_
      refine tri_v (opv_indexAddrSN rfl rfl (by omega) (by assumption) rfl) rfl ?_
      refine tri_v (opv_fieldAddrE rfl (by assumption) (by omega) rfl) rfl ?_
      refine tri_v (opv_loadE1 rfl (by assumption) rfl (by omega) rfl rfl) rfl ?_
      refine tri_v (opv_move rfl) rfl ?_
      refine tri_v (opv_eql rfl rfl) rfl ?_
      refine tri_nil ?_
      refine tri_then ?_
      refine tri_cond_dec rfl (fun h5 => ?_) (fun h5 => ?_)
      · have e2 : RL.sameFrom (RL.lev ns r) 0 (ns.take (i + 1)) = RL.sameFrom (RL.lev ns r) 0 (ns.take i) ++ [(i : Int)] := by
          rw [e, RL.sameFrom_append, el]; simp only [RL.sameFrom]; rw [if_pos h5]
        refine tri_region ?_
        refine tri_v (opv_move rfl) rfl ?_
        refine tri_v (opv_move rfl) rfl ?_
        refine tri_g (opg_buildSlice rfl rfl rfl rfl) rfl ?_
        rintro _ _ _ ⟨b42, rfl, rfl, rfl⟩
        refine tri_g (opg_appendB rfl rfl rfl rfl (by omega) rfl) rfl ?_
        rintro _ _ _ ⟨a3, cap3, rfl, rfl, rfl⟩
        refine tri_v (opv_assign rfl) rfl ?_
        refine tri_nil ?_
        refine tri_inBlock ?_
        refine tri_then ?_
        refine tri_region ?_
        refine tri_v (opv_move rfl) rfl ?_
        refine tri_v (opv_add rfl rfl (w64 (by omega) (by omega))) rfl ?_
        refine tri_v (opv_assign rfl) rfl ?_
        refine tri_nil ?_
        refine tri_then ?_
        refine tri_drop ?_
        refine tri_rowEq (len' := (RL.sameFrom (RL.lev ns r) 0 (ns.take (i + 1))).length) (cells' := encs (RL.sameFrom (RL.lev ns r) 0 (ns.take (i + 1)))) (by rw [e2]; simp) (by rw [e2, encs_append]; rfl) ?_
        refine tri_sub ?_ (hK (i + 1, a3, cap3) (by simp only; omega) (by simp only; omega))
        exact ⟨rfl, rfl, rfl, by simp only [e2, List.length_append]; rfl, rfl, rfl, trivial⟩
      · have e2 : RL.sameFrom (RL.lev ns r) 0 (ns.take (i + 1)) = RL.sameFrom (RL.lev ns r) 0 (ns.take i) := by
          rw [e, RL.sameFrom_append, el]; simp only [RL.sameFrom]; rw [if_neg h5, List.append_nil]
        refine tri_skip ?_
        refine tri_inBlock ?_
        refine tri_then ?_
        refine tri_region ?_
        refine tri_v (opv_move rfl) rfl ?_
        refine tri_v (opv_add rfl rfl (w64 (by omega) (by omega))) rfl ?_
        refine tri_v (opv_assign rfl) rfl ?_
        refine tri_nil ?_
        refine tri_then ?_
        refine tri_rowEq (len' := (RL.sameFrom (RL.lev ns r) 0 (ns.take (i + 1))).length) (cells' := encs (RL.sameFrom (RL.lev ns r) 0 (ns.take (i + 1)))) (by rw [e2]) (by rw [e2]) ?_
        refine tri_sub ?_ (hK (i + 1, a1, cap1) (by simp only; omega) (by simp only; omega))
        exact ⟨rfl, rfl, rfl, by simp only [e2]; rfl, rfl, rfl, trivial⟩
    · have e : ns.take i = ns := List.take_of_length_le (by omega)
      rw [e] at hl1 ⊢
      generalize hsame : RL.sameFrom (RL.lev ns r) 0 ns = sm at *
      have hk : RL.kids ns r = (RL.one sm r.r0, RL.one sm r.r1, RL.one sm r.r2, RL.one sm r.r3) := by
        unfold RL.kids RL.same; rw [hsame]
      rw [hk]
      refine tri_exit ?_
      refine tri_then_exit ?_
      refine tri_then_exit ?_
      refine tri_inBlock_hit rfl ?_
      refine tri_then ?_
      refine tri_seq ?_
      refine tri_region ?_
      refine tri_g opg_alloc rfl ?_
      rintro _ _ _ ⟨b8, rfl, rfl, rfl⟩
      refine tri_nil ?_
      refine tri_then ?_
      refine tri_seq ?_
      refine tri_seq ?_
      refine tri_region ?_
      refine tri_v (opv_assign rfl) rfl ?_
      refine tri_nil ?_
      refine tri_then ?_
      refine tri_block ?_
      refine tri_rounds 5 ?_
      refine tri_round ?_
      refine tri_seq ?_
      refine tri_seq ?_
      refine tri_region ?_
      refine tri_v (opv_move rfl) rfl ?_
      refine tri_v (opv_lss rfl rfl) rfl ?_
      refine tri_v (opv_move rfl) rfl ?_
      refine tri_true rfl rfl (by decide) ?_
      refine tri_guard_run rfl rfl rfl ?_
      refine tri_v (opv_move rfl) rfl ?_
      refine tri_guard_run rfl rfl rfl ?_
      refine tri_v (opv_len rfl) rfl ?_
      refine tri_guard_run rfl rfl rfl ?_
      refine tri_v (opv_gtr rfl rfl) rfl ?_
      refine tri_v (opv_pick_t rfl rfl) rfl ?_
      refine tri_nil ?_
      refine tri_then ?_
      refine tri_cond_dec rfl (fun hz => ?_) (fun hz => ?_)
      · have z0 := pk_bd (c := r.r0) hz
        have z1 := pk_bd (c := r.r1) hz
        have z2 := pk_bd (c := r.r2) hz
        have z3 := pk_bd (c := r.r3) hz
        have eo : ∀ c, RL.one sm c = sm.getD (pk c sm.length).toNat default := fun c => if_pos (by omega)
        refine tri_skip ?_
        refine tri_then ?_
        refine tri_seq ?_
        refine tri_block ?_
        refine tri_region ?_
        refine tri_v (opv_move rfl) rfl ?_
        refine tri_v (opv_move rfl) rfl ?_
        refine tri_v (opv_move rfl) rfl ?_
        refine tri_v (opv_indexAddrA rfl rfl (by decide) (by decide)) rfl ?_
        refine tri_v (opv_load1 rfl rfl rfl) rfl ?_
        refine tri_v (opv_move rfl) rfl ?_
        refine tri_v (opv_len rfl) rfl ?_
        refine tri_g (opg_call (xs := [_, _]) rfl (law06_pick h0.1 h0.2 hz)) rfl ?_
        rintro _ _ _ ⟨rfl, rfl, rfl⟩
        refine tri_v (opv_indexAddrR rfl rfl (by omega) (by omega)) rfl ?_
        refine tri_v (opv_loadRX1 rfl rfl (by omega) rfl rfl) rfl ?_
        refine tri_v (opv_indexAddrA rfl rfl (by decide) (by decide)) rfl ?_
        refine tri_g (opg_store rfl rfl rfl rfl rfl rfl) rfl ?_
        rintro _ _ _ ⟨rfl, rfl⟩
        refine tri_nil ?_
        refine tri_inBlock ?_
        refine tri_then ?_
        refine tri_region ?_
        refine tri_v (opv_move rfl) rfl ?_
        refine tri_v (opv_add rfl rfl (w64 (by omega) (by omega))) rfl ?_
        refine tri_v (opv_assign rfl) rfl ?_
        refine tri_nil ?_
        refine tri_then ?_
        refine tri_round ?_
        refine tri_seq ?_
        refine tri_seq ?_
        refine tri_region ?_
        refine tri_v (opv_move rfl) rfl ?_
        refine tri_v (opv_lss rfl rfl) rfl ?_
        refine tri_v (opv_move rfl) rfl ?_
        refine tri_true rfl rfl (by decide) ?_
        refine tri_guard_run rfl rfl rfl ?_
        refine tri_v (opv_move rfl) rfl ?_
        refine tri_guard_run rfl rfl rfl ?_
        refine tri_v (opv_len rfl) rfl ?_
        refine tri_guard_run rfl rfl rfl ?_
        refine tri_v (opv_gtr rfl rfl) rfl ?_
        refine tri_v (opv_pick_t rfl rfl) rfl ?_
        refine tri_nil ?_
        refine tri_then ?_
        refine tri_cond_is rfl (hz) ?_
        refine tri_skip ?_
        refine tri_then ?_
        refine tri_seq ?_
        refine tri_block ?_
        refine tri_region ?_
        refine tri_v (opv_move rfl) rfl ?_
        refine tri_v (opv_move rfl) rfl ?_
        refine tri_v (opv_move rfl) rfl ?_
        refine tri_v (opv_indexAddrA rfl rfl (by decide) (by decide)) rfl ?_
        refine tri_v (opv_load1 rfl rfl rfl) rfl ?_
        refine tri_v (opv_move rfl) rfl ?_
        refine tri_v (opv_len rfl) rfl ?_
        refine tri_g (opg_call (xs := [_, _]) rfl (law06_pick h1.1 h1.2 hz)) rfl ?_
        rintro _ _ _ ⟨rfl, rfl, rfl⟩
        refine tri_v (opv_indexAddrR rfl rfl (by omega) (by omega)) rfl ?_
        refine tri_v (opv_loadRX1 rfl rfl (by omega) rfl rfl) rfl ?_
        refine tri_v (opv_indexAddrA rfl rfl (by decide) (by decide)) rfl ?_
        refine tri_g (opg_store rfl rfl rfl rfl rfl rfl) rfl ?_
        rintro _ _ _ ⟨rfl, rfl⟩
        refine tri_nil ?_
        refine tri_inBlock ?_
        refine tri_then ?_
        refine tri_region ?_
        refine tri_v (opv_move rfl) rfl ?_
        refine tri_v (opv_add rfl rfl (w64 (by omega) (by omega))) rfl ?_
        refine tri_v (opv_assign rfl) rfl ?_
        refine tri_nil ?_
        refine tri_then ?_
        refine tri_round ?_
        refine tri_seq ?_
        refine tri_seq ?_
        refine tri_region ?_
        refine tri_v (opv_move rfl) rfl ?_
        refine tri_v (opv_lss rfl rfl) rfl ?_
        refine tri_v (opv_move rfl) rfl ?_
        refine tri_true rfl rfl (by decide) ?_
        refine tri_guard_run rfl rfl rfl ?_
        refine tri_v (opv_move rfl) rfl ?_
        refine tri_guard_run rfl rfl rfl ?_
        refine tri_v (opv_len rfl) rfl ?_
        refine tri_guard_run rfl rfl rfl ?_
        refine tri_v (opv_gtr rfl rfl) rfl ?_
        refine tri_v (opv_pick_t rfl rfl) rfl ?_
        refine tri_nil ?_
        refine tri_then ?_
        refine tri_cond_is rfl (hz) ?_
        refine tri_skip ?_
        refine tri_then ?_
        refine tri_seq ?_
        refine tri_block ?_
        refine tri_region ?_
        refine tri_v (opv_move rfl) rfl ?_
        refine tri_v (opv_move rfl) rfl ?_
        refine tri_v (opv_move rfl) rfl ?_
        refine tri_v (opv_indexAddrA rfl rfl (by decide) (by decide)) rfl ?_
        refine tri_v (opv_load1 rfl rfl rfl) rfl ?_
        refine tri_v (opv_move rfl) rfl ?_
        refine tri_v (opv_len rfl) rfl ?_
        refine tri_g (opg_call (xs := [_, _]) rfl (law06_pick h2.1 h2.2 hz)) rfl ?_
        rintro _ _ _ ⟨rfl, rfl, rfl⟩
        refine tri_v (opv_indexAddrR rfl rfl (by omega) (by omega)) rfl ?_
        refine tri_v (opv_loadRX1 rfl rfl (by omega) rfl rfl) rfl ?_
        refine tri_v (opv_indexAddrA rfl rfl (by decide) (by decide)) rfl ?_
        refine tri_g (opg_store rfl rfl rfl rfl rfl rfl) rfl ?_
        rintro _ _ _ ⟨rfl, rfl⟩
        refine tri_nil ?_
        refine tri_inBlock ?_
        refine tri_then ?_
        refine tri_region ?_
        refine tri_v (opv_move rfl) rfl ?_
        refine tri_v (opv_add rfl rfl (w64 (by omega) (by omega))) rfl ?_
        refine tri_v (opv_assign rfl) rfl ?_
        refine tri_nil ?_
        refine tri_then ?_
        refine tri_round ?_
        refine tri_seq ?_
        refine tri_seq ?_
        refine tri_region ?_
        refine tri_v (opv_move rfl) rfl ?_
        refine tri_v (opv_lss rfl rfl) rfl ?_
        refine tri_v (opv_move rfl) rfl ?_
        refine tri_true rfl rfl (by decide) ?_
        refine tri_guard_run rfl rfl rfl ?_
        refine tri_v (opv_move rfl) rfl ?_
        refine tri_guard_run rfl rfl rfl ?_
        refine tri_v (opv_len rfl) rfl ?_
        refine tri_guard_run rfl rfl rfl ?_
        refine tri_v (opv_gtr rfl rfl) rfl ?_
        refine tri_v (opv_pick_t rfl rfl) rfl ?_
        refine tri_nil ?_
        refine tri_then ?_
        refine tri_cond_is rfl (hz) ?_
        refine tri_skip ?_
        refine tri_then ?_
        refine tri_seq ?_
        refine tri_block ?_
        refine tri_region ?_
        refine tri_v (opv_move rfl) rfl ?_
        refine tri_v (opv_move rfl) rfl ?_
        refine tri_v (opv_move rfl) rfl ?_
        refine tri_v (opv_indexAddrA rfl rfl (by decide) (by decide)) rfl ?_
        refine tri_v (opv_load1 rfl rfl rfl) rfl ?_
        refine tri_v (opv_move rfl) rfl ?_
        refine tri_v (opv_len rfl) rfl ?_
        refine tri_g (opg_call (xs := [_, _]) rfl (law06_pick h3.1 h3.2 hz)) rfl ?_
        rintro _ _ _ ⟨rfl, rfl, rfl⟩
        refine tri_v (opv_indexAddrR rfl rfl (by omega) (by omega)) rfl ?_
        refine tri_v (opv_loadRX1 rfl rfl (by omega) rfl rfl) rfl ?_
        refine tri_v (opv_indexAddrA rfl rfl (by decide) (by decide)) rfl ?_
        refine tri_g (opg_store rfl rfl rfl rfl rfl rfl) rfl ?_
        rintro _ _ _ ⟨rfl, rfl⟩
        refine tri_nil ?_
        refine tri_inBlock ?_
        refine tri_then ?_
        refine tri_region ?_
        refine tri_v (opv_move rfl) rfl ?_
        refine tri_v (opv_add rfl rfl (w64 (by omega) (by omega))) rfl ?_
        refine tri_v (opv_assign rfl) rfl ?_
        refine tri_nil ?_
        refine tri_then ?_
        refine tri_round ?_
        refine tri_seq ?_
        refine tri_seq ?_
        refine tri_region ?_
        refine tri_v (opv_move rfl) rfl ?_
        refine tri_v (opv_lss rfl rfl) rfl ?_
        refine tri_v (opv_move rfl) rfl ?_
        refine tri_false rfl rfl (by decide) ?_
        refine tri_guard_skip rfl rfl rfl rfl ?_
        refine tri_guard_skip rfl rfl rfl rfl ?_
        refine tri_guard_skip rfl rfl rfl rfl ?_
        refine tri_v (opv_pick_f rfl rfl) rfl ?_
        refine tri_nil ?_
        refine tri_then ?_
        refine tri_cond_false rfl ?_
        refine tri_exit ?_
        refine tri_then_exit ?_
        refine tri_then_exit ?_
        refine tri_inBlock_hit rfl ?_
        refine tri_then ?_
        refine tri_seq ?_
        refine tri_region ?_
        refine tri_v (opv_loadA rfl rfl rfl) rfl ?_
        refine tri_g (opg_store rfl rfl rfl rfl rfl rfl) rfl ?_
        rintro _ _ _ ⟨rfl, rfl⟩
        refine tri_nil ?_
        refine tri_then ?_
        refine tri_ret ?_
        refine tri_end A Suf.h rfl (.cons (rv_cellA rfl rfl rfl) .nil) ⟨?_, rfl, rfl⟩
        simp only [eo]
        rfl
      · have eo : ∀ c, RL.one sm c = 0 := fun c => if_neg (by omega)
        refine tri_exit ?_
        refine tri_then_exit ?_
        refine tri_then_exit ?_
        refine tri_inBlock_hit rfl ?_
        refine tri_then ?_
        refine tri_seq ?_
        refine tri_region ?_
        refine tri_v (opv_loadA rfl rfl rfl) rfl ?_
        refine tri_g (opg_store rfl rfl rfl rfl rfl rfl) rfl ?_
        rintro _ _ _ ⟨rfl, rfl⟩
        refine tri_nil ?_
        refine tri_then ?_
        refine tri_ret ?_
        refine tri_end A Suf.h rfl (.cons (rv_cellA rfl rfl rfl) .nil) ⟨?_, rfl, rfl⟩
        simp only [eo]
        rfl
end Go.GL

set_option linter.unusedVariables false
namespace Go.GL
open Go.Proofs
attribute [local irreducible] wpList Code.wp Exit.then Exit.inBlock Ends Tri TriH OpV OpG FnC epf wpAnyH
variable {A : List Asrt} {I : List Chunk}
namespace RL
theorem store0_good {rm : Int} (h2 : 2 ≤ rm) (h3 : rm ≤ 100000) : R6.Good [R6.n0, R6.n1] rm := ⟨by unfold R6.Mod; decide, by decide, by omega⟩
theorem foldl_good {rm : Int} (h2 : 2 ≤ rm) (h3 : rm ≤ 100000) : ∀ (l : List Five) (ns : List Node), R6.Good ns rm → R6.Good (l.foldl (putRaw rm) ns) rm
  | [], ns, h => h
  | r :: l, ns, h => foldl_good h2 h3 l _ (putRaw_good h2 h3 h r)
theorem new_room (c : Int) : R6.new (2 + pk c 60) = ([R6.n0, R6.n1], room c) := by
  have := room_bd c
  unfold room at this
  exact if_neg (by omega)
end RL
theorem R6.Mod.rng {ns : List Node} (h : R6.Mod ns) : R6.Rng ns := fun x hx => by have := h x hx; omega
set_option maxRecDepth 100000 in
theorem law06_store {l : List Five} {a : Option Addr} {cap : Nat} {c : Int} (h0 : I64 c) (hs : SlAt I a l) (hf : RL.Fs l) :
    FnC Try.prog 25 [.int .i64 c, .slice a l.length cap].toArray A I (fun v A' I' => ∃ a' cap', v = storeV a' (RL.store (RL.room c) l).length cap' (RL.room c) ∧ StA I' a' cap' (RL.store (RL.room c) l) ∧ A = A' ∧ I ⊆ I') := by
  have hrm := RL.room_bd c
  have hpk := pk_bd (c := c) (n := 60) (by decide)
  skip
  refine fn_enter2 Try.func25 rfl Try.ntmps25 rfl fun w0 => ?_
  refine tri_seq ?_
  refine tri_region ?_
  refine tri_g opg_alloc rfl ?_
  rintro _ _ _ ⟨b4, rfl, rfl, rfl⟩
  refine tri_nil ?_
  refine tri_then ?_
  refine tri_seq ?_
  refine tri_region ?_
  refine tri_v (opv_move rfl) rfl ?_
  refine tri_g (opg_call (xs := [_, _]) rfl (law06_pick h0.1 h0.2 (by decide))) rfl ?_
  rintro _ _ _ ⟨rfl, rfl, rfl⟩
  refine tri_v (opv_add rfl rfl (w64 (by omega) (by omega))) rfl ?_
  refine tri_g (opg_call (xs := [_]) rfl (ref06_new)) rfl ?_
  rintro _ _ I0 ⟨a0, cap0, rfl, hs0, rfl, hI0⟩
  rw [RL.new_room] at hs0 ⊢
  refine tri_g opg_alloc rfl ?_
  rintro _ _ _ ⟨b5, rfl, rfl, rfl⟩
  refine tri_g (opg_store rfl rfl rfl rfl rfl rfl) rfl ?_
  rintro _ _ _ ⟨rfl, rfl⟩
  refine tri_nil ?_
  refine tri_then ?_
  refine tri_seq ?_
  refine tri_seq ?_
  refine tri_region ?_
  refine tri_v (opv_assign rfl) rfl ?_
  refine tri_nil ?_
  refine tri_then ?_
  refine tri_block ?_
  refine tri_sub (F' := [(1, .slice a l.length cap), (4, pt b4 0), (5, pt b5 0), (6, .int .i64 (0 : Nat))]) ⟨rfl, rfl, rfl, rfl, trivial⟩ ?_
  refine loop_ind (G := Nat × Option Addr × Nat × List Chunk) (fun g => 40 - g.1) (fun g => g.1 ≤ l.length ∧ g.1 ≤ 40 ∧ StA g.2.2.2 g.2.1 g.2.2.1 ((l.take g.1).foldl (RL.putRaw (RL.room c)) [R6.n0, R6.n1]) ∧ I ⊆ g.2.2.2) (fun g => [(1, .slice a l.length cap), (4, pt b4 0), (5, pt b5 0), (6, .int .i64 (g.1 : Nat))]) (fun g => Box b5 [.slice g.2.1 ((l.take g.1).foldl (RL.putRaw (RL.room c)) [R6.n0, R6.n1]).length g.2.2.1, .int .i64 (RL.room c)] 26 :: Box b4 [.slice none 0 0, .int .i64 0] 26 :: A) (fun g => g.2.2.2) ?_ (0, a0, cap0, I0) ⟨by omega, by omega, hs0, hI0⟩
  rintro ⟨i, a1, cap1, I1⟩ ⟨hi, hi4, hs1, hI1⟩ K hK
  simp only at hi hi4 hs1 hI1 hK ⊢
  have hsm : SlAt I1 a l := hs.mono hI1
  have fin : i = l.length ∨ i = 40 → RL.store (RL.room c) l = (l.take i).foldl (RL.putRaw (RL.room c)) [R6.n0, R6.n1] := by
    rintro (rfl | rfl)
    · unfold RL.store
      rw [List.take_length, List.take_of_length_le (by omega)]
    · rfl
  have hg := RL.foldl_good (rm := RL.room c) (by omega) (by omega) (l.take i) _ (RL.store0_good (by omega) (by omega))
  have e : ∀ h : i < l.length, (l.take (i + 1)).foldl (RL.putRaw (RL.room c)) [R6.n0, R6.n1] = RL.putRaw (RL.room c) ((l.take i).foldl (RL.putRaw (RL.room c)) [R6.n0, R6.n1]) (l.getD i default) := fun h => by
    rw [List.take_succ_eq_append_getElem h, List.foldl_append, show l.getD i default = l[i] by simp [h]]; rfl
  generalize hns : (l.take i).foldl (RL.putRaw (RL.room c)) [R6.n0, R6.n1] = ns at *
  skip
  refine tri_seq ?_
  refine tri_seq ?_
  refine tri_region ?_
  refine tri_v (opv_move rfl) rfl ?_
  refine tri_v (opv_move rfl) rfl ?_
  refine tri_v (opv_len rfl) rfl ?_
  refine tri_v (opv_lss rfl rfl) rfl ?_
  refine tri_v (opv_move rfl) rfl ?_
  refine tri_split rfl rfl (fun h => ?_) (fun h => ?_)
  · refine tri_guard_run rfl rfl rfl ?_
    refine tri_v (opv_move rfl) rfl ?_
    refine tri_guard_run rfl rfl rfl ?_
    refine tri_v (opv_lss rfl rfl) rfl ?_
    refine tri_v (opv_pick_t rfl rfl) rfl ?_
    refine tri_nil ?_
    refine tri_then ?_
    refine tri_cond_dec rfl (fun h2 => ?_) (fun h2 => ?_)
    · have hlt : i < l.length := by omega
      have hfi := hf i hlt
      skip
      refine tri_skip ?_
      refine tri_then ?_
      refine tri_seq ?_
      refine tri_block ?_
      refine tri_draw [2, 3, 4, 5, 0, 1, 6, 7, 8, 9, 10, 11, 12] rfl [_] rfl mixed ?_
      refine th_take rfl rfl (by kernel_rfl)  (opv_move rfl) ?_
      refine th_take rfl rfl (by kernel_rfl)  (opv_move rfl) ?_
      refine th_take rfl rfl (by kernel_rfl)  (opv_indexAddrSN rfl rfl (by omega) (by assumption) rfl) ?_
      refine th_take rfl rfl (by kernel_rfl)  (opv_loadEA rfl (by assumption) rfl (by omega) rfl rfl) ?_
      refine th_two (j := 1) [0, 6, 7, 8, 9, 10, 11, 12] (by kernel_rfl) rfl ?_ ?_
      · refine (step_m rfl rfl (OpV.toG (opv_loadA rfl rfl rfl)) ?_)
        rintro _ _ _ ⟨rfl, rfl, rfl⟩
        refine ⟨Suf.h, (fun _ h => h), ?_⟩
        refine th_one (by kernel_rfl) (step_m rfl rfl (OpV.toG (opv_loadA rfl rfl rfl)) ?_)
        rintro _ _ _ ⟨rfl, rfl, rfl⟩
        refine ⟨Suf.h, (fun _ h => h), ?_⟩
        refine th_one (by kernel_rfl) (step_m rfl rfl (opg_call (xs := [_, _]) rfl (law06_kids (r := l.getD i default) hs1.sl hg.len hfi.1 hfi.2.1 hfi.2.2.1 hfi.2.2.2.1 hfi.2.2.2.2)) ?_)
        rintro _ _ _ ⟨rfl, rfl, rfl⟩
        refine ⟨Suf.h, (fun _ h => h), ?_⟩
        skip
        refine th_one (by kernel_rfl) (step_m rfl rfl (opg_call (xs := [_, _]) rfl (ref06_intern (room := RL.room c) hs1 hg.len hg.mod.rng)) ?_)
        rintro _ _ I2 ⟨a2, cap2, rfl, hs2, rfl, hI2⟩
        refine ⟨Suf.h, fun _ h => hI2 h, ?_⟩
        refine th_take rfl rfl (by kernel_rfl)  (opv_move rfl) ?_
        refine th_take rfl rfl (by kernel_rfl)  (opv_extract rfl rfl) ?_
        refine th_take rfl rfl (by kernel_rfl)  (opv_extract rfl rfl) ?_
        refine th_take rfl rfl (by kernel_rfl)  (opv_extract rfl rfl) ?_
        refine th_one (by kernel_rfl) (step_m rfl rfl (opg_store rfl rfl rfl rfl rfl rfl) ?_)
        rintro _ _ _ ⟨rfl, rfl⟩
        refine ⟨Suf.h, (by assumption), ?_⟩
        refine th_done (by kernel_rfl) ?_
        refine tri_inBlock ?_
        refine tri_then ?_
        refine tri_region ?_
        refine tri_v (opv_move rfl) rfl ?_
        refine tri_v (opv_add rfl rfl (w64 (by omega) (by omega))) rfl ?_
        refine tri_v (opv_assign rfl) rfl ?_
        refine tri_nil ?_
        refine tri_then ?_
        have hk2 := hK (i + 1, a2, cap2, I2) ⟨by simp only; omega, by simp only; omega, by simp only [e hlt]; exact hs2, fun _ h => hI2 (hI1 h)⟩ (by simp only; omega)
        simp only [e hlt] at hk2
        refine tri_sub ?_ hk2
        exact ⟨rfl, rfl, rfl, rfl, trivial⟩
      · refine (step_m rfl rfl (OpV.toG (opv_loadA rfl rfl rfl)) ?_)
        rintro _ _ _ ⟨rfl, rfl, rfl⟩
        refine ⟨Suf.h, (fun _ h => h), ?_⟩
        refine th_two (j := 6) [0, 7, 8, 9, 10, 11, 12] (by kernel_rfl) rfl ?_ ?_
        · refine (step_m rfl rfl (OpV.toG (opv_loadA rfl rfl rfl)) ?_)
          rintro _ _ _ ⟨rfl, rfl, rfl⟩
          refine ⟨Suf.h, (fun _ h => h), ?_⟩
          refine th_one (by kernel_rfl) (step_m rfl rfl (opg_call (xs := [_, _]) rfl (law06_kids (r := l.getD i default) hs1.sl hg.len hfi.1 hfi.2.1 hfi.2.2.1 hfi.2.2.2.1 hfi.2.2.2.2)) ?_)
          rintro _ _ _ ⟨rfl, rfl, rfl⟩
          refine ⟨Suf.h, (fun _ h => h), ?_⟩
          skip
          refine th_one (by kernel_rfl) (step_m rfl rfl (opg_call (xs := [_, _]) rfl (ref06_intern (room := RL.room c) hs1 hg.len hg.mod.rng)) ?_)
          rintro _ _ I2 ⟨a2, cap2, rfl, hs2, rfl, hI2⟩
          refine ⟨Suf.h, fun _ h => hI2 h, ?_⟩
          refine th_take rfl rfl (by kernel_rfl)  (opv_move rfl) ?_
          refine th_take rfl rfl (by kernel_rfl)  (opv_extract rfl rfl) ?_
          refine th_take rfl rfl (by kernel_rfl)  (opv_extract rfl rfl) ?_
          refine th_take rfl rfl (by kernel_rfl)  (opv_extract rfl rfl) ?_
          refine th_one (by kernel_rfl) (step_m rfl rfl (opg_store rfl rfl rfl rfl rfl rfl) ?_)
          rintro _ _ _ ⟨rfl, rfl⟩
          refine ⟨Suf.h, (by assumption), ?_⟩
          refine th_done (by kernel_rfl) ?_
          refine tri_inBlock ?_
          refine tri_then ?_
          refine tri_region ?_
          refine tri_v (opv_move rfl) rfl ?_
          refine tri_v (opv_add rfl rfl (w64 (by omega) (by omega))) rfl ?_
          refine tri_v (opv_assign rfl) rfl ?_
          refine tri_nil ?_
          refine tri_then ?_
          have hk2 := hK (i + 1, a2, cap2, I2) ⟨by simp only; omega, by simp only; omega, by simp only [e hlt]; exact hs2, fun _ h => hI2 (hI1 h)⟩ (by simp only; omega)
          simp only [e hlt] at hk2
          refine tri_sub ?_ hk2
          exact ⟨rfl, rfl, rfl, rfl, trivial⟩
        · refine (step_m rfl rfl (opg_call (xs := [_, _]) rfl (law06_kids (r := l.getD i default) hs1.sl hg.len hfi.1 hfi.2.1 hfi.2.2.1 hfi.2.2.2.1 hfi.2.2.2.2)) ?_)
          rintro _ _ _ ⟨rfl, rfl, rfl⟩
          refine ⟨Suf.h, (fun _ h => h), ?_⟩
          refine th_one (by kernel_rfl) (step_m rfl rfl (OpV.toG (opv_loadA rfl rfl rfl)) ?_)
          rintro _ _ _ ⟨rfl, rfl, rfl⟩
          refine ⟨Suf.h, (fun _ h => h), ?_⟩
          refine th_one (by kernel_rfl) (step_m rfl rfl (opg_call (xs := [_, _]) rfl (ref06_intern (room := RL.room c) hs1 hg.len hg.mod.rng)) ?_)
          rintro _ _ I2 ⟨a2, cap2, rfl, hs2, rfl, hI2⟩
          refine ⟨Suf.h, fun _ h => hI2 h, ?_⟩
          refine th_take rfl rfl (by kernel_rfl)  (opv_move rfl) ?_
          refine th_take rfl rfl (by kernel_rfl)  (opv_extract rfl rfl) ?_
          refine th_take rfl rfl (by kernel_rfl)  (opv_extract rfl rfl) ?_
          refine th_take rfl rfl (by kernel_rfl)  (opv_extract rfl rfl) ?_
          refine th_one (by kernel_rfl) (step_m rfl rfl (opg_store rfl rfl rfl rfl rfl rfl) ?_)
          rintro _ _ _ ⟨rfl, rfl⟩
          refine ⟨Suf.h, (by assumption), ?_⟩
          refine th_done (by kernel_rfl) ?_
          refine tri_inBlock ?_
          refine tri_then ?_
          refine tri_region ?_
          refine tri_v (opv_move rfl) rfl ?_
          refine tri_v (opv_add rfl rfl (w64 (by omega) (by omega))) rfl ?_
          refine tri_v (opv_assign rfl) rfl ?_
          refine tri_nil ?_
          refine tri_then ?_
          have hk2 := hK (i + 1, a2, cap2, I2) ⟨by simp only; omega, by simp only; omega, by simp only [e hlt]; exact hs2, fun _ h => hI2 (hI1 h)⟩ (by simp only; omega)
          simp only [e hlt] at hk2
          refine tri_sub ?_ hk2
          exact ⟨rfl, rfl, rfl, rfl, trivial⟩
    · refine tri_exit ?_
      refine tri_then_exit ?_
      refine tri_then_exit ?_
      refine tri_inBlock_hit rfl ?_
      refine tri_then ?_
      refine tri_seq ?_
      refine tri_region ?_
      refine tri_v (opv_loadA rfl rfl rfl) rfl ?_
      refine tri_g (opg_store rfl rfl rfl rfl rfl rfl) rfl ?_
      rintro _ _ _ ⟨rfl, rfl⟩
      refine tri_nil ?_
      refine tri_then ?_
      refine tri_ret ?_
      refine tri_end A Suf.h rfl (.cons (rv_cellA rfl rfl rfl) .nil) ⟨a1, cap1, ?_, ?_, rfl, hI1⟩
      · rw [fin (by omega)]; rfl
      · rw [fin (by omega)]; exact hs1
  · refine tri_guard_skip rfl rfl rfl rfl ?_
    refine tri_guard_skip rfl rfl rfl rfl ?_
    refine tri_v (opv_pick_f rfl rfl) rfl ?_
    refine tri_nil ?_
    refine tri_then ?_
    refine tri_cond_false rfl ?_
    refine tri_exit ?_
    refine tri_then_exit ?_
    refine tri_then_exit ?_
    refine tri_inBlock_hit rfl ?_
    refine tri_then ?_
    refine tri_seq ?_
    refine tri_region ?_
    refine tri_v (opv_loadA rfl rfl rfl) rfl ?_
    refine tri_g (opg_store rfl rfl rfl rfl rfl rfl) rfl ?_
    rintro _ _ _ ⟨rfl, rfl⟩
    refine tri_nil ?_
    refine tri_then ?_
    refine tri_ret ?_
    refine tri_end A Suf.h rfl (.cons (rv_cellA rfl rfl rfl) .nil) ⟨a1, cap1, ?_, ?_, rfl, hI1⟩
    · rw [fin (by omega)]; rfl
    · rw [fin (by omega)]; exact hs1
end Go.GL

set_option linter.unusedVariables false
namespace Go.GL
open Go.Proofs
attribute [local irreducible] wpList Code.wp Exit.then Exit.inBlock Ends Tri TriH OpV OpG FnC epf wpAnyH
variable {A : List Asrt} {I : List Chunk}
namespace RL
theorem set_len (raw : List Cell) : (set raw).length ≤ 60 := by
  unfold set
  have h := R1.puts_len ((raw.take 60).map cell16)
  rw [List.length_map, List.length_take] at h
  omega
theorem store_good {rm : Int} (h2 : 2 ≤ rm) (h3 : rm ≤ 100000) (l : List Five) : R6.Good (store rm l) rm := foldl_good h2 h3 _ _ (store0_good h2 h3)
end RL
set_option maxRecDepth 100000 in
theorem law07_square {nodes : List Five} {raw : List Cell} {a a2 : Option Addr} {cap cap2 : Nat} {c level : Int} (h0 : I64 c) (hs : SlAt I a nodes) (hf : RL.Fs nodes) (hs2 : SlAt I a2 raw) (hc : RL.Cs raw) (hl : I64 level) :
    FnC Try.prog 10 [.int .i64 c, .slice a nodes.length cap, .slice a2 raw.length cap2, .int .i64 level].toArray A I (fun v A' I' => ∃ a' cap', v = .tuple [storeV a' (RL.square c nodes raw level).1.length cap' (RL.room c + 500), .int .i64 (RL.square c nodes raw level).2.1].toArray ∧ StA I' a' cap' (RL.square c nodes raw level).1 ∧ A = A' ∧ I ⊆ I') := by
  have hrm := RL.room_bd c
  have hpk := pk_bd (c := level) (n := 4) (by decide)
  have hg := RL.store_good (rm := RL.room c) (by omega) (by omega) nodes
  have hsl := RL.set_len raw
  skip
  refine fn_enter4 Try.func10 rfl Try.ntmps10 rfl fun w0 => ?_
  refine tri_seq ?_
  refine tri_region ?_
  refine tri_g opg_alloc rfl ?_
  rintro _ _ _ ⟨b8, rfl, rfl, rfl⟩
  refine tri_v (opv_assign rfl) rfl ?_
  refine tri_nil ?_
  refine tri_then ?_
  refine tri_seq ?_
  refine tri_region ?_
  refine tri_v (opv_move rfl) rfl ?_
  refine tri_v (opv_move rfl) rfl ?_
  refine tri_g (opg_call (xs := [_, _]) rfl (law06_store h0 hs hf)) rfl ?_
  rintro _ _ I0 ⟨a0, cap0, rfl, hs0, rfl, hI0⟩
  refine tri_g opg_alloc rfl ?_
  rintro _ _ _ ⟨b10, rfl, rfl, rfl⟩
  refine tri_g (opg_store rfl rfl rfl rfl rfl rfl) rfl ?_
  rintro _ _ _ ⟨rfl, rfl⟩
  refine tri_nil ?_
  refine tri_then ?_
  refine tri_seq ?_
  refine tri_region ?_
  refine tri_v (opv_fieldAddr rfl rfl) rfl ?_
  refine tri_v (opv_load1 rfl rfl rfl) rfl ?_
  refine tri_v (opv_add rfl rfl (w64 (by omega) (by omega))) rfl ?_
  refine tri_v (opv_fieldAddr rfl rfl) rfl ?_
  refine tri_g (opg_store rfl rfl rfl rfl rfl rfl) rfl ?_
  rintro _ _ _ ⟨rfl, rfl⟩
  refine tri_nil ?_
  refine tri_then ?_
  refine tri_seq ?_
  refine tri_draw [0, 1, 3, 2, 4, 5, 6, 7, 8, 9, 10, 11, 12, 13, 14] rfl [] rfl mixed ?_
  refine th_take rfl rfl (by kernel_rfl)  (opv_loadA rfl rfl rfl) ?_
  refine th_take rfl rfl (by kernel_rfl)  (opv_move rfl) ?_
  refine th_take rfl rfl (by kernel_rfl)  (opv_move rfl) ?_
  refine th_two (j := 11) [2, 4, 5, 6, 7, 8, 9, 10, 12, 13, 14] (by kernel_rfl) rfl ?_ ?_
  · refine (step_m rfl rfl (opg_call (xs := [_]) rfl (law01_set (hs2.mono hI0) hc)) ?_)
    rintro _ _ I1 ⟨a1, cap1, rfl, hs1, rfl, hI1⟩
    refine ⟨Suf.h, hI1, ?_⟩
    refine th_two (j := 11) [4, 5, 6, 7, 8, 9, 10, 12, 13, 14] (by kernel_rfl) rfl ?_ ?_
    · refine (step_m rfl rfl (opg_call (xs := [_, _]) rfl (law07_pick hl.1 hl.2 (by decide))) ?_)
      rintro _ _ _ ⟨rfl, rfl, rfl⟩
      refine ⟨Suf.h, fun _ h => hI1 h, ?_⟩
      refine th_take rfl rfl (by kernel_rfl)  (opv_add rfl rfl (w64 (by omega) (by omega))) ?_
      refine th_two (j := 11) [6, 7, 8, 9, 10, 12, 13, 14] (by kernel_rfl) rfl ?_ ?_
      · refine (step_m rfl rfl (opg_call (xs := [_, _, _]) rfl (ref07_make (room := RL.room c + 500) (lv := 4 + pk level 4) (hs0.mono hI1) hg.len hg.mod.rng hs1 (by omega))) ?_)
        rintro _ _ I2 ⟨a3, cap3, rfl, hs3, rfl, hI2⟩
        refine ⟨Suf.h, fun _ h => hI2 (hI1 h), ?_⟩
        have hI12 : I0 ⊆ I2 := fun _ h => hI2 (hI1 h)
        refine th_take rfl rfl (by kernel_rfl)  (opv_move rfl) ?_
        refine th_take rfl rfl (by kernel_rfl)  (opv_extract rfl rfl) ?_
        refine th_take rfl rfl (by kernel_rfl)  (opv_extract rfl rfl) ?_
        refine th_take rfl rfl (by kernel_rfl)  (opv_extract rfl rfl) ?_
        refine th_one (by kernel_rfl) (step_m rfl rfl opg_alloc ?_)
        rintro _ _ _ ⟨b11, rfl, rfl, rfl⟩
        refine ⟨Suf.h, (by assumption), ?_⟩
        refine th_one (by kernel_rfl) (step_m rfl rfl (opg_store rfl rfl rfl rfl rfl rfl) ?_)
        rintro _ _ _ ⟨rfl, rfl⟩
        refine ⟨Suf.h, (by assumption), ?_⟩
        refine th_take rfl rfl (by kernel_rfl)  (opv_assign rfl) ?_
        refine th_take rfl rfl (by kernel_rfl)  (opv_assign rfl) ?_
        refine th_done (by kernel_rfl) ?_
        refine tri_then ?_
        refine tri_seq ?_
        refine tri_region ?_
        refine tri_v (opv_loadA rfl rfl rfl) rfl ?_
        refine tri_v (opv_move rfl) rfl ?_
        refine tri_g (opg_store rfl rfl rfl rfl rfl rfl) rfl ?_
        rintro _ _ _ ⟨rfl, rfl⟩
        refine tri_v (opv_assign rfl) rfl ?_
        refine tri_nil ?_
        refine tri_then ?_
        refine tri_ret ?_
        refine tri_end A Suf.h rfl (.cons (rv_cellA rfl rfl rfl) (.cons (rv_tmp rfl) .nil)) ⟨a3, cap3, rfl, hs3, rfl, fun _ h => hI2 (hI1 (hI0 h))⟩
      · refine (step_m rfl rfl opg_alloc ?_)
        rintro _ _ _ ⟨b11, rfl, rfl, rfl⟩
        refine ⟨Suf.h, (by assumption), ?_⟩
        refine th_one (by kernel_rfl) (step_m rfl rfl (opg_call (xs := [_, _, _]) rfl (ref07_make (room := RL.room c + 500) (lv := 4 + pk level 4) (hs0.mono hI1) hg.len hg.mod.rng hs1 (by omega))) ?_)
        rintro _ _ I2 ⟨a3, cap3, rfl, hs3, rfl, hI2⟩
        refine ⟨Suf.h, fun _ h => hI2 (hI1 h), ?_⟩
        have hI12 : I0 ⊆ I2 := fun _ h => hI2 (hI1 h)
        refine th_take rfl rfl (by kernel_rfl)  (opv_move rfl) ?_
        refine th_take rfl rfl (by kernel_rfl)  (opv_extract rfl rfl) ?_
        refine th_take rfl rfl (by kernel_rfl)  (opv_extract rfl rfl) ?_
        refine th_take rfl rfl (by kernel_rfl)  (opv_extract rfl rfl) ?_
        refine th_one (by kernel_rfl) (step_m rfl rfl (opg_store rfl rfl rfl rfl rfl rfl) ?_)
        rintro _ _ _ ⟨rfl, rfl⟩
        refine ⟨Suf.h, (by assumption), ?_⟩
        refine th_take rfl rfl (by kernel_rfl)  (opv_assign rfl) ?_
        refine th_take rfl rfl (by kernel_rfl)  (opv_assign rfl) ?_
        refine th_done (by kernel_rfl) ?_
        refine tri_then ?_
        refine tri_seq ?_
        refine tri_region ?_
        refine tri_v (opv_loadA rfl rfl rfl) rfl ?_
        refine tri_v (opv_move rfl) rfl ?_
        refine tri_g (opg_store rfl rfl rfl rfl rfl rfl) rfl ?_
        rintro _ _ _ ⟨rfl, rfl⟩
        refine tri_v (opv_assign rfl) rfl ?_
        refine tri_nil ?_
        refine tri_then ?_
        refine tri_ret ?_
        refine tri_end A Suf.h rfl (.cons (rv_cellA rfl rfl rfl) (.cons (rv_tmp rfl) .nil)) ⟨a3, cap3, rfl, hs3, rfl, fun _ h => hI2 (hI1 (hI0 h))⟩
    · refine (step_m rfl rfl opg_alloc ?_)
      rintro _ _ _ ⟨b11, rfl, rfl, rfl⟩
      refine ⟨Suf.h, (by assumption), ?_⟩
      refine th_one (by kernel_rfl) (step_m rfl rfl (opg_call (xs := [_, _]) rfl (law07_pick hl.1 hl.2 (by decide))) ?_)
      rintro _ _ _ ⟨rfl, rfl, rfl⟩
      refine ⟨Suf.h, fun _ h => hI1 h, ?_⟩
      refine th_take rfl rfl (by kernel_rfl)  (opv_add rfl rfl (w64 (by omega) (by omega))) ?_
      refine th_one (by kernel_rfl) (step_m rfl rfl (opg_call (xs := [_, _, _]) rfl (ref07_make (room := RL.room c + 500) (lv := 4 + pk level 4) (hs0.mono hI1) hg.len hg.mod.rng hs1 (by omega))) ?_)
      rintro _ _ I2 ⟨a3, cap3, rfl, hs3, rfl, hI2⟩
      refine ⟨Suf.h, fun _ h => hI2 (hI1 h), ?_⟩
      have hI12 : I0 ⊆ I2 := fun _ h => hI2 (hI1 h)
      refine th_take rfl rfl (by kernel_rfl)  (opv_move rfl) ?_
      refine th_take rfl rfl (by kernel_rfl)  (opv_extract rfl rfl) ?_
      refine th_take rfl rfl (by kernel_rfl)  (opv_extract rfl rfl) ?_
      refine th_take rfl rfl (by kernel_rfl)  (opv_extract rfl rfl) ?_
      refine th_one (by kernel_rfl) (step_m rfl rfl (opg_store rfl rfl rfl rfl rfl rfl) ?_)
      rintro _ _ _ ⟨rfl, rfl⟩
      refine ⟨Suf.h, (by assumption), ?_⟩
      refine th_take rfl rfl (by kernel_rfl)  (opv_assign rfl) ?_
      refine th_take rfl rfl (by kernel_rfl)  (opv_assign rfl) ?_
      refine th_done (by kernel_rfl) ?_
      refine tri_then ?_
      refine tri_seq ?_
      refine tri_region ?_
      refine tri_v (opv_loadA rfl rfl rfl) rfl ?_
      refine tri_v (opv_move rfl) rfl ?_
      refine tri_g (opg_store rfl rfl rfl rfl rfl rfl) rfl ?_
      rintro _ _ _ ⟨rfl, rfl⟩
      refine tri_v (opv_assign rfl) rfl ?_
      refine tri_nil ?_
      refine tri_then ?_
      refine tri_ret ?_
      refine tri_end A Suf.h rfl (.cons (rv_cellA rfl rfl rfl) (.cons (rv_tmp rfl) .nil)) ⟨a3, cap3, rfl, hs3, rfl, fun _ h => hI2 (hI1 (hI0 h))⟩
  · refine (step_m rfl rfl opg_alloc ?_)
    rintro _ _ _ ⟨b11, rfl, rfl, rfl⟩
    refine ⟨Suf.h, (fun _ h => h), ?_⟩
    refine th_one (by kernel_rfl) (step_m rfl rfl (opg_call (xs := [_]) rfl (law01_set (hs2.mono hI0) hc)) ?_)
    rintro _ _ I1 ⟨a1, cap1, rfl, hs1, rfl, hI1⟩
    refine ⟨Suf.h, hI1, ?_⟩
    refine th_one (by kernel_rfl) (step_m rfl rfl (opg_call (xs := [_, _]) rfl (law07_pick hl.1 hl.2 (by decide))) ?_)
    rintro _ _ _ ⟨rfl, rfl, rfl⟩
    refine ⟨Suf.h, fun _ h => hI1 h, ?_⟩
    refine th_take rfl rfl (by kernel_rfl)  (opv_add rfl rfl (w64 (by omega) (by omega))) ?_
    refine th_one (by kernel_rfl) (step_m rfl rfl (opg_call (xs := [_, _, _]) rfl (ref07_make (room := RL.room c + 500) (lv := 4 + pk level 4) (hs0.mono hI1) hg.len hg.mod.rng hs1 (by omega))) ?_)
    rintro _ _ I2 ⟨a3, cap3, rfl, hs3, rfl, hI2⟩
    refine ⟨Suf.h, fun _ h => hI2 (hI1 h), ?_⟩
    have hI12 : I0 ⊆ I2 := fun _ h => hI2 (hI1 h)
    refine th_take rfl rfl (by kernel_rfl)  (opv_move rfl) ?_
    refine th_take rfl rfl (by kernel_rfl)  (opv_extract rfl rfl) ?_
    refine th_take rfl rfl (by kernel_rfl)  (opv_extract rfl rfl) ?_
    refine th_take rfl rfl (by kernel_rfl)  (opv_extract rfl rfl) ?_
    refine th_one (by kernel_rfl) (step_m rfl rfl (opg_store rfl rfl rfl rfl rfl rfl) ?_)
    rintro _ _ _ ⟨rfl, rfl⟩
    refine ⟨Suf.h, (by assumption), ?_⟩
    refine th_take rfl rfl (by kernel_rfl)  (opv_assign rfl) ?_
    refine th_take rfl rfl (by kernel_rfl)  (opv_assign rfl) ?_
    refine th_done (by kernel_rfl) ?_
    refine tri_then ?_
    refine tri_seq ?_
    refine tri_region ?_
    refine tri_v (opv_loadA rfl rfl rfl) rfl ?_
    refine tri_v (opv_move rfl) rfl ?_
    refine tri_g (opg_store rfl rfl rfl rfl rfl rfl) rfl ?_
    rintro _ _ _ ⟨rfl, rfl⟩
    refine tri_v (opv_assign rfl) rfl ?_
    refine tri_nil ?_
    refine tri_then ?_
    refine tri_ret ?_
    refine tri_end A Suf.h rfl (.cons (rv_cellA rfl rfl rfl) (.cons (rv_tmp rfl) .nil)) ⟨a3, cap3, rfl, hs3, rfl, fun _ h => hI2 (hI1 (hI0 h))⟩
set_option maxRecDepth 100000 in
theorem law08_crop {l : List Cell} {a : Option Addr} {cap : Nat} {x y half : Int} (hs : SlAt I a l) (hn : l.length ≤ 1000000000) (hb : ∀ i, i < l.length → R2.bd (l.getD i default))
    (hx : -2199023255552 ≤ x ∧ x ≤ 2199023255552) (hy : -2199023255552 ≤ y ∧ y ≤ 2199023255552) (hh : 0 ≤ half ∧ half ≤ 2199023255552) :
    FnC Try.prog 21 [.slice a l.length cap, .int .i64 x, .int .i64 y, .int .i64 half].toArray A I (fun v A' I' => ∃ a' cap', v = .slice a' (RL.crop l x y half).length cap' ∧ SlAt I' a' (RL.crop l x y half) ∧ A = A' ∧ I ⊆ I') := by
  have e0 : RL.crop l x y half = R1.puts (((l.take l.length).map fun c => (⟨c.x - x, c.y - y⟩ : Cell)).filter fun c => decide (RL.cropIn half c)) := by rw [List.take_length]; rfl
  skip
  refine fn_enter4 Try.func21 rfl Try.ntmps21 rfl fun w0 => ?_
  refine tri_seq ?_
  refine tri_region ?_
  refine tri_v (opv_assign rfl) rfl ?_
  refine tri_nil ?_
  refine tri_then ?_
  refine tri_seq ?_
  refine tri_region ?_
  refine tri_v (opv_assign rfl) rfl ?_
  refine tri_nil ?_
  refine tri_then ?_
  refine tri_seq ?_
  refine tri_seq ?_
  refine tri_region ?_
  refine tri_v (opv_assign rfl) rfl ?_
  refine tri_nil ?_
  refine tri_then ?_
  refine tri_block ?_
  refine tri_sub (F' := [(0, .slice a l.length cap), (1, .int .i64 x), (2, .int .i64 y), (3, .int .i64 half), (9, .slice none 0 0), (10, .int .i64 (0 : Nat))]) ⟨rfl, rfl, rfl, rfl, rfl, rfl, trivial⟩ ?_
  refine loop_ind (G := Nat × Option Addr × Nat × List Chunk) (fun g => l.length - g.1) (fun g => g.1 ≤ l.length ∧ SlAt g.2.2.2 g.2.1 (R1.puts (((l.take g.1).map fun c => (⟨c.x - x, c.y - y⟩ : Cell)).filter fun c => decide (RL.cropIn half c))) ∧ I ⊆ g.2.2.2) (fun g => [(0, .slice a l.length cap), (1, .int .i64 x), (2, .int .i64 y), (3, .int .i64 half), (9, .slice g.2.1 (R1.puts (((l.take g.1).map fun c => (⟨c.x - x, c.y - y⟩ : Cell)).filter fun c => decide (RL.cropIn half c))).length g.2.2.1), (10, .int .i64 (g.1 : Nat))]) (fun _ => A) (fun g => g.2.2.2) ?_ (0, none, 0, I) ⟨by omega, SlAt.nil, fun _ h => h⟩
  rintro ⟨i, a1, cap1, I1⟩ ⟨hi, hs1, hI1⟩ K hK
  simp only at hi hs1 hI1 hK ⊢
  have hsm : SlAt I1 a l := hs.mono hI1
  have hl1 := R1.puts_len (((l.take i).map fun c => (⟨c.x - x, c.y - y⟩ : Cell)).filter fun c => decide (RL.cropIn half c))
  have hl2 := List.length_filter_le (fun c => decide (RL.cropIn half c)) ((l.take i).map fun c => (⟨c.x - x, c.y - y⟩ : Cell))
  rw [List.length_map, List.length_take] at hl2
  have es : ∀ h : i < l.length, R1.puts (((l.take (i + 1)).map fun c => (⟨c.x - x, c.y - y⟩ : Cell)).filter fun c => decide (RL.cropIn half c)) = if RL.cropIn half ⟨(l.getD i default).x - x, (l.getD i default).y - y⟩ then R1.put (R1.puts (((l.take i).map fun c => (⟨c.x - x, c.y - y⟩ : Cell)).filter fun c => decide (RL.cropIn half c))) ⟨(l.getD i default).x - x, (l.getD i default).y - y⟩ else R1.puts (((l.take i).map fun c => (⟨c.x - x, c.y - y⟩ : Cell)).filter fun c => decide (RL.cropIn half c)) := fun h => by
    rw [List.take_succ_eq_append_getElem h, List.map_append, List.filter_append, show l.getD i default = l[i] by simp [h]]
    simp only [List.map_cons, List.map_nil]
    split
    · rename_i hc
      rw [List.filter_cons_of_pos (by simpa using hc), List.filter_nil, R1.puts_snoc]
    · rename_i hc
      rw [List.filter_cons_of_neg (by simpa using hc), List.filter_nil, List.append_nil]
  generalize hacc : R1.puts (((l.take i).map fun c => (⟨c.x - x, c.y - y⟩ : Cell)).filter fun c => decide (RL.cropIn half c)) = acc at *
  skip
  refine tri_seq ?_
  refine tri_seq ?_
  refine tri_region ?_
  refine tri_v (opv_move rfl) rfl ?_
  refine tri_v (opv_move rfl) rfl ?_
  refine tri_v (opv_len rfl) rfl ?_
  refine tri_v (opv_lss rfl rfl) rfl ?_
  refine tri_nil ?_
  refine tri_then ?_
  refine tri_cond_dec rfl (fun h => ?_) (fun h => ?_)
  · have hlt : i < l.length := by omega
    have hbi := hb i hlt
    unfold R2.bd at hbi
    have es := es hlt
    refine tri_skip ?_
    refine tri_then ?_
    refine tri_seq ?_
    refine tri_block ?_
    refine tri_seq ?_
    refine tri_cut (fun F' A' J => ∃ b11, F' = [(0, .slice a l.length cap), (1, .int .i64 x), (2, .int .i64 y), (3, .int .i64 half), (9, .slice a1 acc.length cap1), (10, .int .i64 (i : Nat)), (11, pt b11 0)] ∧ A' = Box b11 [.int .i64 ((l.getD i default).x - x), .int .i64 ((l.getD i default).y - y)] 55 :: A ∧ I1 = J) ?_ ?_
    · refine tri_draw [0, 1, 2, 3, 4, 5, 6, 7, 8, 9, 10, 11, 12, 13, 14, 15, 16] rfl [] rfl mixed ?_
      refine th_take rfl rfl (by kernel_rfl)  (opv_move rfl) ?_
      refine th_take rfl rfl (by kernel_rfl)  (opv_move rfl) ?_
      refine th_take rfl rfl (by kernel_rfl)  (opv_indexAddrSN rfl rfl (by omega) (by assumption) rfl) ?_
      refine th_take rfl rfl (by kernel_rfl)  (opv_fieldAddrE rfl (by assumption) (by omega) rfl) ?_
      refine th_take rfl rfl (by kernel_rfl)  (opv_loadE1 rfl (by assumption) rfl (by omega) rfl rfl) ?_
      refine th_take rfl rfl (by kernel_rfl)  (opv_move rfl) ?_
      refine th_take rfl rfl (by kernel_rfl)  (opv_sub rfl rfl (w64 (by omega) (by omega))) ?_
      refine th_take rfl rfl (by kernel_rfl)  (opv_move rfl) ?_
      refine th_take rfl rfl (by kernel_rfl)  (opv_move rfl) ?_
      refine th_take rfl rfl (by kernel_rfl)  (opv_indexAddrSN rfl rfl (by omega) (by assumption) rfl) ?_
      refine th_take rfl rfl (by kernel_rfl)  (opv_fieldAddrE rfl (by assumption) (by omega) rfl) ?_
      refine th_take rfl rfl (by kernel_rfl)  (opv_loadE1 rfl (by assumption) rfl (by omega) rfl rfl) ?_
      refine th_take rfl rfl (by kernel_rfl)  (opv_move rfl) ?_
      refine th_take rfl rfl (by kernel_rfl)  (opv_sub rfl rfl (w64 (by omega) (by omega))) ?_
      refine th_take rfl rfl (by kernel_rfl)  (opv_buildS rfl rfl) ?_
      refine th_one (by kernel_rfl) (step_m rfl rfl opg_alloc ?_)
      rintro _ _ _ ⟨b11, rfl, rfl, rfl⟩
      refine ⟨Suf.h, (fun _ h => h), ?_⟩
      refine th_one (by kernel_rfl) (step_m rfl rfl (opg_store rfl rfl rfl rfl rfl rfl) ?_)
      rintro _ _ _ ⟨rfl, rfl⟩
      refine ⟨Suf.h, (fun _ h => h), ?_⟩
      refine th_done (by kernel_rfl) ?_
      refine tri_cutEnd _ ⟨b11, rfl, rfl, rfl⟩ ⟨rfl, rfl, rfl, rfl, rfl, rfl, rfl, trivial⟩
    · rintro _ _ _ ⟨b11, rfl, rfl, rfl⟩
      refine tri_then ?_
      refine tri_seq ?_
      refine tri_region ?_
      refine tri_v (opv_fieldAddr rfl rfl) rfl ?_
      refine tri_v (opv_load1 rfl rfl rfl) rfl ?_
      refine tri_v (opv_move rfl) rfl ?_
      refine tri_v (opv_negE rfl (by omega) (by omega)) rfl ?_
      refine tri_v (opv_geq rfl rfl) rfl ?_
      refine tri_v (opv_move rfl) rfl ?_
      refine tri_split rfl rfl (fun h1 => ?_) (fun h1 => ?_)
      · refine tri_guard_run rfl rfl rfl ?_
        refine tri_v (opv_fieldAddr rfl rfl) rfl ?_
        refine tri_guard_run rfl rfl rfl ?_
        refine tri_v (opv_load1 rfl rfl rfl) rfl ?_
        refine tri_guard_run rfl rfl rfl ?_
        refine tri_v (opv_move rfl) rfl ?_
        refine tri_guard_run rfl rfl rfl ?_
        refine tri_v (opv_lss rfl rfl) rfl ?_
        refine tri_v (opv_pick_t rfl rfl) rfl ?_
        refine tri_v (opv_move rfl) rfl ?_
        refine tri_split rfl rfl (fun h2 => ?_) (fun h2 => ?_)
        · refine tri_guard_run rfl rfl rfl ?_
          refine tri_v (opv_fieldAddr rfl rfl) rfl ?_
          refine tri_guard_run rfl rfl rfl ?_
          refine tri_v (opv_load1 rfl rfl rfl) rfl ?_
          refine tri_guard_run rfl rfl rfl ?_
          refine tri_v (opv_move rfl) rfl ?_
          refine tri_guard_run rfl rfl rfl ?_
          refine tri_v (opv_negE rfl (by omega) (by omega)) rfl ?_
          refine tri_guard_run rfl rfl rfl ?_
          refine tri_v (opv_geq rfl rfl) rfl ?_
          refine tri_v (opv_pick_t rfl rfl) rfl ?_
          refine tri_v (opv_move rfl) rfl ?_
          refine tri_split rfl rfl (fun h3 => ?_) (fun h3 => ?_)
          · refine tri_guard_run rfl rfl rfl ?_
            refine tri_v (opv_fieldAddr rfl rfl) rfl ?_
            refine tri_guard_run rfl rfl rfl ?_
            refine tri_v (opv_load1 rfl rfl rfl) rfl ?_
            refine tri_guard_run rfl rfl rfl ?_
            refine tri_v (opv_move rfl) rfl ?_
            refine tri_guard_run rfl rfl rfl ?_
            refine tri_v (opv_lss rfl rfl) rfl ?_
            refine tri_v (opv_pick_t rfl rfl) rfl ?_
            refine tri_nil ?_
            refine tri_then ?_
            refine tri_cond_dec rfl (fun h4 => ?_) (fun h4 => ?_)
            · refine tri_region ?_
              refine tri_v (opv_move rfl) rfl ?_
              refine tri_v (opv_loadA rfl rfl rfl) rfl ?_
              have hf : RL.cropIn half ⟨(l.getD i default).x - x, (l.getD i default).y - y⟩ := ⟨⟨h1, h2⟩, h3, h4⟩
              rw [if_pos hf] at es
              refine tri_g (opg_call (xs := [_, _]) rfl (ref01_put (c := ⟨(l.getD i default).x - x, (l.getD i default).y - y⟩) hs1 (by omega))) rfl ?_
              rintro _ _ I2 ⟨a2, cap2, rfl, hs2, rfl, hI2⟩
              refine tri_v (opv_assign rfl) rfl ?_
              refine tri_nil ?_
              refine tri_inBlock ?_
              refine tri_then ?_
              refine tri_region ?_
              refine tri_v (opv_move rfl) rfl ?_
              refine tri_v (opv_add rfl rfl (w64 (by omega) (by omega))) rfl ?_
              refine tri_v (opv_assign rfl) rfl ?_
              refine tri_nil ?_
              refine tri_then ?_
              refine tri_drop ?_
              have hk2 := hK (i + 1, a2, cap2, I2) ⟨by simp only; omega, by simp only [es]; exact hs2, fun _ h => hI2 (hI1 h)⟩ (by simp only; omega)
              simp only [es] at hk2
              refine tri_sub ?_ hk2
              exact ⟨rfl, rfl, rfl, rfl, rfl, rfl, trivial⟩
            · refine tri_skip ?_
              refine tri_inBlock ?_
              refine tri_then ?_
              refine tri_region ?_
              refine tri_v (opv_move rfl) rfl ?_
              refine tri_v (opv_add rfl rfl (w64 (by omega) (by omega))) rfl ?_
              refine tri_v (opv_assign rfl) rfl ?_
              refine tri_nil ?_
              refine tri_then ?_
              have hf : ¬ RL.cropIn half ⟨(l.getD i default).x - x, (l.getD i default).y - y⟩ := fun hf => by
                obtain ⟨⟨g1, g2⟩, g3, g4⟩ := hf
                exact h4 g4
              rw [if_neg hf] at es
              refine tri_drop ?_
              have hk2 := hK (i + 1, a1, cap1, I1) ⟨by simp only; omega, by simp only [es]; exact hs1, hI1⟩ (by simp only; omega)
              simp only [es] at hk2
              refine tri_sub ?_ hk2
              exact ⟨rfl, rfl, rfl, rfl, rfl, rfl, trivial⟩
          · refine tri_guard_skip rfl rfl rfl rfl ?_
            refine tri_guard_skip rfl rfl rfl rfl ?_
            refine tri_guard_skip rfl rfl rfl rfl ?_
            refine tri_guard_skip rfl rfl rfl rfl ?_
            refine tri_v (opv_pick_f rfl rfl) rfl ?_
            refine tri_nil ?_
            refine tri_then ?_
            refine tri_cond_false rfl ?_
            refine tri_skip ?_
            refine tri_inBlock ?_
            refine tri_then ?_
            refine tri_region ?_
            refine tri_v (opv_move rfl) rfl ?_
            refine tri_v (opv_add rfl rfl (w64 (by omega) (by omega))) rfl ?_
            refine tri_v (opv_assign rfl) rfl ?_
            refine tri_nil ?_
            refine tri_then ?_
            have hf : ¬ RL.cropIn half ⟨(l.getD i default).x - x, (l.getD i default).y - y⟩ := fun hf => by
              obtain ⟨⟨g1, g2⟩, g3, g4⟩ := hf
              exact h3 g3
            rw [if_neg hf] at es
            refine tri_drop ?_
            have hk2 := hK (i + 1, a1, cap1, I1) ⟨by simp only; omega, by simp only [es]; exact hs1, hI1⟩ (by simp only; omega)
            simp only [es] at hk2
            refine tri_sub ?_ hk2
            exact ⟨rfl, rfl, rfl, rfl, rfl, rfl, trivial⟩
        · refine tri_guard_skip rfl rfl rfl rfl ?_
          refine tri_guard_skip rfl rfl rfl rfl ?_
          refine tri_guard_skip rfl rfl rfl rfl ?_
          refine tri_guard_skip rfl rfl rfl rfl ?_
          refine tri_guard_skip rfl rfl rfl rfl ?_
          refine tri_v (opv_pick_f rfl rfl) rfl ?_
          refine tri_v (opv_move rfl) rfl ?_
          refine tri_guard_skip rfl rfl rfl rfl ?_
          refine tri_guard_skip rfl rfl rfl rfl ?_
          refine tri_guard_skip rfl rfl rfl rfl ?_
          refine tri_guard_skip rfl rfl rfl rfl ?_
          refine tri_v (opv_pick_f rfl rfl) rfl ?_
          refine tri_nil ?_
          refine tri_then ?_
          refine tri_cond_false rfl ?_
          refine tri_skip ?_
          refine tri_inBlock ?_
          refine tri_then ?_
          refine tri_region ?_
          refine tri_v (opv_move rfl) rfl ?_
          refine tri_v (opv_add rfl rfl (w64 (by omega) (by omega))) rfl ?_
          refine tri_v (opv_assign rfl) rfl ?_
          refine tri_nil ?_
          refine tri_then ?_
          have hf : ¬ RL.cropIn half ⟨(l.getD i default).x - x, (l.getD i default).y - y⟩ := fun hf => by
            obtain ⟨⟨g1, g2⟩, g3, g4⟩ := hf
            exact h2 g2
          rw [if_neg hf] at es
          refine tri_drop ?_
          have hk2 := hK (i + 1, a1, cap1, I1) ⟨by simp only; omega, by simp only [es]; exact hs1, hI1⟩ (by simp only; omega)
          simp only [es] at hk2
          refine tri_sub ?_ hk2
          exact ⟨rfl, rfl, rfl, rfl, rfl, rfl, trivial⟩
      · refine tri_guard_skip rfl rfl rfl rfl ?_
        refine tri_guard_skip rfl rfl rfl rfl ?_
        refine tri_guard_skip rfl rfl rfl rfl ?_
        refine tri_guard_skip rfl rfl rfl rfl ?_
        refine tri_v (opv_pick_f rfl rfl) rfl ?_
        refine tri_v (opv_move rfl) rfl ?_
        refine tri_guard_skip rfl rfl rfl rfl ?_
        refine tri_guard_skip rfl rfl rfl rfl ?_
        refine tri_guard_skip rfl rfl rfl rfl ?_
        refine tri_guard_skip rfl rfl rfl rfl ?_
        refine tri_guard_skip rfl rfl rfl rfl ?_
        refine tri_v (opv_pick_f rfl rfl) rfl ?_
        refine tri_v (opv_move rfl) rfl ?_
        refine tri_guard_skip rfl rfl rfl rfl ?_
        refine tri_guard_skip rfl rfl rfl rfl ?_
        refine tri_guard_skip rfl rfl rfl rfl ?_
        refine tri_guard_skip rfl rfl rfl rfl ?_
        refine tri_v (opv_pick_f rfl rfl) rfl ?_
        refine tri_nil ?_
        refine tri_then ?_
        refine tri_cond_false rfl ?_
        refine tri_skip ?_
        refine tri_inBlock ?_
        refine tri_then ?_
        refine tri_region ?_
        refine tri_v (opv_move rfl) rfl ?_
        refine tri_v (opv_add rfl rfl (w64 (by omega) (by omega))) rfl ?_
        refine tri_v (opv_assign rfl) rfl ?_
        refine tri_nil ?_
        refine tri_then ?_
        have hf : ¬ RL.cropIn half ⟨(l.getD i default).x - x, (l.getD i default).y - y⟩ := fun hf => by
          obtain ⟨⟨g1, g2⟩, g3, g4⟩ := hf
          exact h1 g1
        rw [if_neg hf] at es
        refine tri_drop ?_
        have hk2 := hK (i + 1, a1, cap1, I1) ⟨by simp only; omega, by simp only [es]; exact hs1, hI1⟩ (by simp only; omega)
        simp only [es] at hk2
        refine tri_sub ?_ hk2
        exact ⟨rfl, rfl, rfl, rfl, rfl, rfl, trivial⟩
  · refine tri_exit ?_
    refine tri_then_exit ?_
    refine tri_then_exit ?_
    refine tri_inBlock_hit rfl ?_
    refine tri_then ?_
    refine tri_seq ?_
    refine tri_region ?_
    refine tri_v (opv_move rfl) rfl ?_
    refine tri_v (opv_assign rfl) rfl ?_
    refine tri_nil ?_
    refine tri_then ?_
    refine tri_ret ?_
    have e : i = l.length := by omega
    subst e
    rw [e0, hacc]
    refine tri_end A Suf.h rfl (.cons (rv_tmp rfl) .nil) ⟨a1, cap1, rfl, hs1, rfl, hI1⟩
end Go.GL

set_option linter.unusedVariables false
namespace Go.GL
namespace RL
def awM : List Node × Int × Int := R7.make [R6.n0, R6.n1] 50 [⟨-1, 0⟩, ⟨0, 0⟩, ⟨1, 0⟩] 2
def awA : List Node × Int × Int := R8.step awM.1 50 awM.2.1
def awB : List Node × Int × Int := R8.centre awM.1 50 awM.2.1
def awC : R8.R9 := R8.nine awM.1 50 awM.2.1
def awD : List Node × Int × Int := R8.step awM.1 50 1
set_option maxRecDepth 100000 in
theorem aw_ok : (awM.1.length ≤ 50 ∧ R6.Mod awM.1) ∧ (0 ≤ awA.2.1 ∧ awA.2.1 < awA.1.length ∧ awA.2.2 = 0 ∧ (awA.1.getD awA.2.1.toNat default).kids = [0, 1, 0, 1])
    ∧ (0 ≤ awB.2.1 ∧ awB.2.1 < awB.1.length ∧ awB.2.2 = 0 ∧ (awB.1.getD awB.2.1.toNat default).kids = [0, 0, 1, 1])
    ∧ (awC.2.2 = 0 ∧ ∃ q8, awC.2.1.getD 8 default = q8 ∧ 0 ≤ q8 ∧ q8 < awC.1.length ∧ (awC.1.getD q8.toNat default).kids = [1, 1, 0, 0])
    ∧ (∃ q4, awC.2.1.getD 4 default = q4 ∧ 0 ≤ q4 ∧ q4 < awC.1.length ∧ (awC.1.getD q4.toNat default).kids = [0, 0, 1, 1]) ∧ awD.2.2 = 1 := by
  refine ⟨⟨by decide +kernel, by unfold R6.Mod; decide +kernel⟩, by decide +kernel, by decide +kernel, ⟨by decide +kernel, _, rfl, by decide +kernel⟩, ⟨_, rfl, by decide +kernel⟩, by decide +kernel⟩
end RL
end Go.GL

set_option linter.unusedVariables false
namespace Go.GL
open Go.Proofs
attribute [local irreducible] wpList Code.wp Exit.then Exit.inBlock Ends Tri TriH OpV OpG FnC epf wpAnyH
variable {A : List Asrt} {I : List Chunk}
set_option maxHeartbeats 2000000 in
set_option maxRecDepth 100000 in
theorem law08_awake : FnC Try.prog 9 #[] A I (fun v A' I' => v = .bool true ∧ A = A' ∧ I ⊆ I') := by
  obtain ⟨⟨hml, hmm⟩, ⟨a1, a2, a3, a4⟩, ⟨b1, b2, b3, b4⟩, ⟨c1, p8, hp8, c2, c3, c4⟩, ⟨p4, hp4, d2, d3, d4⟩, e1⟩ := RL.aw_ok
  skip
  refine fn_enter0 Try.func9 rfl Try.ntmps9 rfl fun w0 => ?_
  refine tri_seq ?_
  refine tri_region ?_
  refine tri_v (opv_assign rfl) rfl ?_
  refine tri_nil ?_
  refine tri_then ?_
  refine tri_seq ?_
  refine tri_region ?_
  refine tri_g (opg_call (xs := [_]) rfl (ref06_new)) rfl ?_
  rintro _ _ I0 ⟨a0, cap0, rfl, hs0, rfl, hI0⟩
  rw [show R6.new 50 = ([R6.n0, R6.n1], 50) from by decide] at hs0 ⊢
  refine tri_v (opv_buildS rfl rfl) rfl ?_
  refine tri_v (opv_buildS rfl rfl) rfl ?_
  refine tri_v (opv_buildS rfl rfl) rfl ?_
  refine tri_g (opg_buildSlice rfl rfl rfl rfl) rfl ?_
  rintro _ _ _ ⟨b21, rfl, rfl, rfl⟩
  refine tri_freezeBoxS [(⟨-1, 0⟩ : Cell), ⟨0, 0⟩, ⟨1, 0⟩] rfl fun I1 hI1 hs1 => ?_
  refine tri_g (opg_call (xs := [_, _, _]) rfl (ref07_make (room := 50) (lv := 2) (l := [⟨-1, 0⟩, ⟨0, 0⟩, ⟨1, 0⟩]) (hs0.mono hI1) (by decide) (by unfold R6.Rng; decide) hs1 (by decide))) rfl ?_
  rintro _ _ I2 ⟨a3', cap3, rfl, hs3, rfl, hI2⟩
  rw [show R7.make [R6.n0, R6.n1] 50 [⟨-1, 0⟩, ⟨0, 0⟩, ⟨1, 0⟩] 2 = RL.awM from rfl] at hs3 ⊢
  have eA : R8.step RL.awM.1 50 RL.awM.2.1 = RL.awA := rfl
  have eB : R8.centre RL.awM.1 50 RL.awM.2.1 = RL.awB := rfl
  have eC : R8.nine RL.awM.1 50 RL.awM.2.1 = RL.awC := rfl
  have eD : R8.step RL.awM.1 50 1 = RL.awD := rfl
  generalize RL.awM = M at *
  refine tri_v (opv_move rfl) rfl ?_
  refine tri_v (opv_extract rfl rfl) rfl ?_
  refine tri_v (opv_extract rfl rfl) rfl ?_
  refine tri_v (opv_extract rfl rfl) rfl ?_
  refine tri_g opg_alloc rfl ?_
  rintro _ _ _ ⟨b1, rfl, rfl, rfl⟩
  refine tri_g (opg_store rfl rfl rfl rfl rfl rfl) rfl ?_
  rintro _ _ _ ⟨rfl, rfl⟩
  refine tri_v (opv_assign rfl) rfl ?_
  refine tri_v (opv_assign rfl) rfl ?_
  refine tri_nil ?_
  refine tri_then ?_
  refine tri_seq ?_
  refine tri_region ?_
  refine tri_v (opv_loadA rfl rfl rfl) rfl ?_
  refine tri_v (opv_move rfl) rfl ?_
  refine tri_g (opg_call (xs := [_, _]) rfl (base_step (room := 50) (n := M.2.1) hs3 (by omega))) rfl ?_
  rintro _ _ I3 ⟨a5, cap5, rfl, hs5, rfl, hI3⟩
  rw [eA] at hs5 ⊢
  generalize RL.awA = rA at *
  refine tri_v (opv_move rfl) rfl ?_
  refine tri_v (opv_extract rfl rfl) rfl ?_
  refine tri_v (opv_extract rfl rfl) rfl ?_
  refine tri_v (opv_extract rfl rfl) rfl ?_
  refine tri_g opg_alloc rfl ?_
  rintro _ _ _ ⟨b4, rfl, rfl, rfl⟩
  refine tri_g (opg_store rfl rfl rfl rfl rfl rfl) rfl ?_
  rintro _ _ _ ⟨rfl, rfl⟩
  refine tri_v (opv_assign rfl) rfl ?_
  refine tri_v (opv_assign rfl) rfl ?_
  refine tri_nil ?_
  refine tri_then ?_
  refine tri_seq ?_
  refine tri_region ?_
  refine tri_v (opv_loadA rfl rfl rfl) rfl ?_
  refine tri_v (opv_move rfl) rfl ?_
  refine tri_g (opg_call (xs := [_, _]) rfl (base_centre (room := 50) (n := M.2.1) (hs3.mono hI3) (by omega))) rfl ?_
  rintro _ _ I4 ⟨a6, cap6, rfl, hs6, rfl, hI4⟩
  rw [eB] at hs6 ⊢
  generalize RL.awB = rB at *
  refine tri_v (opv_move rfl) rfl ?_
  refine tri_v (opv_extract rfl rfl) rfl ?_
  refine tri_v (opv_extract rfl rfl) rfl ?_
  refine tri_v (opv_extract rfl rfl) rfl ?_
  refine tri_g opg_alloc rfl ?_
  rintro _ _ _ ⟨b7, rfl, rfl, rfl⟩
  refine tri_g (opg_store rfl rfl rfl rfl rfl rfl) rfl ?_
  rintro _ _ _ ⟨rfl, rfl⟩
  refine tri_v (opv_assign rfl) rfl ?_
  refine tri_v (opv_assign rfl) rfl ?_
  refine tri_nil ?_
  refine tri_then ?_
  refine tri_seq ?_
  refine tri_region ?_
  refine tri_v (opv_loadA rfl rfl rfl) rfl ?_
  refine tri_v (opv_move rfl) rfl ?_
  refine tri_g (opg_call (xs := [_, _]) rfl (base_nine (room := 50) (n := M.2.1) ((hs3.mono hI3).mono hI4) (by omega))) rfl ?_
  rintro _ _ I5 ⟨a7, cap7, q0, q1, q2, q3, q4, q5, q6, q7, q8, hq, rfl, hs7, rfl, hI5⟩
  rw [eC] at hs7 hq ⊢
  generalize RL.awC = rC at *
  rw [hq] at hp8 hp4
  have ep8 : q8 = p8 := hp8
  have ep4 : q4 = p4 := hp4
  subst ep8; subst ep4
  refine tri_v (opv_move rfl) rfl ?_
  refine tri_v (opv_extract rfl rfl) rfl ?_
  refine tri_v (opv_extract rfl rfl) rfl ?_
  refine tri_v (opv_extract rfl rfl) rfl ?_
  refine tri_g opg_alloc rfl ?_
  rintro _ _ _ ⟨b10, rfl, rfl, rfl⟩
  refine tri_g opg_alloc rfl ?_
  rintro _ _ _ ⟨b11, rfl, rfl, rfl⟩
  refine tri_g (opg_store rfl rfl rfl rfl rfl rfl) rfl ?_
  rintro _ _ _ ⟨rfl, rfl⟩
  refine tri_g (opg_store rfl rfl rfl rfl rfl rfl) rfl ?_
  rintro _ _ _ ⟨rfl, rfl⟩
  refine tri_v (opv_assign rfl) rfl ?_
  refine tri_nil ?_
  refine tri_then ?_
  refine tri_seq ?_
  refine tri_region ?_
  refine tri_v (opv_loadA rfl rfl rfl) rfl ?_
  refine tri_g (opg_call (xs := [_, _]) rfl (base_step (room := 50) (n := 1) (((hs3.mono hI3).mono hI4).mono hI5) (by omega))) rfl ?_
  rintro _ _ I6 ⟨a8, cap8, rfl, hs8, rfl, hI6⟩
  rw [eD] at hs8 ⊢
  generalize RL.awD = rD at *
  have sA : SlAt I6 a5 rA.1 := (((hs5.mono hI4).mono hI5).mono hI6).sl
  have sB : SlAt I6 a6 rB.1 := ((hs6.mono hI5).mono hI6).sl
  have sC : SlAt I6 a7 rC.1 := (hs7.mono hI6).sl
  refine tri_v (opv_move rfl) rfl ?_
  refine tri_v (opv_extract rfl rfl) rfl ?_
  refine tri_v (opv_extract rfl rfl) rfl ?_
  refine tri_v (opv_extract rfl rfl) rfl ?_
  refine tri_g opg_alloc rfl ?_
  rintro _ _ _ ⟨b13, rfl, rfl, rfl⟩
  refine tri_g (opg_store rfl rfl rfl rfl rfl rfl) rfl ?_
  rintro _ _ _ ⟨rfl, rfl⟩
  refine tri_v (opv_assign rfl) rfl ?_
  refine tri_v (opv_assign rfl) rfl ?_
  refine tri_nil ?_
  refine tri_then ?_
  refine tri_seq ?_
  refine tri_seq ?_
  refine tri_region ?_
  refine tri_v (opv_move rfl) rfl ?_
  refine tri_v (opv_fieldAddr rfl rfl) rfl ?_
  refine tri_v (opv_load1 rfl rfl rfl) rfl ?_
  refine tri_v (opv_len rfl) rfl ?_
  refine tri_v (opv_geq rfl rfl) rfl ?_
  refine tri_v (opv_move rfl) rfl ?_
  refine tri_false rfl rfl (by omega) ?_
  refine tri_guard_run rfl rfl rfl ?_
  refine tri_v (opv_move rfl) rfl ?_
  refine tri_guard_run rfl rfl rfl ?_
  refine tri_v (opv_fieldAddr rfl rfl) rfl ?_
  refine tri_guard_run rfl rfl rfl ?_
  refine tri_v (opv_load1 rfl rfl rfl) rfl ?_
  refine tri_guard_run rfl rfl rfl ?_
  refine tri_v (opv_len rfl) rfl ?_
  refine tri_guard_run rfl rfl rfl ?_
  refine tri_v (opv_geq rfl rfl) rfl ?_
  refine tri_v (opv_pick_f rfl rfl) rfl ?_
  refine tri_v (opv_move rfl) rfl ?_
  refine tri_false rfl rfl (by omega) ?_
  refine tri_guard_run rfl rfl rfl ?_
  refine tri_v (opv_indexAddrA rfl rfl (by decide) (by decide)) rfl ?_
  refine tri_guard_run rfl rfl rfl ?_
  refine tri_v (opv_load1 rfl rfl rfl) rfl ?_
  refine tri_guard_run rfl rfl rfl ?_
  refine tri_v (opv_fieldAddr rfl rfl) rfl ?_
  refine tri_guard_run rfl rfl rfl ?_
  refine tri_v (opv_load1 rfl rfl rfl) rfl ?_
  refine tri_guard_run rfl rfl rfl ?_
  refine tri_v (opv_len rfl) rfl ?_
  refine tri_guard_run rfl rfl rfl ?_
  refine tri_v (opv_geq rfl rfl) rfl ?_
  refine tri_v (opv_pick_f rfl rfl) rfl ?_
  refine tri_nil ?_
  refine tri_then ?_
  refine tri_cond_not rfl (by omega) ?_
  refine tri_skip ?_
  refine tri_then ?_
  refine tri_seq ?_
  refine tri_region ?_
  refine tri_v (opv_move rfl) rfl ?_
  refine tri_v (opv_eql rfl rfl) rfl ?_
  refine tri_v (opv_move rfl) rfl ?_
  refine tri_true rfl rfl (a3) ?_
  refine tri_guard_run rfl rfl rfl ?_
  refine tri_v (opv_fieldAddr rfl rfl) rfl ?_
  refine tri_guard_run rfl rfl rfl ?_
  refine tri_v (opv_load1 rfl rfl rfl) rfl ?_
  refine tri_guard_run rfl rfl rfl ?_
  refine tri_v (opv_move rfl) rfl ?_
  refine tri_guard_run rfl rfl rfl ?_
  refine tri_v (opv_indexAddrS rfl rfl (by omega) (by omega) (by assumption) rfl) rfl ?_
  refine tri_guard_run rfl rfl rfl ?_
  refine tri_v (opv_fieldAddrE rfl (by assumption) (by omega) rfl) rfl ?_
  refine tri_guard_run rfl rfl rfl ?_
  refine tri_v (opv_loadEA rfl (by assumption) rfl (by omega) rfl rfl) rfl ?_
  refine tri_guard_run rfl rfl rfl ?_
  refine tri_v (opv_buildA rfl rfl) rfl ?_
  refine tri_guard_run rfl rfl rfl ?_
  refine tri_v (opv_eqlI rfl rfl rfl rfl rfl rfl) rfl ?_
  refine tri_v (opv_pick_t rfl rfl) rfl ?_
  refine tri_v (opv_move rfl) rfl ?_
  refine tri_true rfl rfl (a4) ?_
  refine tri_guard_run rfl rfl rfl ?_
  refine tri_v (opv_move rfl) rfl ?_
  refine tri_guard_run rfl rfl rfl ?_
  refine tri_v (opv_eql rfl rfl) rfl ?_
  refine tri_v (opv_pick_t rfl rfl) rfl ?_
  refine tri_v (opv_move rfl) rfl ?_
  refine tri_true rfl rfl (b3) ?_
  refine tri_guard_run rfl rfl rfl ?_
  refine tri_v (opv_fieldAddr rfl rfl) rfl ?_
  refine tri_guard_run rfl rfl rfl ?_
  refine tri_v (opv_load1 rfl rfl rfl) rfl ?_
  refine tri_guard_run rfl rfl rfl ?_
  refine tri_v (opv_move rfl) rfl ?_
  refine tri_guard_run rfl rfl rfl ?_
  refine tri_v (opv_indexAddrS rfl rfl (by omega) (by omega) (by assumption) rfl) rfl ?_
  refine tri_guard_run rfl rfl rfl ?_
  refine tri_v (opv_fieldAddrE rfl (by assumption) (by omega) rfl) rfl ?_
  refine tri_guard_run rfl rfl rfl ?_
  refine tri_v (opv_loadEA rfl (by assumption) rfl (by omega) rfl rfl) rfl ?_
  refine tri_guard_run rfl rfl rfl ?_
  refine tri_v (opv_buildA rfl rfl) rfl ?_
  refine tri_guard_run rfl rfl rfl ?_
  refine tri_v (opv_eqlI rfl rfl rfl rfl rfl rfl) rfl ?_
  refine tri_v (opv_pick_t rfl rfl) rfl ?_
  refine tri_v (opv_move rfl) rfl ?_
  refine tri_true rfl rfl (b4) ?_
  refine tri_guard_run rfl rfl rfl ?_
  refine tri_v (opv_move rfl) rfl ?_
  refine tri_guard_run rfl rfl rfl ?_
  refine tri_v (opv_eql rfl rfl) rfl ?_
  refine tri_v (opv_pick_t rfl rfl) rfl ?_
  refine tri_v (opv_move rfl) rfl ?_
  refine tri_true rfl rfl (c1) ?_
  refine tri_guard_run rfl rfl rfl ?_
  refine tri_v (opv_fieldAddr rfl rfl) rfl ?_
  refine tri_guard_run rfl rfl rfl ?_
  refine tri_v (opv_load1 rfl rfl rfl) rfl ?_
  refine tri_guard_run rfl rfl rfl ?_
  refine tri_v (opv_indexAddrA rfl rfl (by decide) (by decide)) rfl ?_
  refine tri_guard_run rfl rfl rfl ?_
  refine tri_v (opv_load1 rfl rfl rfl) rfl ?_
  refine tri_guard_run rfl rfl rfl ?_
  refine tri_v (opv_indexAddrS rfl rfl (by omega) (by omega) (by assumption) rfl) rfl ?_
  refine tri_guard_run rfl rfl rfl ?_
  refine tri_v (opv_fieldAddrE rfl (by assumption) (by omega) rfl) rfl ?_
  refine tri_guard_run rfl rfl rfl ?_
  refine tri_v (opv_loadEA rfl (by assumption) rfl (by omega) rfl rfl) rfl ?_
  refine tri_guard_run rfl rfl rfl ?_
  refine tri_v (opv_buildA rfl rfl) rfl ?_
  refine tri_guard_run rfl rfl rfl ?_
  refine tri_v (opv_eqlI rfl rfl rfl rfl rfl rfl) rfl ?_
  refine tri_v (opv_pick_t rfl rfl) rfl ?_
  refine tri_v (opv_move rfl) rfl ?_
  refine tri_true rfl rfl (c4) ?_
  refine tri_guard_run rfl rfl rfl ?_
  refine tri_v (opv_indexAddrA rfl rfl (by decide) (by decide)) rfl ?_
  refine tri_guard_run rfl rfl rfl ?_
  refine tri_v (opv_load1 rfl rfl rfl) rfl ?_
  refine tri_guard_run rfl rfl rfl ?_
  refine tri_v (opv_fieldAddr rfl rfl) rfl ?_
  refine tri_guard_run rfl rfl rfl ?_
  refine tri_v (opv_load1 rfl rfl rfl) rfl ?_
  refine tri_guard_run rfl rfl rfl ?_
  refine tri_v (opv_len rfl) rfl ?_
  refine tri_guard_run rfl rfl rfl ?_
  refine tri_v (opv_lss rfl rfl) rfl ?_
  refine tri_v (opv_pick_t rfl rfl) rfl ?_
  refine tri_v (opv_move rfl) rfl ?_
  refine tri_true rfl rfl (by omega) ?_
  refine tri_guard_run rfl rfl rfl ?_
  refine tri_v (opv_fieldAddr rfl rfl) rfl ?_
  refine tri_guard_run rfl rfl rfl ?_
  refine tri_v (opv_load1 rfl rfl rfl) rfl ?_
  refine tri_guard_run rfl rfl rfl ?_
  refine tri_v (opv_indexAddrA rfl rfl (by decide) (by decide)) rfl ?_
  refine tri_guard_run rfl rfl rfl ?_
  refine tri_v (opv_load1 rfl rfl rfl) rfl ?_
  refine tri_guard_run rfl rfl rfl ?_
  refine tri_v (opv_indexAddrS rfl rfl (by omega) (by omega) (by assumption) rfl) rfl ?_
  refine tri_guard_run rfl rfl rfl ?_
  refine tri_v (opv_fieldAddrE rfl (by assumption) (by omega) rfl) rfl ?_
  refine tri_guard_run rfl rfl rfl ?_
  refine tri_v (opv_loadEA rfl (by assumption) rfl (by omega) rfl rfl) rfl ?_
  refine tri_guard_run rfl rfl rfl ?_
  refine tri_v (opv_buildA rfl rfl) rfl ?_
  refine tri_guard_run rfl rfl rfl ?_
  refine tri_v (opv_eqlI rfl rfl rfl rfl rfl rfl) rfl ?_
  refine tri_v (opv_pick_t rfl rfl) rfl ?_
  refine tri_v (opv_move rfl) rfl ?_
  refine tri_true rfl rfl (d4) ?_
  refine tri_guard_run rfl rfl rfl ?_
  refine tri_v (opv_move rfl) rfl ?_
  refine tri_guard_run rfl rfl rfl ?_
  refine tri_v (opv_eql rfl rfl) rfl ?_
  refine tri_v (opv_pick_t rfl rfl) rfl ?_
  refine tri_v (opv_assign rfl) rfl ?_
  refine tri_nil ?_
  refine tri_then ?_
  refine tri_ret ?_
  refine tri_end A Suf.h rfl (.cons (rv_tmp rfl) .nil) ⟨congrArg Value.bool (decide_eq_true e1), rfl, fun _ h => hI6 (hI5 (hI4 (hI3 (hI2 (hI1 (hI0 h))))))⟩
end Go.GL

set_option linter.unusedVariables false
namespace Go.GL
open Go.Proofs
attribute [local irreducible] wpList Code.wp Exit.then Exit.inBlock Ends Tri TriH OpV OpG FnC epf wpAnyH
variable {A : List Asrt} {I : List Chunk}
/-- A store's head. -/
structure Sto where
  a : Option Addr
  len : Nat
  cap : Nat
  room : Int
  deriving Inhabited
instance : Enc Sto := ⟨fun s => [.slice s.a s.len s.cap, .int .i64 s.room], 2, fun _ => rfl, fun _ => rfl⟩
theorem R6.put_le (ns : List Node) (room q0 q1 q2 q3 : Int) : (R6.put ns room q0 q1 q2 q3).1.length ≤ ns.length + 1 := by
  unfold R6.put
  split
  · split
    · simp
    · split
      · simp
      · simp
  · simp
theorem R8.centre_len (ns : List Node) (room n : Int) : (R8.centre ns room n).1.length ≤ ns.length + 1 := by
  unfold R8.centre; split
  · exact R6.put_le _ _ _ _ _ _
  · simp
theorem R8.step_len (ns : List Node) (room n : Int) : (R8.step ns room n).1.length ≤ ns.length + 1 := by
  unfold R8.step; split
  · exact R6.put_le _ _ _ _ _ _
  · simp
theorem R8.nine_len (ns : List Node) (room n : Int) : (R8.nine ns room n).1.length ≤ ns.length + 9 := by
  unfold R8.nine; split
  · unfold R8.all
    have h := fun ns room l y x => R6.put_le ns room (R8.g l (4 * y + x)) (R8.g l (4 * y + x + 1)) (R8.g l (4 * y + x + 4)) (R8.g l (4 * y + x + 5))
    dsimp only
    generalize R8.s16 ns n = l
    generalize e0 : R8.putSq ns room l 0 0 = p0
    have h0 : p0.1.length ≤ ns.length + 1 := e0 ▸ h ns room l 0 0
    generalize e1 : R8.putSq p0.1 room l 0 1 = p1
    have h1 : p1.1.length ≤ p0.1.length + 1 := e1 ▸ h p0.1 room l 0 1
    generalize e2 : R8.putSq p1.1 room l 0 2 = p2
    have h2 : p2.1.length ≤ p1.1.length + 1 := e2 ▸ h p1.1 room l 0 2
    generalize e3 : R8.putSq p2.1 room l 1 0 = p3
    have h3 : p3.1.length ≤ p2.1.length + 1 := e3 ▸ h p2.1 room l 1 0
    generalize e4 : R8.putSq p3.1 room l 1 1 = p4
    have h4 : p4.1.length ≤ p3.1.length + 1 := e4 ▸ h p3.1 room l 1 1
    generalize e5 : R8.putSq p4.1 room l 1 2 = p5
    have h5 : p5.1.length ≤ p4.1.length + 1 := e5 ▸ h p4.1 room l 1 2
    generalize e6 : R8.putSq p5.1 room l 2 0 = p6
    have h6 : p6.1.length ≤ p5.1.length + 1 := e6 ▸ h p5.1 room l 2 0
    generalize e7 : R8.putSq p6.1 room l 2 1 = p7
    have h7 : p7.1.length ≤ p6.1.length + 1 := e7 ▸ h p6.1 room l 2 1
    generalize e8 : R8.putSq p7.1 room l 2 2 = p8
    have h8 : p8.1.length ≤ p7.1.length + 1 := e8 ▸ h p7.1 room l 2 2
    repeat' split
    all_goals simp only
    all_goals omega
  · simp
theorem R7.make_good {ns : List Node} {room : Int} (h : R6.Good ns room) (l : List Cell) (lv : Int) : R6.Good (R7.make ns room l lv).1 room := by
  unfold R7.make
  split
  · split
    · dsimp only
      split
      · exact h
      · exact R7.build_good room _ _ _ h
    · exact h
  · exact h
theorem RL.square_good (c : Int) (nodes : List Five) (raw : List Cell) (level : Int) : R6.Good (RL.square c nodes raw level).1 (RL.room c + 500) := by
  have hrm := RL.room_bd c
  have hg := RL.store_good (rm := RL.room c) (by omega) (by omega) nodes
  exact R7.make_good ⟨hg.mod, hg.len, by omega⟩ _ _
set_option maxHeartbeats 2000000 in
set_option maxRecDepth 100000 in
theorem law08_tells {nodes : List Five} {raw : List Cell} {os : List Node} {a a2 a3 : Option Addr} {cap cap2 cap3 : Nat} {c level rm n : Int} (h0 : I64 c) (hs : SlAt I a nodes) (hf : RL.Fs nodes) (hs2 : SlAt I a2 raw) (hc : RL.Cs raw) (hl : I64 level)
    (hs3 : StA I a3 cap3 os) (hr : R6.Rng os) (hni : I64 n) :
    FnC Try.prog 3 [.int .i64 c, .slice a nodes.length cap, .slice a2 raw.length cap2, .int .i64 level, storeV a3 os.length cap3 rm, .int .i64 n].toArray A I (fun v A' I' => v = .bool true ∧ A = A' ∧ I ⊆ I') := by
  skip
  refine fn_enter6 Try.func3 rfl Try.ntmps3 rfl fun w0 => ?_
  refine tri_seq ?_
  refine tri_region ?_
  refine tri_g (opg_box_agg rfl) rfl ?_
  rintro _ _ _ ⟨b10, rfl, rfl, rfl⟩
  refine tri_v (opv_assign rfl) rfl ?_
  refine tri_nil ?_
  refine tri_then ?_
  refine tri_seq ?_
  refine tri_region ?_
  refine tri_g (opg_call (xs := []) rfl (law08_awake)) rfl ?_
  rintro _ _ I0 ⟨rfl, rfl, hI0⟩
  refine tri_v (opv_assign rfl) rfl ?_
  refine tri_nil ?_
  refine tri_then ?_
  refine tri_seq ?_
  refine tri_region ?_
  refine tri_v (opv_move rfl) rfl ?_
  refine tri_v (opv_move rfl) rfl ?_
  refine tri_v (opv_move rfl) rfl ?_
  refine tri_v (opv_move rfl) rfl ?_
  refine tri_g (opg_call (xs := [_, _, _, _]) rfl (law07_square h0 (hs.mono hI0) hf (hs2.mono hI0) hc hl)) rfl ?_
  rintro _ _ I1 ⟨a4, cap4, rfl, hs4, rfl, hI1⟩
  have hgd : (RL.square c nodes raw level).1.length ≤ 1000000000 ∧ R6.Rng (RL.square c nodes raw level).1 := ⟨(RL.square_good c nodes raw level).len, (RL.square_good c nodes raw level).mod.rng⟩
  generalize hsq : RL.square c nodes raw level = sq at *
  refine tri_v (opv_move rfl) rfl ?_
  refine tri_v (opv_extract rfl rfl) rfl ?_
  refine tri_v (opv_extract rfl rfl) rfl ?_
  refine tri_g opg_alloc rfl ?_
  rintro _ _ _ ⟨b14, rfl, rfl, rfl⟩
  refine tri_g (opg_store rfl rfl rfl rfl rfl rfl) rfl ?_
  rintro _ _ _ ⟨rfl, rfl⟩
  refine tri_v (opv_assign rfl) rfl ?_
  refine tri_nil ?_
  refine tri_then ?_
  refine tri_seq ?_
  refine tri_seq ?_
  refine tri_region ?_
  refine tri_v (opv_loadA rfl rfl rfl) rfl ?_
  refine tri_v (opv_loadA rfl rfl rfl) rfl ?_
  refine tri_g (opg_buildSlice rfl rfl rfl rfl) rfl ?_
  rintro _ _ _ ⟨b39, rfl, rfl, rfl⟩
  refine tri_v (opv_len rfl) rfl ?_
  refine tri_v (opv_move rfl) rfl ?_
  refine tri_nil ?_
  refine tri_then ?_
  refine tri_block ?_
  refine tri_freezeBoxS [(⟨a4, sq.1.length, cap4, RL.room c + 500⟩ : Sto), ⟨a3, os.length, cap3, rm⟩] rfl fun I2 hI2 hs5 => ?_
  have hst : ∀ i, i < 2 → ∃ ns : List Node, StA I2 (([(⟨a4, sq.1.length, cap4, RL.room c + 500⟩ : Sto), ⟨a3, os.length, cap3, rm⟩] : List Sto).getD i default).a (([(⟨a4, sq.1.length, cap4, RL.room c + 500⟩ : Sto), ⟨a3, os.length, cap3, rm⟩] : List Sto).getD i default).cap ns ∧ (([(⟨a4, sq.1.length, cap4, RL.room c + 500⟩ : Sto), ⟨a3, os.length, cap3, rm⟩] : List Sto).getD i default).len = ns.length ∧ R6.Rng ns := by
    intro i hi
    rcases (by omega : i = 0 ∨ i = 1) with rfl | rfl
    · exact ⟨sq.1, hs4.mono hI2, rfl, hgd.2⟩
    · exact ⟨os, ((hs3.mono hI0).mono hI1).mono hI2, rfl, hr⟩
  generalize hls : ([(⟨a4, sq.1.length, cap4, RL.room c + 500⟩ : Sto), ⟨a3, os.length, cap3, rm⟩] : List Sto) = ss at *
  have hls2 : ss.length = 2 := by rw [← hls]; rfl
  have hI02 : I ⊆ I2 := fun _ h => hI2 (hI1 (hI0 h))
  skip
  refine tri_drop ?_
  refine tri_drop ?_
  refine tri_sub (F' := [(5, .int .i64 n), (13, .bool true), (15, .int .i64 sq.2.1), (39, .slice (some ⟨b39, 0, none⟩) ss.length 2), (40, .int .i64 (2 : Nat)), (41, .int .i64 (0 : Nat))]) ⟨rfl, rfl, rfl, by rw [hls2]; rfl, rfl, rfl, trivial⟩ ?_
  refine loop_ind (G := Nat × List Chunk) (fun g => 2 - g.1) (fun g => g.1 ≤ 2 ∧ I2 ⊆ g.2) (fun g => [(5, .int .i64 n), (13, .bool true), (15, .int .i64 sq.2.1), (39, .slice (some ⟨b39, 0, none⟩) ss.length 2), (40, .int .i64 (2 : Nat)), (41, .int .i64 (g.1 : Nat))]) (fun _ => A) (fun g => g.2) ?_ (0, I2) ⟨by omega, fun _ h => h⟩
  rintro ⟨i, J0⟩ ⟨hi, hJ0⟩ K hK
  simp only at hi hJ0 hK ⊢
  skip
  refine tri_seq ?_
  refine tri_region ?_
  refine tri_v (opv_lss rfl rfl) rfl ?_
  refine tri_nil ?_
  refine tri_then ?_
  refine tri_seq ?_
  refine tri_cond_dec rfl (fun h => ?_) (fun h => ?_)
  · have hi2 : i < 2 := by omega
    obtain ⟨ns, hns, hlen, hrr⟩ := hst i hi2
    have hs5' := hs5.mono hJ0
    have hns' := hns.mono hJ0
    refine tri_skip ?_
    refine tri_then ?_
    refine tri_seq ?_
    refine tri_block ?_
    refine tri_seq ?_
    refine tri_region ?_
    refine tri_v (opv_indexAddrSN rfl rfl (by omega) (by assumption) rfl) rfl ?_
    refine tri_v (opv_loadEA rfl (by assumption) rfl (by omega) rfl rfl) rfl ?_
    refine tri_g opg_alloc rfl ?_
    rintro _ _ _ ⟨b17, rfl, rfl, rfl⟩
    refine tri_g (opg_store rfl rfl rfl rfl rfl rfl) rfl ?_
    rintro _ _ _ ⟨rfl, rfl⟩
    refine tri_nil ?_
    refine tri_then ?_
    refine tri_seq ?_
    refine tri_seq ?_
    refine tri_region ?_
    refine tri_v (opv_fieldAddr rfl rfl) rfl ?_
    refine tri_v (opv_load1 rfl rfl rfl) rfl ?_
    refine tri_v (opv_len rfl) rfl ?_
    refine tri_v (opv_gtr rfl rfl) rfl ?_
    refine tri_nil ?_
    refine tri_then ?_
    rw [hlen] at *
    refine tri_cond_dec rfl (fun hbig => ?_) (fun hbig => ?_)
    · refine tri_exit ?_
      refine tri_then_exit ?_
      refine tri_inBlock_hit rfl ?_
      refine tri_then ?_
      refine tri_region ?_
      refine tri_v (opv_add rfl rfl (w64 (by omega) (by omega))) rfl ?_
      refine tri_v (opv_move rfl) rfl ?_
      refine tri_nil ?_
      refine tri_then ?_
      refine tri_drop ?_
      refine tri_sub ?_ (hK (i + 1, J0) ⟨by simp only; omega, hJ0⟩ (by simp only; omega))
      exact ⟨rfl, rfl, rfl, rfl, rfl, rfl, trivial⟩
    · have hp := pk_bd (c := n) (n := ns.length + 1) (by omega)
      refine tri_skip ?_
      refine tri_then ?_
      refine tri_seq ?_
      refine tri_draw [0, 1, 2, 3, 4, 5, 7, 8, 9, 10, 11, 12, 13, 14, 15, 16, 22, 6, 17, 18, 19, 20, 21] rfl [] rfl mixed ?_
      refine th_take rfl rfl (by kernel_rfl)  (opv_move rfl) ?_
      refine th_take rfl rfl (by kernel_rfl)  (opv_move rfl) ?_
      refine th_take rfl rfl (by kernel_rfl)  (opv_fieldAddr rfl rfl) ?_
      refine th_take rfl rfl (by kernel_rfl)  (opv_load1 rfl rfl rfl) ?_
      refine th_take rfl rfl (by kernel_rfl)  (opv_len rfl) ?_
      refine th_take rfl rfl (by kernel_rfl)  (opv_add rfl rfl (w64 (by omega) (by omega))) ?_
      refine th_take rfl rfl (by kernel_rfl)  (opv_move rfl) ?_
      refine th_take rfl rfl (by kernel_rfl)  (opv_fieldAddr rfl rfl) ?_
      refine th_take rfl rfl (by kernel_rfl)  (opv_load1 rfl rfl rfl) ?_
      refine th_take rfl rfl (by kernel_rfl)  (opv_len rfl) ?_
      refine th_take rfl rfl (by kernel_rfl)  (opv_sub rfl rfl (w64 (by omega) (by omega))) ?_
      refine th_take rfl rfl (by kernel_rfl)  (opv_move rfl) ?_
      refine th_take rfl rfl (by kernel_rfl)  (opv_fieldAddr rfl rfl) ?_
      refine th_take rfl rfl (by kernel_rfl)  (opv_load1 rfl rfl rfl) ?_
      refine th_take rfl rfl (by kernel_rfl)  (opv_len rfl) ?_
      refine th_take rfl rfl (by kernel_rfl)  (opv_add rfl rfl (w64 (by omega) (by omega))) ?_
      refine th_take rfl rfl (by kernel_rfl)  (opv_move rfl) ?_
      refine th_one (by kernel_rfl) (step_m rfl rfl (opg_call (xs := [_, _]) rfl (law08_pick hni.1 hni.2 (by omega))) ?_)
      rintro _ _ _ ⟨rfl, rfl, rfl⟩
      refine ⟨Suf.h, (fun _ h => h), ?_⟩
      skip
      refine th_one (by kernel_rfl) (step_m rfl rfl (opg_call (xs := [_, _]) rfl (law08_pick hni.1 hni.2 (by omega))) ?_)
      rintro _ _ _ ⟨rfl, rfl, rfl⟩
      refine ⟨Suf.h, (fun _ h => h), ?_⟩
      refine th_take rfl rfl (by kernel_rfl)  (opv_quoE rfl rfl (by omega) (by omega) (by omega)) ?_
      refine th_take rfl rfl (by kernel_rfl)  (opv_sub rfl rfl (w64 (by omega) (by omega))) ?_
      refine th_one (by kernel_rfl) (step_m rfl rfl (opg_buildSlice rfl rfl rfl rfl) ?_)
      rintro _ _ _ ⟨b69, rfl, rfl, rfl⟩
      refine ⟨Suf.h, (fun _ h => h), ?_⟩
      refine th_take rfl rfl (by kernel_rfl)  (opv_len rfl) ?_
      refine th_done (by kernel_rfl) ?_
      refine tri_then ?_
      refine tri_block ?_
      refine tri_freezeBoxS [n, pk n ((ns.length : Int) + 1), sq.2.1, (ns.length : Int) - 1 - pk n ((ns.length : Int) + 1) / 2] rfl fun I3 hI3 hs6 => ?_
      generalize hms : ([n, pk n ((ns.length : Int) + 1), sq.2.1, (ns.length : Int) - 1 - pk n ((ns.length : Int) + 1) / 2] : List Int) = ms at *
      have hms2 : ms.length = 4 := by rw [← hms]; rfl
      refine tri_sub (F' := [(5, .int .i64 n), (13, .bool true), (15, .int .i64 sq.2.1), (17, pt b17 0), (39, .slice (some ⟨b39, 0, none⟩) ss.length 2), (40, .int .i64 (2 : Nat)), (41, .int .i64 (i : Nat)), (69, .slice (some ⟨b69, 0, none⟩) ms.length 4), (70, .int .i64 (4 : Nat)), (71, .int .i64 (0 : Nat))]) ⟨rfl, rfl, rfl, rfl, rfl, rfl, rfl, by rw [hms2]; rfl, rfl, rfl, trivial⟩ ?_
      refine loop_ind (G := Nat × List Chunk) (fun g => 4 - g.1) (fun g => g.1 ≤ 4 ∧ I3 ⊆ g.2) (fun g => [(5, .int .i64 n), (13, .bool true), (15, .int .i64 sq.2.1), (17, pt b17 0), (39, .slice (some ⟨b39, 0, none⟩) ss.length 2), (40, .int .i64 (2 : Nat)), (41, .int .i64 (i : Nat)), (69, .slice (some ⟨b69, 0, none⟩) ms.length 4), (70, .int .i64 (4 : Nat)), (71, .int .i64 (g.1 : Nat))]) (fun _ => Box b17 [.slice (ss.getD i default).a ns.length (ss.getD i default).cap, .int .i64 (ss.getD i default).room] 26 :: A) (fun g => g.2) ?_ (0, I3) ⟨by omega, fun _ h => h⟩
      rintro ⟨j, J1⟩ ⟨hj, hJ1⟩ K2 hK2
      simp only at hj hJ1 hK2 ⊢
      have hns2 := (hns'.mono hI3).mono hJ1
      have hs6' := hs6.mono hJ1
      skip
      refine tri_seq ?_
      refine tri_region ?_
      refine tri_v (opv_lss rfl rfl) rfl ?_
      refine tri_nil ?_
      refine tri_then ?_
      refine tri_seq ?_
      refine tri_cond_dec rfl (fun h3 => ?_) (fun h3 => ?_)
      · refine tri_skip ?_
        refine tri_then ?_
        refine tri_seq ?_
        refine tri_block ?_
        refine tri_seq ?_
        refine tri_region ?_
        refine tri_v (opv_indexAddrSN rfl rfl (by omega) (by assumption) rfl) rfl ?_
        refine tri_v (opv_loadE1 rfl (by assumption) rfl (by omega) rfl rfl) rfl ?_
        refine tri_v (opv_assign rfl) rfl ?_
        refine tri_nil ?_
        refine tri_then ?_
        refine tri_seq ?_
        refine tri_region ?_
        refine tri_v (opv_loadA rfl rfl rfl) rfl ?_
        refine tri_v (opv_move rfl) rfl ?_
        have lc := R8.centre_len ns (ss.getD i default).room (ms.getD j default)
        have ls := R8.step_len ns (ss.getD i default).room (ms.getD j default)
        have ln := R8.nine_len ns (ss.getD i default).room (ms.getD j default)
        refine tri_g (opg_call (xs := [_, _]) rfl (base_centre (room := (ss.getD i default).room) (n := ms.getD j default) hns2 (by omega))) rfl ?_
        rintro _ _ J2 ⟨x0, y0, rfl, g0, rfl, hJ2⟩
        refine tri_v (opv_move rfl) rfl ?_
        refine tri_v (opv_extract rfl rfl) rfl ?_
        refine tri_v (opv_extract rfl rfl) rfl ?_
        refine tri_v (opv_extract rfl rfl) rfl ?_
        refine tri_g opg_alloc rfl ?_
        rintro _ _ _ ⟨b20, rfl, rfl, rfl⟩
        refine tri_g (opg_store rfl rfl rfl rfl rfl rfl) rfl ?_
        rintro _ _ _ ⟨rfl, rfl⟩
        refine tri_v (opv_assign rfl) rfl ?_
        refine tri_v (opv_assign rfl) rfl ?_
        refine tri_nil ?_
        refine tri_then ?_
        refine tri_seq ?_
        refine tri_region ?_
        refine tri_v (opv_loadA rfl rfl rfl) rfl ?_
        refine tri_v (opv_move rfl) rfl ?_
        refine tri_g (opg_call (xs := [_, _]) rfl (ref08_centre (room := (ss.getD i default).room) (n := ms.getD j default) (hns2.mono hJ2) (by omega) hrr)) rfl ?_
        rintro _ _ J3 ⟨x1, y1, rfl, g1, rfl, hJ3⟩
        refine tri_v (opv_move rfl) rfl ?_
        refine tri_v (opv_extract rfl rfl) rfl ?_
        refine tri_v (opv_extract rfl rfl) rfl ?_
        refine tri_v (opv_extract rfl rfl) rfl ?_
        refine tri_g opg_alloc rfl ?_
        rintro _ _ _ ⟨b23, rfl, rfl, rfl⟩
        refine tri_g (opg_store rfl rfl rfl rfl rfl rfl) rfl ?_
        rintro _ _ _ ⟨rfl, rfl⟩
        refine tri_v (opv_assign rfl) rfl ?_
        refine tri_v (opv_assign rfl) rfl ?_
        refine tri_nil ?_
        refine tri_then ?_
        refine tri_seq ?_
        refine tri_seq ?_
        refine tri_region ?_
        refine tri_v (opv_loadA rfl rfl rfl) rfl ?_
        refine tri_v (opv_loadA rfl rfl rfl) rfl ?_
        refine tri_g (opg_call (xs := [_, _]) rfl (ref06_same (g0.mono hJ3).sl g1.sl (by omega))) rfl ?_
        rintro _ _ _ ⟨rfl, rfl, rfl⟩
        refine tri_v (opv_notD rfl) rfl ?_
        refine tri_v (opv_move rfl) rfl ?_
        refine tri_false rfl rfl (fun h => h ⟨rfl, rfl⟩) ?_
        refine tri_guard_run rfl rfl rfl ?_
        refine tri_v (opv_move rfl) rfl ?_
        refine tri_guard_run rfl rfl rfl ?_
        refine tri_v (opv_move rfl) rfl ?_
        refine tri_guard_run rfl rfl rfl ?_
        refine tri_v (opv_neq rfl rfl) rfl ?_
        refine tri_v (opv_pick_f rfl rfl) rfl ?_
        refine tri_v (opv_move rfl) rfl ?_
        refine tri_false rfl rfl (fun h => h rfl) ?_
        refine tri_guard_run rfl rfl rfl ?_
        refine tri_v (opv_move rfl) rfl ?_
        refine tri_guard_run rfl rfl rfl ?_
        refine tri_v (opv_move rfl) rfl ?_
        refine tri_guard_run rfl rfl rfl ?_
        refine tri_v (opv_neq rfl rfl) rfl ?_
        refine tri_v (opv_pick_f rfl rfl) rfl ?_
        refine tri_nil ?_
        refine tri_then ?_
        refine tri_cond_not rfl (fun h => h rfl) ?_
        refine tri_skip ?_
        refine tri_then ?_
        refine tri_seq ?_
        refine tri_region ?_
        refine tri_v (opv_loadA rfl rfl rfl) rfl ?_
        refine tri_v (opv_move rfl) rfl ?_
        refine tri_g (opg_call (xs := [_, _]) rfl (base_step (room := (ss.getD i default).room) (n := ms.getD j default) ((hns2.mono hJ2).mono hJ3) (by omega))) rfl ?_
        rintro _ _ J4 ⟨x2, y2, rfl, g2, rfl, hJ4⟩
        refine tri_v (opv_move rfl) rfl ?_
        refine tri_v (opv_extract rfl rfl) rfl ?_
        refine tri_v (opv_extract rfl rfl) rfl ?_
        refine tri_v (opv_extract rfl rfl) rfl ?_
        refine tri_g (opg_store rfl rfl rfl rfl rfl rfl) rfl ?_
        rintro _ _ _ ⟨rfl, rfl⟩
        refine tri_v (opv_assign rfl) rfl ?_
        refine tri_v (opv_assign rfl) rfl ?_
        refine tri_nil ?_
        refine tri_then ?_
        refine tri_seq ?_
        refine tri_region ?_
        refine tri_v (opv_loadA rfl rfl rfl) rfl ?_
        refine tri_v (opv_move rfl) rfl ?_
        refine tri_g (opg_call (xs := [_, _]) rfl (ref08_step (room := (ss.getD i default).room) (n := ms.getD j default) (((hns2.mono hJ2).mono hJ3).mono hJ4) (by omega) hrr)) rfl ?_
        rintro _ _ J5 ⟨x3, y3, rfl, g3, rfl, hJ5⟩
        refine tri_v (opv_move rfl) rfl ?_
        refine tri_v (opv_extract rfl rfl) rfl ?_
        refine tri_v (opv_extract rfl rfl) rfl ?_
        refine tri_v (opv_extract rfl rfl) rfl ?_
        refine tri_g (opg_store rfl rfl rfl rfl rfl rfl) rfl ?_
        rintro _ _ _ ⟨rfl, rfl⟩
        refine tri_v (opv_assign rfl) rfl ?_
        refine tri_v (opv_assign rfl) rfl ?_
        refine tri_nil ?_
        refine tri_then ?_
        refine tri_seq ?_
        refine tri_seq ?_
        refine tri_region ?_
        refine tri_v (opv_loadA rfl rfl rfl) rfl ?_
        refine tri_v (opv_loadA rfl rfl rfl) rfl ?_
        refine tri_g (opg_call (xs := [_, _]) rfl (ref06_same (g2.mono hJ5).sl g3.sl (by omega))) rfl ?_
        rintro _ _ _ ⟨rfl, rfl, rfl⟩
        refine tri_v (opv_notD rfl) rfl ?_
        refine tri_v (opv_move rfl) rfl ?_
        refine tri_false rfl rfl (fun h => h ⟨rfl, rfl⟩) ?_
        refine tri_guard_run rfl rfl rfl ?_
        refine tri_v (opv_move rfl) rfl ?_
        refine tri_guard_run rfl rfl rfl ?_
        refine tri_v (opv_move rfl) rfl ?_
        refine tri_guard_run rfl rfl rfl ?_
        refine tri_v (opv_neq rfl rfl) rfl ?_
        refine tri_v (opv_pick_f rfl rfl) rfl ?_
        refine tri_v (opv_move rfl) rfl ?_
        refine tri_false rfl rfl (fun h => h rfl) ?_
        refine tri_guard_run rfl rfl rfl ?_
        refine tri_v (opv_move rfl) rfl ?_
        refine tri_guard_run rfl rfl rfl ?_
        refine tri_v (opv_move rfl) rfl ?_
        refine tri_guard_run rfl rfl rfl ?_
        refine tri_v (opv_neq rfl rfl) rfl ?_
        refine tri_v (opv_pick_f rfl rfl) rfl ?_
        refine tri_nil ?_
        refine tri_then ?_
        refine tri_cond_not rfl (fun h => h rfl) ?_
        refine tri_skip ?_
        refine tri_then ?_
        refine tri_seq ?_
        refine tri_region ?_
        refine tri_v (opv_loadA rfl rfl rfl) rfl ?_
        refine tri_v (opv_move rfl) rfl ?_
        refine tri_g (opg_call (xs := [_, _]) rfl (base_nine (room := (ss.getD i default).room) (n := ms.getD j default) ((((hns2.mono hJ2).mono hJ3).mono hJ4).mono hJ5) (by omega))) rfl ?_
        rintro _ _ J6 ⟨x4, y4, q0, q1, q2, q3, q4, q5, q6, q7, q8, hq, rfl, g4, rfl, hJ6⟩
        refine tri_v (opv_move rfl) rfl ?_
        refine tri_v (opv_extract rfl rfl) rfl ?_
        refine tri_v (opv_extract rfl rfl) rfl ?_
        refine tri_v (opv_extract rfl rfl) rfl ?_
        refine tri_g opg_alloc rfl ?_
        rintro _ _ _ ⟨b26, rfl, rfl, rfl⟩
        refine tri_g (opg_store rfl rfl rfl rfl rfl rfl) rfl ?_
        rintro _ _ _ ⟨rfl, rfl⟩
        refine tri_g (opg_store rfl rfl rfl rfl rfl rfl) rfl ?_
        rintro _ _ _ ⟨rfl, rfl⟩
        refine tri_v (opv_assign rfl) rfl ?_
        refine tri_nil ?_
        refine tri_then ?_
        refine tri_seq ?_
        refine tri_region ?_
        refine tri_v (opv_loadA rfl rfl rfl) rfl ?_
        refine tri_v (opv_move rfl) rfl ?_
        refine tri_g (opg_call (xs := [_, _]) rfl (ref08_nine (room := (ss.getD i default).room) (n := ms.getD j default) (((((hns2.mono hJ2).mono hJ3).mono hJ4).mono hJ5).mono hJ6) (by omega) hrr)) rfl ?_
        rintro _ _ J7 ⟨x5, y5, r0, r1, r2, r3, r4, r5, r6, r7, r8, hr9, rfl, g5, rfl, hJ7⟩
        have hqr : [q0, q1, q2, q3, q4, q5, q6, q7, q8] = [r0, r1, r2, r3, r4, r5, r6, r7, r8] := hq.symm.trans hr9
        refine tri_v (opv_move rfl) rfl ?_
        refine tri_v (opv_extract rfl rfl) rfl ?_
        refine tri_v (opv_extract rfl rfl) rfl ?_
        refine tri_v (opv_extract rfl rfl) rfl ?_
        refine tri_g opg_alloc rfl ?_
        rintro _ _ _ ⟨b27, rfl, rfl, rfl⟩
        refine tri_g (opg_store rfl rfl rfl rfl rfl rfl) rfl ?_
        rintro _ _ _ ⟨rfl, rfl⟩
        refine tri_g (opg_store rfl rfl rfl rfl rfl rfl) rfl ?_
        rintro _ _ _ ⟨rfl, rfl⟩
        refine tri_v (opv_assign rfl) rfl ?_
        refine tri_nil ?_
        refine tri_then ?_
        refine tri_seq ?_
        refine tri_region ?_
        refine tri_v (opv_loadA rfl rfl rfl) rfl ?_
        refine tri_v (opv_loadA rfl rfl rfl) rfl ?_
        refine tri_g (opg_call (xs := [_, _]) rfl (ref06_same (g4.mono hJ7).sl g5.sl (by omega))) rfl ?_
        rintro _ _ _ ⟨rfl, rfl, rfl⟩
        refine tri_v (opv_notD rfl) rfl ?_
        refine tri_v (opv_move rfl) rfl ?_
        refine tri_false rfl rfl (fun h => h ⟨rfl, rfl⟩) ?_
        refine tri_guard_run rfl rfl rfl ?_
        refine tri_v (opv_loadA rfl rfl rfl) rfl ?_
        refine tri_guard_run rfl rfl rfl ?_
        refine tri_v (opv_loadA rfl rfl rfl) rfl ?_
        refine tri_guard_run rfl rfl rfl ?_
        refine tri_v (opv_neqI rfl rfl rfl rfl rfl rfl) rfl ?_
        refine tri_v (opv_pick_f rfl rfl) rfl ?_
        refine tri_v (opv_move rfl) rfl ?_
        refine tri_false rfl rfl (fun h => h hqr) ?_
        refine tri_guard_run rfl rfl rfl ?_
        refine tri_v (opv_move rfl) rfl ?_
        refine tri_guard_run rfl rfl rfl ?_
        refine tri_v (opv_move rfl) rfl ?_
        refine tri_guard_run rfl rfl rfl ?_
        refine tri_v (opv_neq rfl rfl) rfl ?_
        refine tri_v (opv_pick_f rfl rfl) rfl ?_
        refine tri_nil ?_
        refine tri_then ?_
        refine tri_cond_not rfl (fun h => h rfl) ?_
        refine tri_skip ?_
        refine tri_inBlock ?_
        refine tri_then ?_
        refine tri_region ?_
        refine tri_v (opv_add rfl rfl (w64 (by omega) (by omega))) rfl ?_
        refine tri_v (opv_move rfl) rfl ?_
        refine tri_nil ?_
        refine tri_then ?_
        refine tri_drop (tri_drop (tri_drop (tri_drop ?_)))
        refine tri_sub ?_ (hK2 (j + 1, J7) ⟨by simp only; omega, fun _ h => hJ7 (hJ6 (hJ5 (hJ4 (hJ3 (hJ2 (hJ1 h))))))⟩ (by simp only; omega))
        exact ⟨rfl, rfl, rfl, rfl, rfl, rfl, rfl, rfl, rfl, rfl, trivial⟩
      · refine tri_exit ?_
        refine tri_then_exit ?_
        refine tri_then_exit ?_
        refine tri_inBlock_hit rfl ?_
        refine tri_inBlock ?_
        refine tri_then ?_
        refine tri_region ?_
        refine tri_v (opv_add rfl rfl (w64 (by omega) (by omega))) rfl ?_
        refine tri_v (opv_move rfl) rfl ?_
        refine tri_nil ?_
        refine tri_then ?_
        refine tri_drop ?_
        refine tri_sub ?_ (hK (i + 1, J1) ⟨by simp only; omega, fun _ h => hJ1 (hI3 (hJ0 h))⟩ (by simp only; omega))
        exact ⟨rfl, rfl, rfl, rfl, rfl, rfl, trivial⟩
  · refine tri_exit ?_
    refine tri_then_exit ?_
    refine tri_then_exit ?_
    refine tri_inBlock_hit rfl ?_
    refine tri_then ?_
    refine tri_seq ?_
    refine tri_region ?_
    refine tri_v (opv_move rfl) rfl ?_
    refine tri_v (opv_assign rfl) rfl ?_
    refine tri_nil ?_
    refine tri_then ?_
    refine tri_ret ?_
    refine tri_end A Suf.h rfl (.cons (rv_tmp rfl) .nil) ⟨rfl, rfl, fun _ h => hJ0 (hI02 h)⟩
end Go.GL

set_option linter.unusedVariables false
namespace Go.GL
open Go.Proofs
theorem num_int : NumTy Try.prog 3 1 := NumTy.int
theorem num_2 : NumTy Try.prog 53 2 := NumTy.arr num_int (by decide)
theorem num_4 : NumTy Try.prog 43 4 := NumTy.arr num_int (by decide)
theorem num_5 : NumTy Try.prog 84 5 := NumTy.arr num_int (by decide)
theorem num_cell : NumTy Try.prog 55 2 := NumTy.str (ns := [1, 1]) (by exact ⟨num_int, num_int, trivial⟩) (by decide)
theorem num_node : NumTy Try.prog 45 6 := NumTy.str (ns := [1, 4, 1]) (by exact ⟨num_int, num_4, num_int, trivial⟩) (by decide)
theorem laid : laidOutB Try.prog = true := by kernel_rfl
theorem own : ownKnob Try.prog.godebug = none := by kernel_rfl
end Go.GL

set_option linter.unusedVariables false
namespace Go.GL
/-! ### Stores in which all is right -/
namespace R6
structure Wf (ns : List Node) : Prop where
  len : 2 ≤ ns.length
  z : ns.getD 0 default = n0
  o : ns.getD 1 default = n1
  ok : ∀ i, i < ns.length → 2 ≤ i → fits ns i
theorem right_iff {ns : List Node} {room : Int} : right ns room ↔ (2 ≤ room ∧ room ≤ 100000 ∧ (ns.length : Int) ≤ room) ∧ Wf ns :=
  ⟨fun h => ⟨⟨h.1.1, h.1.2.1, h.1.2.2.2.1⟩, ⟨by have := h.1.2.2.1; omega, h.1.2.2.2.2.1, h.1.2.2.2.2.2, h.2⟩⟩,
   fun ⟨⟨a, b, c⟩, h⟩ => ⟨⟨a, b, by have := h.len; omega, c, h.z, h.o⟩, h.ok⟩⟩
theorem Wf.modTo {ns : List Node} (h : Wf ns) : ModTo ns ns.length := by
  have key : ∀ n, n ≤ ns.length → ModTo ns n := by
    intro n
    induction n with
    | zero => intro _ j hj; omega
    | succ n ih =>
      intro hn
      have hm := ih (by omega)
      by_cases h2 : 2 ≤ n
      · exact hm.step (h.ok n (by omega) h2)
      · intro j hj
        rcases (by omega : j = 0 ∨ j = 1) with rfl | rfl
        · rw [h.z]; decide
        · rw [h.o]; decide
  exact key _ (Nat.le_refl _)
theorem Wf.mod {ns : List Node} (h : Wf ns) : Mod ns := h.modTo.mod
theorem Wf.lvb {ns : List Node} (h : Wf ns) {n : Int} (hn : inS ns n) : 0 ≤ (nd ns n).lv ∧ (nd ns n).lv ≤ 42 := ⟨(h.mod.nd hn).1, (h.mod.nd hn).2.1⟩
theorem Wf.nd0 {ns : List Node} (h : Wf ns) : nd ns 0 = n0 := h.z
theorem Wf.nd1 {ns : List Node} (h : Wf ns) : nd ns 1 = n1 := h.o
theorem Wf.in0 {ns : List Node} (h : Wf ns) : inS ns 0 := ⟨by omega, by have := h.len; omega⟩
theorem Wf.in1 {ns : List Node} (h : Wf ns) : inS ns 1 := ⟨by omega, by have := h.len; omega⟩
theorem Wf.two {ns : List Node} (h : Wf ns) {n : Int} (hn : inS ns n) (hl : (nd ns n).lv ≠ 0) : 2 ≤ n := by
  rcases Int.lt_or_le n 2 with h2 | h2
  · exfalso
    have hn0 := hn.1
    rcases (by omega : n = 0 ∨ n = 1) with rfl | rfl
    · exact hl (by rw [h.nd0]; rfl)
    · exact hl (by rw [h.nd1]; rfl)
  · exact h2
theorem Wf.fits {ns : List Node} (h : Wf ns) {n : Int} (hn : inS ns n) (h2 : 2 ≤ n) : fitsX ns n.toNat (nd ns n) := h.ok n.toNat (by have := hn.2; omega) (by omega)
theorem Wf.lv0 {ns : List Node} (h : Wf ns) {n : Int} (hn : inS ns n) (hl : (nd ns n).lv = 0) : n = 0 ∨ n = 1 := by
  rcases Int.lt_or_le n 2 with h2 | h2
  · have := hn.1; omega
  · have := (h.fits hn h2).2.2.2.2.1
    omega
theorem Wf.kid {ns : List Node} (h : Wf ns) {n : Int} (hn : inS ns n) (hl : (nd ns n).lv ≠ 0) {q : Int} (hq : q ∈ (nd ns n).kids) : inS ns q ∧ q < n ∧ (nd ns q).lv = (nd ns n).lv - 1 := by
  have h2 := h.two hn hl
  have hn1 := hn.2
  obtain ⟨k0, k1, k2, k3, _⟩ := h.fits hn h2
  have key : kidOk ns n.toNat q (nd ns n).lv := by
    unfold Node.kids at hq
    simp only [List.mem_cons, List.not_mem_nil, or_false] at hq
    rcases hq with rfl | rfl | rfl | rfl
    · exact k0
    · exact k1
    · exact k2
    · exact k3
  obtain ⟨g1, g2, g3⟩ := key
  exact ⟨⟨g1, by omega⟩, by omega, by omega⟩
theorem Wf.pop {ns : List Node} (h : Wf ns) {n : Int} (hn : inS ns n) (hl : (nd ns n).lv ≠ 0) : (nd ns n).pop = pop4 ns (nd ns n).k0 (nd ns n).k1 (nd ns n).k2 (nd ns n).k3 := (h.fits hn (h.two hn hl)).2.2.2.2.2.2.1
theorem Wf.at_ {ns : List Node} (h : Wf ns) {n : Int} (hn : inS ns n) (hl : (nd ns n).lv ≠ 0) : at_ ns (nd ns n).kids = n := by
  have := (h.fits hn (h.two hn hl)).2.2.2.2.2.2.2
  have := hn.1
  omega
theorem Wf.uniq {ns : List Node} (h : Wf ns) {n m : Int} (hn : inS ns n) (hm : inS ns m) (hl : (nd ns n).lv ≠ 0) (hl2 : (nd ns m).lv ≠ 0) (e : (nd ns n).kids = (nd ns m).kids) : n = m := by
  rw [← h.at_ hn hl, e, h.at_ hm hl2]
/-! #### what is put -/
theorem inS_pre {ns ms : List Node} (h : ns <+: ms) {n : Int} (hn : inS ns n) : inS ms n := ⟨hn.1, by have := h.length_le; have := hn.2; omega⟩
theorem nd_pre {ns ms : List Node} (h : ns <+: ms) {n : Int} (hn : inS ns n) : nd ms n = nd ns n := by
  obtain ⟨t, rfl⟩ := h
  unfold nd
  have : n.toNat < ns.length := by have := hn.1; have := hn.2; omega
  rw [List.getD_eq_getElem?_getD, List.getD_eq_getElem?_getD, List.getElem?_append_left this]
theorem atFrom_found (k : List Int) : ∀ (ns : List Node) (i : Nat), 0 ≤ atFrom k i ns → ∃ j, j < ns.length ∧ atFrom k i ns = ((i + j : Nat) : Int) ∧ (ns.getD j default).kids = k
  | [], i, h => by simp only [atFrom] at h; omega
  | x :: ns, i, h => by
    simp only [atFrom] at h ⊢
    split at h
    · rename_i hx
      rw [if_pos hx]
      exact ⟨0, by simp, by simp, by simpa using hx⟩
    · rename_i hx
      rw [if_neg hx]
      obtain ⟨j, h1, h2, h3⟩ := atFrom_found k ns (i + 1) h
      exact ⟨j + 1, by simp only [List.length_cons]; omega, by rw [h2]; omega, by simpa using h3⟩
theorem at_found {ns : List Node} {k : List Int} (h : 0 ≤ R6.at_ ns k) : 2 ≤ R6.at_ ns k ∧ inS ns (R6.at_ ns k) ∧ (nd ns (R6.at_ ns k)).kids = k := by
  unfold R6.at_ at h ⊢
  obtain ⟨j, h1, h2, h3⟩ := atFrom_found k _ 2 h
  rw [List.length_drop] at h1
  rw [h2]
  refine ⟨by omega, ⟨by omega, by omega⟩, ?_⟩
  unfold nd
  have : ((2 + j : Nat) : Int).toNat = 2 + j := by omega
  rw [this]
  simpa [List.getD_eq_getElem?_getD] using h3
theorem at_pre {ns ms : List Node} (h2 : 2 ≤ ns.length) (h : ns <+: ms) {k : List Int} (hk : 0 ≤ R6.at_ ns k) : R6.at_ ms k = R6.at_ ns k := by
  obtain ⟨t, rfl⟩ := h
  unfold R6.at_ at hk ⊢
  rw [List.drop_append_of_le_length h2, atFrom_append, if_pos hk]
theorem pop4_pre {ns ms : List Node} (h : ns <+: ms) {q0 q1 q2 q3 : Int} (h0 : inS ns q0) (h1 : inS ns q1) (h2 : inS ns q2) (h3 : inS ns q3) : pop4 ms q0 q1 q2 q3 = pop4 ns q0 q1 q2 q3 := by
  unfold pop4; rw [nd_pre h h0, nd_pre h h1, nd_pre h h2, nd_pre h h3]
theorem fit4_pre {ns ms : List Node} (h : ns <+: ms) {q0 q1 q2 q3 : Int} (hf : fit4 ns q0 q1 q2 q3) : fit4 ms q0 q1 q2 q3 := by
  obtain ⟨a, ⟨b, b'⟩, ⟨c, c'⟩, ⟨d, d'⟩, e⟩ := hf
  unfold fit4
  rw [nd_pre h a, nd_pre h b, nd_pre h c, nd_pre h d]
  exact ⟨inS_pre h a, ⟨inS_pre h b, b'⟩, ⟨inS_pre h c, c'⟩, ⟨inS_pre h d, d'⟩, e⟩
theorem mk4_pre {ns ms : List Node} (h : ns <+: ms) {q0 q1 q2 q3 : Int} (hf : fit4 ns q0 q1 q2 q3) : mk4 ms q0 q1 q2 q3 = mk4 ns q0 q1 q2 q3 := by
  unfold mk4; rw [pop4_pre h hf.1 hf.2.1.1 hf.2.2.1.1 hf.2.2.2.1.1, nd_pre h hf.1]
theorem Wf.snoc {ns : List Node} (h : Wf ns) {q0 q1 q2 q3 : Int} (hf : fit4 ns q0 q1 q2 q3) (hat : ¬ 0 ≤ R6.at_ ns [q0, q1, q2, q3]) : Wf (ns ++ [mk4 ns q0 q1 q2 q3]) := by
  have hpre : ns <+: ns ++ [mk4 ns q0 q1 q2 q3] := List.prefix_append _ _
  have hl := h.len
  refine ⟨by simp; omega, ?_, ?_, fun i hi hi2 => ?_⟩
  · have := nd_pre hpre h.in0; exact this.trans h.z
  · have := nd_pre hpre h.in1; exact this.trans h.o
  · simp only [List.length_append, List.length_singleton] at hi
    unfold R6.fits fitsX kidOk
    by_cases e : i < ns.length
    · have hin : inS ns (i : Int) := ⟨by omega, by omega⟩
      have e1 : (ns ++ [mk4 ns q0 q1 q2 q3]).getD i default = ns.getD i default := nd_pre hpre hin
      rw [e1]
      obtain ⟨⟨a0, a1, a2⟩, ⟨b0, b1, b2⟩, ⟨c0, c1, c2⟩, ⟨d0, d1, d2⟩, f1, f2, f3, f4⟩ := h.ok i e hi2
      have i0 : inS ns (ns.getD i default).k0 := ⟨a0, by omega⟩
      have i1 : inS ns (ns.getD i default).k1 := ⟨b0, by omega⟩
      have i2 : inS ns (ns.getD i default).k2 := ⟨c0, by omega⟩
      have i3 : inS ns (ns.getD i default).k3 := ⟨d0, by omega⟩
      rw [nd_pre hpre i0, nd_pre hpre i1, nd_pre hpre i2, nd_pre hpre i3, pop4_pre hpre i0 i1 i2 i3, at_pre hl hpre (by rw [f4]; omega)]
      exact ⟨⟨a0, a1, a2⟩, ⟨b0, b1, b2⟩, ⟨c0, c1, c2⟩, ⟨d0, d1, d2⟩, f1, f2, f3, f4⟩
    · have ei : i = ns.length := by omega
      subst ei
      have e1 : (ns ++ [mk4 ns q0 q1 q2 q3]).getD ns.length default = mk4 ns q0 q1 q2 q3 := by simp
      rw [e1]
      obtain ⟨a, ⟨b, b'⟩, ⟨c, c'⟩, ⟨d, d'⟩, f⟩ := hf
      have hlv := h.lvb a
      have x0 : (mk4 ns q0 q1 q2 q3).k0 = q0 := rfl
      have x1 : (mk4 ns q0 q1 q2 q3).k1 = q1 := rfl
      have x2 : (mk4 ns q0 q1 q2 q3).k2 = q2 := rfl
      have x3 : (mk4 ns q0 q1 q2 q3).k3 = q3 := rfl
      have x4 : (mk4 ns q0 q1 q2 q3).lv = (nd ns q0).lv + 1 := rfl
      have x5 : (mk4 ns q0 q1 q2 q3).pop = pop4 ns q0 q1 q2 q3 := rfl
      rw [x0, x1, x2, x3, x4, x5, nd_pre hpre a, nd_pre hpre b, nd_pre hpre c, nd_pre hpre d, pop4_pre hpre a b c d]
      refine ⟨⟨a.1, a.2, by omega⟩, ⟨b.1, b.2, by omega⟩, ⟨c.1, c.2, by omega⟩, ⟨d.1, d.2, by omega⟩, by omega, f, rfl, ?_⟩
      have := at_snoc hl [q0, q1, q2, q3] (mk4 ns q0 q1 q2 q3)
      rw [if_neg hat, if_pos (by rfl)] at this
      exact this
/-- What a put comes to, if it has room. -/
structure PutOk (ns : List Node) (q0 q1 q2 q3 : Int) (ms : List Node) (m : Int) : Prop where
  wf : Wf ms
  pre : ns <+: ms
  mem : inS ms m
  nd : nd ms m = mk4 ns q0 q1 q2 q3
  len : ms.length ≤ ns.length + 1
theorem nd_of_found {ns : List Node} (h : Wf ns) {q0 q1 q2 q3 : Int} (hf : fit4 ns q0 q1 q2 q3) {m : Int} (hm : inS ns m) (hl : (R6.nd ns m).lv ≠ 0) (hk : (R6.nd ns m).kids = [q0, q1, q2, q3]) : R6.nd ns m = mk4 ns q0 q1 q2 q3 := by
  have h2 := h.two hm hl
  obtain ⟨⟨_, _, k⟩, _, _, _, f1, f2, f3, f4⟩ := h.fits hm h2
  unfold Node.kids at hk
  simp only [List.cons.injEq, and_true] at hk
  obtain ⟨e0, e1, e2, e3⟩ := hk
  unfold mk4
  rw [e0, e1, e2, e3] at f3
  rw [e0] at k
  generalize R6.nd ns m = x at *
  cases x
  simp_all
theorem put_ok {ns : List Node} (h : Wf ns) {room : Int} {q0 q1 q2 q3 : Int} (hf : fit4 ns q0 q1 q2 q3) (hr : 0 ≤ R6.at_ ns [q0, q1, q2, q3] ∨ (ns.length : Int) < room) : ∃ ms m, put ns room q0 q1 q2 q3 = (ms, m, 0) ∧ PutOk ns q0 q1 q2 q3 ms m := by
  unfold put
  rw [if_pos hf]
  by_cases hat : 0 ≤ R6.at_ ns [q0, q1, q2, q3]
  · rw [if_pos hat]
    obtain ⟨h2, h3, h4⟩ := at_found hat
    have hl : (R6.nd ns (R6.at_ ns [q0, q1, q2, q3])).lv ≠ 0 := by have := (h.fits h3 h2).2.2.2.2.1; omega
    exact ⟨_, _, rfl, h, List.prefix_refl _, h3, nd_of_found h hf h3 hl h4, by omega⟩
  · rw [if_neg hat, if_neg (by have := hr.resolve_left hat; omega)]
    refine ⟨_, _, rfl, h.snoc hf hat, List.prefix_append _ _, ⟨by omega, by simp; omega⟩, ?_, by simp⟩
    unfold R6.nd
    simp
/-- What is there already is found. -/
theorem put_again {ns : List Node} (h : Wf ns) {room : Int} {q0 q1 q2 q3 : Int} (hf : fit4 ns q0 q1 q2 q3) {m : Int} (hm : inS ns m) (hl : (R6.nd ns m).lv ≠ 0) (hk : (R6.nd ns m).kids = [q0, q1, q2, q3]) : put ns room q0 q1 q2 q3 = (ns, m, 0) := by
  have := h.at_ hm hl
  rw [hk] at this
  unfold put
  rw [if_pos hf, if_pos (by rw [this]; exact hm.1), this]
theorem PutOk.kids {ns ms : List Node} {q0 q1 q2 q3 m : Int} (h : PutOk ns q0 q1 q2 q3 ms m) : (R6.nd ms m).kids = [q0, q1, q2, q3] := by rw [h.nd]; rfl
theorem PutOk.lv {ns ms : List Node} {q0 q1 q2 q3 m : Int} (h : PutOk ns q0 q1 q2 q3 ms m) : (R6.nd ms m).lv = (R6.nd ns q0).lv + 1 := by rw [h.nd]; rfl
theorem put_wf {ns : List Node} (h : Wf ns) (room q0 q1 q2 q3 : Int) : Wf (put ns room q0 q1 q2 q3).1 ∧ ns <+: (put ns room q0 q1 q2 q3).1 := by
  unfold put
  split
  · rename_i hf
    split
    · exact ⟨h, List.prefix_refl _⟩
    · rename_i hat
      split
      · exact ⟨h, List.prefix_refl _⟩
      · exact ⟨h.snoc hf hat, List.prefix_append _ _⟩
  · exact ⟨h, List.prefix_refl _⟩
theorem put_room {ns : List Node} {room : Int} (hl : (ns.length : Int) ≤ room) (q0 q1 q2 q3 : Int) : ((put ns room q0 q1 q2 q3).1.length : Int) ≤ room := by
  unfold put
  split
  · split
    · exact hl
    · split
      · exact hl
      · simp only [List.length_append, List.length_singleton]; omega
  · exact hl
end R6
end Go.GL

set_option linter.unusedVariables false
namespace Go.GL
/-! ### Sets of cells: sorted lists -/
namespace R1
theorem less_irrefl (a : Cell) : ¬ less a a := by unfold less; omega
theorem less_trans {a b c : Cell} (h : less a b) (k : less b c) : less a c := by unfold less at *; omega
theorem less_asymm {a b : Cell} (h : less a b) : ¬ less b a := by unfold less at *; omega
theorem less_total {a b : Cell} (h : a ≠ b) : less a b ∨ less b a := by
  unfold less
  rcases Int.lt_trichotomy a.y b.y with h1 | h1 | h1
  · exact .inl (.inl h1)
  · rcases Int.lt_trichotomy a.x b.x with h2 | h2 | h2
    · exact .inl (.inr ⟨h1, h2⟩)
    · exact absurd (by cases a; cases b; simp at h1 h2; simp [h1, h2]) h
    · exact .inr (.inr ⟨h1.symm, h2⟩)
  · exact .inr (.inl h1)
theorem less_ne {a b : Cell} (h : less a b) : a ≠ b := fun e => less_irrefl a (by rw [← e] at h; exact h)
def Srt (l : List Cell) : Prop := l.Pairwise less
theorem putF_true (c : Cell) : ∀ l : List Cell, putF c true l = l.filter fun a => decide (a ≠ c)
  | [] => rfl
  | a :: l => by
    simp only [putF, Bool.true_eq_false, false_and, if_false]
    rw [putF_true c l]
    by_cases h : a = c
    · rw [if_neg (by simpa using h), List.filter_cons_of_neg (by simpa using h)]
    · rw [if_pos h, List.filter_cons_of_pos (by simpa using h)]
theorem filter_gt {c : Cell} {l : List Cell} (h : ∀ d ∈ l, less c d) : (l.filter fun a => decide (a ≠ c)) = l :=
  List.filter_eq_self.2 fun d hd => by simpa using (less_ne (h d hd)).symm
theorem putF_srt (c : Cell) : ∀ (l : List Cell), Srt l → Srt (putF c false l) ∧ ∀ d, d ∈ putF c false l ↔ d = c ∨ d ∈ l
  | [], _ => by
    simp only [putF, Bool.false_eq_true, if_false]
    exact ⟨List.pairwise_singleton _ _, fun d => by simp⟩
  | a :: l, h => by
    obtain ⟨h1, h2⟩ := List.pairwise_cons.1 h
    simp only [putF]
    by_cases hc : a = c ∨ less c a
    · rw [if_pos ⟨trivial, hc⟩]
      have hgt : ∀ d ∈ l, less c d := fun d hd => by
        rcases hc with rfl | hc
        · exact h1 d hd
        · exact less_trans hc (h1 d hd)
      rw [putF_true, filter_gt hgt]
      by_cases he : a = c
      · rw [if_neg (by simpa using he)]
        subst he
        exact ⟨h, fun d => by simp⟩
      · rw [if_pos he]
        have hca := hc.resolve_left he
        refine ⟨List.pairwise_cons.2 ⟨fun d hd => ?_, h⟩, fun d => by simp⟩
        rcases List.mem_cons.1 hd with rfl | hd
        · exact hca
        · exact hgt d hd
    · rw [if_neg (by simpa using hc)]
      have hne : a ≠ c := fun e => hc (.inl e)
      have hac : less a c := (less_total hne).resolve_right fun k => hc (.inr k)
      rw [if_pos hne]
      obtain ⟨i1, i2⟩ := putF_srt c l h2
      refine ⟨List.pairwise_cons.2 ⟨fun d hd => ?_, i1⟩, fun d => ?_⟩
      · rcases (i2 d).1 hd with rfl | hd
        · exact hac
        · exact h1 d hd
      · simp only [List.mem_cons, i2]
        constructor
        · rintro (h | h | h)
          · exact .inr (.inl h)
          · exact .inl h
          · exact .inr (.inr h)
        · rintro (h | h | h)
          · exact .inr (.inl h)
          · exact .inl h
          · exact .inr (.inr h)
theorem put_srt {l : List Cell} (h : Srt l) (c : Cell) : Srt (put l c) := (putF_srt c l h).1
theorem mem_put {l : List Cell} (h : Srt l) {c d : Cell} : d ∈ put l c ↔ d = c ∨ d ∈ l := (putF_srt c l h).2 d
theorem foldl_put : ∀ (l acc : List Cell), Srt acc → Srt (l.foldl put acc) ∧ ∀ d, d ∈ l.foldl put acc ↔ d ∈ l ∨ d ∈ acc
  | [], acc, h => ⟨h, fun d => by simp⟩
  | c :: l, acc, h => by
    obtain ⟨i1, i2⟩ := foldl_put l (put acc c) (put_srt h c)
    refine ⟨i1, fun d => ?_⟩
    rw [List.foldl_cons, i2, mem_put h, List.mem_cons]
    constructor
    · rintro (h | h | h)
      · exact .inl (.inr h)
      · exact .inl (.inl h)
      · exact .inr h
    · rintro ((h | h) | h)
      · exact .inr (.inl h)
      · exact .inl h
      · exact .inr (.inr h)
theorem puts_srt (l : List Cell) : Srt (puts l) := (foldl_put l [] List.Pairwise.nil).1
theorem mem_puts {l : List Cell} {d : Cell} : d ∈ puts l ↔ d ∈ l := by
  rw [show puts l = l.foldl put [] from rfl, (foldl_put l [] List.Pairwise.nil).2]; simp
theorem srt_ext : ∀ {l m : List Cell}, Srt l → Srt m → (∀ d, d ∈ l ↔ d ∈ m) → l = m
  | [], [], _, _, _ => rfl
  | [], b :: m, _, _, h => absurd ((h b).2 List.mem_cons_self) (by simp)
  | a :: l, [], _, _, h => absurd ((h a).1 List.mem_cons_self) (by simp)
  | a :: l, b :: m, h1, h2, h => by
    obtain ⟨p1, p2⟩ := List.pairwise_cons.1 h1
    obtain ⟨q1, q2⟩ := List.pairwise_cons.1 h2
    have e : a = b := by
      rcases List.mem_cons.1 ((h a).1 List.mem_cons_self) with e | ha
      · exact e
      · rcases List.mem_cons.1 ((h b).2 List.mem_cons_self) with e | hb
        · exact e.symm
        · exact absurd (q1 a ha) (less_asymm (p1 b hb))
    subst e
    congr 1
    refine srt_ext p2 q2 fun d => ?_
    constructor
    · intro hd
      rcases List.mem_cons.1 ((h d).1 (List.mem_cons_of_mem _ hd)) with rfl | k
      · exact absurd (p1 d hd) (less_irrefl d)
      · exact k
    · intro hd
      rcases List.mem_cons.1 ((h d).2 (List.mem_cons_of_mem _ hd)) with rfl | k
      · exact absurd (q1 d hd) (less_irrefl d)
      · exact k
theorem srt_nodup {l : List Cell} (h : Srt l) : l.Nodup := h.imp fun k => less_ne k
theorem right_of {l : List Cell} (h : Srt l) (hb : ∀ c ∈ l, inB c) (hl : l.length ≤ 2000) : right l := by
  refine ⟨fun i hi => ⟨?_, fun h0 => ?_⟩, hl⟩
  · have e : g l i = l[i] := by simp [g, hi]
    rw [e]; exact hb _ (List.getElem_mem hi)
  · have e : g l i = l[i] := by simp [g, hi]
    have hi' : i - 1 < l.length := by omega
    have e' : g l (i - 1) = l[i - 1] := by simp [g, hi']
    rw [e, e']
    exact List.pairwise_iff_getElem.1 h (i - 1) i hi' hi (by omega)
theorem right_inB {l : List Cell} (h : right l) : ∀ c ∈ l, inB c := fun c hc => by
  obtain ⟨i, hi, rfl⟩ := List.getElem_of_mem hc
  have := (h.1 i hi).1
  simpa [g, hi] using this
theorem right_srt {l : List Cell} (h : right l) : Srt l := by
  have step : ∀ i, i + 1 < l.length → less (g l i) (g l (i + 1)) := fun i hi => (h.1 (i + 1) hi).2 (by omega)
  have far : ∀ d i, i + d + 1 < l.length → less (g l i) (g l (i + d + 1)) := by
    intro d
    induction d with
    | zero => intro i hi; exact step i hi
    | succ d ih => intro i hi; exact less_trans (ih i (by omega)) (step (i + d + 1) (by omega))
  refine List.pairwise_iff_getElem.2 fun i j hi hj hij => ?_
  have := far (j - i - 1) i (by omega)
  rw [show i + (j - i - 1) + 1 = j by omega] at this
  simpa [g, hi, hj] using this
theorem of_ok {l : List Cell} (hb : ∀ c ∈ l, inB c) (hl : (puts l).length ≤ 2000) : of l = (puts l, 0) := by
  unfold of
  rw [if_pos, if_neg (by omega)]
  intro i hi
  have e : g l i = l[i] := by simp [g, hi]
  rw [e]; exact hb _ (List.getElem_mem hi)
theorem puts_eq_self {l : List Cell} (h : Srt l) : puts l = l := srt_ext (puts_srt l) h fun d => mem_puts
end R1
end Go.GL

set_option linter.unusedVariables false
namespace Go.GL
/-! ### What a node stands for -/
namespace R7
open R6
theorem p2s (m : Nat) : (2:Int) ^ (m + 1) = 2 ^ m * 2 := Int.pow_succ 2 m
theorem p2pos (m : Nat) : (0:Int) < 2 ^ m := Int.pow_pos (by omega)
def al (ns : List Node) : Nat → Int → Int → Int → Bool
  | 0, n, _, _ => decide (n = 1)
  | lv + 1, n, x, y =>
    if y < 2 ^ lv then (if x < 2 ^ lv then al ns lv (nd ns n).k0 x y else al ns lv (nd ns n).k1 (x - 2 ^ lv) y)
    else (if x < 2 ^ lv then al ns lv (nd ns n).k2 x (y - 2 ^ lv) else al ns lv (nd ns n).k3 (x - 2 ^ lv) (y - 2 ^ lv))
def inQ (lv : Nat) (x y : Int) : Prop := 0 ≤ x ∧ x < 2 ^ lv ∧ 0 ≤ y ∧ y < 2 ^ lv
/-- A node of a level. -/
def IsN (ns : List Node) (lv : Nat) (n : Int) : Prop := inS ns n ∧ (nd ns n).lv = lv
theorem kids4 {ns : List Node} (h : Wf ns) {lv : Nat} {n : Int} (hn : IsN ns (lv + 1) n) : IsN ns lv (nd ns n).k0 ∧ IsN ns lv (nd ns n).k1 ∧ IsN ns lv (nd ns n).k2 ∧ IsN ns lv (nd ns n).k3 := by
  have hl : (nd ns n).lv ≠ 0 := by rw [hn.2]; omega
  have key : ∀ q, q ∈ (nd ns n).kids → IsN ns lv q := fun q hq => by
    obtain ⟨a, _, b⟩ := h.kid hn.1 hl hq
    refine ⟨a, ?_⟩
    rw [b, hn.2]; omega
  exact ⟨key _ (by simp [Node.kids]), key _ (by simp [Node.kids]), key _ (by simp [Node.kids]), key _ (by simp [Node.kids])⟩
theorem IsN.pre {ns ms : List Node} (hp : ns <+: ms) {lv : Nat} {n : Int} (h : IsN ns lv n) : IsN ms lv n := ⟨inS_pre hp h.1, by rw [nd_pre hp h.1]; exact h.2⟩
theorem al_pre {ns ms : List Node} (h : Wf ns) (hp : ns <+: ms) : ∀ (lv : Nat) (n x y : Int), IsN ns lv n → al ms lv n x y = al ns lv n x y
  | 0, n, x, y, _ => rfl
  | lv + 1, n, x, y, hn => by
    obtain ⟨a, b, c, d⟩ := kids4 h hn
    simp only [al]
    rw [nd_pre hp hn.1, al_pre h hp lv _ _ _ a, al_pre h hp lv _ _ _ b, al_pre h hp lv _ _ _ c, al_pre h hp lv _ _ _ d]
theorem isN0 {ns : List Node} (h : Wf ns) {n : Int} (hn : IsN ns 0 n) : n = 0 ∨ n = 1 := h.lv0 hn.1 hn.2
theorem pop4_zero {ns : List Node} {q0 q1 q2 q3 : Int} (h0 : 0 ≤ (nd ns q0).pop) (h1 : 0 ≤ (nd ns q1).pop) (h2 : 0 ≤ (nd ns q2).pop) (h3 : 0 ≤ (nd ns q3).pop) : pop4 ns q0 q1 q2 q3 = 0 ↔ (nd ns q0).pop = 0 ∧ (nd ns q1).pop = 0 ∧ (nd ns q2).pop = 0 ∧ (nd ns q3).pop = 0 := by
  unfold pop4 mn cap62
  generalize (nd ns q0).pop = a at *
  generalize (nd ns q1).pop = b at *
  generalize (nd ns q2).pop = c at *
  generalize (nd ns q3).pop = d at *
  constructor
  · intro h
    repeat' split at h
    all_goals omega
  · rintro ⟨rfl, rfl, rfl, rfl⟩; rfl
theorem dead_kids {ns : List Node} (h : Wf ns) {lv : Nat} {n : Int} (hn : IsN ns (lv + 1) n) : (nd ns n).pop = 0 ↔ (nd ns (nd ns n).k0).pop = 0 ∧ (nd ns (nd ns n).k1).pop = 0 ∧ (nd ns (nd ns n).k2).pop = 0 ∧ (nd ns (nd ns n).k3).pop = 0 := by
  obtain ⟨a, b, c, d⟩ := kids4 h hn
  rw [h.pop hn.1 (by rw [hn.2]; omega)]
  exact pop4_zero (h.mod.nd a.1).2.2.1 (h.mod.nd b.1).2.2.1 (h.mod.nd c.1).2.2.1 (h.mod.nd d.1).2.2.1
theorem al_dead {ns : List Node} (h : Wf ns) : ∀ (lv : Nat) (n x y : Int), IsN ns lv n → (nd ns n).pop = 0 → al ns lv n x y = false
  | 0, n, x, y, hn, hp => by
    rcases isN0 h hn with rfl | rfl
    · rfl
    · rw [h.nd1] at hp; cases hp
  | lv + 1, n, x, y, hn, hp => by
    obtain ⟨a, b, c, d⟩ := kids4 h hn
    obtain ⟨a', b', c', d'⟩ := (dead_kids h hn).1 hp
    simp only [al]
    rw [al_dead h lv _ _ _ a a', al_dead h lv _ _ _ b b', al_dead h lv _ _ _ c c', al_dead h lv _ _ _ d d']
    simp
theorem inQ_succ {lv : Nat} {x y : Int} (h : inQ (lv + 1) x y) : (y < 2 ^ lv → x < 2 ^ lv → inQ lv x y) ∧ (y < 2 ^ lv → ¬ x < 2 ^ lv → inQ lv (x - 2 ^ lv) y) ∧ (¬ y < 2 ^ lv → x < 2 ^ lv → inQ lv x (y - 2 ^ lv)) ∧ (¬ y < 2 ^ lv → ¬ x < 2 ^ lv → inQ lv (x - 2 ^ lv) (y - 2 ^ lv)) := by
  unfold inQ at *
  rw [p2s] at h
  have := p2pos lv
  omega
/-- Two nodes of a level that stand for the same are one. -/
theorem al_inj {ns : List Node} (h : Wf ns) : ∀ (lv : Nat) (n m : Int), IsN ns lv n → IsN ns lv m → (∀ x y, inQ lv x y → al ns lv n x y = al ns lv m x y) → n = m
  | 0, n, m, hn, hm, he => by
    have := he 0 0 ⟨by omega, by decide, by omega, by decide⟩
    simp only [al] at this
    rcases isN0 h hn with rfl | rfl <;> rcases isN0 h hm with rfl | rfl <;> simp_all
  | lv + 1, n, m, hn, hm, he => by
    obtain ⟨a, b, c, d⟩ := kids4 h hn
    obtain ⟨a', b', c', d'⟩ := kids4 h hm
    have hp := p2pos lv
    have key : ∀ x y, inQ (lv + 1) x y → _ := he
    simp only [al] at key
    have e0 : (nd ns n).k0 = (nd ns m).k0 := al_inj h lv _ _ a a' fun x y hq => by
      unfold inQ at hq
      have := key x y (by unfold inQ; rw [p2s]; omega)
      rwa [if_pos hq.2.2.2, if_pos hq.2.1, if_pos hq.2.2.2, if_pos hq.2.1] at this
    have e1 : (nd ns n).k1 = (nd ns m).k1 := al_inj h lv _ _ b b' fun x y hq => by
      unfold inQ at hq
      have := key (x + 2 ^ lv) y (by unfold inQ; rw [p2s]; omega)
      rwa [if_pos hq.2.2.2, if_neg (by omega), if_pos hq.2.2.2, if_neg (by omega), show x + 2 ^ lv - 2 ^ lv = x by omega] at this
    have e2 : (nd ns n).k2 = (nd ns m).k2 := al_inj h lv _ _ c c' fun x y hq => by
      unfold inQ at hq
      have := key x (y + 2 ^ lv) (by unfold inQ; rw [p2s]; omega)
      rwa [if_neg (by omega), if_pos hq.2.1, if_neg (by omega), if_pos hq.2.1, show y + 2 ^ lv - 2 ^ lv = y by omega] at this
    have e3 : (nd ns n).k3 = (nd ns m).k3 := al_inj h lv _ _ d d' fun x y hq => by
      unfold inQ at hq
      have := key (x + 2 ^ lv) (y + 2 ^ lv) (by unfold inQ; rw [p2s]; omega)
      rwa [if_neg (by omega), if_neg (by omega), if_neg (by omega), if_neg (by omega), show x + 2 ^ lv - 2 ^ lv = x by omega, show y + 2 ^ lv - 2 ^ lv = y by omega] at this
    refine h.uniq hn.1 hm.1 (by rw [hn.2]; omega) (by rw [hm.2]; omega) ?_
    unfold Node.kids
    rw [e0, e1, e2, e3]
theorem dead_uniq {ns : List Node} (h : Wf ns) {lv : Nat} {n m : Int} (hn : IsN ns lv n) (hm : IsN ns lv m) (dn : (nd ns n).pop = 0) (dm : (nd ns m).pop = 0) : n = m :=
  al_inj h lv n m hn hm fun x y _ => by rw [al_dead h lv n x y hn dn, al_dead h lv m x y hm dm]
/-! #### what is flat -/
theorem mem_flat {ns : List Node} (h : Wf ns) : ∀ (lv : Nat) (n : Int) (o c : Cell), IsN ns lv n → (c ∈ flat ns lv n o ↔ inQ lv (c.x - o.x) (c.y - o.y) ∧ al ns lv n (c.x - o.x) (c.y - o.y) = true)
  | lv, n, o, c, hn => by
    by_cases hp : (nd ns n).pop = 0
    · have e : flat ns lv n o = [] := by unfold flat; rw [if_pos hp]
      rw [e, al_dead h lv n _ _ hn hp]
      simp
    · match lv, hn with
      | 0, hn =>
        have e : flat ns 0 n o = [o] := by unfold flat; rw [if_neg hp]
        rw [e, List.mem_singleton]
        have n1 : n = 1 := by
          rcases isN0 h hn with rfl | rfl
          · exact absurd (by rw [h.nd0]; rfl) hp
          · rfl
        subst n1
        simp only [al, inQ, Int.pow_zero, decide_true, and_true]
        constructor
        · rintro rfl; omega
        · intro hq
          cases c; cases o
          simp only [Cell.mk.injEq] at hq ⊢
          omega
      | lv + 1, hn =>
        obtain ⟨a, b, cc, d⟩ := kids4 h hn
        have e : flat ns (lv + 1) n o = flat ns lv (nd ns n).k0 o ++ flat ns lv (nd ns n).k1 ⟨o.x + 2 ^ lv, o.y⟩ ++ flat ns lv (nd ns n).k2 ⟨o.x, o.y + 2 ^ lv⟩ ++ flat ns lv (nd ns n).k3 ⟨o.x + 2 ^ lv, o.y + 2 ^ lv⟩ := by rw [flat]; rw [if_neg hp]
        rw [e, List.mem_append, List.mem_append, List.mem_append, mem_flat h lv _ _ _ a, mem_flat h lv _ _ _ b, mem_flat h lv _ _ _ cc, mem_flat h lv _ _ _ d]
        simp only [al]
        have hpos := p2pos lv
        rw [show c.x - (o.x + 2 ^ lv) = c.x - o.x - 2 ^ lv by omega, show c.y - (o.y + 2 ^ lv) = c.y - o.y - 2 ^ lv by omega]
        generalize c.x - o.x = x
        generalize c.y - o.y = y
        unfold inQ
        rw [p2s]
        have fw : ∀ {p q r s v : Prop}, (p → v) → (q → v) → (r → v) → (s → v) → ((p ∨ q) ∨ r) ∨ s → v := fun h1 h2 h3 h4 h => h.elim (fun h => h.elim (fun h => h.elim h1 h2) h3) h4
        by_cases hy : y < 2 ^ lv
        · rw [if_pos hy]
          by_cases hx : x < 2 ^ lv
          · rw [if_pos hx]
            exact ⟨fw (fun ⟨q, k⟩ => ⟨by omega, k⟩) (fun ⟨q, k⟩ => by exfalso; omega) (fun ⟨q, k⟩ => by exfalso; omega) (fun ⟨q, k⟩ => by exfalso; omega), fun ⟨q, k⟩ => .inl (.inl (.inl ⟨by omega, k⟩))⟩
          · rw [if_neg hx]
            exact ⟨fw (fun ⟨q, k⟩ => by exfalso; omega) (fun ⟨q, k⟩ => ⟨by omega, k⟩) (fun ⟨q, k⟩ => by exfalso; omega) (fun ⟨q, k⟩ => by exfalso; omega), fun ⟨q, k⟩ => .inl (.inl (.inr ⟨by omega, k⟩))⟩
        · rw [if_neg hy]
          by_cases hx : x < 2 ^ lv
          · rw [if_pos hx]
            exact ⟨fw (fun ⟨q, k⟩ => by exfalso; omega) (fun ⟨q, k⟩ => by exfalso; omega) (fun ⟨q, k⟩ => ⟨by omega, k⟩) (fun ⟨q, k⟩ => by exfalso; omega), fun ⟨q, k⟩ => .inl (.inr ⟨by omega, k⟩)⟩
          · rw [if_neg hx]
            exact ⟨fw (fun ⟨q, k⟩ => by exfalso; omega) (fun ⟨q, k⟩ => by exfalso; omega) (fun ⟨q, k⟩ => by exfalso; omega) (fun ⟨q, k⟩ => ⟨by omega, k⟩), fun ⟨q, k⟩ => .inr ⟨by omega, k⟩⟩
end R7
end Go.GL

set_option linter.unusedVariables false
namespace Go.GL
/-! ### What is made of cells -/
namespace R7
open R6
def deadB (ns : List Node) (j : Nat) : Bool := ns.any fun x => decide (x.lv = (j : Int) ∧ x.pop = 0)
/-- Of how many levels there is no node yet in which all is dead. -/
def E (ns : List Node) : Nat → Nat
  | 0 => 0
  | L + 1 => E ns L + if deadB ns (L + 1) = true then 0 else 1
theorem deadB_iff {ns : List Node} {j : Nat} : deadB ns j = true ↔ ∃ n, IsN ns j n ∧ (nd ns n).pop = 0 := by
  unfold deadB
  rw [List.any_eq_true]
  constructor
  · rintro ⟨x, hx, h⟩
    obtain ⟨i, hi, rfl⟩ := List.getElem_of_mem hx
    have h' := of_decide_eq_true h
    have e : nd ns (i : Int) = ns[i] := by simp [nd, hi]
    exact ⟨i, ⟨⟨by omega, by omega⟩, by rw [e]; exact h'.1⟩, by rw [e]; exact h'.2⟩
  · rintro ⟨n, ⟨⟨h0, h1⟩, h2⟩, h3⟩
    have hlt : n.toNat < ns.length := by omega
    have e : nd ns n = ns[n.toNat] := by simp [nd, hlt]
    rw [e] at h2 h3
    exact ⟨_, List.getElem_mem hlt, by simp [h2, h3]⟩
theorem deadB_pre {ns ms : List Node} (h : ns <+: ms) {j : Nat} (hd : deadB ns j = true) : deadB ms j = true := by
  obtain ⟨t, rfl⟩ := h
  unfold deadB at *
  rw [List.any_append, hd]; rfl
theorem E_pre {ns ms : List Node} (h : ns <+: ms) : ∀ L, E ms L ≤ E ns L
  | 0 => Nat.le_refl _
  | L + 1 => by
    have := E_pre h L
    simp only [E]
    by_cases hd : deadB ns (L + 1) = true
    · rw [if_pos hd, if_pos (deadB_pre h hd)]; omega
    · rw [if_neg hd]; split <;> omega
theorem E_new {ns ms : List Node} (h : ns <+: ms) {j : Nat} (h0 : ¬ deadB ns (j + 1) = true) (h1 : deadB ms (j + 1) = true) : ∀ L, j < L → E ms L + 1 ≤ E ns L
  | 0, hj => absurd hj (by omega)
  | L + 1, hj => by
    simp only [E]
    by_cases e : j = L
    · subst e
      have := E_pre h j
      rw [if_neg h0, if_pos h1]; omega
    · have := E_new h h0 h1 L (by omega)
      by_cases hd : deadB ns (L + 1) = true
      · rw [if_pos hd, if_pos (deadB_pre h hd)]; omega
      · rw [if_neg hd]; split <;> omega
theorem E_le (ns : List Node) : ∀ L, E ns L ≤ L
  | 0 => Nat.le_refl _
  | L + 1 => by have := E_le ns L; simp only [E]; split <;> omega
theorem E_pos {ns : List Node} {j L : Nat} (hj : j < L) (h0 : ¬ deadB ns (j + 1) = true) : 1 ≤ E ns L := by
  induction L with
  | zero => omega
  | succ L ih =>
    simp only [E]
    by_cases e : j = L
    · subst e; rw [if_neg h0]; omega
    · have := ih (by omega); omega
/-- A node of a level is made; it cost so many nodes, and what was dead of the levels to L. -/
structure Mk (ns : List Node) (L cost lv : Nat) (ms : List Node) (m : Int) : Prop where
  wf : Wf ms
  pre : ns <+: ms
  is : IsN ms lv m
  len : ms.length + E ms L ≤ ns.length + E ns L + cost
theorem fit4_of {ns : List Node} {lv : Nat} (hl : lv + 1 ≤ 42) {a b c d : Int} (ha : IsN ns lv a) (hb : IsN ns lv b) (hc : IsN ns lv c) (hd : IsN ns lv d) : fit4 ns a b c d := by
  refine ⟨ha.1, ⟨hb.1, ?_⟩, ⟨hc.1, ?_⟩, ⟨hd.1, ?_⟩, ?_⟩
  · rw [hb.2, ha.2]
  · rw [hc.2, ha.2]
  · rw [hd.2, ha.2]
  · rw [ha.2]; omega
theorem dead_found {ns : List Node} (h : Wf ns) {j : Nat} {n d : Int} (hn : IsN ns j n) (hp : (nd ns n).pop = 0) (hd : IsN ns (j + 1) d) (hdp : (nd ns d).pop = 0) : R6.at_ ns [n, n, n, n] = d := by
  obtain ⟨a, b, c, e⟩ := kids4 h hd
  obtain ⟨a', b', c', e'⟩ := (dead_kids h hd).1 hdp
  have := h.at_ hd.1 (by rw [hd.2]; omega)
  unfold Node.kids at this
  rwa [dead_uniq h a hn a' hp, dead_uniq h b hn b' hp, dead_uniq h c hn c' hp, dead_uniq h e hn e' hp] at this
theorem emptyF_ok {room : Int} {L : Nat} (hL : L ≤ 42) : ∀ (k : Nat) (ns : List Node) (n : Int) (j : Nat), Wf ns → IsN ns j n → (nd ns n).pop = 0 → j + k ≤ L → ((ns.length + E ns L : Nat) : Int) ≤ room →
    ∃ ms m, emptyF room k ns n = (ms, m, 0) ∧ Mk ns L 0 (j + k) ms m ∧ (nd ms m).pop = 0
  | 0, ns, n, j, h, hn, hp, hj, hr => ⟨ns, n, rfl, ⟨h, List.prefix_refl _, hn, Nat.le_refl _⟩, hp⟩
  | k + 1, ns, n, j, h, hn, hp, hj, hr => by
    have hf := fit4_of (by omega) hn hn hn hn
    have hroom : 0 ≤ R6.at_ ns [n, n, n, n] ∨ (ns.length : Int) < room := by
      by_cases hd : deadB ns (j + 1) = true
      · obtain ⟨d, hd1, hd2⟩ := deadB_iff.1 hd
        rw [dead_found h hn hp hd1 hd2]; exact .inl hd1.1.1
      · have := E_pos (L := L) (by omega) hd
        exact .inr (by omega)
    obtain ⟨ms, m, e, ok⟩ := put_ok h hf hroom
    have him : IsN ms (j + 1) m := ⟨ok.mem, by rw [ok.lv, hn.2]; omega⟩
    have hpm : (nd ms m).pop = 0 := by rw [ok.nd]; exact (pop4_zero (by omega) (by omega) (by omega) (by omega)).2 ⟨hp, hp, hp, hp⟩
    have hlen : ms.length + E ms L ≤ ns.length + E ns L := by
      by_cases hd : deadB ns (j + 1) = true
      · obtain ⟨d, hd1, hd2⟩ := deadB_iff.1 hd
        have hat := dead_found h hn hp hd1 hd2
        have : put ns room n n n n = (ns, d, 0) := put_again h hf hd1.1 (by rw [hd1.2]; omega) (by rw [← hat]; exact (at_found (by rw [hat]; exact hd1.1.1)).2.2)
        rw [this] at e
        cases e
        exact Nat.le_refl _
      · have := E_new ok.pre hd (deadB_iff.2 ⟨m, him, hpm⟩) L (by omega)
        have := ok.len
        omega
    obtain ⟨ms2, m2, e2, ok2, hp2⟩ := emptyF_ok (room := room) hL k ms m (j + 1) ok.wf him hpm (by omega) (by omega)
    refine ⟨ms2, m2, ?_, ⟨ok2.wf, ok.pre.trans ok2.pre, by rw [show j + (k + 1) = j + 1 + k by omega]; exact ok2.is, by have := ok2.len; omega⟩, hp2⟩
    simp only [emptyF, e]
    rw [if_neg (by omega)]
    exact e2
theorem empty_ok {room : Int} {L : Nat} (hL : L ≤ 42) {ns : List Node} {lv : Nat} (h : Wf ns) (hlv : lv ≤ L) (hr : ((ns.length + E ns L : Nat) : Int) ≤ room) : ∃ ms m, empty ns room lv = (ms, m, 0) ∧ Mk ns L 0 lv ms m ∧ (nd ms m).pop = 0 := by
  have := emptyF_ok (room := room) hL lv ns 0 0 h ⟨h.in0, by rw [h.nd0]; rfl⟩ (by rw [h.nd0]; rfl) (by omega) hr
  unfold empty
  simpa using this
/-! #### the quarters of a list of cells -/
def qx' (h : Int) (c : Cell) : Nat := qx h c
theorem part_sum (h : Int) (l : List Cell) : (part h 0 l).length + (part h 1 l).length + (part h 2 l).length + (part h 3 l).length = l.length := by
  induction l with
  | nil => rfl
  | cons c l ih =>
    unfold part at *
    simp only [List.length_map] at *
    have hk : qx h c = 0 ∨ qx h c = 1 ∨ qx h c = 2 ∨ qx h c = 3 := by unfold qx; split <;> split <;> simp
    rcases hk with e | e | e | e <;> simp only [List.filter_cons, e] <;> simp <;> omega
theorem part_in {lv : Nat} {l : List Cell} (hb : ∀ c ∈ l, inQ (lv + 1) c.x c.y) (k : Nat) : ∀ c ∈ part (2 ^ lv) k l, inQ lv c.x c.y := by
  intro c hc
  obtain ⟨d, hd, rfl⟩ := List.mem_map.1 hc
  have := hb d (List.mem_filter.1 hd).1
  unfold inQ at *
  rw [p2s] at this
  have := p2pos lv
  unfold qc
  simp only
  split <;> split <;> omega
theorem mem_part {lv : Nat} {l : List Cell} (hb : ∀ c ∈ l, inQ (lv + 1) c.x c.y) {x y : Int} (hq : inQ lv x y) :
    ((⟨x, y⟩ : Cell) ∈ part (2 ^ lv) 0 l ↔ (⟨x, y⟩ : Cell) ∈ l) ∧ ((⟨x, y⟩ : Cell) ∈ part (2 ^ lv) 1 l ↔ (⟨x + 2 ^ lv, y⟩ : Cell) ∈ l) ∧ ((⟨x, y⟩ : Cell) ∈ part (2 ^ lv) 2 l ↔ (⟨x, y + 2 ^ lv⟩ : Cell) ∈ l) ∧ ((⟨x, y⟩ : Cell) ∈ part (2 ^ lv) 3 l ↔ (⟨x + 2 ^ lv, y + 2 ^ lv⟩ : Cell) ∈ l) := by
  have hp := p2pos lv
  unfold inQ at hq
  have key : ∀ k (X Y : Int), qx (2 ^ lv) ⟨X, Y⟩ = k → qc (2 ^ lv) ⟨X, Y⟩ = ⟨x, y⟩ → (∀ c ∈ l, qx (2 ^ lv) c = k → qc (2 ^ lv) c = ⟨x, y⟩ → c = ⟨X, Y⟩) → ((⟨x, y⟩ : Cell) ∈ part (2 ^ lv) k l ↔ (⟨X, Y⟩ : Cell) ∈ l) := by
    intro k X Y h1 h2 h3
    unfold part
    rw [List.mem_map]
    constructor
    · rintro ⟨c, hc, e⟩
      obtain ⟨hc1, hc2⟩ := List.mem_filter.1 hc
      have := h3 c hc1 (by simpa using hc2) e
      rwa [this] at hc1
    · intro hm
      exact ⟨_, List.mem_filter.2 ⟨hm, by simp [h1]⟩, h2⟩
  refine ⟨key 0 x y ?_ ?_ ?_, key 1 _ _ ?_ ?_ ?_, key 2 _ _ ?_ ?_ ?_, key 3 _ _ ?_ ?_ ?_⟩
  all_goals simp only [qx, qc]
  all_goals first
    | (rintro ⟨cx, cy⟩ hc
       have := hb _ hc
       unfold inQ at this
       simp only [Cell.mk.injEq] at *
       intro h1 h2
       revert h1 h2
       split <;> split <;> intro h1 h2 <;> omega)
    | (split <;> split <;> omega)
    | (simp only [Cell.mk.injEq]
       constructor <;> split <;> omega)
end R7
end Go.GL

set_option linter.unusedVariables false
namespace Go.GL
namespace R7
open R6
theorem build_nl (room : Int) (lv : Nat) (ns : List Node) : build room lv ns [] = empty ns room lv := by cases lv <;> rfl
theorem build_sc (room : Int) (lv : Nat) (ns : List Node) {l : List Cell} (h : l ≠ []) {a0 a1 a2 a3 : List Node} {m0 m1 m2 m3 : Int} (h0 : build room lv ns (part (2 ^ lv) 0 l) = (a0, m0, 0)) (h1 : build room lv a0 (part (2 ^ lv) 1 l) = (a1, m1, 0)) (h2 : build room lv a1 (part (2 ^ lv) 2 l) = (a2, m2, 0)) (h3 : build room lv a2 (part (2 ^ lv) 3 l) = (a3, m3, 0)) :
    build room (lv + 1) ns l = R6.put a3 room m0 m1 m2 m3 := by
  cases l with
  | nil => exact absurd rfl h
  | cons c l =>
    simp only [build, h0, h1, h2, h3]
    rfl
theorem al_put {ns ms : List Node} {lv : Nat} {a b c d m : Int} (h : Wf ns) (ha : IsN ns lv a) (hb : IsN ns lv b) (hc : IsN ns lv c) (hd : IsN ns lv d) (ok : PutOk ns a b c d ms m) (x y : Int) :
    al ms (lv + 1) m x y = if y < 2 ^ lv then (if x < 2 ^ lv then al ns lv a x y else al ns lv b (x - 2 ^ lv) y) else (if x < 2 ^ lv then al ns lv c x (y - 2 ^ lv) else al ns lv d (x - 2 ^ lv) (y - 2 ^ lv)) := by
  simp only [al, ok.nd, mk4]
  rw [al_pre h ok.pre _ _ _ _ ha, al_pre h ok.pre _ _ _ _ hb, al_pre h ok.pre _ _ _ _ hc, al_pre h ok.pre _ _ _ _ hd]
theorem build_ok {room : Int} {L : Nat} (hL : L ≤ 42) : ∀ (lv : Nat) (ns : List Node) (l : List Cell), lv ≤ L → Wf ns → (∀ c ∈ l, inQ lv c.x c.y) → ((ns.length + E ns L + l.length * lv : Nat) : Int) ≤ room →
    ∃ ms m, build room lv ns l = (ms, m, 0) ∧ Mk ns L (l.length * lv) lv ms m ∧ ∀ x y, inQ lv x y → al ms lv m x y = decide ((⟨x, y⟩ : Cell) ∈ l)
  | lv, ns, [], hlv, h, hb, hr => by
    obtain ⟨ms, m, e, ok, hp⟩ := empty_ok (room := room) hL h hlv (by simpa using hr)
    refine ⟨ms, m, by rw [build_nl]; exact e, ?_, fun x y _ => ?_⟩
    · simpa using ok
    · rw [al_dead ok.wf lv m x y ok.is hp]; simp
  | 0, ns, c :: l, hlv, h, hb, hr => by
    refine ⟨ns, 1, rfl, ⟨h, List.prefix_refl _, ⟨h.in1, by rw [h.nd1]; rfl⟩, by omega⟩, fun x y hq => ?_⟩
    have hc := hb c List.mem_cons_self
    unfold inQ at hq hc
    simp only [Int.pow_zero] at hq hc
    have e : (⟨x, y⟩ : Cell) = c := by cases c; simp only [Cell.mk.injEq] at *; omega
    rw [e]
    simp [al]
  | lv + 1, ns, c :: l, hlv, h, hb, hr => by
    have hne : c :: l ≠ [] := by simp
    generalize hls : c :: l = ls at *
    have hpl := part_sum (2 ^ lv) ls
    have hlpos : 1 ≤ ls.length := by rw [← hls]; simp
    have hpb := part_in hb
    have hmul : (part (2 ^ lv) 0 ls).length * lv + (part (2 ^ lv) 1 ls).length * lv + (part (2 ^ lv) 2 ls).length * lv + (part (2 ^ lv) 3 ls).length * lv = ls.length * lv := by rw [← Nat.add_mul, ← Nat.add_mul, ← Nat.add_mul, hpl]
    have hmul2 : ls.length * (lv + 1) = ls.length * lv + ls.length := Nat.mul_succ _ _
    rw [hmul2] at hr
    obtain ⟨a0, m0, e0, k0, s0⟩ := build_ok (room := room) hL lv ns (part (2 ^ lv) 0 ls) (by omega) h (hpb 0) (by omega)
    have l0 := k0.len
    obtain ⟨a1, m1, e1, k1, s1⟩ := build_ok (room := room) hL lv a0 (part (2 ^ lv) 1 ls) (by omega) k0.wf (hpb 1) (by omega)
    have l1 := k1.len
    obtain ⟨a2, m2, e2, k2, s2⟩ := build_ok (room := room) hL lv a1 (part (2 ^ lv) 2 ls) (by omega) k1.wf (hpb 2) (by omega)
    have l2 := k2.len
    obtain ⟨a3, m3, e3, k3, s3⟩ := build_ok (room := room) hL lv a2 (part (2 ^ lv) 3 ls) (by omega) k2.wf (hpb 3) (by omega)
    have l3 := k3.len
    have i0 : IsN a3 lv m0 := ((k0.is.pre k1.pre).pre k2.pre).pre k3.pre
    have i1 : IsN a3 lv m1 := (k1.is.pre k2.pre).pre k3.pre
    have i2 : IsN a3 lv m2 := k2.is.pre k3.pre
    have i3 : IsN a3 lv m3 := k3.is
    obtain ⟨ms, m, e, ok⟩ := put_ok k3.wf (room := room) (fit4_of (by omega) i0 i1 i2 i3) (.inr (by omega))
    refine ⟨ms, m, by rw [build_sc room lv ns hne e0 e1 e2 e3]; exact e, ⟨ok.wf, ((((k0.pre.trans k1.pre).trans k2.pre).trans k3.pre).trans ok.pre), ⟨ok.mem, by rw [ok.lv, i0.2]; omega⟩, ?_⟩, fun x y hq => ?_⟩
    · have := E_pre ok.pre L
      have := ok.len
      omega
    · rw [al_put k3.wf i0 i1 i2 i3 ok]
      obtain ⟨q0, q1, q2, q3⟩ := inQ_succ hq
      by_cases hy : y < 2 ^ lv
      · rw [if_pos hy]
        by_cases hx : x < 2 ^ lv
        · rw [if_pos hx, al_pre k2.wf k3.pre _ _ _ _ ((k0.is.pre k1.pre).pre k2.pre), al_pre k1.wf k2.pre _ _ _ _ (k0.is.pre k1.pre), al_pre k0.wf k1.pre _ _ _ _ k0.is, s0 _ _ (q0 hy hx)]
          exact decide_eq_decide.2 (mem_part hb (q0 hy hx)).1
        · rw [if_neg hx, al_pre k2.wf k3.pre _ _ _ _ (k1.is.pre k2.pre), al_pre k1.wf k2.pre _ _ _ _ k1.is, s1 _ _ (q1 hy hx)]
          have := (mem_part hb (q1 hy hx)).2.1
          rw [show x - 2 ^ lv + 2 ^ lv = x by omega] at this
          exact decide_eq_decide.2 this
      · rw [if_neg hy]
        by_cases hx : x < 2 ^ lv
        · rw [if_pos hx, al_pre k2.wf k3.pre _ _ _ _ k2.is, s2 _ _ (q2 hy hx)]
          have := (mem_part hb (q2 hy hx)).2.2.1
          rw [show y - 2 ^ lv + 2 ^ lv = y by omega] at this
          exact decide_eq_decide.2 this
        · rw [if_neg hx, s3 _ _ (q3 hy hx)]
          have := (mem_part hb (q3 hy hx)).2.2.2
          rw [show y - 2 ^ lv + 2 ^ lv = y by omega, show x - 2 ^ lv + 2 ^ lv = x by omega] at this
          exact decide_eq_decide.2 this
theorem side_succ (lv : Nat) : side ((lv + 1 : Nat) : Int) = 2 ^ lv := by
  unfold side
  have : (((lv + 1 : Nat) : Int) - 1).toNat = lv := by omega
  rw [this]
/-- What 'make' comes to. -/
theorem make_ok {ns : List Node} {room : Int} {l : List Cell} {lv : Nat} {L : Nat} (hL : L ≤ 42) (hlv : lv + 1 ≤ L) (h : R6.right ns room) (hl : R1.right l) (hb : ∀ c ∈ l, inL ((lv + 1 : Nat) : Int) c) (hr : ((ns.length + E ns L + l.length * (lv + 1) : Nat) : Int) ≤ room) :
    ∃ ms m, make ns room l ((lv + 1 : Nat) : Int) = (ms, m, 0) ∧ Mk ns L (l.length * (lv + 1)) (lv + 1) ms m ∧ ∀ c : Cell, inL ((lv + 1 : Nat) : Int) c → al ms (lv + 1) m (c.x + 2 ^ lv) (c.y + 2 ^ lv) = decide (c ∈ l) := by
  have hw := (right_iff.1 h).2
  have hs := side_succ lv
  have hp := p2pos lv
  have hcb : ∀ c ∈ corner (side ((lv + 1 : Nat) : Int)) l, inQ (lv + 1) c.x c.y := fun c hc => by
    obtain ⟨d, hd, rfl⟩ := List.mem_map.1 hc
    have := hb d hd
    unfold inL at this
    rw [hs] at this
    unfold inQ
    rw [p2s, hs]
    simp only
    omega
  obtain ⟨ms, m, e, ok, sem⟩ := build_ok (room := room) hL (lv + 1) ns (corner (side ((lv + 1 : Nat) : Int)) l) hlv hw hcb (by unfold corner; rw [List.length_map]; exact hr)
  have hlen : (corner (side ((lv + 1 : Nat) : Int)) l).length = l.length := by unfold corner; rw [List.length_map]
  rw [hlen] at ok
  refine ⟨ms, m, ?_, ok, fun c hc => ?_⟩
  · unfold make
    rw [if_pos ⟨h, by omega, by omega, hl⟩, if_pos (fun i hi => ?_)]
    · have e3 : ((lv + 1 : Nat) : Int).toNat = lv + 1 := by omega
      rw [e3, e]
      simp
    · have e4 : R1.g l i = l[i] := by simp [R1.g, hi]
      rw [e4]; exact hb _ (List.getElem_mem hi)
  · unfold inL at hc
    rw [hs] at hc
    rw [sem _ _ (by unfold inQ; rw [p2s]; omega)]
    refine decide_eq_decide.2 ?_
    unfold corner
    rw [List.mem_map, hs]
    constructor
    · rintro ⟨d, hd, e⟩
      have : d = c := by cases d; cases c; simp only [Cell.mk.injEq] at *; omega
      rwa [this] at hd
    · intro hc
      exact ⟨c, hc, rfl⟩
/-- What 'of' tells. -/
theorem mem_of {ns : List Node} (h : Wf ns) {lv : Nat} {n : Int} (hn : IsN ns (lv + 1) n) (c : Cell) : c ∈ of ns n ↔ inL ((lv + 1 : Nat) : Int) c ∧ al ns (lv + 1) n (c.x + 2 ^ lv) (c.y + 2 ^ lv) = true := by
  unfold of
  have hs := side_succ lv
  have e3 : ((lv + 1 : Nat) : Int).toNat = lv + 1 := by omega
  rw [hn.2, e3, mem_flat h _ _ _ _ hn, hs]
  simp only
  rw [show c.x - -2 ^ lv = c.x + 2 ^ lv by omega, show c.y - -2 ^ lv = c.y + 2 ^ lv by omega]
  unfold inQ inL
  rw [hs, p2s]
  constructor
  · rintro ⟨q, k⟩; exact ⟨by omega, k⟩
  · rintro ⟨q, k⟩; exact ⟨by omega, k⟩
end R7
end Go.GL

set_option linter.unusedVariables false
namespace Go.GL
open R6 R7
/-! ### What the laws' squares are -/
namespace RL
theorem new_wf : Wf [n0, n1] := ⟨by decide, rfl, rfl, fun i hi h2 => absurd hi (by simp; omega)⟩
theorem putRaw_ok {rm : Int} (h2 : 2 ≤ rm) (h3 : rm ≤ 100000) {ns : List Node} (h : Wf ns) (hl : (ns.length : Int) ≤ rm) (r : Five) : Wf (putRaw rm ns r) ∧ ((putRaw rm ns r).length : Int) ≤ rm ∧ ns <+: putRaw rm ns r := by
  unfold putRaw intern
  rw [if_pos (right_iff.2 ⟨⟨h2, h3, hl⟩, h⟩)]
  exact ⟨(put_wf h _ _ _ _ _).1, put_room hl _ _ _ _, (put_wf h _ _ _ _ _).2⟩
theorem foldl_ok {rm : Int} (h2 : 2 ≤ rm) (h3 : rm ≤ 100000) : ∀ (l : List Five) (ns : List Node), Wf ns → (ns.length : Int) ≤ rm → Wf (l.foldl (putRaw rm) ns) ∧ ((l.foldl (putRaw rm) ns).length : Int) ≤ rm
  | [], ns, h, hl => ⟨h, hl⟩
  | r :: l, ns, h, hl => by
    obtain ⟨a, b, _⟩ := putRaw_ok h2 h3 h hl r
    exact foldl_ok h2 h3 l _ a b
theorem store_ok {rm : Int} (h2 : 2 ≤ rm) (h3 : rm ≤ 100000) (l : List Five) : Wf (store rm l) ∧ ((store rm l).length : Int) ≤ rm := foldl_ok h2 h3 _ _ new_wf (by simpa using h2)
theorem cell16_bd (r : Cell) : -8 ≤ (cell16 r).x ∧ (cell16 r).x < 8 ∧ -8 ≤ (cell16 r).y ∧ (cell16 r).y < 8 := by
  have a := pk_bd (c := r.x) (n := 16) (by omega)
  have b := pk_bd (c := r.y) (n := 16) (by omega)
  unfold cell16
  simp only
  omega
theorem mem_set {raw : List Cell} {c : Cell} (h : c ∈ set raw) : -8 ≤ c.x ∧ c.x < 8 ∧ -8 ≤ c.y ∧ c.y < 8 := by
  unfold set at h
  rw [R1.mem_puts] at h
  obtain ⟨r, _, rfl⟩ := List.mem_map.1 h
  exact cell16_bd r
theorem set_le (raw : List Cell) : (set raw).length ≤ 60 := by
  have key : ∀ (l acc : List Cell), (l.foldl R1.put acc).length ≤ acc.length + l.length := by
    intro l
    induction l with
    | nil => intro acc; simp
    | cons c l ih =>
      intro acc
      have h1 := ih (R1.put acc c)
      have h2 := R1.put_len acc c
      simp only [List.foldl_cons, List.length_cons]
      omega
  have := key ((raw.take 60).map cell16) []
  rw [List.length_map, List.length_take] at this
  unfold set R1.puts
  simp only [List.length_nil] at this
  omega
theorem set_right (raw : List Cell) : R1.right (set raw) := R1.right_of (R1.puts_srt _) (fun c hc => by have := mem_set hc; unfold R1.inB; omega) (by have := set_le raw; omega)
theorem p8 {lv : Nat} (h : 3 ≤ lv) : (8:Int) ≤ 2 ^ lv := by
  have h2 : (2:Nat) ^ 3 ≤ 2 ^ lv := Nat.pow_le_pow_right (by omega) h
  have h3 : (2:Int) ^ lv = ((2 ^ lv : Nat) : Int) := by simp
  rw [h3]; omega
/-- The raw square: a node of the set's cells. -/
structure Sq (c : Int) (nodes : List Five) (raw : List Cell) (level : Int) (lv : Nat) (ms : List Node) (m : Int) : Prop where
  lv3 : 3 ≤ lv ∧ lv ≤ 6
  lve : ((lv + 1 : Nat) : Int) = 4 + pk level 4
  eq : square c nodes raw level = (ms, m, 0)
  wf : Wf ms
  is : IsN ms (lv + 1) m
  len : (ms.length : Int) ≤ room c + 427
  pre : store (room c) nodes <+: ms
  sem : ∀ d : Cell, inL ((lv + 1 : Nat) : Int) d → al ms (lv + 1) m (d.x + 2 ^ lv) (d.y + 2 ^ lv) = decide (d ∈ set raw)
theorem square_ok (c : Int) (nodes : List Five) (raw : List Cell) (level : Int) : ∃ lv ms m, Sq c nodes raw level lv ms m := by
  have hrm := room_bd c
  have hpk := pk_bd (c := level) (n := 4) (by omega)
  obtain ⟨hw, hl⟩ := store_ok (rm := room c) (by omega) (by omega) nodes
  obtain ⟨lv, hlv⟩ : ∃ lv : Nat, ((lv + 1 : Nat) : Int) = 4 + pk level 4 := ⟨(3 + pk level 4).toNat, by omega⟩
  have hs := side_succ lv
  have h8 := p8 (lv := lv) (by omega)
  have hlen := set_le raw
  have hE := E_le (store (room c) nodes) 7
  have hmul : (set raw).length * (lv + 1) ≤ 60 * 7 := Nat.mul_le_mul hlen (by omega)
  obtain ⟨ms, m, e, ok, sem⟩ := make_ok (room := room c + 500) (L := 7) (lv := lv) (by omega) (by omega) (right_iff.2 ⟨⟨by omega, by omega, by omega⟩, hw⟩) (set_right raw) (fun d hd => by have := mem_set hd; unfold inL; rw [hs]; omega) (by omega)
  refine ⟨lv, ms, m, ⟨by omega, hlv, ?_, ok.wf, ok.is, ?_, ok.pre, sem⟩⟩
  · unfold square; rw [← hlv]; exact e
  · have := ok.len; omega
end RL
/-! ### Sixteen and nine -/
namespace R8
theorem s16_is {ns : List Node} (h : Wf ns) {lv : Nat} {n : Int} (hn : IsN ns (lv + 2) n) : ∀ i : Int, 0 ≤ i → i < 16 → IsN ns lv (g (s16 ns n) i) := by
  obtain ⟨a, b, c, d⟩ := kids4 h hn
  obtain ⟨a0, a1, a2, a3⟩ := kids4 h a
  obtain ⟨b0, b1, b2, b3⟩ := kids4 h b
  obtain ⟨c0, c1, c2, c3⟩ := kids4 h c
  obtain ⟨d0, d1, d2, d3⟩ := kids4 h d
  intro i h0 h16
  obtain ⟨k, rfl⟩ : ∃ k : Nat, i = k := ⟨i.toNat, by omega⟩
  have hk : k < 16 := by omega
  unfold g s16
  rw [Int.toNat_natCast]
  match k, hk with
  | 0, _ => exact a0
  | 1, _ => exact a1
  | 2, _ => exact b0
  | 3, _ => exact b1
  | 4, _ => exact a2
  | 5, _ => exact a3
  | 6, _ => exact b2
  | 7, _ => exact b3
  | 8, _ => exact c0
  | 9, _ => exact c1
  | 10, _ => exact d0
  | 11, _ => exact d1
  | 12, _ => exact c2
  | 13, _ => exact c3
  | 14, _ => exact d2
  | 15, _ => exact d3
/-- A square of the sixteen. -/
def sqK (l : List Int) (y x : Int) : List Int := [g l (4 * y + x), g l (4 * y + x + 1), g l (4 * y + x + 4), g l (4 * y + x + 5)]
/-- A node that is a square of the sixteen. -/
structure IsSq (ms : List Node) (lv : Nat) (l : List Int) (y x m : Int) : Prop where
  is : IsN ms (lv + 1) m
  kids : (nd ms m).kids = sqK l y x
theorem IsSq.pre {ns ms : List Node} (hp : ns <+: ms) {lv : Nat} {l : List Int} {y x m : Int} (h : IsSq ns lv l y x m) : IsSq ms lv l y x m := ⟨h.is.pre hp, by rw [nd_pre hp h.is.1]; exact h.kids⟩
theorem putSq_ok {ns : List Node} {room : Int} {lv : Nat} (hl : lv + 1 ≤ 42) (h : Wf ns) {l : List Int} (hi : ∀ i : Int, 0 ≤ i → i < 16 → IsN ns lv (g l i)) {y x : Int} (hy : 0 ≤ y ∧ y ≤ 2) (hx : 0 ≤ x ∧ x ≤ 2) (hr : (ns.length : Int) < room) :
    ∃ ms m, putSq ns room l y x = (ms, m, 0) ∧ Wf ms ∧ ns <+: ms ∧ ms.length ≤ ns.length + 1 ∧ IsSq ms lv l y x m := by
  have i0 := hi (4 * y + x) (by omega) (by omega)
  obtain ⟨ms, m, e, ok⟩ := put_ok h (room := room) (fit4_of hl i0 (hi (4 * y + x + 1) (by omega) (by omega)) (hi (4 * y + x + 4) (by omega) (by omega)) (hi (4 * y + x + 5) (by omega) (by omega))) (.inr hr)
  exact ⟨ms, m, e, ok.wf, ok.pre, ok.len, ⟨ok.mem, by rw [ok.lv, i0.2]; omega⟩, ok.kids⟩
/-- Nine squares. -/
structure Nine9 (ns : List Node) (room : Int) (lv : Nat) (l : List Int) (ms : List Node) (q0 q1 q2 q3 q4 q5 q6 q7 q8 : Int) : Prop where
  wf : Wf ms
  pre : ns <+: ms
  len : ms.length ≤ ns.length + 9
  s0 : IsSq ms lv l 0 0 q0
  s1 : IsSq ms lv l 0 1 q1
  s2 : IsSq ms lv l 0 2 q2
  s3 : IsSq ms lv l 1 0 q3
  s4 : IsSq ms lv l 1 1 q4
  s5 : IsSq ms lv l 1 2 q5
  s6 : IsSq ms lv l 2 0 q6
  s7 : IsSq ms lv l 2 1 q7
  s8 : IsSq ms lv l 2 2 q8
theorem nine_ok {ns : List Node} {room : Int} {lv : Nat} {n : Int} (h : R6.right ns room) (hn : IsN ns (lv + 2) n) (hr : (ns.length : Int) + 9 ≤ room) :
    ∃ ms q0 q1 q2 q3 q4 q5 q6 q7 q8, nine ns room n = (ms, [q0, q1, q2, q3, q4, q5, q6, q7, q8], 0) ∧ Nine9 ns room lv (s16 ns n) ms q0 q1 q2 q3 q4 q5 q6 q7 q8 := by
  have hw := (right_iff.1 h).2
  have hlv := (hw.lvb hn.1).2
  rw [hn.2] at hlv
  have hi := s16_is hw hn
  generalize hl : s16 ns n = l at *
  obtain ⟨a0, q0, e0, w0, p0, l0, s0⟩ := putSq_ok (room := room) (by omega) hw hi (y := 0) (x := 0) (by omega) (by omega) (by omega)
  obtain ⟨a1, q1, e1, w1, p1, l1, s1⟩ := putSq_ok (room := room) (by omega) w0 (fun i a b => (hi i a b).pre p0) (y := 0) (x := 1) (by omega) (by omega) (by omega)
  obtain ⟨a2, q2, e2, w2, p2, l2, s2⟩ := putSq_ok (room := room) (by omega) w1 (fun i a b => ((hi i a b).pre p0).pre p1) (y := 0) (x := 2) (by omega) (by omega) (by omega)
  obtain ⟨a3, q3, e3, w3, p3, l3, s3⟩ := putSq_ok (room := room) (by omega) w2 (fun i a b => (((hi i a b).pre p0).pre p1).pre p2) (y := 1) (x := 0) (by omega) (by omega) (by omega)
  obtain ⟨a4, q4, e4, w4, p4, l4, s4⟩ := putSq_ok (room := room) (by omega) w3 (fun i a b => ((((hi i a b).pre p0).pre p1).pre p2).pre p3) (y := 1) (x := 1) (by omega) (by omega) (by omega)
  obtain ⟨a5, q5, e5, w5, p5, l5, s5⟩ := putSq_ok (room := room) (by omega) w4 (fun i a b => (((((hi i a b).pre p0).pre p1).pre p2).pre p3).pre p4) (y := 1) (x := 2) (by omega) (by omega) (by omega)
  obtain ⟨a6, q6, e6, w6, p6, l6, s6⟩ := putSq_ok (room := room) (by omega) w5 (fun i a b => ((((((hi i a b).pre p0).pre p1).pre p2).pre p3).pre p4).pre p5) (y := 2) (x := 0) (by omega) (by omega) (by omega)
  obtain ⟨a7, q7, e7, w7, p7, l7, s7⟩ := putSq_ok (room := room) (by omega) w6 (fun i a b => (((((((hi i a b).pre p0).pre p1).pre p2).pre p3).pre p4).pre p5).pre p6) (y := 2) (x := 1) (by omega) (by omega) (by omega)
  obtain ⟨a8, q8, e8, w8, p8, l8, s8⟩ := putSq_ok (room := room) (by omega) w7 (fun i a b => ((((((((hi i a b).pre p0).pre p1).pre p2).pre p3).pre p4).pre p5).pre p6).pre p7) (y := 2) (x := 2) (by omega) (by omega) (by omega)
  have t1 := p1
  have t2 := p2
  refine ⟨a8, q0, q1, q2, q3, q4, q5, q6, q7, q8, ?_, ⟨w8, ((((((((p0.trans p1).trans p2).trans p3).trans p4).trans p5).trans p6).trans p7).trans p8), by omega, ?_, ?_, ?_, ?_, ?_, ?_, ?_, ?_, s8⟩⟩
  · unfold nine
    rw [if_pos ⟨h, hn.1, by rw [hn.2]; omega⟩]
    unfold all
    rw [hl]
    simp only [e0, e1, e2, e3, e4, e5, e6, e7, e8]
    simp
  · exact ((((((((s0.pre p1).pre p2).pre p3).pre p4).pre p5).pre p6).pre p7).pre p8)
  · exact (((((((s1.pre p2).pre p3).pre p4).pre p5).pre p6).pre p7).pre p8)
  · exact ((((((s2.pre p3).pre p4).pre p5).pre p6).pre p7).pre p8)
  · exact (((((s3.pre p4).pre p5).pre p6).pre p7).pre p8)
  · exact ((((s4.pre p5).pre p6).pre p7).pre p8)
  · exact (((s5.pre p6).pre p7).pre p8)
  · exact ((s6.pre p7).pre p8)
  · exact s7.pre p8
end R8
end Go.GL

set_option linter.unusedVariables false
namespace Go.GL
open R6 R7
namespace R8
theorem IsSq.k {ms : List Node} {lv : Nat} {l : List Int} {y x m : Int} (h : IsSq ms lv l y x m) : (nd ms m).k0 = g l (4 * y + x) ∧ (nd ms m).k1 = g l (4 * y + x + 1) ∧ (nd ms m).k2 = g l (4 * y + x + 4) ∧ (nd ms m).k3 = g l (4 * y + x + 5) := by
  have := h.kids
  unfold Node.kids sqK at this
  simpa using this
/-- The squares at the corners are the node's own quarters. -/
theorem corners {ns ms : List Node} (hw : Wf ms) (hp : ns <+: ms) (hns : Wf ns) {lv : Nat} {n : Int} (hn : IsN ns (lv + 2) n) {q0 q2 q6 q8 : Int} (s0 : IsSq ms lv (s16 ns n) 0 0 q0) (s2 : IsSq ms lv (s16 ns n) 0 2 q2) (s6 : IsSq ms lv (s16 ns n) 2 0 q6) (s8 : IsSq ms lv (s16 ns n) 2 2 q8) :
    q0 = (nd ns n).k0 ∧ q2 = (nd ns n).k1 ∧ q6 = (nd ns n).k2 ∧ q8 = (nd ns n).k3 := by
  obtain ⟨a, b, c, d⟩ := kids4 hns hn
  have key : ∀ {q k : Int}, IsN ms (lv + 1) q → IsN ns (lv + 1) k → (nd ms q).kids = (nd ns k).kids → q = k := fun hq hk e => by
    have hk' := hk.pre hp
    refine hw.uniq hq.1 hk'.1 (by rw [hq.2]; omega) (by rw [hk'.2]; omega) ?_
    rw [nd_pre hp hk.1]; exact e
  exact ⟨key s0.is a (by rw [s0.kids]; rfl), key s2.is b (by rw [s2.kids]; rfl), key s6.is c (by rw [s6.kids]; rfl), key s8.is d (by rw [s8.kids]; rfl)⟩
end R8
namespace RL
open R8
theorem sq_right {c : Int} {nodes : List Five} {raw : List Cell} {level : Int} {lv : Nat} {ms : List Node} {m : Int} (h : Sq c nodes raw level lv ms m) {k : Int} (hk : 0 ≤ k ∧ k ≤ 1000) : R6.right ms (room c + 500 + k) := by
  have := room_bd c
  have := h.len
  exact right_iff.2 ⟨⟨by omega, by omega, by omega⟩, h.wf⟩
end RL
end Go.GL

set_option linter.unusedVariables false
namespace Go.GL
open R6 R7
namespace R8
def b2i (b : Bool) : Int := if b = true then 1 else 0
/-- How many of the eight about a place are alive. -/
def cnt (f : Int → Int → Bool) (y x : Int) : Int := b2i (f (x - 1) (y - 1)) + b2i (f x (y - 1)) + b2i (f (x + 1) (y - 1)) + b2i (f (x - 1) y) + b2i (f (x + 1) y) + b2i (f (x - 1) (y + 1)) + b2i (f x (y + 1)) + b2i (f (x + 1) (y + 1))
/-- A place behind a generation. -/
def nx (f : Int → Int → Bool) (y x : Int) : Bool := R2.lives (f x y) (cnt f y x)
theorem g16_al {ns : List Node} (h : Wf ns) {n : Int} (hn : IsN ns 2 n) {x y : Int} (hx : 0 ≤ x ∧ x ≤ 3) (hy : 0 ≤ y ∧ y ≤ 3) : g (s16 ns n) (4 * y + x) = b2i (al ns 2 n x y) := by
  have hz := fun i a b => isN0 h (s16_is (lv := 0) h hn i a b)
  have key : ∀ k : Int, (k = 0 ∨ k = 1) → k = b2i (decide (k = 1)) := by rintro k (rfl | rfl) <;> rfl
  have e := key _ (hz (4 * y + x) (by omega) (by omega))
  rw [e]
  congr 1
  simp only [al]
  rcases (by omega : x = 0 ∨ x = 1 ∨ x = 2 ∨ x = 3) with rfl | rfl | rfl | rfl <;> rcases (by omega : y = 0 ∨ y = 1 ∨ y = 2 ∨ y = 3) with rfl | rfl | rfl | rfl <;> rfl
theorem b2i_one (b : Bool) : decide (b2i b = 1) = b := by cases b <;> rfl
theorem bit_nx {ns : List Node} (h : Wf ns) {n : Int} (hn : IsN ns 2 n) {x y : Int} (hx : 1 ≤ x ∧ x ≤ 2) (hy : 1 ≤ y ∧ y ≤ 2) : bit (s16 ns n) y x = b2i (nx (al ns 2 n) y x) := by
  unfold bit nx
  rw [g16_al h hn (by omega) (by omega), b2i_one]
  have e : about (s16 ns n) y x 9 = cnt (al ns 2 n) y x := by
    have gg : ∀ i : Int, ∀ X Y : Int, 0 ≤ X ∧ X ≤ 3 → 0 ≤ Y ∧ Y ≤ 3 → i = 4 * Y + X → g (s16 ns n) i = b2i (al ns 2 n X Y) := fun i X Y a b e => by rw [e]; exact g16_al h hn a b
    have hab : about (s16 ns n) y x 9 = (((((((((0 + g (s16 ns n) (4 * (y + ((0 : Nat) : Int) / 3 - 1) + x + ((0 : Nat) : Int) % 3 - 1)) + g (s16 ns n) (4 * (y + ((1 : Nat) : Int) / 3 - 1) + x + ((1 : Nat) : Int) % 3 - 1)) + g (s16 ns n) (4 * (y + ((2 : Nat) : Int) / 3 - 1) + x + ((2 : Nat) : Int) % 3 - 1)) + g (s16 ns n) (4 * (y + ((3 : Nat) : Int) / 3 - 1) + x + ((3 : Nat) : Int) % 3 - 1)) + 0) + g (s16 ns n) (4 * (y + ((5 : Nat) : Int) / 3 - 1) + x + ((5 : Nat) : Int) % 3 - 1)) + g (s16 ns n) (4 * (y + ((6 : Nat) : Int) / 3 - 1) + x + ((6 : Nat) : Int) % 3 - 1)) + g (s16 ns n) (4 * (y + ((7 : Nat) : Int) / 3 - 1) + x + ((7 : Nat) : Int) % 3 - 1)) + g (s16 ns n) (4 * (y + ((8 : Nat) : Int) / 3 - 1) + x + ((8 : Nat) : Int) % 3 - 1)) := rfl
    rw [hab, gg (4 * (y + ((0 : Nat) : Int) / 3 - 1) + x + ((0 : Nat) : Int) % 3 - 1) (x - 1) (y - 1) (by omega) (by omega) (by omega), gg (4 * (y + ((1 : Nat) : Int) / 3 - 1) + x + ((1 : Nat) : Int) % 3 - 1) x (y - 1) (by omega) (by omega) (by omega), gg (4 * (y + ((2 : Nat) : Int) / 3 - 1) + x + ((2 : Nat) : Int) % 3 - 1) (x + 1) (y - 1) (by omega) (by omega) (by omega), gg (4 * (y + ((3 : Nat) : Int) / 3 - 1) + x + ((3 : Nat) : Int) % 3 - 1) (x - 1) y (by omega) (by omega) (by omega), gg (4 * (y + ((5 : Nat) : Int) / 3 - 1) + x + ((5 : Nat) : Int) % 3 - 1) (x + 1) y (by omega) (by omega) (by omega), gg (4 * (y + ((6 : Nat) : Int) / 3 - 1) + x + ((6 : Nat) : Int) % 3 - 1) (x - 1) (y + 1) (by omega) (by omega) (by omega), gg (4 * (y + ((7 : Nat) : Int) / 3 - 1) + x + ((7 : Nat) : Int) % 3 - 1) x (y + 1) (by omega) (by omega) (by omega), gg (4 * (y + ((8 : Nat) : Int) / 3 - 1) + x + ((8 : Nat) : Int) % 3 - 1) (x + 1) (y + 1) (by omega) (by omega) (by omega)]
    unfold cnt
    omega
  rw [e]
  rfl
theorem isN_b2i {ns : List Node} (h : Wf ns) (b : Bool) : IsN ns 0 (b2i b) := by
  cases b
  · exact ⟨h.in0, by rw [show b2i false = 0 from rfl, h.nd0]; rfl⟩
  · exact ⟨h.in1, by rw [show b2i true = 1 from rfl, h.nd1]; rfl⟩
/-- What a step's node is. -/
structure Stp (ms : List Node) (f : Int → Int → Bool) (m : Int) : Prop where
  is : IsN ms 1 m
  kids : (nd ms m).kids = [b2i (nx f 1 1), b2i (nx f 1 2), b2i (nx f 2 1), b2i (nx f 2 2)]
theorem Stp.pre {ns ms : List Node} (hp : ns <+: ms) {f : Int → Int → Bool} {m : Int} (h : Stp ns f m) : Stp ms f m := ⟨h.is.pre hp, by rw [nd_pre hp h.is.1]; exact h.kids⟩
theorem step_eq {ns : List Node} {room n : Int} (h : R6.right ns room) (hn : IsN ns 2 n) : step ns room n = R6.put ns room (b2i (nx (al ns 2 n) 1 1)) (b2i (nx (al ns 2 n) 1 2)) (b2i (nx (al ns 2 n) 2 1)) (b2i (nx (al ns 2 n) 2 2)) := by
  have hw := (right_iff.1 h).2
  unfold step
  rw [if_pos ⟨⟨h, hn.1, by rw [hn.2]; decide⟩, by rw [hn.2]; rfl⟩]
  unfold one
  rw [bit_nx hw hn (by omega) (by omega), bit_nx hw hn (by omega) (by omega), bit_nx hw hn (by omega) (by omega), bit_nx hw hn (by omega) (by omega)]
theorem step_ok {ns : List Node} {room n : Int} (h : R6.right ns room) (hn : IsN ns 2 n) (hr : (ns.length : Int) < room) : ∃ ms m, step ns room n = (ms, m, 0) ∧ Wf ms ∧ ns <+: ms ∧ ms.length ≤ ns.length + 1 ∧ Stp ms (al ns 2 n) m := by
  have hw := (right_iff.1 h).2
  obtain ⟨ms, m, e, ok⟩ := put_ok hw (room := room) (fit4_of (lv := 0) (by omega) (isN_b2i hw (nx (al ns 2 n) 1 1)) (isN_b2i hw (nx (al ns 2 n) 1 2)) (isN_b2i hw (nx (al ns 2 n) 2 1)) (isN_b2i hw (nx (al ns 2 n) 2 2))) (.inr hr)
  refine ⟨ms, m, by rw [step_eq h hn]; exact e, ok.wf, ok.pre, ok.len, ⟨ok.mem, ?_⟩, ok.kids⟩
  rw [ok.lv, (isN_b2i hw _).2]; rfl
theorem step_again {ns : List Node} {room n m : Int} (h : R6.right ns room) (hn : IsN ns 2 n) (hm : Stp ns (al ns 2 n) m) : step ns room n = (ns, m, 0) := by
  have hw := (right_iff.1 h).2
  rw [step_eq h hn]
  exact put_again hw (fit4_of (lv := 0) (by omega) (isN_b2i hw _) (isN_b2i hw _) (isN_b2i hw _) (isN_b2i hw _)) hm.is.1 (by rw [hm.is.2]; decide) hm.kids
theorem Stp.uniq {ns : List Node} (h : Wf ns) {f f' : Int → Int → Bool} {m m' : Int} (a : Stp ns f m) (b : Stp ns f' m') (e : ∀ y x, nx f y x = nx f' y x) : m = m' := by
  refine h.uniq a.is.1 b.is.1 (by rw [a.is.2]; decide) (by rw [b.is.2]; decide) ?_
  rw [a.kids, b.kids, e, e, e, e]
theorem nx_turn (f : Int → Int → Bool) (y x : Int) : nx (fun a b => f (3 - a) (3 - b)) y x = nx f (3 - y) (3 - x) := by
  unfold nx cnt
  simp only
  congr 1
  rw [show 3 - (x - 1) = 3 - x + 1 by omega, show 3 - (x + 1) = 3 - x - 1 by omega, show 3 - (y - 1) = 3 - y + 1 by omega, show 3 - (y + 1) = 3 - y - 1 by omega]
  omega
/-- Only what is of the sixteen counts. -/
theorem nx_congr {f f' : Int → Int → Bool} (h : ∀ x y, 0 ≤ x ∧ x ≤ 3 → 0 ≤ y ∧ y ≤ 3 → f x y = f' x y) {y x : Int} (hx : 1 ≤ x ∧ x ≤ 2) (hy : 1 ≤ y ∧ y ≤ 2) : nx f y x = nx f' y x := by
  unfold nx cnt
  rw [h x y (by omega) (by omega), h (x - 1) (y - 1) (by omega) (by omega), h x (y - 1) (by omega) (by omega), h (x + 1) (y - 1) (by omega) (by omega), h (x - 1) y (by omega) (by omega), h (x + 1) y (by omega) (by omega), h (x - 1) (y + 1) (by omega) (by omega), h x (y + 1) (by omega) (by omega), h (x + 1) (y + 1) (by omega) (by omega)]
end R8
namespace RL
def cell4 (r : Cell) : Cell := ⟨pk r.x 4 - 2, pk r.y 4 - 2⟩
def turn (c : Cell) : Cell := ⟨-1 - c.x, -1 - c.y⟩
def small (raw : List Cell) : List Cell := R1.puts ((raw.take 16).map cell4)
def smallT (raw : List Cell) : List Cell := R1.puts ((raw.take 16).map fun r => turn (cell4 r))
theorem cell4_bd (r : Cell) : -2 ≤ (cell4 r).x ∧ (cell4 r).x < 2 ∧ -2 ≤ (cell4 r).y ∧ (cell4 r).y < 2 := by
  have a := pk_bd (c := r.x) (n := 4) (by omega)
  have b := pk_bd (c := r.y) (n := 4) (by omega)
  unfold cell4
  simp only
  omega
theorem puts_le (l : List Cell) : (R1.puts l).length ≤ l.length := by
  have key : ∀ (l acc : List Cell), (l.foldl R1.put acc).length ≤ acc.length + l.length := by
    intro l
    induction l with
    | nil => intro acc; simp
    | cons c l ih =>
      intro acc
      have h1 := ih (R1.put acc c)
      have h2 := R1.put_len acc c
      simp only [List.foldl_cons, List.length_cons]
      omega
  simpa [R1.puts] using key l []
theorem small_le (raw : List Cell) : (small raw).length ≤ 16 := by
  have := puts_le ((raw.take 16).map cell4)
  rw [List.length_map, List.length_take] at this
  unfold small; omega
theorem smallT_le (raw : List Cell) : (smallT raw).length ≤ 16 := by
  have := puts_le ((raw.take 16).map fun r => turn (cell4 r))
  rw [List.length_map, List.length_take] at this
  unfold smallT; omega
theorem mem_small {raw : List Cell} {c : Cell} (h : c ∈ small raw) : -2 ≤ c.x ∧ c.x < 2 ∧ -2 ≤ c.y ∧ c.y < 2 := by
  unfold small at h
  rw [R1.mem_puts] at h
  obtain ⟨r, _, rfl⟩ := List.mem_map.1 h
  exact cell4_bd r
theorem mem_smallT {raw : List Cell} {c : Cell} : c ∈ smallT raw ↔ turn c ∈ small raw := by
  unfold smallT small
  rw [R1.mem_puts, R1.mem_puts, List.mem_map, List.mem_map]
  have tt : ∀ c : Cell, turn (turn c) = c := fun c => by cases c; simp only [turn, Cell.mk.injEq]; omega
  constructor
  · rintro ⟨r, hr, rfl⟩; exact ⟨r, hr, by rw [tt]⟩
  · rintro ⟨r, hr, e⟩; exact ⟨r, hr, by rw [e, tt]⟩
theorem small_right (raw : List Cell) : R1.right (small raw) := R1.right_of (R1.puts_srt _) (fun c hc => by have := mem_small hc; unfold R1.inB; omega) (by have := small_le raw; omega)
theorem turn_bd {c : Cell} (h : -2 ≤ (turn c).x ∧ (turn c).x < 2 ∧ -2 ≤ (turn c).y ∧ (turn c).y < 2) : -2 ≤ c.x ∧ c.x < 2 ∧ -2 ≤ c.y ∧ c.y < 2 := by unfold turn at h; simp only at h; omega
theorem smallT_right (raw : List Cell) : R1.right (smallT raw) := R1.right_of (R1.puts_srt _) (fun c hc => by have := turn_bd (mem_small (mem_smallT.1 hc)); unfold R1.inB; omega) (by have := smallT_le raw; omega)
/-- A square of the level 2 of some cells. -/
theorem make2 {ns : List Node} {room : Int} {l : List Cell} (h : R6.right ns room) (hl : R1.right l) (hb : ∀ c ∈ l, -2 ≤ c.x ∧ c.x < 2 ∧ -2 ≤ c.y ∧ c.y < 2) (hn : l.length ≤ 16) (hr : (ns.length : Int) + 34 ≤ room) :
    ∃ ms m, make ns room l 2 = (ms, m, 0) ∧ Wf ms ∧ ns <+: ms ∧ ms.length ≤ ns.length + 34 ∧ IsN ms 2 m ∧ ∀ x y, 0 ≤ x ∧ x ≤ 3 → 0 ≤ y ∧ y ≤ 3 → al ms 2 m x y = decide ((⟨x - 2, y - 2⟩ : Cell) ∈ l) := by
  have hs : side ((1 + 1 : Nat) : Int) = 2 := by rw [side_succ]; rfl
  have hE := E_le ns 2
  obtain ⟨ms, m, e, ok, sem⟩ := make_ok (room := room) (L := 2) (lv := 1) (by omega) (by omega) h hl (fun c hc => by have := hb c hc; unfold inL; rw [hs]; omega) (by omega)
  refine ⟨ms, m, e, ok.wf, ok.pre, by have := ok.len; omega, ok.is, fun x y hx hy => ?_⟩
  have := sem ⟨x - 2, y - 2⟩ (by unfold inL; rw [hs]; simp only; omega)
  simp only [Int.pow_one] at this
  rw [show x - 2 + 2 = x by omega, show y - 2 + 2 = y by omega] at this
  exact this
end RL
end Go.GL

set_option linter.unusedVariables false
namespace Go.GL
open R6 R7
namespace R8
theorem s16_pre {ns ms : List Node} (h : Wf ns) (hp : ns <+: ms) {lv : Nat} {n : Int} (hn : IsN ns (lv + 2) n) : s16 ms n = s16 ns n := by
  obtain ⟨a, b, c, d⟩ := kids4 h hn
  unfold s16
  rw [nd_pre hp hn.1, nd_pre hp a.1, nd_pre hp b.1, nd_pre hp c.1, nd_pre hp d.1]
theorem putSq_again {ns : List Node} {room : Int} {lv : Nat} (hl : lv + 1 ≤ 42) (h : Wf ns) {l : List Int} (hi : ∀ i : Int, 0 ≤ i → i < 16 → IsN ns lv (g l i)) {y x m : Int} (hy : 0 ≤ y ∧ y ≤ 2) (hx : 0 ≤ x ∧ x ≤ 2) (hm : IsSq ns lv l y x m) : putSq ns room l y x = (ns, m, 0) :=
  put_again h (fit4_of hl (hi (4 * y + x) (by omega) (by omega)) (hi (4 * y + x + 1) (by omega) (by omega)) (hi (4 * y + x + 4) (by omega) (by omega)) (hi (4 * y + x + 5) (by omega) (by omega))) hm.is.1 (by rw [hm.is.2]; omega) hm.kids
theorem centre_again {ns : List Node} {room n m : Int} {lv : Nat} (h : R6.right ns room) (hn : IsN ns (lv + 2) n) (hm : IsSq ns lv (s16 ns n) 1 1 m) : centre ns room n = (ns, m, 0) := by
  have hw := (right_iff.1 h).2
  have hlv := (hw.lvb hn.1).2
  rw [hn.2] at hlv
  unfold centre
  rw [if_pos ⟨h, hn.1, by rw [hn.2]; omega⟩]
  exact putSq_again (by omega) hw (s16_is hw hn) (by omega) (by omega) hm
theorem centre_ok {ns : List Node} {room n : Int} {lv : Nat} (h : R6.right ns room) (hn : IsN ns (lv + 2) n) (hr : (ns.length : Int) < room) : ∃ ms m, centre ns room n = (ms, m, 0) ∧ Wf ms ∧ ns <+: ms ∧ ms.length ≤ ns.length + 1 ∧ IsSq ms lv (s16 ns n) 1 1 m := by
  have hw := (right_iff.1 h).2
  have hlv := (hw.lvb hn.1).2
  rw [hn.2] at hlv
  obtain ⟨ms, m, e, ok⟩ := putSq_ok (room := room) (by omega) hw (s16_is hw hn) (y := 1) (x := 1) (by omega) (by omega) hr
  refine ⟨ms, m, ?_, ok⟩
  unfold centre
  rw [if_pos ⟨h, hn.1, by rw [hn.2]; omega⟩]
  exact e
theorem nine_again {ns : List Node} {room n : Int} {lv : Nat} (h : R6.right ns room) (hn : IsN ns (lv + 2) n) {q0 q1 q2 q3 q4 q5 q6 q7 q8 : Int} (s0 : IsSq ns lv (s16 ns n) 0 0 q0) (s1 : IsSq ns lv (s16 ns n) 0 1 q1) (s2 : IsSq ns lv (s16 ns n) 0 2 q2) (s3 : IsSq ns lv (s16 ns n) 1 0 q3) (s4 : IsSq ns lv (s16 ns n) 1 1 q4) (s5 : IsSq ns lv (s16 ns n) 1 2 q5) (s6 : IsSq ns lv (s16 ns n) 2 0 q6) (s7 : IsSq ns lv (s16 ns n) 2 1 q7) (s8 : IsSq ns lv (s16 ns n) 2 2 q8) :
    nine ns room n = (ns, [q0, q1, q2, q3, q4, q5, q6, q7, q8], 0) := by
  have hw := (right_iff.1 h).2
  have hlv := (hw.lvb hn.1).2
  rw [hn.2] at hlv
  have hi := s16_is hw hn
  have hb : lv + 1 ≤ 42 := by omega
  unfold nine
  rw [if_pos ⟨h, hn.1, by rw [hn.2]; omega⟩]
  unfold all
  have e := fun {y x m : Int} (hy : 0 ≤ y ∧ y ≤ 2) (hx : 0 ≤ x ∧ x ≤ 2) (hm : IsSq ns lv (s16 ns n) y x m) => putSq_again (room := room) hb hw hi hy hx hm
  simp only [e (by omega) (by omega) s0, e (by omega) (by omega) s1, e (by omega) (by omega) s2, e (by omega) (by omega) s3, e (by omega) (by omega) s4, e (by omega) (by omega) s5, e (by omega) (by omega) s6, e (by omega) (by omega) s7, e (by omega) (by omega) s8]
  simp
end R8
namespace RL
open R8
/-- Asked twice. -/
theorem twice_ok (c : Int) (nodes : List Five) (raw : List Cell) (level : Int) (sm : List Cell) : ∃ (s t a d : List Node) (n two k : Int) (q0 q1 q2 q3 q4 q5 q6 q7 q8 : Int),
    (square c nodes raw level = (s, n, 0) ∧ make s (room c + 500 + 200) (small sm) 2 = (t, two, 0) ∧ nine t (room c + 500 + 200) n = (a, [q0, q1, q2, q3, q4, q5, q6, q7, q8], 0) ∧ centre a (room c + 500 + 200) n = (a, q4, 0) ∧ R8.step a (room c + 500 + 200) two = (d, k, 0) ∧ nine d (room c + 500 + 200) n = (d, [q0, q1, q2, q3, q4, q5, q6, q7, q8], 0) ∧ centre d (room c + 500 + 200) n = (d, q4, 0) ∧ R8.step d (room c + 500 + 200) two = (d, k, 0))
    ∧ (R6.Mod s ∧ s.length ≤ 1000 ∧ t.length ≤ 1000 ∧ a.length ≤ 1000 ∧ d.length ≤ 1000) := by
  have hrm := room_bd c
  obtain ⟨lv, s, n, sq⟩ := square_ok c nodes raw level
  have hsl := sq.len
  obtain ⟨lv', rfl⟩ : ∃ k, lv = k + 1 := ⟨lv - 1, by have := sq.lv3; omega⟩
  have hrs := sq_right sq (k := 200) (by omega)
  obtain ⟨t, two, e1, w1, p1, l1, k1, f1⟩ := make2 hrs (small_right sm) (fun c => mem_small) (small_le sm) (by omega)
  have hrt : R6.right t (room c + 500 + 200) := right_iff.2 ⟨⟨by omega, by omega, by omega⟩, w1⟩
  have hn1 := sq.is.pre p1
  obtain ⟨a, q0, q1, q2, q3, q4, q5, q6, q7, q8, e2, ok⟩ := nine_ok (room := room c + 500 + 200) hrt hn1 (by omega)
  have la := ok.len
  have hra : R6.right a (room c + 500 + 200) := right_iff.2 ⟨⟨by omega, by omega, by omega⟩, ok.wf⟩
  have hn2 := hn1.pre ok.pre
  have es := s16_pre w1 ok.pre hn1
  have e3 : centre a (room c + 500 + 200) n = (a, q4, 0) := centre_again hra hn2 (by rw [es]; exact ok.s4)
  have ht2 := k1.pre ok.pre
  obtain ⟨d, k, e4, w4, p4, l4, k4⟩ := step_ok (room := room c + 500 + 200) hra ht2 (by omega)
  have hrd : R6.right d (room c + 500 + 200) := right_iff.2 ⟨⟨by omega, by omega, by omega⟩, w4⟩
  have hn3 := hn2.pre p4
  have es2 : s16 d n = s16 t n := by rw [s16_pre ok.wf p4 hn2, es]
  have e5 : nine d (room c + 500 + 200) n = (d, [q0, q1, q2, q3, q4, q5, q6, q7, q8], 0) := nine_again hrd hn3 (by rw [es2]; exact ok.s0.pre p4) (by rw [es2]; exact ok.s1.pre p4) (by rw [es2]; exact ok.s2.pre p4) (by rw [es2]; exact ok.s3.pre p4) (by rw [es2]; exact ok.s4.pre p4) (by rw [es2]; exact ok.s5.pre p4) (by rw [es2]; exact ok.s6.pre p4) (by rw [es2]; exact ok.s7.pre p4) (by rw [es2]; exact ok.s8.pre p4)
  have e6 : centre d (room c + 500 + 200) n = (d, q4, 0) := centre_again hrd hn3 (by rw [es2]; exact ok.s4.pre p4)
  have e7 : R8.step d (room c + 500 + 200) two = (d, k, 0) := step_again hrd (ht2.pre p4) ⟨k4.is, by
    have hk := k4.kids
    rw [nx_congr (f' := al a 2 two) (fun x y _ _ => al_pre ok.wf p4 2 two x y ht2) (by omega) (by omega), nx_congr (f' := al a 2 two) (fun x y _ _ => al_pre ok.wf p4 2 two x y ht2) (by omega) (by omega), nx_congr (f' := al a 2 two) (fun x y _ _ => al_pre ok.wf p4 2 two x y ht2) (by omega) (by omega), nx_congr (f' := al a 2 two) (fun x y _ _ => al_pre ok.wf p4 2 two x y ht2) (by omega) (by omega)]
    exact hk⟩
  exact ⟨s, t, a, d, n, two, k, q0, q1, q2, q3, q4, q5, q6, q7, q8, ⟨sq.eq, e1, e2, e3, e4, e5, e6, e7⟩, sq.wf.mod, by omega, by omega, by omega, by omega⟩
end RL
end Go.GL

set_option linter.unusedVariables false
namespace Go.GL
open R6 R7
namespace R7
theorem flat_len (ns : List Node) : ∀ (lv : Nat) (n : Int) (o : Cell), (flat ns lv n o).length ≤ 4 ^ lv
  | 0, n, o => by unfold flat; split <;> simp
  | lv + 1, n, o => by
    unfold flat
    split
    · simp
    · simp only [List.length_append]
      have a := flat_len ns lv (nd ns n).k0 o
      have b := flat_len ns lv (nd ns n).k1 ⟨o.x + 2 ^ lv, o.y⟩
      have c := flat_len ns lv (nd ns n).k2 ⟨o.x, o.y + 2 ^ lv⟩
      have d := flat_len ns lv (nd ns n).k3 ⟨o.x + 2 ^ lv, o.y + 2 ^ lv⟩
      rw [Nat.pow_succ]; omega
def kid (ns : List Node) (n j : Int) : Int := (nd ns n).kids.getD j.toNat default
theorem al_kid (ns : List Node) {lv : Nat} {n x y : Int} (hq : inQ lv x y) {a b : Int} (ha : a = 0 ∨ a = 1) (hb : b = 0 ∨ b = 1) : al ns (lv + 1) n (x + a * 2 ^ lv) (y + b * 2 ^ lv) = al ns lv (kid ns n (2 * b + a)) x y := by
  unfold inQ at hq
  simp only [al]
  rcases ha with rfl | rfl <;> rcases hb with rfl | rfl <;> simp only [Int.zero_mul, Int.one_mul, Int.add_zero]
  · rw [if_pos (by omega), if_pos (by omega)]; rfl
  · rw [if_neg (by omega), if_pos (by omega), show y + 2 ^ lv - 2 ^ lv = y by omega]; rfl
  · rw [if_pos (by omega), if_neg (by omega), show x + 2 ^ lv - 2 ^ lv = x by omega]; rfl
  · rw [if_neg (by omega), if_neg (by omega), show x + 2 ^ lv - 2 ^ lv = x by omega, show y + 2 ^ lv - 2 ^ lv = y by omega]; rfl
end R7
namespace R8
theorem g_kid (ns : List Node) (n : Int) {a b c d : Int} (ha : a = 0 ∨ a = 1) (hb : b = 0 ∨ b = 1) (hc : c = 0 ∨ c = 1) (hd : d = 0 ∨ d = 1) : g (s16 ns n) (4 * (2 * b + d) + (2 * a + c)) = kid ns (kid ns n (2 * b + a)) (2 * d + c) := by
  rcases ha with rfl | rfl <;> rcases hb with rfl | rfl <;> rcases hc with rfl | rfl <;> rcases hd with rfl | rfl <;> rfl
theorem al16 (ns : List Node) {lv : Nat} {n x y : Int} (hq : inQ lv x y) {X Y : Int} (hX : 0 ≤ X ∧ X ≤ 3) (hY : 0 ≤ Y ∧ Y ≤ 3) : al ns (lv + 2) n (x + X * 2 ^ lv) (y + Y * 2 ^ lv) = al ns lv (g (s16 ns n) (4 * Y + X)) x y := by
  obtain ⟨a, c, ha, hc, rfl⟩ : ∃ a c : Int, (a = 0 ∨ a = 1) ∧ (c = 0 ∨ c = 1) ∧ X = 2 * a + c := ⟨X / 2, X % 2, by omega, by omega, by omega⟩
  obtain ⟨b, d, hb, hd, rfl⟩ : ∃ b d : Int, (b = 0 ∨ b = 1) ∧ (d = 0 ∨ d = 1) ∧ Y = 2 * b + d := ⟨Y / 2, Y % 2, by omega, by omega, by omega⟩
  rw [g_kid ns n ha hb hc hd, ← al_kid ns hq hc hd]
  have hq2 : inQ (lv + 1) (x + c * 2 ^ lv) (y + d * 2 ^ lv) := by
    unfold inQ at *
    rw [p2s]
    rcases hc with rfl | rfl <;> rcases hd with rfl | rfl <;> omega
  rw [← al_kid ns hq2 ha hb, p2s]
  congr 1
  · rcases ha with rfl | rfl <;> rcases hc with rfl | rfl <;> omega
  · rcases hb with rfl | rfl <;> rcases hd with rfl | rfl <;> omega
theorem IsSq.kid {ms : List Node} {lv : Nat} {l : List Int} {y x m : Int} (h : IsSq ms lv l y x m) {a b : Int} (ha : a = 0 ∨ a = 1) (hb : b = 0 ∨ b = 1) : R7.kid ms m (2 * b + a) = g l (4 * (y + b) + (x + a)) := by
  unfold R7.kid
  rw [h.kids]
  unfold sqK
  rcases ha with rfl | rfl <;> rcases hb with rfl | rfl
  · show g l (4 * y + x) = _; congr 1; omega
  · show g l (4 * y + x + 4) = _; congr 1; omega
  · show g l (4 * y + x + 1) = _; congr 1; omega
  · show g l (4 * y + x + 5) = _; congr 1; omega
/-- A square of the sixteen stands for what stands there. -/
theorem sq_al {ns ms : List Node} (h : Wf ns) (hp : ns <+: ms) {lv : Nat} {n : Int} (hn : IsN ns (lv + 2) n) {y0 x0 q : Int} (hy : 0 ≤ y0 ∧ y0 ≤ 2) (hx : 0 ≤ x0 ∧ x0 ≤ 2) (hs : IsSq ms lv (s16 ns n) y0 x0 q) {u v : Int} (hq : inQ (lv + 1) u v) :
    al ms (lv + 1) q u v = al ns (lv + 2) n (u + x0 * 2 ^ lv) (v + y0 * 2 ^ lv) := by
  have hpos := p2pos lv
  unfold inQ at hq
  rw [p2s] at hq
  obtain ⟨a, x, ha, hxa, rfl⟩ : ∃ a x : Int, (a = 0 ∨ a = 1) ∧ (0 ≤ x ∧ x < 2 ^ lv) ∧ u = x + a * 2 ^ lv := by
    by_cases h1 : u < 2 ^ lv
    · exact ⟨0, u, .inl rfl, by omega, by omega⟩
    · exact ⟨1, u - 2 ^ lv, .inr rfl, by omega, by omega⟩
  obtain ⟨b, y, hb, hyb, rfl⟩ : ∃ b y : Int, (b = 0 ∨ b = 1) ∧ (0 ≤ y ∧ y < 2 ^ lv) ∧ v = y + b * 2 ^ lv := by
    by_cases h1 : v < 2 ^ lv
    · exact ⟨0, v, .inl rfl, by omega, by omega⟩
    · exact ⟨1, v - 2 ^ lv, .inr rfl, by omega, by omega⟩
  have hq2 : inQ lv x y := ⟨by omega, by omega, by omega, by omega⟩
  rw [al_kid ms hq2 ha hb, hs.kid ha hb]
  have hX : 0 ≤ x0 + a ∧ x0 + a ≤ 3 := by omega
  have hY : 0 ≤ y0 + b ∧ y0 + b ≤ 3 := by omega
  rw [al_pre h hp lv _ _ _ (s16_is h hn _ (by omega) (by omega)), ← al16 ns hq2 hX hY]
  congr 1
  · rw [Int.add_mul]; omega
  · rw [Int.add_mul]; omega
end R8
namespace RL
open R8
theorem mem_crop {l : List Cell} {x y half : Int} {d : Cell} : d ∈ crop l x y half ↔ cropIn half d ∧ (⟨d.x + x, d.y + y⟩ : Cell) ∈ l := by
  unfold crop
  rw [R1.mem_puts, List.mem_filter, List.mem_map]
  constructor
  · rintro ⟨⟨c, hc, rfl⟩, h⟩
    refine ⟨by simpa using h, ?_⟩
    simp only
    rw [show c.x - x + x = c.x by omega, show c.y - y + y = c.y by omega]
    exact hc
  · rintro ⟨h, hc⟩
    refine ⟨⟨_, hc, ?_⟩, by simpa using h⟩
    cases d
    simp only [Cell.mk.injEq]
    omega
theorem crop_le (l : List Cell) (x y half : Int) : (crop l x y half).length ≤ l.length := by
  unfold crop
  have h1 := puts_le ((l.map fun c => (⟨c.x - x, c.y - y⟩ : Cell)).filter fun c => decide (cropIn half c))
  have h2 := List.length_filter_le (fun c => decide (cropIn half c)) (l.map fun c => (⟨c.x - x, c.y - y⟩ : Cell))
  rw [List.length_map] at h2
  omega
theorem crop_congr {l m : List Cell} (h : ∀ c, c ∈ l ↔ c ∈ m) (x y half : Int) : crop l x y half = crop m x y half :=
  R1.srt_ext (R1.puts_srt _) (R1.puts_srt _) fun d => by
    have a := mem_crop (l := l) (x := x) (y := y) (half := half) (d := d)
    have b := mem_crop (l := m) (x := x) (y := y) (half := half) (d := d)
    rw [a, b, h]
theorem mul3 {h : Int} (hh : 0 < h) {x0 : Int} (hx : 0 ≤ x0 ∧ x0 ≤ 2) : -h ≤ (x0 - 1) * h ∧ (x0 - 1) * h ≤ h ∧ x0 * h = (x0 - 1) * h + h := by
  rcases (by omega : x0 = 0 ∨ x0 = 1 ∨ x0 = 2) with rfl | rfl | rfl <;> omega
/-- What a square of the nine stands for. -/
theorem crop_of {ns ms : List Node} (h : Wf ns) (h' : Wf ms) (hp : ns <+: ms) {lv : Nat} {n : Int} (hn : IsN ns (lv + 2) n) {y0 x0 q : Int} (hy : 0 ≤ y0 ∧ y0 ≤ 2) (hx : 0 ≤ x0 ∧ x0 ≤ 2) (hs : IsSq ms lv (s16 ns n) y0 x0 q) :
    crop (R7.of ns n) ((x0 - 1) * 2 ^ lv) ((y0 - 1) * 2 ^ lv) (2 ^ lv) = R1.puts (R7.of ms q) := by
  have hpos := p2pos lv
  obtain ⟨a1, a2, a3⟩ := mul3 hpos hx
  obtain ⟨b1, b2, b3⟩ := mul3 hpos hy
  refine R1.srt_ext (R1.puts_srt _) (R1.puts_srt _) fun d => ?_
  have key := mem_crop (l := R7.of ns n) (x := (x0 - 1) * 2 ^ lv) (y := (y0 - 1) * 2 ^ lv) (half := 2 ^ lv) (d := d)
  rw [key, R1.mem_puts, mem_of h hn, mem_of h' hs.is]
  unfold inL cropIn
  rw [side_succ, side_succ, p2s]
  simp only
  generalize (x0 - 1) * 2 ^ lv = X at *
  generalize (y0 - 1) * 2 ^ lv = Y at *
  constructor
  · rintro ⟨c1, c2, c3⟩
    refine ⟨by omega, ?_⟩
    rw [sq_al h hp hn hy hx hs (by unfold inQ; rw [p2s]; omega)]
    rw [show d.x + 2 ^ lv + x0 * 2 ^ lv = d.x + X + 2 ^ lv * 2 by omega, show d.y + 2 ^ lv + y0 * 2 ^ lv = d.y + Y + 2 ^ lv * 2 by omega]
    exact c3
  · rintro ⟨c1, c2⟩
    refine ⟨by omega, by omega, ?_⟩
    rw [sq_al h hp hn hy hx hs (by unfold inQ; rw [p2s]; omega)] at c2
    rw [show d.x + X + 2 ^ lv * 2 = d.x + 2 ^ lv + x0 * 2 ^ lv by omega, show d.y + Y + 2 ^ lv * 2 = d.y + 2 ^ lv + y0 * 2 ^ lv by omega]
    exact c2
/-- The square's cells are the raw set. -/
theorem Sq.mem {c : Int} {nodes : List Five} {raw : List Cell} {level : Int} {lv : Nat} {ms : List Node} {m : Int} (h : Sq c nodes raw level lv ms m) (d : Cell) : d ∈ R7.of ms m ↔ d ∈ set raw := by
  rw [mem_of h.wf h.is]
  constructor
  · rintro ⟨h1, h2⟩
    rw [h.sem d h1] at h2
    simpa using h2
  · intro hd
    have h8 := p8 (lv := lv) h.lv3.1
    have hb := mem_set hd
    have hin : inL ((lv + 1 : Nat) : Int) d := by unfold inL; rw [side_succ]; omega
    exact ⟨hin, by rw [h.sem d hin]; simpa using hd⟩
end RL
end Go.GL

set_option linter.unusedVariables false
namespace Go.GL
open R6 R7
namespace R2
open R8 (b2i)
def at8 (c : Cell) (i j : Int) : Cell := ⟨c.x + i, c.y + j⟩
/-- How many of the eight about a cell are in a list. -/
def cntL (l : List Cell) (c : Cell) : Int := b2i (decide (at8 c (-1) (-1) ∈ l)) + b2i (decide (at8 c 0 (-1) ∈ l)) + b2i (decide (at8 c 1 (-1) ∈ l)) + b2i (decide (at8 c (-1) 0 ∈ l)) + b2i (decide (at8 c 1 0 ∈ l)) + b2i (decide (at8 c (-1) 1 ∈ l)) + b2i (decide (at8 c 0 1 ∈ l)) + b2i (decide (at8 c 1 1 ∈ l))
theorem b2i_cons {n a : Cell} {l : List Cell} (h : a ∉ l) : b2i (decide (n ∈ a :: l)) = b2i (decide (n = a)) + b2i (decide (n ∈ l)) := by
  by_cases e : n = a
  · subst e
    simp [h, b2i]
  · simp [e, b2i]
theorem around_cnt (c : Cell) : ∀ {l : List Cell}, l.Nodup → around l c = cntL l c
  | [], _ => by simp [around, cntL, b2i]
  | a :: l, hnd => by
    obtain ⟨h1, h2⟩ := List.nodup_cons.1 hnd
    have ih := around_cnt c h2
    unfold cntL at ih ⊢
    rw [b2i_cons h1, b2i_cons h1, b2i_cons h1, b2i_cons h1, b2i_cons h1, b2i_cons h1, b2i_cons h1, b2i_cons h1]
    obtain ⟨u, hu⟩ : ∃ u, a.x = c.x + u := ⟨a.x - c.x, by omega⟩
    obtain ⟨v, hv⟩ : ∃ v, a.y = c.y + v := ⟨a.y - c.y, by omega⟩
    have key : ∀ i j : Int, b2i (decide (at8 c i j = a)) = if u = i ∧ v = j then 1 else 0 := fun i j => by
      have e : (at8 c i j = a) ↔ (u = i ∧ v = j) := by
        cases a
        simp only [at8, Cell.mk.injEq] at *
        omega
      simp only [e, b2i, decide_eq_true_eq]
    rw [key, key, key, key, key, key, key, key]
    have hn : near c a ↔ (-1 ≤ u ∧ u ≤ 1) ∧ (-1 ≤ v ∧ v ≤ 1) ∧ ¬ (u = 0 ∧ v = 0) := by
      unfold near
      have e : a = c ↔ u = 0 ∧ v = 0 := by
        cases a; cases c
        simp only [Cell.mk.injEq] at *
        omega
      rw [Ne, e]
      omega
    have hs : around (a :: l) c = (if near c a then 1 else 0) + around l c := by
      unfold around
      by_cases h : near c a
      · rw [List.filter_cons_of_pos (by simpa using h), List.length_cons, if_pos h]; omega
      · rw [List.filter_cons_of_neg (by simpa using h), if_neg h]; omega
    rw [hs, ih]
    by_cases h : near c a
    · rw [if_pos h]
      obtain ⟨hu1, hv1, hz⟩ := hn.1 h
      rcases (by omega : u = -1 ∨ u = 0 ∨ u = 1) with rfl | rfl | rfl <;> rcases (by omega : v = -1 ∨ v = 0 ∨ v = 1) with rfl | rfl | rfl <;> simp at hz ⊢ <;> omega
    · rw [if_neg h]
      have hh := mt hn.2 h
      rw [if_neg (by omega), if_neg (by omega), if_neg (by omega), if_neg (by omega), if_neg (by omega), if_neg (by omega), if_neg (by omega), if_neg (by omega)]
      omega
theorem nb_of_near {c d : Cell} (h : near c d) : ∃ k, k < 9 ∧ nb d k = c := by
  obtain ⟨h1, h2, h3, h4, _⟩ := h
  have e : ∀ k : Nat, (k : Int) % 3 - 1 = c.x - d.x → (k : Int) / 3 - 1 = c.y - d.y → nb d k = c := fun k a b => by
    cases c; cases d
    simp only [nb, Cell.mk.injEq] at *
    omega
  refine ⟨((c.x - d.x + 1) + 3 * (c.y - d.y + 1)).toNat, by omega, e _ ?_ ?_⟩ <;> omega
theorem mem_cands {l : List Cell} {d : Cell} : d ∈ cands l ↔ livesAt l d = true ∧ ∃ b ∈ l, ∃ k, k < 9 ∧ nb b k = d := by
  unfold cands about
  rw [List.mem_flatMap]
  constructor
  · rintro ⟨b, hb, h⟩
    obtain ⟨h1, h2⟩ := List.mem_filter.1 h
    obtain ⟨k, hk, e⟩ := List.mem_map.1 h1
    exact ⟨h2, b, hb, k, List.mem_range.1 hk, e⟩
  · rintro ⟨h, b, hb, k, hk, e⟩
    exact ⟨b, hb, List.mem_filter.2 ⟨List.mem_map.2 ⟨k, List.mem_range.2 hk, e⟩, h⟩⟩
theorem lives_mem {l : List Cell} {d : Cell} (h : livesAt l d = true) : d ∈ cands l := by
  refine mem_cands.2 ⟨h, ?_⟩
  have hpos : 0 < around l d := by
    unfold livesAt lives at h
    simp only [Bool.or_eq_true, Bool.and_eq_true, decide_eq_true_eq] at h
    omega
  unfold around at hpos
  have : 0 < (l.filter fun e => decide (near d e)).length := by omega
  obtain ⟨e, he⟩ := List.exists_mem_of_length_pos this
  obtain ⟨h1, h2⟩ := List.mem_filter.1 he
  obtain ⟨k, hk, ek⟩ := nb_of_near (by simpa using h2 : near d e)
  exact ⟨e, h1, k, hk, ek⟩
/-- What 'next' tells. -/
theorem next_ok {l : List Cell} (h : R1.right l) (hb : ∀ c ∈ l, -1000000 ≤ c.x ∧ c.x ≤ 1000000 ∧ -1000000 ≤ c.y ∧ c.y ≤ 1000000) (hl : l.length ≤ 200) : next l = (R1.puts (cands l), 0) := by
  unfold next
  rw [if_pos h]
  refine R1.of_ok (fun d hd => ?_) ?_
  · obtain ⟨_, b, hbm, k, hk, rfl⟩ := mem_cands.1 hd
    have := hb b hbm
    unfold R1.inB nb
    simp only
    omega
  · have h1 := RL.puts_le (cands l)
    have h2 := cands_len l l
    have : cands l = l.flatMap (about l) := rfl
    rw [this] at h1
    rw [this]
    omega
theorem mem_next {l : List Cell} (h : R1.right l) (hb : ∀ c ∈ l, -1000000 ≤ c.x ∧ c.x ≤ 1000000 ∧ -1000000 ≤ c.y ∧ c.y ≤ 1000000) (hl : l.length ≤ 200) (d : Cell) : d ∈ (next l).1 ↔ livesAt l d = true := by
  rw [next_ok h hb hl, R1.mem_puts]
  exact ⟨fun hd => (mem_cands.1 hd).1, lives_mem⟩
end R2
namespace RL
open R8
def outside (c : Cell) : Prop := ((c.x < -2 ∨ 1 < c.x) ∨ c.y < -2) ∨ 1 < c.y
instance (c : Cell) : Decidable (outside c) := inferInstanceAs (Decidable (_ ∨ _))
def withOthers (l more : List Cell) : List Cell := (more.filter fun c => decide (outside c)).foldl R1.put l
theorem foldl_le : ∀ (l acc : List Cell), (l.foldl R1.put acc).length ≤ acc.length + l.length
  | [], acc => by simp
  | c :: l, acc => by
    have h1 := foldl_le l (R1.put acc c)
    have h2 := R1.put_len acc c
    simp only [List.foldl_cons, List.length_cons]
    omega
theorem mem_with {l more : List Cell} (h : R1.Srt l) {d : Cell} : d ∈ withOthers l more ↔ (d ∈ more ∧ outside d) ∨ d ∈ l := by
  unfold withOthers
  rw [(R1.foldl_put _ l h).2, List.mem_filter]
  simp
theorem with_srt {l more : List Cell} (h : R1.Srt l) : R1.Srt (withOthers l more) := (R1.foldl_put _ l h).1
theorem with_le (l more : List Cell) : (withOthers l more).length ≤ l.length + more.length := by
  have h1 := foldl_le (more.filter fun c => decide (outside c)) l
  have h2 := List.length_filter_le (fun c => decide (outside c)) more
  unfold withOthers
  omega
theorem with_snoc (l xs : List Cell) (c : Cell) : withOthers l (xs ++ [c]) = if outside c then R1.put (withOthers l xs) c else withOthers l xs := by
  unfold withOthers
  rw [List.filter_append, List.foldl_append]
  by_cases h : outside c
  · rw [if_pos h, List.filter_cons_of_pos (by simpa using h)]; rfl
  · rw [if_neg h, List.filter_cons_of_neg (by simpa using h)]; rfl
/-- A step tells what lives of the middle, whatever is about it. -/
theorem steps_ok {ms : List Node} {m : Int} (hw : Wf ms) {f : Int → Int → Bool} (hm : Stp ms f m) {l more : List Cell} (hl : R1.Srt l) (hb : ∀ c ∈ l, -2 ≤ c.x ∧ c.x < 2 ∧ -2 ≤ c.y ∧ c.y < 2) (hmb : ∀ c ∈ more, -8 ≤ c.x ∧ c.x < 8 ∧ -8 ≤ c.y ∧ c.y < 8) (hn : l.length ≤ 16) (hmn : more.length ≤ 60)
    (hf : ∀ x y, 0 ≤ x ∧ x ≤ 3 → 0 ≤ y ∧ y ≤ 3 → f x y = decide ((⟨x - 2, y - 2⟩ : Cell) ∈ l)) : R1.right (withOthers l more) ∧ crop (R2.next (withOthers l more)).1 0 0 1 = R1.puts (R7.of ms m) := by
  have hs := with_srt (more := more) hl
  have hle := with_le l more
  have hin : ∀ c ∈ withOthers l more, -8 ≤ c.x ∧ c.x < 8 ∧ -8 ≤ c.y ∧ c.y < 8 := fun c hc => by
    rcases (mem_with hl).1 hc with ⟨h, _⟩ | h
    · exact hmb c h
    · have := hb c h; omega
  have hr : R1.right (withOthers l more) := R1.right_of hs (fun c hc => by have := hin c hc; unfold R1.inB; omega) (by omega)
  refine ⟨hr, R1.srt_ext (R1.puts_srt _) (R1.puts_srt _) fun d => ?_⟩
  rw [mem_crop, R2.mem_next hr (fun c hc => by have := hin c hc; omega) (by omega), R1.mem_puts, mem_of hw hm.is]
  have hside : side ((0 + 1 : Nat) : Int) = 1 := by rw [side_succ]; rfl
  have hcell : (⟨d.x + 0, d.y + 0⟩ : Cell) = d := by cases d; simp
  rw [hcell]
  have hkey : ∀ e : Cell, -2 ≤ e.x ∧ e.x ≤ 1 ∧ -2 ≤ e.y ∧ e.y ≤ 1 → decide (e ∈ withOthers l more) = f (e.x + 2) (e.y + 2) := fun e he => by
    rw [hf _ _ (by omega) (by omega)]
    refine decide_eq_decide.2 ?_
    rw [mem_with hl, show e.x + 2 - 2 = e.x by omega, show e.y + 2 - 2 = e.y by omega]
    constructor
    · rintro (⟨_, h⟩ | h)
      · unfold outside at h; omega
      · exact h
    · exact .inr
  have main : -1 ≤ d.x ∧ d.x < 1 ∧ -1 ≤ d.y ∧ d.y < 1 → R2.livesAt (withOthers l more) d = nx f (d.y + 2) (d.x + 2) := fun hd => by
    unfold R2.livesAt nx
    rw [R2.around_cnt d (R1.srt_nodup hs), hkey d (by omega)]
    congr 1
    unfold R2.cntL cnt
    rw [hkey _ (by simp only [R2.at8]; omega), hkey _ (by simp only [R2.at8]; omega), hkey _ (by simp only [R2.at8]; omega), hkey _ (by simp only [R2.at8]; omega), hkey _ (by simp only [R2.at8]; omega), hkey _ (by simp only [R2.at8]; omega), hkey _ (by simp only [R2.at8]; omega), hkey _ (by simp only [R2.at8]; omega)]
    simp only [R2.at8]
    rw [show d.x + -1 + 2 = d.x + 2 - 1 by omega, show d.y + -1 + 2 = d.y + 2 - 1 by omega, show d.x + 1 + 2 = d.x + 2 + 1 by omega, show d.y + 1 + 2 = d.y + 2 + 1 by omega, show d.x + 0 + 2 = d.x + 2 by omega, show d.y + 0 + 2 = d.y + 2 by omega]
  have sem : -1 ≤ d.x ∧ d.x < 1 ∧ -1 ≤ d.y ∧ d.y < 1 → al ms 1 m (d.x + 1) (d.y + 1) = nx f (d.y + 2) (d.x + 2) := fun hd => by
    have hk := hm.kids
    unfold Node.kids at hk
    simp only [List.cons.injEq, and_true] at hk
    obtain ⟨k0, k1, k2, k3⟩ := hk
    simp only [al, Int.pow_zero, k0, k1, k2, k3, b2i_one]
    rcases (by omega : d.x = -1 ∨ d.x = 0) with e | e <;> rcases (by omega : d.y = -1 ∨ d.y = 0) with e' | e' <;> rw [e, e'] <;> simp
  unfold cropIn inL
  rw [hside]
  simp only [Int.pow_zero]
  constructor
  · rintro ⟨h1, h2⟩
    exact ⟨by omega, by rw [sem (by omega), ← main (by omega)]; exact h2⟩
  · rintro ⟨h1, h2⟩
    exact ⟨by omega, by rw [main (by omega), ← sem (by omega)]; exact h2⟩
end RL
end Go.GL

set_option linter.unusedVariables false
namespace Go.GL
open Go.Proofs
attribute [local irreducible] wpList Code.wp Exit.then Exit.inBlock Ends Tri TriH OpV OpG FnC epf wpAnyH
variable {A : List Asrt} {I : List Chunk}
set_option maxHeartbeats 2000000 in
set_option maxRecDepth 100000 in
theorem law08_steps {nodes : List Five} {raw others : List Cell} {a a2 a3 : Option Addr} {cap cap2 cap3 : Nat} {c : Int} (h0 : I64 c) (hs : SlAt I a nodes) (hf : RL.Fs nodes) (hs2 : SlAt I a2 raw) (hc : RL.Cs raw) (hs3 : SlAt I a3 others) (hc3 : RL.Cs others) :
    FnC Try.prog 5 [.int .i64 c, .slice a nodes.length cap, .slice a2 raw.length cap2, .slice a3 others.length cap3].toArray A I (fun v A' I' => v = .bool true ∧ A = A' ∧ I ⊆ I') := by
  have hrm := RL.room_bd c
  obtain ⟨hw0, hl0⟩ := RL.store_ok (rm := RL.room c) (by omega) (by omega) nodes
  have hr0 : R6.right (RL.store (RL.room c) nodes) (RL.room c + 100) := R6.right_iff.2 ⟨⟨by omega, by omega, by omega⟩, hw0⟩
  obtain ⟨s1, n, e1, w1, p1, l1, k1, f1⟩ := RL.make2 hr0 (RL.small_right raw) (fun c => RL.mem_small) (RL.small_le raw) (by omega)
  have hr1 : R6.right s1 (RL.room c + 100) := R6.right_iff.2 ⟨⟨by omega, by omega, by omega⟩, w1⟩
  obtain ⟨s2, m, e2, w2, p2, l2, k2⟩ := R8.step_ok (room := RL.room c + 100) hr1 k1 (by omega)
  have hr2 : R6.right s2 (RL.room c + 100) := R6.right_iff.2 ⟨⟨by omega, by omega, by omega⟩, w2⟩
  have hsm := RL.small_le raw
  have hse := RL.set_le others
  have hsrt : R1.Srt (RL.small raw) := R1.puts_srt _
  have hmb : ∀ c ∈ RL.set others, -8 ≤ c.x ∧ c.x < 8 ∧ -8 ≤ c.y ∧ c.y < 8 := fun c hc => RL.mem_set hc
  obtain ⟨hall, hcrop⟩ := RL.steps_ok (more := RL.set others) w2 k2 hsrt (fun c => RL.mem_small) hmb hsm hse f1
  have hal := RL.with_le (RL.small raw) (RL.set others)
  have hof : (R7.of s2 m).length ≤ 4 := by
    unfold R7.of
    rw [k2.is.2]
    exact R7.flat_len s2 1 m _
  have hoo : R1.of (R7.of s2 m) = (R1.puts (R7.of s2 m), 0) := by
    have := RL.puts_le (R7.of s2 m)
    refine R1.of_ok (fun d hd => ?_) (by omega)
    have := ((R7.mem_of w2 k2.is d).1 hd).1
    unfold R7.inL at this
    rw [R7.side_succ] at this
    unfold R1.inB
    omega
  have hin : ∀ d ∈ RL.withOthers (RL.small raw) (RL.set others), -8 ≤ d.x ∧ d.x < 8 ∧ -8 ≤ d.y ∧ d.y < 8 := fun d hd => by
    rcases (RL.mem_with hsrt).1 hd with ⟨h, _⟩ | h
    · exact hmb d h
    · have := RL.mem_small h; omega
  have hnx := R2.next_ok hall (fun d hd => by have := hin d hd; omega) (by omega)
  have hnb : ∀ i, i < (R2.next (RL.withOthers (RL.small raw) (RL.set others))).1.length → R2.bd ((R2.next (RL.withOthers (RL.small raw) (RL.set others))).1.getD i default) := fun i hi => by
    have hm : (R2.next (RL.withOthers (RL.small raw) (RL.set others))).1.getD i default ∈ (R2.next (RL.withOthers (RL.small raw) (RL.set others))).1 := by simp [hi]
    rw [hnx] at hm
    obtain ⟨_, b, hb, k, hk, e⟩ := R2.mem_cands.1 (R1.mem_puts.1 hm)
    rw [hnx]
    rw [← e]
    have := hin b hb
    unfold R2.bd R2.nb
    simp only
    omega
  have hnl : (R2.next (RL.withOthers (RL.small raw) (RL.set others))).1.length ≤ 1000 := by
    rw [hnx]
    have h1 := RL.puts_le (R2.cands (RL.withOthers (RL.small raw) (RL.set others)))
    have h2 := R2.cands_len (RL.withOthers (RL.small raw) (RL.set others)) (RL.withOthers (RL.small raw) (RL.set others))
    have h3 : R2.cands (RL.withOthers (RL.small raw) (RL.set others)) = (RL.withOthers (RL.small raw) (RL.set others)).flatMap (R2.about (RL.withOthers (RL.small raw) (RL.set others))) := rfl
    rw [← h3] at h2
    simp only
    omega
  have him := k2.is.1
  have hlm : (s2.getD m.toNat default).lv = 1 := k2.is.2
  unfold R6.inS at him
  have hg0 := RL.store_good (rm := RL.room c) (by omega) (by omega) nodes
  skip
  refine fn_enter4 Try.func5 rfl Try.ntmps5 rfl fun w0 => ?_
  refine tri_seq ?_
  refine tri_region ?_
  refine tri_v (opv_assign rfl) rfl ?_
  refine tri_nil ?_
  refine tri_then ?_
  refine tri_seq ?_
  refine tri_region ?_
  refine tri_g (opg_call (xs := []) rfl (law08_awake)) rfl ?_
  rintro _ _ I0 ⟨rfl, rfl, hI0⟩
  refine tri_v (opv_assign rfl) rfl ?_
  refine tri_nil ?_
  refine tri_then ?_
  refine tri_seq ?_
  refine tri_region ?_
  refine tri_v (opv_assign rfl) rfl ?_
  refine tri_nil ?_
  refine tri_then ?_
  refine tri_seq ?_
  refine tri_seq ?_
  refine tri_region ?_
  refine tri_v (opv_assign rfl) rfl ?_
  refine tri_nil ?_
  refine tri_then ?_
  refine tri_cut (fun F' A' J => ∃ a5 cap5, F' = [(0, .int .i64 c), (1, .slice a nodes.length cap), (3, .slice a3 others.length cap3), (9, .bool true), (10, .slice a5 (RL.small raw).length cap5)] ∧ A = A' ∧ SlAt J a5 (RL.small raw) ∧ I0 ⊆ J) ?_ ?_
  · have hsm1 : SlAt I0 a2 raw := hs2.mono hI0
    refine tri_block ?_
    refine tri_sub (F' := [(0, .int .i64 c), (1, .slice a nodes.length cap), (2, .slice a2 raw.length cap2), (3, .slice a3 others.length cap3), (9, .bool true), (10, .slice none 0 0), (11, .int .i64 (0 : Nat))]) ⟨rfl, rfl, rfl, rfl, rfl, rfl, rfl, trivial⟩ ?_
    refine loop_ind (G := Nat × Option Addr × Nat × List Chunk) (fun g => 16 - g.1) (fun g => g.1 ≤ raw.length ∧ g.1 ≤ 16 ∧ SlAt g.2.2.2 g.2.1 (R1.puts ((raw.take g.1).map RL.cell4)) ∧ I0 ⊆ g.2.2.2) (fun g => [(0, .int .i64 c), (1, .slice a nodes.length cap), (2, .slice a2 raw.length cap2), (3, .slice a3 others.length cap3), (9, .bool true), (10, .slice g.2.1 (R1.puts ((raw.take g.1).map RL.cell4)).length g.2.2.1), (11, .int .i64 (g.1 : Nat))]) (fun _ => A) (fun g => g.2.2.2) ?_ (0, none, 0, I0) ⟨by omega, by omega, SlAt.nil, fun _ h => h⟩
    rintro ⟨i, a5, cap5, J⟩ ⟨hi, hi6, hs5, hJ⟩ K hK
    simp only at hi hi6 hs5 hJ hK ⊢
    have hsr : SlAt J a2 raw := hsm1.mono hJ
    have fin1 : i = raw.length ∨ i = 16 → R1.puts ((raw.take i).map RL.cell4) = RL.small raw := by
      rintro (rfl | rfl)
      · unfold RL.small; rw [List.take_length, List.take_of_length_le (by omega)]
      · rfl
    have hln1 := R1.puts_len ((raw.take i).map RL.cell4)
    rw [List.length_map, List.length_take] at hln1
    skip
    refine tri_seq ?_
    refine tri_seq ?_
    refine tri_region ?_
    refine tri_v (opv_move rfl) rfl ?_
    refine tri_v (opv_move rfl) rfl ?_
    refine tri_v (opv_len rfl) rfl ?_
    refine tri_v (opv_lss rfl rfl) rfl ?_
    refine tri_v (opv_move rfl) rfl ?_
    refine tri_split rfl rfl (fun h => ?_) (fun h => ?_)
    · refine tri_guard_run rfl rfl rfl ?_
      refine tri_v (opv_move rfl) rfl ?_
      refine tri_guard_run rfl rfl rfl ?_
      refine tri_v (opv_lss rfl rfl) rfl ?_
      refine tri_v (opv_pick_t rfl rfl) rfl ?_
      refine tri_nil ?_
      refine tri_then ?_
      refine tri_cond_dec rfl (fun h2 => ?_) (fun h2 => ?_)
      · have hlt : i < raw.length := by omega
        have hci := hc i hlt
        have hcx := hci.1
        have hcy := hci.2
        have px := pk_bd (c := (raw.getD i default).x) (n := 4) (by omega)
        have py := pk_bd (c := (raw.getD i default).y) (n := 4) (by omega)
        refine tri_skip ?_
        refine tri_then ?_
        refine tri_seq ?_
        refine tri_block ?_
        refine tri_draw [0, 1, 2, 3, 4, 5, 8, 9, 10, 11, 12, 6, 7, 13, 14, 15, 16, 17] rfl [] rfl mixed ?_
        refine th_take rfl rfl (by kernel_rfl)  (opv_move rfl) ?_
        refine th_take rfl rfl (by kernel_rfl)  (opv_move rfl) ?_
        refine th_take rfl rfl (by kernel_rfl)  (opv_move rfl) ?_
        refine th_take rfl rfl (by kernel_rfl)  (opv_indexAddrSN rfl rfl (by omega) (by assumption) rfl) ?_
        refine th_take rfl rfl (by kernel_rfl)  (opv_indexAddrE rfl (by assumption) (by omega) rfl (by decide) (by decide)) ?_
        refine th_take rfl rfl (by kernel_rfl)  (opv_loadE1 rfl (by assumption) rfl (by omega) rfl rfl) ?_
        refine th_take rfl rfl (by kernel_rfl)  (opv_move rfl) ?_
        refine th_take rfl rfl (by kernel_rfl)  (opv_move rfl) ?_
        refine th_take rfl rfl (by kernel_rfl)  (opv_indexAddrSN rfl rfl (by omega) (by assumption) rfl) ?_
        refine th_take rfl rfl (by kernel_rfl)  (opv_indexAddrE rfl (by assumption) (by omega) rfl (by decide) (by decide)) ?_
        refine th_take rfl rfl (by kernel_rfl)  (opv_loadE1 rfl (by assumption) rfl (by omega) rfl rfl) ?_
        refine th_one (by kernel_rfl) (step_m rfl rfl (opg_call (xs := [_, _]) rfl (law08_pick (c := (raw.getD i default).x) hcx.1 hcx.2 (by decide))) ?_)
        rintro _ _ _ ⟨rfl, rfl, rfl⟩
        refine ⟨Suf.h, (fun _ h => h), ?_⟩
        refine th_take rfl rfl (by kernel_rfl)  (opv_sub rfl rfl (w64 (by omega) (by omega))) ?_
        refine th_one (by kernel_rfl) (step_m rfl rfl (opg_call (xs := [_, _]) rfl (law08_pick (c := (raw.getD i default).y) hcy.1 hcy.2 (by decide))) ?_)
        rintro _ _ _ ⟨rfl, rfl, rfl⟩
        refine ⟨Suf.h, (fun _ h => h), ?_⟩
        refine th_take rfl rfl (by kernel_rfl)  (opv_sub rfl rfl (w64 (by omega) (by omega))) ?_
        refine th_take rfl rfl (by kernel_rfl)  (opv_buildS rfl rfl) ?_
        refine th_one (by kernel_rfl) (step_m rfl rfl (opg_call (xs := [_, _]) rfl (ref01_put (c := RL.cell4 (raw.getD i default)) hs5 (by omega))) ?_)
        rintro _ _ J2 ⟨a6, cap6, rfl, hs6, rfl, hJ2⟩
        refine ⟨Suf.h, (by assumption), ?_⟩
        refine th_take rfl rfl (by kernel_rfl)  (opv_assign rfl) ?_
        refine th_done (by kernel_rfl) ?_
        refine tri_inBlock ?_
        refine tri_then ?_
        refine tri_region ?_
        refine tri_v (opv_move rfl) rfl ?_
        refine tri_v (opv_add rfl rfl (w64 (by omega) (by omega))) rfl ?_
        refine tri_v (opv_assign rfl) rfl ?_
        refine tri_nil ?_
        refine tri_then ?_
        have g1 : R1.puts ((raw.take (i + 1)).map RL.cell4) = R1.put (R1.puts ((raw.take i).map RL.cell4)) (RL.cell4 (raw.getD i default)) := by
          rw [← R1.puts_snoc, List.take_succ_eq_append_getElem hlt, List.map_append, show raw.getD i default = raw[i] by simp [hlt]]; rfl
        have hk := hK (i + 1, a6, cap6, J2) ⟨by simp only; omega, by simp only; omega, by simp only [g1]; exact hs6, fun _ h => hJ2 (hJ h)⟩ (by simp only; omega)
        simp only [g1] at hk
        refine tri_sub ?_ hk
        exact ⟨rfl, rfl, rfl, rfl, rfl, rfl, rfl, trivial⟩
      · rw [fin1 (by omega)] at hs5 ⊢
        refine tri_exit ?_
        refine tri_then_exit ?_
        refine tri_then_exit ?_
        refine tri_inBlock_hit rfl ?_
        refine tri_cutEnd _ ⟨a5, cap5, rfl, rfl, hs5, hJ⟩ ⟨rfl, rfl, rfl, rfl, rfl, trivial⟩
    · rw [fin1 (by omega)] at hs5 ⊢
      refine tri_guard_skip rfl rfl rfl rfl ?_
      refine tri_guard_skip rfl rfl rfl rfl ?_
      refine tri_v (opv_pick_f rfl rfl) rfl ?_
      refine tri_nil ?_
      refine tri_then ?_
      refine tri_cond_false rfl ?_
      refine tri_exit ?_
      refine tri_then_exit ?_
      refine tri_then_exit ?_
      refine tri_inBlock_hit rfl ?_
      refine tri_cutEnd _ ⟨a5, cap5, rfl, rfl, hs5, hJ⟩ ⟨rfl, rfl, rfl, rfl, rfl, trivial⟩
  rintro _ _ J ⟨a5, cap5, rfl, rfl, hs5, hJ⟩
  skip
  refine tri_then ?_
  refine tri_seq ?_
  refine tri_region ?_
  refine tri_v (opv_move rfl) rfl ?_
  refine tri_v (opv_move rfl) rfl ?_
  refine tri_g (opg_call (xs := [_, _]) rfl (law06_store h0 ((hs.mono hI0).mono hJ) hf)) rfl ?_
  rintro _ _ J1 ⟨a6, cap6, rfl, hs6, rfl, hJ1⟩
  refine tri_g opg_alloc rfl ?_
  rintro _ _ _ ⟨b12, rfl, rfl, rfl⟩
  refine tri_g (opg_store rfl rfl rfl rfl rfl rfl) rfl ?_
  rintro _ _ _ ⟨rfl, rfl⟩
  refine tri_nil ?_
  refine tri_then ?_
  refine tri_seq ?_
  refine tri_region ?_
  refine tri_v (opv_fieldAddr rfl rfl) rfl ?_
  refine tri_v (opv_load1 rfl rfl rfl) rfl ?_
  refine tri_v (opv_add rfl rfl (w64 (by omega) (by omega))) rfl ?_
  refine tri_v (opv_fieldAddr rfl rfl) rfl ?_
  refine tri_g (opg_store rfl rfl rfl rfl rfl rfl) rfl ?_
  rintro _ _ _ ⟨rfl, rfl⟩
  refine tri_nil ?_
  refine tri_then ?_
  refine tri_seq ?_
  refine tri_region ?_
  refine tri_v (opv_loadA rfl rfl rfl) rfl ?_
  refine tri_v (opv_move rfl) rfl ?_
  refine tri_g (opg_call (xs := [_, _, _]) rfl (ref07_make (room := RL.room c + 100) (lv := 2) hs6 hg0.len hg0.mod.rng (hs5.mono hJ1) (by omega))) rfl ?_
  rintro _ _ J2 ⟨a7, cap7, rfl, hs7, rfl, hJ2⟩
  rw [show (R7.make (RL.store (RL.room c) nodes) (RL.room c + 100) (RL.small raw) 2).1 = s1 by rw [e1]] at hs7 ⊢
  rw [show (R7.make (RL.store (RL.room c) nodes) (RL.room c + 100) (RL.small raw) 2).2.1 = n by rw [e1]]
  refine tri_v (opv_move rfl) rfl ?_
  refine tri_v (opv_extract rfl rfl) rfl ?_
  refine tri_v (opv_extract rfl rfl) rfl ?_
  refine tri_v (opv_extract rfl rfl) rfl ?_
  refine tri_g opg_alloc rfl ?_
  rintro _ _ _ ⟨b13, rfl, rfl, rfl⟩
  refine tri_g (opg_store rfl rfl rfl rfl rfl rfl) rfl ?_
  rintro _ _ _ ⟨rfl, rfl⟩
  refine tri_v (opv_assign rfl) rfl ?_
  refine tri_v (opv_assign rfl) rfl ?_
  refine tri_nil ?_
  refine tri_then ?_
  refine tri_seq ?_
  refine tri_region ?_
  refine tri_v (opv_loadA rfl rfl rfl) rfl ?_
  refine tri_v (opv_move rfl) rfl ?_
  refine tri_g (opg_call (xs := [_, _]) rfl (base_step (room := RL.room c + 100) (n := n) hs7 (by omega))) rfl ?_
  rintro _ _ J3 ⟨a8, cap8, rfl, hs8, rfl, hJ3⟩
  rw [show (R8.step s1 (RL.room c + 100) n).1 = s2 by rw [e2]] at hs8 ⊢
  rw [show (R8.step s1 (RL.room c + 100) n).2.1 = m by rw [e2], show (R8.step s1 (RL.room c + 100) n).2.2 = 0 by rw [e2]]
  have hsl8 := hs8.sl
  refine tri_v (opv_move rfl) rfl ?_
  refine tri_v (opv_extract rfl rfl) rfl ?_
  refine tri_v (opv_extract rfl rfl) rfl ?_
  refine tri_v (opv_extract rfl rfl) rfl ?_
  refine tri_g opg_alloc rfl ?_
  rintro _ _ _ ⟨b16, rfl, rfl, rfl⟩
  refine tri_g (opg_store rfl rfl rfl rfl rfl rfl) rfl ?_
  rintro _ _ _ ⟨rfl, rfl⟩
  refine tri_v (opv_assign rfl) rfl ?_
  refine tri_v (opv_assign rfl) rfl ?_
  refine tri_nil ?_
  refine tri_then ?_
  refine tri_seq ?_
  refine tri_seq ?_
  refine tri_region ?_
  refine tri_v (opv_move rfl) rfl ?_
  refine tri_v (opv_neq rfl rfl) rfl ?_
  refine tri_v (opv_move rfl) rfl ?_
  refine tri_false rfl rfl (fun h => h rfl) ?_
  refine tri_guard_run rfl rfl rfl ?_
  refine tri_v (opv_move rfl) rfl ?_
  refine tri_guard_run rfl rfl rfl ?_
  refine tri_v (opv_fieldAddr rfl rfl) rfl ?_
  refine tri_guard_run rfl rfl rfl ?_
  refine tri_v (opv_load1 rfl rfl rfl) rfl ?_
  refine tri_guard_run rfl rfl rfl ?_
  refine tri_v (opv_len rfl) rfl ?_
  refine tri_guard_run rfl rfl rfl ?_
  refine tri_v (opv_geq rfl rfl) rfl ?_
  refine tri_v (opv_pick_f rfl rfl) rfl ?_
  refine tri_v (opv_move rfl) rfl ?_
  refine tri_false rfl rfl (by omega) ?_
  refine tri_guard_run rfl rfl rfl ?_
  refine tri_v (opv_fieldAddr rfl rfl) rfl ?_
  refine tri_guard_run rfl rfl rfl ?_
  refine tri_v (opv_load1 rfl rfl rfl) rfl ?_
  refine tri_guard_run rfl rfl rfl ?_
  refine tri_v (opv_move rfl) rfl ?_
  refine tri_guard_run rfl rfl rfl ?_
  refine tri_v (opv_indexAddrS rfl rfl (by omega) (by omega) (by assumption) rfl) rfl ?_
  refine tri_guard_run rfl rfl rfl ?_
  refine tri_v (opv_fieldAddrE rfl (by assumption) (by omega) rfl) rfl ?_
  refine tri_guard_run rfl rfl rfl ?_
  refine tri_v (opv_loadE1 rfl (by assumption) rfl (by omega) rfl rfl) rfl ?_
  refine tri_guard_run rfl rfl rfl ?_
  refine tri_v (opv_neq rfl rfl) rfl ?_
  refine tri_v (opv_pick_f rfl rfl) rfl ?_
  refine tri_nil ?_
  refine tri_then ?_
  refine tri_cond_not rfl (by omega) ?_
  refine tri_skip ?_
  refine tri_then ?_
  refine tri_seq ?_
  refine tri_region ?_
  refine tri_v (opv_move rfl) rfl ?_
  refine tri_v (opv_assign rfl) rfl ?_
  refine tri_nil ?_
  refine tri_then ?_
  refine tri_seq ?_
  refine tri_region ?_
  refine tri_v (opv_move rfl) rfl ?_
  refine tri_g (opg_call (xs := [_]) rfl (law01_set (((((hs3.mono hI0).mono hJ).mono hJ1).mono hJ2).mono hJ3) hc3)) rfl ?_
  rintro _ _ J4 ⟨a9, cap9, rfl, hs9, rfl, hJ4⟩
  refine tri_v (opv_assign rfl) rfl ?_
  refine tri_nil ?_
  refine tri_then ?_
  refine tri_seq ?_
  refine tri_seq ?_
  refine tri_region ?_
  refine tri_v (opv_assign rfl) rfl ?_
  refine tri_nil ?_
  refine tri_then ?_
  refine tri_cut (fun F' A' J => ∃ a10 cap10, F' = [(9, .bool true), (16, pt b16 0), (17, .int .i64 m), (19, .slice a10 (RL.withOthers (RL.small raw) (RL.set others)).length cap10)] ∧ A' = Box b16 [.slice a8 s2.length cap8, .int .i64 (RL.room c + 100)] 26 :: Box b13 [.slice a7 s1.length cap7, .int .i64 (RL.room c + 100)] 26 :: Box b12 [.slice a6 (RL.store (RL.room c) nodes).length cap6, .int .i64 (RL.room c + 100)] 26 :: A ∧ SlAt J a10 (RL.withOthers (RL.small raw) (RL.set others)) ∧ J4 ⊆ J) ?_ ?_
  · have hs55 : SlAt J4 a5 (RL.small raw) := (((hs5.mono hJ1).mono hJ2).mono hJ3).mono hJ4
    refine tri_block ?_
    refine tri_sub (F' := [(9, .bool true), (16, pt b16 0), (17, .int .i64 m), (19, .slice a5 (RL.withOthers (RL.small raw) ((RL.set others).take 0)).length cap5), (20, .slice a9 (RL.set others).length cap9), (21, .int .i64 (0 : Nat))]) ⟨rfl, rfl, rfl, rfl, rfl, rfl, trivial⟩ ?_
    refine loop_ind (G := Nat × Option Addr × Nat × List Chunk) (fun g => (RL.set others).length - g.1) (fun g => g.1 ≤ (RL.set others).length ∧ SlAt g.2.2.2 g.2.1 (RL.withOthers (RL.small raw) ((RL.set others).take g.1)) ∧ J4 ⊆ g.2.2.2) (fun g => [(9, .bool true), (16, pt b16 0), (17, .int .i64 m), (19, .slice g.2.1 (RL.withOthers (RL.small raw) ((RL.set others).take g.1)).length g.2.2.1), (20, .slice a9 (RL.set others).length cap9), (21, .int .i64 (g.1 : Nat))]) (fun _ => Box b16 [.slice a8 s2.length cap8, .int .i64 (RL.room c + 100)] 26 :: Box b13 [.slice a7 s1.length cap7, .int .i64 (RL.room c + 100)] 26 :: Box b12 [.slice a6 (RL.store (RL.room c) nodes).length cap6, .int .i64 (RL.room c + 100)] 26 :: A) (fun g => g.2.2.2) ?_ (0, a5, cap5, J4) ⟨by omega, hs55, fun _ h => h⟩
    rintro ⟨i, a10, cap10, J5⟩ ⟨hi, hs10, hJ5⟩ K hK
    simp only at hi hs10 hJ5 hK ⊢
    have hs9' := hs9.mono hJ5
    have hle := RL.with_le (RL.small raw) ((RL.set others).take i)
    rw [List.length_take] at hle
    skip
    refine tri_seq ?_
    refine tri_seq ?_
    refine tri_region ?_
    refine tri_v (opv_move rfl) rfl ?_
    refine tri_v (opv_move rfl) rfl ?_
    refine tri_v (opv_len rfl) rfl ?_
    refine tri_v (opv_lss rfl rfl) rfl ?_
    refine tri_nil ?_
    refine tri_then ?_
    refine tri_cond_dec rfl (fun h => ?_) (fun h => ?_)
    · have hlt : i < (RL.set others).length := by omega
      have etk : (RL.set others).take (i + 1) = (RL.set others).take i ++ [(RL.set others).getD i default] := by
        rw [List.take_succ_eq_append_getElem hlt, show (RL.set others).getD i default = (RL.set others)[i] by simp [hlt]]
      refine tri_skip ?_
      refine tri_then ?_
      refine tri_seq ?_
      refine tri_block ?_
      refine tri_seq ?_
      refine tri_region ?_
      refine tri_v (opv_move rfl) rfl ?_
      refine tri_v (opv_move rfl) rfl ?_
      refine tri_v (opv_indexAddrSN rfl rfl (by omega) (by assumption) rfl) rfl ?_
      refine tri_v (opv_fieldAddrE rfl (by assumption) (by omega) rfl) rfl ?_
      refine tri_v (opv_loadE1 rfl (by assumption) rfl (by omega) rfl rfl) rfl ?_
      refine tri_v (opv_lss rfl rfl) rfl ?_
      refine tri_v (opv_move rfl) rfl ?_
      refine tri_split rfl rfl (fun h1 => ?_) (fun h1 => ?_)
      · refine tri_guard_skip rfl rfl rfl rfl ?_
        refine tri_guard_skip rfl rfl rfl rfl ?_
        refine tri_guard_skip rfl rfl rfl rfl ?_
        refine tri_guard_skip rfl rfl rfl rfl ?_
        refine tri_guard_skip rfl rfl rfl rfl ?_
        refine tri_guard_skip rfl rfl rfl rfl ?_
        refine tri_v (opv_pick_t rfl rfl) rfl ?_
        refine tri_v (opv_move rfl) rfl ?_
        refine tri_guard_skip rfl rfl rfl rfl ?_
        refine tri_guard_skip rfl rfl rfl rfl ?_
        refine tri_guard_skip rfl rfl rfl rfl ?_
        refine tri_guard_skip rfl rfl rfl rfl ?_
        refine tri_guard_skip rfl rfl rfl rfl ?_
        refine tri_guard_skip rfl rfl rfl rfl ?_
        refine tri_v (opv_pick_t rfl rfl) rfl ?_
        refine tri_v (opv_move rfl) rfl ?_
        refine tri_guard_skip rfl rfl rfl rfl ?_
        refine tri_guard_skip rfl rfl rfl rfl ?_
        refine tri_guard_skip rfl rfl rfl rfl ?_
        refine tri_guard_skip rfl rfl rfl rfl ?_
        refine tri_guard_skip rfl rfl rfl rfl ?_
        refine tri_guard_skip rfl rfl rfl rfl ?_
        refine tri_v (opv_pick_t rfl rfl) rfl ?_
        refine tri_nil ?_
        refine tri_then ?_
        refine tri_cond_true rfl ?_
        refine tri_region ?_
        refine tri_v (opv_move rfl) rfl ?_
        refine tri_v (opv_move rfl) rfl ?_
        refine tri_v (opv_move rfl) rfl ?_
        refine tri_v (opv_indexAddrSN rfl rfl (by omega) (by assumption) rfl) rfl ?_
        refine tri_v (opv_loadEA rfl (by assumption) rfl (by omega) rfl rfl) rfl ?_
        have hout : RL.outside ((RL.set others).getD i default) := .inl (.inl (.inl h1))
        have g1 : RL.withOthers (RL.small raw) ((RL.set others).take (i + 1)) = R1.put (RL.withOthers (RL.small raw) ((RL.set others).take i)) ((RL.set others).getD i default) := by rw [etk, RL.with_snoc, if_pos hout]
        refine tri_g (opg_call (xs := [_, _]) rfl (ref01_put (c := (RL.set others).getD i default) hs10 (by omega))) rfl ?_
        rintro _ _ J6 ⟨a11, cap11, rfl, hs11, rfl, hJ6⟩
        refine tri_v (opv_assign rfl) rfl ?_
        refine tri_nil ?_
        refine tri_inBlock ?_
        refine tri_then ?_
        refine tri_region ?_
        refine tri_v (opv_move rfl) rfl ?_
        refine tri_v (opv_add rfl rfl (w64 (by omega) (by omega))) rfl ?_
        refine tri_v (opv_assign rfl) rfl ?_
        refine tri_nil ?_
        refine tri_then ?_
        have hk := hK (i + 1, a11, cap11, J6) ⟨by simp only; omega, by simp only [g1]; exact hs11, fun _ h => hJ6 (hJ5 h)⟩ (by simp only; omega)
        simp only [g1] at hk
        refine tri_sub ?_ hk
        exact ⟨rfl, rfl, rfl, rfl, rfl, rfl, trivial⟩
      · refine tri_guard_run rfl rfl rfl ?_
        refine tri_v (opv_move rfl) rfl ?_
        refine tri_guard_run rfl rfl rfl ?_
        refine tri_v (opv_move rfl) rfl ?_
        refine tri_guard_run rfl rfl rfl ?_
        refine tri_v (opv_indexAddrSN rfl rfl (by omega) (by assumption) rfl) rfl ?_
        refine tri_guard_run rfl rfl rfl ?_
        refine tri_v (opv_fieldAddrE rfl (by assumption) (by omega) rfl) rfl ?_
        refine tri_guard_run rfl rfl rfl ?_
        refine tri_v (opv_loadE1 rfl (by assumption) rfl (by omega) rfl rfl) rfl ?_
        refine tri_guard_run rfl rfl rfl ?_
        refine tri_v (opv_gtr rfl rfl) rfl ?_
        refine tri_v (opv_pick_f rfl rfl) rfl ?_
        refine tri_v (opv_move rfl) rfl ?_
        refine tri_split rfl rfl (fun h2 => ?_) (fun h2 => ?_)
        · refine tri_guard_skip rfl rfl rfl rfl ?_
          refine tri_guard_skip rfl rfl rfl rfl ?_
          refine tri_guard_skip rfl rfl rfl rfl ?_
          refine tri_guard_skip rfl rfl rfl rfl ?_
          refine tri_guard_skip rfl rfl rfl rfl ?_
          refine tri_guard_skip rfl rfl rfl rfl ?_
          refine tri_v (opv_pick_t rfl rfl) rfl ?_
          refine tri_v (opv_move rfl) rfl ?_
          refine tri_guard_skip rfl rfl rfl rfl ?_
          refine tri_guard_skip rfl rfl rfl rfl ?_
          refine tri_guard_skip rfl rfl rfl rfl ?_
          refine tri_guard_skip rfl rfl rfl rfl ?_
          refine tri_guard_skip rfl rfl rfl rfl ?_
          refine tri_guard_skip rfl rfl rfl rfl ?_
          refine tri_v (opv_pick_t rfl rfl) rfl ?_
          refine tri_nil ?_
          refine tri_then ?_
          refine tri_cond_true rfl ?_
          refine tri_region ?_
          refine tri_v (opv_move rfl) rfl ?_
          refine tri_v (opv_move rfl) rfl ?_
          refine tri_v (opv_move rfl) rfl ?_
          refine tri_v (opv_indexAddrSN rfl rfl (by omega) (by assumption) rfl) rfl ?_
          refine tri_v (opv_loadEA rfl (by assumption) rfl (by omega) rfl rfl) rfl ?_
          have hout : RL.outside ((RL.set others).getD i default) := .inl (.inl (.inr h2))
          have g1 : RL.withOthers (RL.small raw) ((RL.set others).take (i + 1)) = R1.put (RL.withOthers (RL.small raw) ((RL.set others).take i)) ((RL.set others).getD i default) := by rw [etk, RL.with_snoc, if_pos hout]
          refine tri_g (opg_call (xs := [_, _]) rfl (ref01_put (c := (RL.set others).getD i default) hs10 (by omega))) rfl ?_
          rintro _ _ J6 ⟨a11, cap11, rfl, hs11, rfl, hJ6⟩
          refine tri_v (opv_assign rfl) rfl ?_
          refine tri_nil ?_
          refine tri_inBlock ?_
          refine tri_then ?_
          refine tri_region ?_
          refine tri_v (opv_move rfl) rfl ?_
          refine tri_v (opv_add rfl rfl (w64 (by omega) (by omega))) rfl ?_
          refine tri_v (opv_assign rfl) rfl ?_
          refine tri_nil ?_
          refine tri_then ?_
          have hk := hK (i + 1, a11, cap11, J6) ⟨by simp only; omega, by simp only [g1]; exact hs11, fun _ h => hJ6 (hJ5 h)⟩ (by simp only; omega)
          simp only [g1] at hk
          refine tri_sub ?_ hk
          exact ⟨rfl, rfl, rfl, rfl, rfl, rfl, trivial⟩
        · refine tri_guard_run rfl rfl rfl ?_
          refine tri_v (opv_move rfl) rfl ?_
          refine tri_guard_run rfl rfl rfl ?_
          refine tri_v (opv_move rfl) rfl ?_
          refine tri_guard_run rfl rfl rfl ?_
          refine tri_v (opv_indexAddrSN rfl rfl (by omega) (by assumption) rfl) rfl ?_
          refine tri_guard_run rfl rfl rfl ?_
          refine tri_v (opv_fieldAddrE rfl (by assumption) (by omega) rfl) rfl ?_
          refine tri_guard_run rfl rfl rfl ?_
          refine tri_v (opv_loadE1 rfl (by assumption) rfl (by omega) rfl rfl) rfl ?_
          refine tri_guard_run rfl rfl rfl ?_
          refine tri_v (opv_lss rfl rfl) rfl ?_
          refine tri_v (opv_pick_f rfl rfl) rfl ?_
          refine tri_v (opv_move rfl) rfl ?_
          refine tri_split rfl rfl (fun h3 => ?_) (fun h3 => ?_)
          · refine tri_guard_skip rfl rfl rfl rfl ?_
            refine tri_guard_skip rfl rfl rfl rfl ?_
            refine tri_guard_skip rfl rfl rfl rfl ?_
            refine tri_guard_skip rfl rfl rfl rfl ?_
            refine tri_guard_skip rfl rfl rfl rfl ?_
            refine tri_guard_skip rfl rfl rfl rfl ?_
            refine tri_v (opv_pick_t rfl rfl) rfl ?_
            refine tri_nil ?_
            refine tri_then ?_
            refine tri_cond_true rfl ?_
            refine tri_region ?_
            refine tri_v (opv_move rfl) rfl ?_
            refine tri_v (opv_move rfl) rfl ?_
            refine tri_v (opv_move rfl) rfl ?_
            refine tri_v (opv_indexAddrSN rfl rfl (by omega) (by assumption) rfl) rfl ?_
            refine tri_v (opv_loadEA rfl (by assumption) rfl (by omega) rfl rfl) rfl ?_
            have hout : RL.outside ((RL.set others).getD i default) := .inl (.inr h3)
            have g1 : RL.withOthers (RL.small raw) ((RL.set others).take (i + 1)) = R1.put (RL.withOthers (RL.small raw) ((RL.set others).take i)) ((RL.set others).getD i default) := by rw [etk, RL.with_snoc, if_pos hout]
            refine tri_g (opg_call (xs := [_, _]) rfl (ref01_put (c := (RL.set others).getD i default) hs10 (by omega))) rfl ?_
            rintro _ _ J6 ⟨a11, cap11, rfl, hs11, rfl, hJ6⟩
            refine tri_v (opv_assign rfl) rfl ?_
            refine tri_nil ?_
            refine tri_inBlock ?_
            refine tri_then ?_
            refine tri_region ?_
            refine tri_v (opv_move rfl) rfl ?_
            refine tri_v (opv_add rfl rfl (w64 (by omega) (by omega))) rfl ?_
            refine tri_v (opv_assign rfl) rfl ?_
            refine tri_nil ?_
            refine tri_then ?_
            have hk := hK (i + 1, a11, cap11, J6) ⟨by simp only; omega, by simp only [g1]; exact hs11, fun _ h => hJ6 (hJ5 h)⟩ (by simp only; omega)
            simp only [g1] at hk
            refine tri_sub ?_ hk
            exact ⟨rfl, rfl, rfl, rfl, rfl, rfl, trivial⟩
          · refine tri_guard_run rfl rfl rfl ?_
            refine tri_v (opv_move rfl) rfl ?_
            refine tri_guard_run rfl rfl rfl ?_
            refine tri_v (opv_move rfl) rfl ?_
            refine tri_guard_run rfl rfl rfl ?_
            refine tri_v (opv_indexAddrSN rfl rfl (by omega) (by assumption) rfl) rfl ?_
            refine tri_guard_run rfl rfl rfl ?_
            refine tri_v (opv_fieldAddrE rfl (by assumption) (by omega) rfl) rfl ?_
            refine tri_guard_run rfl rfl rfl ?_
            refine tri_v (opv_loadE1 rfl (by assumption) rfl (by omega) rfl rfl) rfl ?_
            refine tri_guard_run rfl rfl rfl ?_
            refine tri_v (opv_gtr rfl rfl) rfl ?_
            refine tri_v (opv_pick_f rfl rfl) rfl ?_
            refine tri_nil ?_
            refine tri_then ?_
            refine tri_cond_dec rfl (fun h4 => ?_) (fun h4 => ?_)
            · refine tri_region ?_
              refine tri_v (opv_move rfl) rfl ?_
              refine tri_v (opv_move rfl) rfl ?_
              refine tri_v (opv_move rfl) rfl ?_
              refine tri_v (opv_indexAddrSN rfl rfl (by omega) (by assumption) rfl) rfl ?_
              refine tri_v (opv_loadEA rfl (by assumption) rfl (by omega) rfl rfl) rfl ?_
              have hout : RL.outside ((RL.set others).getD i default) := .inr h4
              have g1 : RL.withOthers (RL.small raw) ((RL.set others).take (i + 1)) = R1.put (RL.withOthers (RL.small raw) ((RL.set others).take i)) ((RL.set others).getD i default) := by rw [etk, RL.with_snoc, if_pos hout]
              refine tri_g (opg_call (xs := [_, _]) rfl (ref01_put (c := (RL.set others).getD i default) hs10 (by omega))) rfl ?_
              rintro _ _ J6 ⟨a11, cap11, rfl, hs11, rfl, hJ6⟩
              refine tri_v (opv_assign rfl) rfl ?_
              refine tri_nil ?_
              refine tri_inBlock ?_
              refine tri_then ?_
              refine tri_region ?_
              refine tri_v (opv_move rfl) rfl ?_
              refine tri_v (opv_add rfl rfl (w64 (by omega) (by omega))) rfl ?_
              refine tri_v (opv_assign rfl) rfl ?_
              refine tri_nil ?_
              refine tri_then ?_
              have hk := hK (i + 1, a11, cap11, J6) ⟨by simp only; omega, by simp only [g1]; exact hs11, fun _ h => hJ6 (hJ5 h)⟩ (by simp only; omega)
              simp only [g1] at hk
              refine tri_sub ?_ hk
              exact ⟨rfl, rfl, rfl, rfl, rfl, rfl, trivial⟩
            · refine tri_skip ?_
              refine tri_inBlock ?_
              refine tri_then ?_
              refine tri_region ?_
              refine tri_v (opv_move rfl) rfl ?_
              refine tri_v (opv_add rfl rfl (w64 (by omega) (by omega))) rfl ?_
              refine tri_v (opv_assign rfl) rfl ?_
              refine tri_nil ?_
              refine tri_then ?_
              have hout : ¬ RL.outside ((RL.set others).getD i default) := fun hf => by
                rcases hf with ((hf | hf) | hf) | hf
                · exact h1 hf
                · exact h2 hf
                · exact h3 hf
                · exact h4 hf
              have g1 : RL.withOthers (RL.small raw) ((RL.set others).take (i + 1)) = RL.withOthers (RL.small raw) ((RL.set others).take i) := by rw [etk, RL.with_snoc, if_neg hout]
              have hk := hK (i + 1, a10, cap10, J5) ⟨by simp only; omega, by simp only [g1]; exact hs10, hJ5⟩ (by simp only; omega)
              simp only [g1] at hk
              refine tri_sub ?_ hk
              exact ⟨rfl, rfl, rfl, rfl, rfl, rfl, trivial⟩
    · have e : (RL.set others).take i = RL.set others := List.take_of_length_le (by omega)
      rw [e] at hs10 ⊢
      refine tri_exit ?_
      refine tri_then_exit ?_
      refine tri_then_exit ?_
      refine tri_inBlock_hit rfl ?_
      refine tri_cutEnd _ ⟨a10, cap10, rfl, rfl, hs10, hJ5⟩ ⟨rfl, rfl, rfl, rfl, trivial⟩
  rintro _ _ J5 ⟨a10, cap10, rfl, rfl, hs10, hJ5⟩
  skip
  refine tri_then ?_
  refine tri_seq ?_
  refine tri_region ?_
  refine tri_v (opv_move rfl) rfl ?_
  have k8 : SlAt J5 a8 s2 := (hsl8.mono hJ4).mono hJ5
  refine tri_g (opg_call (xs := [_]) rfl (ref02_next hs10 (by omega))) rfl ?_
  rintro _ _ J6 ⟨a11, cap11, rfl, hs11, rfl, hJ6⟩
  refine tri_v (opv_move rfl) rfl ?_
  refine tri_v (opv_extract rfl rfl) rfl ?_
  refine tri_v (opv_extract rfl rfl) rfl ?_
  refine tri_v (opv_assign rfl) rfl ?_
  refine tri_v (opv_assign rfl) rfl ?_
  refine tri_nil ?_
  refine tri_then ?_
  refine tri_seq ?_
  refine tri_region ?_
  refine tri_v (opv_loadA rfl rfl rfl) rfl ?_
  refine tri_v (opv_move rfl) rfl ?_
  refine tri_g (opg_call (xs := [_, _]) rfl (ref07_of (room := RL.room c + 100) (n := m) hr2 (k8.mono hJ6) him (by unfold R6.nd; omega) (by omega))) rfl ?_
  rintro _ _ J7 ⟨a12, cap12, rfl, hs12, rfl, hJ7⟩
  skip
  refine tri_g (opg_call (xs := [_]) rfl (ref01_of hs12 (by omega))) rfl ?_
  rintro _ _ J8 ⟨a13, cap13, rfl, hs13, rfl, hJ8⟩
  rw [hoo] at hs13 ⊢
  refine tri_v (opv_move rfl) rfl ?_
  refine tri_v (opv_extract rfl rfl) rfl ?_
  refine tri_v (opv_extract rfl rfl) rfl ?_
  refine tri_v (opv_assign rfl) rfl ?_
  refine tri_v (opv_assign rfl) rfl ?_
  refine tri_nil ?_
  refine tri_then ?_
  refine tri_seq ?_
  refine tri_region ?_
  refine tri_v (opv_move rfl) rfl ?_
  refine tri_v (opv_move rfl) rfl ?_
  skip
  refine tri_guard_run rfl rfl rfl ?_
  refine tri_v (opv_move rfl) rfl ?_
  refine tri_guard_run rfl rfl rfl ?_
  refine tri_v (opv_move rfl) rfl ?_
  refine tri_guard_run rfl rfl rfl ?_
  refine tri_g (opg_call (xs := [_, _, _, _]) rfl (law08_crop (x := 0) (y := 0) (half := 1) ((hs11.mono hJ7).mono hJ8) (by omega) hnb (by omega) (by omega) (by omega))) rfl ?_
  rintro _ _ J9 ⟨a14, cap14, rfl, hs14, rfl, hJ9⟩
  rw [hcrop] at hs14 ⊢
  skip
  refine tri_guard_run rfl rfl rfl ?_
  refine tri_g (opg_call (xs := [_, _]) rfl (ref01_same (hs13.mono hJ9) hs14 (by have := RL.puts_le (R7.of s2 m); simp only; omega))) rfl ?_
  rintro _ _ _ ⟨rfl, rfl, rfl⟩
  refine tri_v (opv_pick_t rfl rfl) rfl ?_
  refine tri_v (opv_assign rfl) rfl ?_
  refine tri_nil ?_
  refine tri_then ?_
  refine tri_ret ?_
  refine tri_end A Suf.h rfl (.cons (rv_tmp rfl) .nil) ⟨congrArg Value.bool (decide_eq_true rfl), rfl, fun _ h => hJ9 (hJ8 (hJ7 (hJ6 (hJ5 (hJ4 (hJ3 (hJ2 (hJ1 (hJ (hI0 h))))))))))⟩
end Go.GL
