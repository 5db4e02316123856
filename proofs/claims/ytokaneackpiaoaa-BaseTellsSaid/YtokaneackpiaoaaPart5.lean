/- Part 5 of the proof of BaseTells: contracts of the functions that the law reaches: each answers as its model does. No condition beyond those that each theorem states. -/
import Derived.Test.YtokaneackpiaoaaPart4
set_option linter.unusedVariables false
namespace Go.GL
open Go.Proofs
attribute [local irreducible] wpList Code.wp Exit.then Exit.inBlock Ends Tri TriH OpV OpG FnC epf wpAnyH
variable {A : List Asrt} {I : List Chunk}
set_option maxRecDepth 100000 in
theorem law01_set {l : List Cell} {a : Option Addr} {cap : Nat} (hs : SlAt I a l) (hc : RL.Cs l) :
    FnC Try.prog 27 [.slice a l.length cap].toArray A I (fun v A' I' => ∃ a' cap', v = .slice a' (RL.set l).length cap' ∧ SlAt I' a' (RL.set l) ∧ A = A' ∧ I ⊆ I') := by
  refine fn_enter1 Try.func27 rfl Try.ntmps27 rfl fun w0 => ?_
  refine tri_seq ?_
  refine tri_region ?_
  refine tri_v (opv_assign rfl) rfl ?_
  refine tri_nil ?_
  refine tri_then ?_
  refine tri_seq ?_
  refine tri_region ?_
  refine tri_v (opv_assign rfl) rfl ?_
  refine tri_nil ?_
  refine tri_then ?_
  refine tri_seq ?_
  refine tri_seq ?_
  refine tri_region ?_
  refine tri_v (opv_assign rfl) rfl ?_
  refine tri_nil ?_
  refine tri_then ?_
  refine tri_block ?_
  refine tri_sub (F' := [(0, .slice a l.length cap), (3, .slice none 0 0), (4, .int .i64 (0 : Nat))]) ⟨rfl, rfl, rfl, trivial⟩ ?_
  refine loop_ind (G := Nat × Option Addr × Nat × List Chunk) (fun g => 60 - g.1) (fun g => g.1 ≤ l.length ∧ g.1 ≤ 60 ∧ SlAt g.2.2.2 g.2.1 (R1.puts ((l.take g.1).map RL.cell16)) ∧ I ⊆ g.2.2.2) (fun g => [(0, .slice a l.length cap), (3, .slice g.2.1 (R1.puts ((l.take g.1).map RL.cell16)).length g.2.2.1), (4, .int .i64 (g.1 : Nat))]) (fun _ => A) (fun g => g.2.2.2) ?_ (0, none, 0, I) ⟨by omega, by omega, SlAt.nil, fun _ h => h⟩
  rintro ⟨i, a1, cap1, I1⟩ ⟨hi, hi6, hs1, hI1⟩ K hK
  simp only at hi hi6 hs1 hI1 hK ⊢
  have hsm : SlAt I1 a l := hs.mono hI1
  have fin : i = l.length ∨ i = 60 → RL.set l = R1.puts ((l.take i).map RL.cell16) := by
    rintro (rfl | rfl)
    · unfold RL.set
      rw [List.take_length, List.take_of_length_le (by omega)]
    · rfl
  skip
  refine tri_seq ?_
  refine tri_seq ?_
  refine tri_region ?_
  refine tri_v (opv_move rfl) rfl ?_
  refine tri_v (opv_move rfl) rfl ?_
  refine tri_v (opv_len rfl) rfl ?_
  refine tri_v (opv_lss rfl rfl) rfl ?_
  refine tri_v (opv_move rfl) rfl ?_
  refine tri_split rfl rfl (fun h => ?_) (fun h => ?_)
  · refine tri_guard_run rfl rfl rfl ?_
    refine tri_v (opv_move rfl) rfl ?_
    refine tri_guard_run rfl rfl rfl ?_
    refine tri_v (opv_lss rfl rfl) rfl ?_
    refine tri_v (opv_pick_t rfl rfl) rfl ?_
    refine tri_nil ?_
    refine tri_then ?_
    refine tri_cond_dec rfl (fun h2 => ?_) (fun h2 => ?_)
    · refine tri_skip ?_
      refine tri_then ?_
      refine tri_seq ?_
      refine tri_block ?_
      refine tri_draw [0, 1, 2, 3, 4, 5, 8, 9, 10, 11, 12, 6, 7, 13, 14, 15, 16, 17] rfl [] rfl mixed ?_
      refine th_take rfl rfl (by kernel_rfl)  (opv_move rfl) ?_
      refine th_take rfl rfl (by kernel_rfl)  (opv_move rfl) ?_
      refine th_take rfl rfl (by kernel_rfl)  (opv_move rfl) ?_
      refine th_take rfl rfl (by kernel_rfl)  (opv_indexAddrSN rfl rfl (by omega) (by assumption) rfl) ?_
      refine th_take rfl rfl (by kernel_rfl)  (opv_indexAddrE rfl (by assumption) (by omega) rfl (by decide) (by decide)) ?_
      refine th_take rfl rfl (by kernel_rfl)  (opv_loadE1 rfl (by assumption) rfl (by omega) rfl rfl) ?_
      refine th_take rfl rfl (by kernel_rfl)  (opv_move rfl) ?_
      refine th_take rfl rfl (by kernel_rfl)  (opv_move rfl) ?_
      refine th_take rfl rfl (by kernel_rfl)  (opv_indexAddrSN rfl rfl (by omega) (by assumption) rfl) ?_
      refine th_take rfl rfl (by kernel_rfl)  (opv_indexAddrE rfl (by assumption) (by omega) rfl (by decide) (by decide)) ?_
      refine th_take rfl rfl (by kernel_rfl)  (opv_loadE1 rfl (by assumption) rfl (by omega) rfl rfl) ?_
      have hlt : i < l.length := by omega
      have hci := hc i hlt
      have hcx := hci.1
      have hcy := hci.2
      have px := pk_bd (c := (l.getD i default).x) (n := 16) (by omega)
      have py := pk_bd (c := (l.getD i default).y) (n := 16) (by omega)
      have hl1 := R1.puts_len ((l.take i).map RL.cell16)
      rw [List.length_map, List.length_take] at hl1
      refine th_one (by kernel_rfl) (step_m rfl rfl (opg_call (xs := [_, _]) rfl (law01_pick (c := (l.getD i default).x) hcx.1 hcx.2 (by decide))) ?_)
      rintro _ _ _ ⟨rfl, rfl, rfl⟩
      refine ⟨Suf.h, (fun _ h => h), ?_⟩
      refine th_take rfl rfl (by kernel_rfl)  (opv_sub rfl rfl (w64 (by omega) (by omega))) ?_
      refine th_one (by kernel_rfl) (step_m rfl rfl (opg_call (xs := [_, _]) rfl (law01_pick (c := (l.getD i default).y) hcy.1 hcy.2 (by decide))) ?_)
      rintro _ _ _ ⟨rfl, rfl, rfl⟩
      refine ⟨Suf.h, (fun _ h => h), ?_⟩
      refine th_take rfl rfl (by kernel_rfl)  (opv_sub rfl rfl (w64 (by omega) (by omega))) ?_
      refine th_take rfl rfl (by kernel_rfl)  (opv_buildS rfl rfl) ?_
      refine th_one (by kernel_rfl) (step_m rfl rfl (opg_call (xs := [_, _]) rfl (ref01_put (c := RL.cell16 (l.getD i default)) hs1 (by omega))) ?_)
      rintro _ _ I2 ⟨a2, cap2, rfl, hs2, rfl, hI2⟩
      refine ⟨Suf.h, (by assumption), ?_⟩
      refine th_take rfl rfl (by kernel_rfl)  (opv_assign rfl) ?_
      refine th_done (by kernel_rfl) ?_
      refine tri_inBlock ?_
      refine tri_then ?_
      refine tri_region ?_
      refine tri_v (opv_move rfl) rfl ?_
      refine tri_v (opv_add rfl rfl (w64 (by omega) (by omega))) rfl ?_
      refine tri_v (opv_assign rfl) rfl ?_
      refine tri_nil ?_
      refine tri_then ?_
      have e : R1.puts ((l.take (i + 1)).map RL.cell16) = R1.put (R1.puts ((l.take i).map RL.cell16)) (RL.cell16 (l.getD i default)) := by
        rw [← R1.puts_snoc, List.take_succ_eq_append_getElem hlt, List.map_append, show l.getD i default = l[i] by simp [hlt]]; rfl
      refine tri_sub ?_ (hK (i + 1, a2, cap2, I2) ⟨by simp only; omega, by simp only; omega, by simp only [e]; exact hs2, fun _ h => hI2 (hI1 h)⟩ (by simp only; omega))
      simp only [e]
      exact ⟨rfl, rfl, rfl, trivial⟩
    · refine tri_exit ?_
      refine tri_then_exit ?_
      refine tri_then_exit ?_
      refine tri_inBlock_hit rfl ?_
      refine tri_then ?_
      refine tri_seq ?_
      refine tri_region ?_
      refine tri_v (opv_move rfl) rfl ?_
      refine tri_v (opv_assign rfl) rfl ?_
      refine tri_nil ?_
      refine tri_then ?_
      refine tri_ret ?_
      refine tri_end A Suf.h rfl (.cons (rv_tmp rfl) .nil) ⟨a1, cap1, ?_, ?_, rfl, hI1⟩
      · rw [fin (by omega)]; rfl
      · rw [fin (by omega)]; exact hs1
  · refine tri_guard_skip rfl rfl rfl rfl ?_
    refine tri_guard_skip rfl rfl rfl rfl ?_
    refine tri_v (opv_pick_f rfl rfl) rfl ?_
    refine tri_nil ?_
    refine tri_then ?_
    refine tri_cond_false rfl ?_
    refine tri_exit ?_
    refine tri_then_exit ?_
    refine tri_then_exit ?_
    refine tri_inBlock_hit rfl ?_
    refine tri_then ?_
    refine tri_seq ?_
    refine tri_region ?_
    refine tri_v (opv_move rfl) rfl ?_
    refine tri_v (opv_assign rfl) rfl ?_
    refine tri_nil ?_
    refine tri_then ?_
    refine tri_ret ?_
    refine tri_end A Suf.h rfl (.cons (rv_tmp rfl) .nil) ⟨a1, cap1, ?_, ?_, rfl, hI1⟩
    · rw [fin (by omega)]; rfl
    · rw [fin (by omega)]; exact hs1
set_option maxRecDepth 100000 in
theorem law06_kids {ns : List Node} {a : Option Addr} {cap : Nat} {room : Int} {r : Five} (hs : SlAt I a ns) (hn : ns.length ≤ 1000000000)
    (h0 : I64 r.r0) (h1 : I64 r.r1) (h2 : I64 r.r2) (h3 : I64 r.r3) (h4 : I64 r.r4) :
    FnC Try.prog 49 [storeV a ns.length cap room, int5V r].toArray A I (fun v A' I' => v = int4V (RL.kids ns r).1 (RL.kids ns r).2.1 (RL.kids ns r).2.2.1 (RL.kids ns r).2.2.2 ∧ A = A' ∧ I = I') := by
  skip
  refine fn_enter2 Try.func49 rfl Try.ntmps49 rfl fun w0 => ?_
  refine tri_seq ?_
  refine tri_region ?_
  refine tri_g (opg_box_agg rfl) rfl ?_
  rintro _ _ _ ⟨b2, rfl, rfl, rfl⟩
  refine tri_g (opg_box_agg rfl) rfl ?_
  rintro _ _ _ ⟨b3, rfl, rfl, rfl⟩
  refine tri_g opg_alloc rfl ?_
  rintro _ _ _ ⟨b4, rfl, rfl, rfl⟩
  refine tri_nil ?_
  refine tri_then ?_
  refine tri_seq ?_
  refine tri_region ?_
  refine tri_v (opv_assign rfl) rfl ?_
  refine tri_nil ?_
  refine tri_then ?_
  refine tri_seq ?_
  refine tri_region ?_
  refine tri_v (opv_assign rfl) rfl ?_
  refine tri_nil ?_
  refine tri_then ?_
  refine tri_seq ?_
  refine tri_seq ?_
  refine tri_region ?_
  refine tri_v (opv_fieldAddr rfl rfl) rfl ?_
  refine tri_v (opv_load1 rfl rfl rfl) rfl ?_
  refine tri_v (opv_len rfl) rfl ?_
  refine tri_v (opv_gtr rfl rfl) rfl ?_
  refine tri_nil ?_
  refine tri_then ?_
  refine tri_cut (fun F' A' I' => F' = [(2, pt b2 0), (3, pt b3 0), (4, pt b4 0), (5, .slice none 0 0), (6, .int .i64 (RL.lev ns r)), (13, .bool (decide ((0:Int) < ns.length)))] ∧ A' = Box b4 [.int .i64 0, .int .i64 0, .int .i64 0, .int .i64 0] 43 :: Box b3 [.int .i64 r.r0, .int .i64 r.r1, .int .i64 r.r2, .int .i64 r.r3, .int .i64 r.r4] 84 :: Box b2 [.slice a ns.length cap, .int .i64 room] 26 :: A ∧ I = I') ?_ ?_
  · refine tri_cond_dec rfl (fun hp => ?_) (fun hp => ?_)
    · have hpk := pk_bd (c := r.r4) hp
      refine tri_draw [0, 1, 2, 3, 4, 5, 6, 7, 8, 9, 10, 11] rfl [] rfl mixed ?_
      refine th_take rfl rfl (by kernel_rfl)  (opv_fieldAddr rfl rfl) ?_
      refine th_take rfl rfl (by kernel_rfl)  (opv_load1 rfl rfl rfl) ?_
      refine th_take rfl rfl (by kernel_rfl)  (opv_indexAddrA rfl rfl (by decide) (by decide)) ?_
      refine th_take rfl rfl (by kernel_rfl)  (opv_load1 rfl rfl rfl) ?_
      refine th_take rfl rfl (by kernel_rfl)  (opv_fieldAddr rfl rfl) ?_
      refine th_take rfl rfl (by kernel_rfl)  (opv_load1 rfl rfl rfl) ?_
      refine th_take rfl rfl (by kernel_rfl)  (opv_len rfl) ?_
      refine th_one (by kernel_rfl) (step_m rfl rfl (opg_call (xs := [_, _]) rfl (law06_pick h4.1 h4.2 hp)) ?_)
      rintro _ _ _ ⟨rfl, rfl, rfl⟩
      refine ⟨Suf.h, (fun _ h => h), ?_⟩
      refine th_take rfl rfl (by kernel_rfl)  (opv_indexAddrS rfl rfl (by omega) (by omega) (by assumption) rfl) ?_
      refine th_take rfl rfl (by kernel_rfl)  (opv_fieldAddrE rfl (by assumption) (by omega) rfl) ?_
      refine th_take rfl rfl (by kernel_rfl)  (opv_loadE1 rfl (by assumption) rfl (by omega) rfl rfl) ?_
      refine th_take rfl rfl (by kernel_rfl)  (opv_assign rfl) ?_
      refine th_done (by kernel_rfl) ?_
      refine tri_cutEnd _ ⟨rfl, rfl, rfl⟩ ⟨rfl, rfl, rfl, rfl, ?_, rfl, trivial⟩
      unfold RL.lev
      rw [if_pos (by omega)]
      rfl
    · refine tri_skip ?_
      refine tri_cutEnd _ ⟨rfl, rfl, rfl⟩ ⟨rfl, rfl, rfl, rfl, ?_, rfl, trivial⟩
      unfold RL.lev
      rw [if_neg (by omega)]
      rfl
  · rintro _ _ _ ⟨rfl, rfl, rfl⟩
    refine tri_then ?_
    refine tri_seq ?_
    refine tri_seq ?_
    refine tri_region ?_
    refine tri_v (opv_assign rfl) rfl ?_
    refine tri_nil ?_
    refine tri_then ?_
    refine tri_block ?_
    refine tri_nilRow (E := 3) (sz := 1) ?_
    refine tri_sub (F' := [(2, pt b2 0), (3, pt b3 0), (4, pt b4 0), (5, .slice none 0 0), (6, .int .i64 (RL.lev ns r)), (7, .int .i64 (0 : Nat))]) ⟨rfl, rfl, rfl, rfl, rfl, rfl, trivial⟩ ?_
    refine loop_ind (G := Nat × Option Addr × Nat) (fun g => ns.length - g.1) (fun g => g.1 ≤ ns.length) (fun g => [(2, pt b2 0), (3, pt b3 0), (4, pt b4 0), (5, .slice g.2.1 (RL.sameFrom (RL.lev ns r) 0 (ns.take g.1)).length g.2.2), (6, .int .i64 (RL.lev ns r)), (7, .int .i64 (g.1 : Nat))]) (fun g => Row g.2.1 g.2.2 (RL.sameFrom (RL.lev ns r) 0 (ns.take g.1)).length 3 1 (encs (RL.sameFrom (RL.lev ns r) 0 (ns.take g.1))) :: Box b4 [.int .i64 0, .int .i64 0, .int .i64 0, .int .i64 0] 43 :: Box b3 [.int .i64 r.r0, .int .i64 r.r1, .int .i64 r.r2, .int .i64 r.r3, .int .i64 r.r4] 84 :: Box b2 [.slice a ns.length cap, .int .i64 room] 26 :: A) (fun _ => I) ?_ (0, none, 0) (by simp)
    rintro ⟨i, a1, cap1⟩ hi K hK
    simp only at hi hK ⊢
    have hl1 := RL.sameFrom_len (RL.lev ns r) (ns.take i) 0
    rw [List.length_take] at hl1
    skip
    refine tri_seq ?_
    refine tri_seq ?_
    refine tri_region ?_
    refine tri_v (opv_move rfl) rfl ?_
    refine tri_v (opv_fieldAddr rfl rfl) rfl ?_
    refine tri_v (opv_load1 rfl rfl rfl) rfl ?_
    refine tri_v (opv_len rfl) rfl ?_
    refine tri_v (opv_lss rfl rfl) rfl ?_
    refine tri_nil ?_
    refine tri_then ?_
    refine tri_cond_dec rfl (fun h => ?_) (fun h => ?_)
    · have hlt : i < ns.length := by omega
      have e : ns.take (i + 1) = ns.take i ++ [ns.getD i default] := by
        rw [List.take_succ_eq_append_getElem hlt, show ns.getD i default = ns[i] by simp [hlt]]
      have el : 0 + (ns.take i).length = i := by rw [List.length_take]; omega
      refine tri_skip ?_
      refine tri_then ?_
      refine tri_seq ?_
      refine tri_block ?_
      refine tri_seq ?_
      refine tri_region ?_
      refine tri_v (opv_fieldAddr rfl rfl) rfl ?_
      refine tri_v (opv_load1 rfl rfl rfl) rfl ?_
      refine tri_v (opv_move rfl) rfl ?_
      refine tri_v (opv_indexAddrSN rfl rfl (by omega) (by assumption) rfl) rfl ?_
      refine tri_v (opv_fieldAddrE rfl (by assumption) (by omega) rfl) rfl ?_
      refine tri_v (opv_loadE1 rfl (by assumption) rfl (by omega) rfl rfl) rfl ?_
      refine tri_v (opv_move rfl) rfl ?_
      refine tri_v (opv_eql rfl rfl) rfl ?_
      refine tri_nil ?_
      refine tri_then ?_
      refine tri_cond_dec rfl (fun h5 => ?_) (fun h5 => ?_)
      · have e2 : RL.sameFrom (RL.lev ns r) 0 (ns.take (i + 1)) = RL.sameFrom (RL.lev ns r) 0 (ns.take i) ++ [(i : Int)] := by
          rw [e, RL.sameFrom_append, el]; simp only [RL.sameFrom]; rw [if_pos h5]
        refine tri_region ?_
        refine tri_v (opv_move rfl) rfl ?_
        refine tri_v (opv_move rfl) rfl ?_
        refine tri_g (opg_buildSlice rfl rfl rfl rfl) rfl ?_
        rintro _ _ _ ⟨b42, rfl, rfl, rfl⟩
        refine tri_g (opg_appendB rfl rfl rfl rfl (by omega) rfl) rfl ?_
        rintro _ _ _ ⟨a3, cap3, rfl, rfl, rfl⟩
        refine tri_v (opv_assign rfl) rfl ?_
        refine tri_nil ?_
        refine tri_inBlock ?_
        refine tri_then ?_
        refine tri_region ?_
        refine tri_v (opv_move rfl) rfl ?_
        refine tri_v (opv_add rfl rfl (w64 (by omega) (by omega))) rfl ?_
        refine tri_v (opv_assign rfl) rfl ?_
        refine tri_nil ?_
        refine tri_then ?_
        refine tri_drop ?_
        refine tri_rowEq (len' := (RL.sameFrom (RL.lev ns r) 0 (ns.take (i + 1))).length) (cells' := encs (RL.sameFrom (RL.lev ns r) 0 (ns.take (i + 1)))) (by rw [e2]; simp) (by rw [e2, encs_append]; rfl) ?_
        refine tri_sub ?_ (hK (i + 1, a3, cap3) (by simp only; omega) (by simp only; omega))
        exact ⟨rfl, rfl, rfl, by simp only [e2, List.length_append]; rfl, rfl, rfl, trivial⟩
      · have e2 : RL.sameFrom (RL.lev ns r) 0 (ns.take (i + 1)) = RL.sameFrom (RL.lev ns r) 0 (ns.take i) := by
          rw [e, RL.sameFrom_append, el]; simp only [RL.sameFrom]; rw [if_neg h5, List.append_nil]
        refine tri_skip ?_
        refine tri_inBlock ?_
        refine tri_then ?_
        refine tri_region ?_
        refine tri_v (opv_move rfl) rfl ?_
        refine tri_v (opv_add rfl rfl (w64 (by omega) (by omega))) rfl ?_
        refine tri_v (opv_assign rfl) rfl ?_
        refine tri_nil ?_
        refine tri_then ?_
        refine tri_rowEq (len' := (RL.sameFrom (RL.lev ns r) 0 (ns.take (i + 1))).length) (cells' := encs (RL.sameFrom (RL.lev ns r) 0 (ns.take (i + 1)))) (by rw [e2]) (by rw [e2]) ?_
        refine tri_sub ?_ (hK (i + 1, a1, cap1) (by simp only; omega) (by simp only; omega))
        exact ⟨rfl, rfl, rfl, by simp only [e2]; rfl, rfl, rfl, trivial⟩
    · have e : ns.take i = ns := List.take_of_length_le (by omega)
      rw [e] at hl1 ⊢
      generalize hsame : RL.sameFrom (RL.lev ns r) 0 ns = sm at *
      have hk : RL.kids ns r = (RL.one sm r.r0, RL.one sm r.r1, RL.one sm r.r2, RL.one sm r.r3) := by
        unfold RL.kids RL.same; rw [hsame]
      rw [hk]
      refine tri_exit ?_
      refine tri_then_exit ?_
      refine tri_then_exit ?_
      refine tri_inBlock_hit rfl ?_
      refine tri_then ?_
      refine tri_seq ?_
      refine tri_region ?_
      refine tri_g opg_alloc rfl ?_
      rintro _ _ _ ⟨b8, rfl, rfl, rfl⟩
      refine tri_nil ?_
      refine tri_then ?_
      refine tri_seq ?_
      refine tri_seq ?_
      refine tri_region ?_
      refine tri_v (opv_assign rfl) rfl ?_
      refine tri_nil ?_
      refine tri_then ?_
      refine tri_block ?_
      refine tri_rounds 5 ?_
      refine tri_round ?_
      refine tri_seq ?_
      refine tri_seq ?_
      refine tri_region ?_
      refine tri_v (opv_move rfl) rfl ?_
      refine tri_v (opv_lss rfl rfl) rfl ?_
      refine tri_v (opv_move rfl) rfl ?_
      refine tri_true rfl rfl (by decide) ?_
      refine tri_guard_run rfl rfl rfl ?_
      refine tri_v (opv_move rfl) rfl ?_
      refine tri_guard_run rfl rfl rfl ?_
      refine tri_v (opv_len rfl) rfl ?_
      refine tri_guard_run rfl rfl rfl ?_
      refine tri_v (opv_gtr rfl rfl) rfl ?_
      refine tri_v (opv_pick_t rfl rfl) rfl ?_
      refine tri_nil ?_
      refine tri_then ?_
      refine tri_cond_dec rfl (fun hz => ?_) (fun hz => ?_)
      · have z0 := pk_bd (c := r.r0) hz
        have z1 := pk_bd (c := r.r1) hz
        have z2 := pk_bd (c := r.r2) hz
        have z3 := pk_bd (c := r.r3) hz
        have eo : ∀ c, RL.one sm c = sm.getD (pk c sm.length).toNat default := fun c => if_pos (by omega)
        refine tri_skip ?_
        refine tri_then ?_
        refine tri_seq ?_
        refine tri_block ?_
        refine tri_region ?_
        refine tri_v (opv_move rfl) rfl ?_
        refine tri_v (opv_move rfl) rfl ?_
        refine tri_v (opv_move rfl) rfl ?_
        refine tri_v (opv_indexAddrA rfl rfl (by decide) (by decide)) rfl ?_
        refine tri_v (opv_load1 rfl rfl rfl) rfl ?_
        refine tri_v (opv_move rfl) rfl ?_
        refine tri_v (opv_len rfl) rfl ?_
        refine tri_g (opg_call (xs := [_, _]) rfl (law06_pick h0.1 h0.2 hz)) rfl ?_
        rintro _ _ _ ⟨rfl, rfl, rfl⟩
        refine tri_v (opv_indexAddrR rfl rfl (by omega) (by omega)) rfl ?_
        refine tri_v (opv_loadRX1 rfl rfl (by omega) rfl rfl) rfl ?_
        refine tri_v (opv_indexAddrA rfl rfl (by decide) (by decide)) rfl ?_
        refine tri_g (opg_store rfl rfl rfl rfl rfl rfl) rfl ?_
        rintro _ _ _ ⟨rfl, rfl⟩
        refine tri_nil ?_
        refine tri_inBlock ?_
        refine tri_then ?_
        refine tri_region ?_
        refine tri_v (opv_move rfl) rfl ?_
        refine tri_v (opv_add rfl rfl (w64 (by omega) (by omega))) rfl ?_
        refine tri_v (opv_assign rfl) rfl ?_
        refine tri_nil ?_
        refine tri_then ?_
        refine tri_round ?_
        refine tri_seq ?_
        refine tri_seq ?_
        refine tri_region ?_
        refine tri_v (opv_move rfl) rfl ?_
        refine tri_v (opv_lss rfl rfl) rfl ?_
        refine tri_v (opv_move rfl) rfl ?_
        refine tri_true rfl rfl (by decide) ?_
        refine tri_guard_run rfl rfl rfl ?_
        refine tri_v (opv_move rfl) rfl ?_
        refine tri_guard_run rfl rfl rfl ?_
        refine tri_v (opv_len rfl) rfl ?_
        refine tri_guard_run rfl rfl rfl ?_
        refine tri_v (opv_gtr rfl rfl) rfl ?_
        refine tri_v (opv_pick_t rfl rfl) rfl ?_
        refine tri_nil ?_
        refine tri_then ?_
        refine tri_cond_is rfl (hz) ?_
        refine tri_skip ?_
        refine tri_then ?_
        refine tri_seq ?_
        refine tri_block ?_
        refine tri_region ?_
        refine tri_v (opv_move rfl) rfl ?_
        refine tri_v (opv_move rfl) rfl ?_
        refine tri_v (opv_move rfl) rfl ?_
        refine tri_v (opv_indexAddrA rfl rfl (by decide) (by decide)) rfl ?_
        refine tri_v (opv_load1 rfl rfl rfl) rfl ?_
        refine tri_v (opv_move rfl) rfl ?_
        refine tri_v (opv_len rfl) rfl ?_
        refine tri_g (opg_call (xs := [_, _]) rfl (law06_pick h1.1 h1.2 hz)) rfl ?_
        rintro _ _ _ ⟨rfl, rfl, rfl⟩
        refine tri_v (opv_indexAddrR rfl rfl (by omega) (by omega)) rfl ?_
        refine tri_v (opv_loadRX1 rfl rfl (by omega) rfl rfl) rfl ?_
        refine tri_v (opv_indexAddrA rfl rfl (by decide) (by decide)) rfl ?_
        refine tri_g (opg_store rfl rfl rfl rfl rfl rfl) rfl ?_
        rintro _ _ _ ⟨rfl, rfl⟩
        refine tri_nil ?_
        refine tri_inBlock ?_
        refine tri_then ?_
        refine tri_region ?_
        refine tri_v (opv_move rfl) rfl ?_
        refine tri_v (opv_add rfl rfl (w64 (by omega) (by omega))) rfl ?_
        refine tri_v (opv_assign rfl) rfl ?_
        refine tri_nil ?_
        refine tri_then ?_
        refine tri_round ?_
        refine tri_seq ?_
        refine tri_seq ?_
        refine tri_region ?_
        refine tri_v (opv_move rfl) rfl ?_
        refine tri_v (opv_lss rfl rfl) rfl ?_
        refine tri_v (opv_move rfl) rfl ?_
        refine tri_true rfl rfl (by decide) ?_
        refine tri_guard_run rfl rfl rfl ?_
        refine tri_v (opv_move rfl) rfl ?_
        refine tri_guard_run rfl rfl rfl ?_
        refine tri_v (opv_len rfl) rfl ?_
        refine tri_guard_run rfl rfl rfl ?_
        refine tri_v (opv_gtr rfl rfl) rfl ?_
        refine tri_v (opv_pick_t rfl rfl) rfl ?_
        refine tri_nil ?_
        refine tri_then ?_
        refine tri_cond_is rfl (hz) ?_
        refine tri_skip ?_
        refine tri_then ?_
        refine tri_seq ?_
        refine tri_block ?_
        refine tri_region ?_
        refine tri_v (opv_move rfl) rfl ?_
        refine tri_v (opv_move rfl) rfl ?_
        refine tri_v (opv_move rfl) rfl ?_
        refine tri_v (opv_indexAddrA rfl rfl (by decide) (by decide)) rfl ?_
        refine tri_v (opv_load1 rfl rfl rfl) rfl ?_
        refine tri_v (opv_move rfl) rfl ?_
        refine tri_v (opv_len rfl) rfl ?_
        refine tri_g (opg_call (xs := [_, _]) rfl (law06_pick h2.1 h2.2 hz)) rfl ?_
        rintro _ _ _ ⟨rfl, rfl, rfl⟩
        refine tri_v (opv_indexAddrR rfl rfl (by omega) (by omega)) rfl ?_
        refine tri_v (opv_loadRX1 rfl rfl (by omega) rfl rfl) rfl ?_
        refine tri_v (opv_indexAddrA rfl rfl (by decide) (by decide)) rfl ?_
        refine tri_g (opg_store rfl rfl rfl rfl rfl rfl) rfl ?_
        rintro _ _ _ ⟨rfl, rfl⟩
        refine tri_nil ?_
        refine tri_inBlock ?_
        refine tri_then ?_
        refine tri_region ?_
        refine tri_v (opv_move rfl) rfl ?_
        refine tri_v (opv_add rfl rfl (w64 (by omega) (by omega))) rfl ?_
        refine tri_v (opv_assign rfl) rfl ?_
        refine tri_nil ?_
        refine tri_then ?_
        refine tri_round ?_
        refine tri_seq ?_
        refine tri_seq ?_
        refine tri_region ?_
        refine tri_v (opv_move rfl) rfl ?_
        refine tri_v (opv_lss rfl rfl) rfl ?_
        refine tri_v (opv_move rfl) rfl ?_
        refine tri_true rfl rfl (by decide) ?_
        refine tri_guard_run rfl rfl rfl ?_
        refine tri_v (opv_move rfl) rfl ?_
        refine tri_guard_run rfl rfl rfl ?_
        refine tri_v (opv_len rfl) rfl ?_
        refine tri_guard_run rfl rfl rfl ?_
        refine tri_v (opv_gtr rfl rfl) rfl ?_
        refine tri_v (opv_pick_t rfl rfl) rfl ?_
        refine tri_nil ?_
        refine tri_then ?_
        refine tri_cond_is rfl (hz) ?_
        refine tri_skip ?_
        refine tri_then ?_
        refine tri_seq ?_
        refine tri_block ?_
        refine tri_region ?_
        refine tri_v (opv_move rfl) rfl ?_
        refine tri_v (opv_move rfl) rfl ?_
        refine tri_v (opv_move rfl) rfl ?_
        refine tri_v (opv_indexAddrA rfl rfl (by decide) (by decide)) rfl ?_
        refine tri_v (opv_load1 rfl rfl rfl) rfl ?_
        refine tri_v (opv_move rfl) rfl ?_
        refine tri_v (opv_len rfl) rfl ?_
        refine tri_g (opg_call (xs := [_, _]) rfl (law06_pick h3.1 h3.2 hz)) rfl ?_
        rintro _ _ _ ⟨rfl, rfl, rfl⟩
        refine tri_v (opv_indexAddrR rfl rfl (by omega) (by omega)) rfl ?_
        refine tri_v (opv_loadRX1 rfl rfl (by omega) rfl rfl) rfl ?_
        refine tri_v (opv_indexAddrA rfl rfl (by decide) (by decide)) rfl ?_
        refine tri_g (opg_store rfl rfl rfl rfl rfl rfl) rfl ?_
        rintro _ _ _ ⟨rfl, rfl⟩
        refine tri_nil ?_
        refine tri_inBlock ?_
        refine tri_then ?_
        refine tri_region ?_
        refine tri_v (opv_move rfl) rfl ?_
        refine tri_v (opv_add rfl rfl (w64 (by omega) (by omega))) rfl ?_
        refine tri_v (opv_assign rfl) rfl ?_
        refine tri_nil ?_
        refine tri_then ?_
        refine tri_round ?_
        refine tri_seq ?_
        refine tri_seq ?_
        refine tri_region ?_
        refine tri_v (opv_move rfl) rfl ?_
        refine tri_v (opv_lss rfl rfl) rfl ?_
        refine tri_v (opv_move rfl) rfl ?_
        refine tri_false rfl rfl (by decide) ?_
        refine tri_guard_skip rfl rfl rfl rfl ?_
        refine tri_guard_skip rfl rfl rfl rfl ?_
        refine tri_guard_skip rfl rfl rfl rfl ?_
        refine tri_v (opv_pick_f rfl rfl) rfl ?_
        refine tri_nil ?_
        refine tri_then ?_
        refine tri_cond_false rfl ?_
        refine tri_exit ?_
        refine tri_then_exit ?_
        refine tri_then_exit ?_
        refine tri_inBlock_hit rfl ?_
        refine tri_then ?_
        refine tri_seq ?_
        refine tri_region ?_
        refine tri_v (opv_loadA rfl rfl rfl) rfl ?_
        refine tri_g (opg_store rfl rfl rfl rfl rfl rfl) rfl ?_
        rintro _ _ _ ⟨rfl, rfl⟩
        refine tri_nil ?_
        refine tri_then ?_
        refine tri_ret ?_
        refine tri_end A Suf.h rfl (.cons (rv_cellA rfl rfl rfl) .nil) ⟨?_, rfl, rfl⟩
        simp only [eo]
        rfl
      · have eo : ∀ c, RL.one sm c = 0 := fun c => if_neg (by omega)
        refine tri_exit ?_
        refine tri_then_exit ?_
        refine tri_then_exit ?_
        refine tri_inBlock_hit rfl ?_
        refine tri_then ?_
        refine tri_seq ?_
        refine tri_region ?_
        refine tri_v (opv_loadA rfl rfl rfl) rfl ?_
        refine tri_g (opg_store rfl rfl rfl rfl rfl rfl) rfl ?_
        rintro _ _ _ ⟨rfl, rfl⟩
        refine tri_nil ?_
        refine tri_then ?_
        refine tri_ret ?_
        refine tri_end A Suf.h rfl (.cons (rv_cellA rfl rfl rfl) .nil) ⟨?_, rfl, rfl⟩
        simp only [eo]
        rfl
end Go.GL

set_option linter.unusedVariables false
namespace Go.GL
open Go.Proofs
attribute [local irreducible] wpList Code.wp Exit.then Exit.inBlock Ends Tri TriH OpV OpG FnC epf wpAnyH
variable {A : List Asrt} {I : List Chunk}
namespace RL
theorem store0_good {rm : Int} (h2 : 2 ≤ rm) (h3 : rm ≤ 100000) : R6.Good [R6.n0, R6.n1] rm := ⟨by unfold R6.Mod; decide, by decide, by omega⟩
theorem foldl_good {rm : Int} (h2 : 2 ≤ rm) (h3 : rm ≤ 100000) : ∀ (l : List Five) (ns : List Node), R6.Good ns rm → R6.Good (l.foldl (putRaw rm) ns) rm
  | [], ns, h => h
  | r :: l, ns, h => foldl_good h2 h3 l _ (putRaw_good h2 h3 h r)
theorem new_room (c : Int) : R6.new (2 + pk c 60) = ([R6.n0, R6.n1], room c) := by
  have := room_bd c
  unfold room at this
  exact if_neg (by omega)
end RL
theorem R6.Mod.rng {ns : List Node} (h : R6.Mod ns) : R6.Rng ns := fun x hx => by have := h x hx; omega
set_option maxRecDepth 100000 in
theorem law06_store {l : List Five} {a : Option Addr} {cap : Nat} {c : Int} (h0 : I64 c) (hs : SlAt I a l) (hf : RL.Fs l) :
    FnC Try.prog 25 [.int .i64 c, .slice a l.length cap].toArray A I (fun v A' I' => ∃ a' cap', v = storeV a' (RL.store (RL.room c) l).length cap' (RL.room c) ∧ StA I' a' cap' (RL.store (RL.room c) l) ∧ A = A' ∧ I ⊆ I') := by
  have hrm := RL.room_bd c
  have hpk := pk_bd (c := c) (n := 60) (by decide)
  skip
  refine fn_enter2 Try.func25 rfl Try.ntmps25 rfl fun w0 => ?_
  refine tri_seq ?_
  refine tri_region ?_
  refine tri_g opg_alloc rfl ?_
  rintro _ _ _ ⟨b4, rfl, rfl, rfl⟩
  refine tri_nil ?_
  refine tri_then ?_
  refine tri_seq ?_
  refine tri_region ?_
  refine tri_v (opv_move rfl) rfl ?_
  refine tri_g (opg_call (xs := [_, _]) rfl (law06_pick h0.1 h0.2 (by decide))) rfl ?_
  rintro _ _ _ ⟨rfl, rfl, rfl⟩
  refine tri_v (opv_add rfl rfl (w64 (by omega) (by omega))) rfl ?_
  refine tri_g (opg_call (xs := [_]) rfl (ref06_new)) rfl ?_
  rintro _ _ I0 ⟨a0, cap0, rfl, hs0, rfl, hI0⟩
  rw [RL.new_room] at hs0 ⊢
  refine tri_g opg_alloc rfl ?_
  rintro _ _ _ ⟨b5, rfl, rfl, rfl⟩
  refine tri_g (opg_store rfl rfl rfl rfl rfl rfl) rfl ?_
  rintro _ _ _ ⟨rfl, rfl⟩
  refine tri_nil ?_
  refine tri_then ?_
  refine tri_seq ?_
  refine tri_seq ?_
  refine tri_region ?_
  refine tri_v (opv_assign rfl) rfl ?_
  refine tri_nil ?_
  refine tri_then ?_
  refine tri_block ?_
  refine tri_sub (F' := [(1, .slice a l.length cap), (4, pt b4 0), (5, pt b5 0), (6, .int .i64 (0 : Nat))]) ⟨rfl, rfl, rfl, rfl, trivial⟩ ?_
  refine loop_ind (G := Nat × Option Addr × Nat × List Chunk) (fun g => 40 - g.1) (fun g => g.1 ≤ l.length ∧ g.1 ≤ 40 ∧ StA g.2.2.2 g.2.1 g.2.2.1 ((l.take g.1).foldl (RL.putRaw (RL.room c)) [R6.n0, R6.n1]) ∧ I ⊆ g.2.2.2) (fun g => [(1, .slice a l.length cap), (4, pt b4 0), (5, pt b5 0), (6, .int .i64 (g.1 : Nat))]) (fun g => Box b5 [.slice g.2.1 ((l.take g.1).foldl (RL.putRaw (RL.room c)) [R6.n0, R6.n1]).length g.2.2.1, .int .i64 (RL.room c)] 26 :: Box b4 [.slice none 0 0, .int .i64 0] 26 :: A) (fun g => g.2.2.2) ?_ (0, a0, cap0, I0) ⟨by omega, by omega, hs0, hI0⟩
  rintro ⟨i, a1, cap1, I1⟩ ⟨hi, hi4, hs1, hI1⟩ K hK
  simp only at hi hi4 hs1 hI1 hK ⊢
  have hsm : SlAt I1 a l := hs.mono hI1
  have fin : i = l.length ∨ i = 40 → RL.store (RL.room c) l = (l.take i).foldl (RL.putRaw (RL.room c)) [R6.n0, R6.n1] := by
    rintro (rfl | rfl)
    · unfold RL.store
      rw [List.take_length, List.take_of_length_le (by omega)]
    · rfl
  have hg := RL.foldl_good (rm := RL.room c) (by omega) (by omega) (l.take i) _ (RL.store0_good (by omega) (by omega))
  have e : ∀ h : i < l.length, (l.take (i + 1)).foldl (RL.putRaw (RL.room c)) [R6.n0, R6.n1] = RL.putRaw (RL.room c) ((l.take i).foldl (RL.putRaw (RL.room c)) [R6.n0, R6.n1]) (l.getD i default) := fun h => by
    rw [List.take_succ_eq_append_getElem h, List.foldl_append, show l.getD i default = l[i] by simp [h]]; rfl
  generalize hns : (l.take i).foldl (RL.putRaw (RL.room c)) [R6.n0, R6.n1] = ns at *
  skip
  refine tri_seq ?_
  refine tri_seq ?_
  refine tri_region ?_
  refine tri_v (opv_move rfl) rfl ?_
  refine tri_v (opv_move rfl) rfl ?_
  refine tri_v (opv_len rfl) rfl ?_
  refine tri_v (opv_lss rfl rfl) rfl ?_
  refine tri_v (opv_move rfl) rfl ?_
  refine tri_split rfl rfl (fun h => ?_) (fun h => ?_)
  · refine tri_guard_run rfl rfl rfl ?_
    refine tri_v (opv_move rfl) rfl ?_
    refine tri_guard_run rfl rfl rfl ?_
    refine tri_v (opv_lss rfl rfl) rfl ?_
    refine tri_v (opv_pick_t rfl rfl) rfl ?_
    refine tri_nil ?_
    refine tri_then ?_
    refine tri_cond_dec rfl (fun h2 => ?_) (fun h2 => ?_)
    · have hlt : i < l.length := by omega
      have hfi := hf i hlt
      skip
      refine tri_skip ?_
      refine tri_then ?_
      refine tri_seq ?_
      refine tri_block ?_
      refine tri_draw [2, 3, 4, 5, 0, 1, 6, 7, 8, 9, 10, 11, 12] rfl [_] rfl mixed ?_
      refine th_take rfl rfl (by kernel_rfl)  (opv_move rfl) ?_
      refine th_take rfl rfl (by kernel_rfl)  (opv_move rfl) ?_
      refine th_take rfl rfl (by kernel_rfl)  (opv_indexAddrSN rfl rfl (by omega) (by assumption) rfl) ?_
      refine th_take rfl rfl (by kernel_rfl)  (opv_loadEA rfl (by assumption) rfl (by omega) rfl rfl) ?_
      refine th_two (j := 1) [0, 6, 7, 8, 9, 10, 11, 12] (by kernel_rfl) rfl ?_ ?_
      · refine (step_m rfl rfl (OpV.toG (opv_loadA rfl rfl rfl)) ?_)
        rintro _ _ _ ⟨rfl, rfl, rfl⟩
        refine ⟨Suf.h, (fun _ h => h), ?_⟩
        refine th_one (by kernel_rfl) (step_m rfl rfl (OpV.toG (opv_loadA rfl rfl rfl)) ?_)
        rintro _ _ _ ⟨rfl, rfl, rfl⟩
        refine ⟨Suf.h, (fun _ h => h), ?_⟩
        refine th_one (by kernel_rfl) (step_m rfl rfl (opg_call (xs := [_, _]) rfl (law06_kids (r := l.getD i default) hs1.sl hg.len hfi.1 hfi.2.1 hfi.2.2.1 hfi.2.2.2.1 hfi.2.2.2.2)) ?_)
        rintro _ _ _ ⟨rfl, rfl, rfl⟩
        refine ⟨Suf.h, (fun _ h => h), ?_⟩
        skip
        refine th_one (by kernel_rfl) (step_m rfl rfl (opg_call (xs := [_, _]) rfl (ref06_intern (room := RL.room c) hs1 hg.len hg.mod.rng)) ?_)
        rintro _ _ I2 ⟨a2, cap2, rfl, hs2, rfl, hI2⟩
        refine ⟨Suf.h, fun _ h => hI2 h, ?_⟩
        refine th_take rfl rfl (by kernel_rfl)  (opv_move rfl) ?_
        refine th_take rfl rfl (by kernel_rfl)  (opv_extract rfl rfl) ?_
        refine th_take rfl rfl (by kernel_rfl)  (opv_extract rfl rfl) ?_
        refine th_take rfl rfl (by kernel_rfl)  (opv_extract rfl rfl) ?_
        refine th_one (by kernel_rfl) (step_m rfl rfl (opg_store rfl rfl rfl rfl rfl rfl) ?_)
        rintro _ _ _ ⟨rfl, rfl⟩
        refine ⟨Suf.h, (by assumption), ?_⟩
        refine th_done (by kernel_rfl) ?_
        refine tri_inBlock ?_
        refine tri_then ?_
        refine tri_region ?_
        refine tri_v (opv_move rfl) rfl ?_
        refine tri_v (opv_add rfl rfl (w64 (by omega) (by omega))) rfl ?_
        refine tri_v (opv_assign rfl) rfl ?_
        refine tri_nil ?_
        refine tri_then ?_
        have hk2 := hK (i + 1, a2, cap2, I2) ⟨by simp only; omega, by simp only; omega, by simp only [e hlt]; exact hs2, fun _ h => hI2 (hI1 h)⟩ (by simp only; omega)
        simp only [e hlt] at hk2
        refine tri_sub ?_ hk2
        exact ⟨rfl, rfl, rfl, rfl, trivial⟩
      · refine (step_m rfl rfl (OpV.toG (opv_loadA rfl rfl rfl)) ?_)
        rintro _ _ _ ⟨rfl, rfl, rfl⟩
        refine ⟨Suf.h, (fun _ h => h), ?_⟩
        refine th_two (j := 6) [0, 7, 8, 9, 10, 11, 12] (by kernel_rfl) rfl ?_ ?_
        · refine (step_m rfl rfl (OpV.toG (opv_loadA rfl rfl rfl)) ?_)
          rintro _ _ _ ⟨rfl, rfl, rfl⟩
          refine ⟨Suf.h, (fun _ h => h), ?_⟩
          refine th_one (by kernel_rfl) (step_m rfl rfl (opg_call (xs := [_, _]) rfl (law06_kids (r := l.getD i default) hs1.sl hg.len hfi.1 hfi.2.1 hfi.2.2.1 hfi.2.2.2.1 hfi.2.2.2.2)) ?_)
          rintro _ _ _ ⟨rfl, rfl, rfl⟩
          refine ⟨Suf.h, (fun _ h => h), ?_⟩
          skip
          refine th_one (by kernel_rfl) (step_m rfl rfl (opg_call (xs := [_, _]) rfl (ref06_intern (room := RL.room c) hs1 hg.len hg.mod.rng)) ?_)
          rintro _ _ I2 ⟨a2, cap2, rfl, hs2, rfl, hI2⟩
          refine ⟨Suf.h, fun _ h => hI2 h, ?_⟩
          refine th_take rfl rfl (by kernel_rfl)  (opv_move rfl) ?_
          refine th_take rfl rfl (by kernel_rfl)  (opv_extract rfl rfl) ?_
          refine th_take rfl rfl (by kernel_rfl)  (opv_extract rfl rfl) ?_
          refine th_take rfl rfl (by kernel_rfl)  (opv_extract rfl rfl) ?_
          refine th_one (by kernel_rfl) (step_m rfl rfl (opg_store rfl rfl rfl rfl rfl rfl) ?_)
          rintro _ _ _ ⟨rfl, rfl⟩
          refine ⟨Suf.h, (by assumption), ?_⟩
          refine th_done (by kernel_rfl) ?_
          refine tri_inBlock ?_
          refine tri_then ?_
          refine tri_region ?_
          refine tri_v (opv_move rfl) rfl ?_
          refine tri_v (opv_add rfl rfl (w64 (by omega) (by omega))) rfl ?_
          refine tri_v (opv_assign rfl) rfl ?_
          refine tri_nil ?_
          refine tri_then ?_
          have hk2 := hK (i + 1, a2, cap2, I2) ⟨by simp only; omega, by simp only; omega, by simp only [e hlt]; exact hs2, fun _ h => hI2 (hI1 h)⟩ (by simp only; omega)
          simp only [e hlt] at hk2
          refine tri_sub ?_ hk2
          exact ⟨rfl, rfl, rfl, rfl, trivial⟩
        · refine (step_m rfl rfl (opg_call (xs := [_, _]) rfl (law06_kids (r := l.getD i default) hs1.sl hg.len hfi.1 hfi.2.1 hfi.2.2.1 hfi.2.2.2.1 hfi.2.2.2.2)) ?_)
          rintro _ _ _ ⟨rfl, rfl, rfl⟩
          refine ⟨Suf.h, (fun _ h => h), ?_⟩
          refine th_one (by kernel_rfl) (step_m rfl rfl (OpV.toG (opv_loadA rfl rfl rfl)) ?_)
          rintro _ _ _ ⟨rfl, rfl, rfl⟩
          refine ⟨Suf.h, (fun _ h => h), ?_⟩
          refine th_one (by kernel_rfl) (step_m rfl rfl (opg_call (xs := [_, _]) rfl (ref06_intern (room := RL.room c) hs1 hg.len hg.mod.rng)) ?_)
          rintro _ _ I2 ⟨a2, cap2, rfl, hs2, rfl, hI2⟩
          refine ⟨Suf.h, fun _ h => hI2 h, ?_⟩
          refine th_take rfl rfl (by kernel_rfl)  (opv_move rfl) ?_
          refine th_take rfl rfl (by kernel_rfl)  (opv_extract rfl rfl) ?_
          refine th_take rfl rfl (by kernel_rfl)  (opv_extract rfl rfl) ?_
          refine th_take rfl rfl (by kernel_rfl)  (opv_extract rfl rfl) ?_
          refine th_one (by kernel_rfl) (step_m rfl rfl (opg_store rfl rfl rfl rfl rfl rfl) ?_)
          rintro _ _ _ ⟨rfl, rfl⟩
          refine ⟨Suf.h, (by assumption), ?_⟩
          refine th_done (by kernel_rfl) ?_
          refine tri_inBlock ?_
          refine tri_then ?_
          refine tri_region ?_
          refine tri_v (opv_move rfl) rfl ?_
          refine tri_v (opv_add rfl rfl (w64 (by omega) (by omega))) rfl ?_
          refine tri_v (opv_assign rfl) rfl ?_
          refine tri_nil ?_
          refine tri_then ?_
          have hk2 := hK (i + 1, a2, cap2, I2) ⟨by simp only; omega, by simp only; omega, by simp only [e hlt]; exact hs2, fun _ h => hI2 (hI1 h)⟩ (by simp only; omega)
          simp only [e hlt] at hk2
          refine tri_sub ?_ hk2
          exact ⟨rfl, rfl, rfl, rfl, trivial⟩
    · refine tri_exit ?_
      refine tri_then_exit ?_
      refine tri_then_exit ?_
      refine tri_inBlock_hit rfl ?_
      refine tri_then ?_
      refine tri_seq ?_
      refine tri_region ?_
      refine tri_v (opv_loadA rfl rfl rfl) rfl ?_
      refine tri_g (opg_store rfl rfl rfl rfl rfl rfl) rfl ?_
      rintro _ _ _ ⟨rfl, rfl⟩
      refine tri_nil ?_
      refine tri_then ?_
      refine tri_ret ?_
      refine tri_end A Suf.h rfl (.cons (rv_cellA rfl rfl rfl) .nil) ⟨a1, cap1, ?_, ?_, rfl, hI1⟩
      · rw [fin (by omega)]; rfl
      · rw [fin (by omega)]; exact hs1
  · refine tri_guard_skip rfl rfl rfl rfl ?_
    refine tri_guard_skip rfl rfl rfl rfl ?_
    refine tri_v (opv_pick_f rfl rfl) rfl ?_
    refine tri_nil ?_
    refine tri_then ?_
    refine tri_cond_false rfl ?_
    refine tri_exit ?_
    refine tri_then_exit ?_
    refine tri_then_exit ?_
    refine tri_inBlock_hit rfl ?_
    refine tri_then ?_
    refine tri_seq ?_
    refine tri_region ?_
    refine tri_v (opv_loadA rfl rfl rfl) rfl ?_
    refine tri_g (opg_store rfl rfl rfl rfl rfl rfl) rfl ?_
    rintro _ _ _ ⟨rfl, rfl⟩
    refine tri_nil ?_
    refine tri_then ?_
    refine tri_ret ?_
    refine tri_end A Suf.h rfl (.cons (rv_cellA rfl rfl rfl) .nil) ⟨a1, cap1, ?_, ?_, rfl, hI1⟩
    · rw [fin (by omega)]; rfl
    · rw [fin (by omega)]; exact hs1
end Go.GL

set_option linter.unusedVariables false
namespace Go.GL
open Go.Proofs
attribute [local irreducible] wpList Code.wp Exit.then Exit.inBlock Ends Tri TriH OpV OpG FnC epf wpAnyH
variable {A : List Asrt} {I : List Chunk}
namespace RL
theorem set_len (raw : List Cell) : (set raw).length ≤ 60 := by
  unfold set
  have h := R1.puts_len ((raw.take 60).map cell16)
  rw [List.length_map, List.length_take] at h
  omega
theorem store_good {rm : Int} (h2 : 2 ≤ rm) (h3 : rm ≤ 100000) (l : List Five) : R6.Good (store rm l) rm := foldl_good h2 h3 _ _ (store0_good h2 h3)
end RL
set_option maxRecDepth 100000 in
theorem law07_square {nodes : List Five} {raw : List Cell} {a a2 : Option Addr} {cap cap2 : Nat} {c level : Int} (h0 : I64 c) (hs : SlAt I a nodes) (hf : RL.Fs nodes) (hs2 : SlAt I a2 raw) (hc : RL.Cs raw) (hl : I64 level) :
    FnC Try.prog 10 [.int .i64 c, .slice a nodes.length cap, .slice a2 raw.length cap2, .int .i64 level].toArray A I (fun v A' I' => ∃ a' cap', v = .tuple [storeV a' (RL.square c nodes raw level).1.length cap' (RL.room c + 500), .int .i64 (RL.square c nodes raw level).2.1].toArray ∧ StA I' a' cap' (RL.square c nodes raw level).1 ∧ A = A' ∧ I ⊆ I') := by
  have hrm := RL.room_bd c
  have hpk := pk_bd (c := level) (n := 4) (by decide)
  have hg := RL.store_good (rm := RL.room c) (by omega) (by omega) nodes
  have hsl := RL.set_len raw
  skip
  refine fn_enter4 Try.func10 rfl Try.ntmps10 rfl fun w0 => ?_
  refine tri_seq ?_
  refine tri_region ?_
  refine tri_g opg_alloc rfl ?_
  rintro _ _ _ ⟨b8, rfl, rfl, rfl⟩
  refine tri_v (opv_assign rfl) rfl ?_
  refine tri_nil ?_
  refine tri_then ?_
  refine tri_seq ?_
  refine tri_region ?_
  refine tri_v (opv_move rfl) rfl ?_
  refine tri_v (opv_move rfl) rfl ?_
  refine tri_g (opg_call (xs := [_, _]) rfl (law06_store h0 hs hf)) rfl ?_
  rintro _ _ I0 ⟨a0, cap0, rfl, hs0, rfl, hI0⟩
  refine tri_g opg_alloc rfl ?_
  rintro _ _ _ ⟨b10, rfl, rfl, rfl⟩
  refine tri_g (opg_store rfl rfl rfl rfl rfl rfl) rfl ?_
  rintro _ _ _ ⟨rfl, rfl⟩
  refine tri_nil ?_
  refine tri_then ?_
  refine tri_seq ?_
  refine tri_region ?_
  refine tri_v (opv_fieldAddr rfl rfl) rfl ?_
  refine tri_v (opv_load1 rfl rfl rfl) rfl ?_
  refine tri_v (opv_add rfl rfl (w64 (by omega) (by omega))) rfl ?_
  refine tri_v (opv_fieldAddr rfl rfl) rfl ?_
  refine tri_g (opg_store rfl rfl rfl rfl rfl rfl) rfl ?_
  rintro _ _ _ ⟨rfl, rfl⟩
  refine tri_nil ?_
  refine tri_then ?_
  refine tri_seq ?_
  refine tri_draw [0, 1, 3, 2, 4, 5, 6, 7, 8, 9, 10, 11, 12, 13, 14] rfl [] rfl mixed ?_
  refine th_take rfl rfl (by kernel_rfl)  (opv_loadA rfl rfl rfl) ?_
  refine th_take rfl rfl (by kernel_rfl)  (opv_move rfl) ?_
  refine th_take rfl rfl (by kernel_rfl)  (opv_move rfl) ?_
  refine th_two (j := 11) [2, 4, 5, 6, 7, 8, 9, 10, 12, 13, 14] (by kernel_rfl) rfl ?_ ?_
  · refine (step_m rfl rfl (opg_call (xs := [_]) rfl (law01_set (hs2.mono hI0) hc)) ?_)
    rintro _ _ I1 ⟨a1, cap1, rfl, hs1, rfl, hI1⟩
    refine ⟨Suf.h, hI1, ?_⟩
    refine th_two (j := 11) [4, 5, 6, 7, 8, 9, 10, 12, 13, 14] (by kernel_rfl) rfl ?_ ?_
    · refine (step_m rfl rfl (opg_call (xs := [_, _]) rfl (law07_pick hl.1 hl.2 (by decide))) ?_)
      rintro _ _ _ ⟨rfl, rfl, rfl⟩
      refine ⟨Suf.h, fun _ h => hI1 h, ?_⟩
      refine th_take rfl rfl (by kernel_rfl)  (opv_add rfl rfl (w64 (by omega) (by omega))) ?_
      refine th_two (j := 11) [6, 7, 8, 9, 10, 12, 13, 14] (by kernel_rfl) rfl ?_ ?_
      · refine (step_m rfl rfl (opg_call (xs := [_, _, _]) rfl (ref07_make (room := RL.room c + 500) (lv := 4 + pk level 4) (hs0.mono hI1) hg.len hg.mod.rng hs1 (by omega))) ?_)
        rintro _ _ I2 ⟨a3, cap3, rfl, hs3, rfl, hI2⟩
        refine ⟨Suf.h, fun _ h => hI2 (hI1 h), ?_⟩
        have hI12 : I0 ⊆ I2 := fun _ h => hI2 (hI1 h)
        refine th_take rfl rfl (by kernel_rfl)  (opv_move rfl) ?_
        refine th_take rfl rfl (by kernel_rfl)  (opv_extract rfl rfl) ?_
        refine th_take rfl rfl (by kernel_rfl)  (opv_extract rfl rfl) ?_
        refine th_take rfl rfl (by kernel_rfl)  (opv_extract rfl rfl) ?_
        refine th_one (by kernel_rfl) (step_m rfl rfl opg_alloc ?_)
        rintro _ _ _ ⟨b11, rfl, rfl, rfl⟩
        refine ⟨Suf.h, (by assumption), ?_⟩
        refine th_one (by kernel_rfl) (step_m rfl rfl (opg_store rfl rfl rfl rfl rfl rfl) ?_)
        rintro _ _ _ ⟨rfl, rfl⟩
        refine ⟨Suf.h, (by assumption), ?_⟩
        refine th_take rfl rfl (by kernel_rfl)  (opv_assign rfl) ?_
        refine th_take rfl rfl (by kernel_rfl)  (opv_assign rfl) ?_
        refine th_done (by kernel_rfl) ?_
        refine tri_then ?_
        refine tri_seq ?_
        refine tri_region ?_
        refine tri_v (opv_loadA rfl rfl rfl) rfl ?_
        refine tri_v (opv_move rfl) rfl ?_
        refine tri_g (opg_store rfl rfl rfl rfl rfl rfl) rfl ?_
        rintro _ _ _ ⟨rfl, rfl⟩
        refine tri_v (opv_assign rfl) rfl ?_
        refine tri_nil ?_
        refine tri_then ?_
        refine tri_ret ?_
        refine tri_end A Suf.h rfl (.cons (rv_cellA rfl rfl rfl) (.cons (rv_tmp rfl) .nil)) ⟨a3, cap3, rfl, hs3, rfl, fun _ h => hI2 (hI1 (hI0 h))⟩
      · refine (step_m rfl rfl opg_alloc ?_)
        rintro _ _ _ ⟨b11, rfl, rfl, rfl⟩
        refine ⟨Suf.h, (by assumption), ?_⟩
        refine th_one (by kernel_rfl) (step_m rfl rfl (opg_call (xs := [_, _, _]) rfl (ref07_make (room := RL.room c + 500) (lv := 4 + pk level 4) (hs0.mono hI1) hg.len hg.mod.rng hs1 (by omega))) ?_)
        rintro _ _ I2 ⟨a3, cap3, rfl, hs3, rfl, hI2⟩
        refine ⟨Suf.h, fun _ h => hI2 (hI1 h), ?_⟩
        have hI12 : I0 ⊆ I2 := fun _ h => hI2 (hI1 h)
        refine th_take rfl rfl (by kernel_rfl)  (opv_move rfl) ?_
        refine th_take rfl rfl (by kernel_rfl)  (opv_extract rfl rfl) ?_
        refine th_take rfl rfl (by kernel_rfl)  (opv_extract rfl rfl) ?_
        refine th_take rfl rfl (by kernel_rfl)  (opv_extract rfl rfl) ?_
        refine th_one (by kernel_rfl) (step_m rfl rfl (opg_store rfl rfl rfl rfl rfl rfl) ?_)
        rintro _ _ _ ⟨rfl, rfl⟩
        refine ⟨Suf.h, (by assumption), ?_⟩
        refine th_take rfl rfl (by kernel_rfl)  (opv_assign rfl) ?_
        refine th_take rfl rfl (by kernel_rfl)  (opv_assign rfl) ?_
        refine th_done (by kernel_rfl) ?_
        refine tri_then ?_
        refine tri_seq ?_
        refine tri_region ?_
        refine tri_v (opv_loadA rfl rfl rfl) rfl ?_
        refine tri_v (opv_move rfl) rfl ?_
        refine tri_g (opg_store rfl rfl rfl rfl rfl rfl) rfl ?_
        rintro _ _ _ ⟨rfl, rfl⟩
        refine tri_v (opv_assign rfl) rfl ?_
        refine tri_nil ?_
        refine tri_then ?_
        refine tri_ret ?_
        refine tri_end A Suf.h rfl (.cons (rv_cellA rfl rfl rfl) (.cons (rv_tmp rfl) .nil)) ⟨a3, cap3, rfl, hs3, rfl, fun _ h => hI2 (hI1 (hI0 h))⟩
    · refine (step_m rfl rfl opg_alloc ?_)
      rintro _ _ _ ⟨b11, rfl, rfl, rfl⟩
      refine ⟨Suf.h, (by assumption), ?_⟩
      refine th_one (by kernel_rfl) (step_m rfl rfl (opg_call (xs := [_, _]) rfl (law07_pick hl.1 hl.2 (by decide))) ?_)
      rintro _ _ _ ⟨rfl, rfl, rfl⟩
      refine ⟨Suf.h, fun _ h => hI1 h, ?_⟩
      refine th_take rfl rfl (by kernel_rfl)  (opv_add rfl rfl (w64 (by omega) (by omega))) ?_
      refine th_one (by kernel_rfl) (step_m rfl rfl (opg_call (xs := [_, _, _]) rfl (ref07_make (room := RL.room c + 500) (lv := 4 + pk level 4) (hs0.mono hI1) hg.len hg.mod.rng hs1 (by omega))) ?_)
      rintro _ _ I2 ⟨a3, cap3, rfl, hs3, rfl, hI2⟩
      refine ⟨Suf.h, fun _ h => hI2 (hI1 h), ?_⟩
      have hI12 : I0 ⊆ I2 := fun _ h => hI2 (hI1 h)
      refine th_take rfl rfl (by kernel_rfl)  (opv_move rfl) ?_
      refine th_take rfl rfl (by kernel_rfl)  (opv_extract rfl rfl) ?_
      refine th_take rfl rfl (by kernel_rfl)  (opv_extract rfl rfl) ?_
      refine th_take rfl rfl (by kernel_rfl)  (opv_extract rfl rfl) ?_
      refine th_one (by kernel_rfl) (step_m rfl rfl (opg_store rfl rfl rfl rfl rfl rfl) ?_)
      rintro _ _ _ ⟨rfl, rfl⟩
      refine ⟨Suf.h, (by assumption), ?_⟩
      refine th_take rfl rfl (by kernel_rfl)  (opv_assign rfl) ?_
      refine th_take rfl rfl (by kernel_rfl)  (opv_assign rfl) ?_
      refine th_done (by kernel_rfl) ?_
      refine tri_then ?_
      refine tri_seq ?_
      refine tri_region ?_
      refine tri_v (opv_loadA rfl rfl rfl) rfl ?_
      refine tri_v (opv_move rfl) rfl ?_
      refine tri_g (opg_store rfl rfl rfl rfl rfl rfl) rfl ?_
      rintro _ _ _ ⟨rfl, rfl⟩
      refine tri_v (opv_assign rfl) rfl ?_
      refine tri_nil ?_
      refine tri_then ?_
      refine tri_ret ?_
      refine tri_end A Suf.h rfl (.cons (rv_cellA rfl rfl rfl) (.cons (rv_tmp rfl) .nil)) ⟨a3, cap3, rfl, hs3, rfl, fun _ h => hI2 (hI1 (hI0 h))⟩
  · refine (step_m rfl rfl opg_alloc ?_)
    rintro _ _ _ ⟨b11, rfl, rfl, rfl⟩
    refine ⟨Suf.h, (fun _ h => h), ?_⟩
    refine th_one (by kernel_rfl) (step_m rfl rfl (opg_call (xs := [_]) rfl (law01_set (hs2.mono hI0) hc)) ?_)
    rintro _ _ I1 ⟨a1, cap1, rfl, hs1, rfl, hI1⟩
    refine ⟨Suf.h, hI1, ?_⟩
    refine th_one (by kernel_rfl) (step_m rfl rfl (opg_call (xs := [_, _]) rfl (law07_pick hl.1 hl.2 (by decide))) ?_)
    rintro _ _ _ ⟨rfl, rfl, rfl⟩
    refine ⟨Suf.h, fun _ h => hI1 h, ?_⟩
    refine th_take rfl rfl (by kernel_rfl)  (opv_add rfl rfl (w64 (by omega) (by omega))) ?_
    refine th_one (by kernel_rfl) (step_m rfl rfl (opg_call (xs := [_, _, _]) rfl (ref07_make (room := RL.room c + 500) (lv := 4 + pk level 4) (hs0.mono hI1) hg.len hg.mod.rng hs1 (by omega))) ?_)
    rintro _ _ I2 ⟨a3, cap3, rfl, hs3, rfl, hI2⟩
    refine ⟨Suf.h, fun _ h => hI2 (hI1 h), ?_⟩
    have hI12 : I0 ⊆ I2 := fun _ h => hI2 (hI1 h)
    refine th_take rfl rfl (by kernel_rfl)  (opv_move rfl) ?_
    refine th_take rfl rfl (by kernel_rfl)  (opv_extract rfl rfl) ?_
    refine th_take rfl rfl (by kernel_rfl)  (opv_extract rfl rfl) ?_
    refine th_take rfl rfl (by kernel_rfl)  (opv_extract rfl rfl) ?_
    refine th_one (by kernel_rfl) (step_m rfl rfl (opg_store rfl rfl rfl rfl rfl rfl) ?_)
    rintro _ _ _ ⟨rfl, rfl⟩
    refine ⟨Suf.h, (by assumption), ?_⟩
    refine th_take rfl rfl (by kernel_rfl)  (opv_assign rfl) ?_
    refine th_take rfl rfl (by kernel_rfl)  (opv_assign rfl) ?_
    refine th_done (by kernel_rfl) ?_
    refine tri_then ?_
    refine tri_seq ?_
    refine tri_region ?_
    refine tri_v (opv_loadA rfl rfl rfl) rfl ?_
    refine tri_v (opv_move rfl) rfl ?_
    refine tri_g (opg_store rfl rfl rfl rfl rfl rfl) rfl ?_
    rintro _ _ _ ⟨rfl, rfl⟩
    refine tri_v (opv_assign rfl) rfl ?_
    refine tri_nil ?_
    refine tri_then ?_
    refine tri_ret ?_
    refine tri_end A Suf.h rfl (.cons (rv_cellA rfl rfl rfl) (.cons (rv_tmp rfl) .nil)) ⟨a3, cap3, rfl, hs3, rfl, fun _ h => hI2 (hI1 (hI0 h))⟩
set_option maxRecDepth 100000 in
theorem law08_crop {l : List Cell} {a : Option Addr} {cap : Nat} {x y half : Int} (hs : SlAt I a l) (hn : l.length ≤ 1000000000) (hb : ∀ i, i < l.length → R2.bd (l.getD i default))
    (hx : -2199023255552 ≤ x ∧ x ≤ 2199023255552) (hy : -2199023255552 ≤ y ∧ y ≤ 2199023255552) (hh : 0 ≤ half ∧ half ≤ 2199023255552) :
    FnC Try.prog 21 [.slice a l.length cap, .int .i64 x, .int .i64 y, .int .i64 half].toArray A I (fun v A' I' => ∃ a' cap', v = .slice a' (RL.crop l x y half).length cap' ∧ SlAt I' a' (RL.crop l x y half) ∧ A = A' ∧ I ⊆ I') := by
  have e0 : RL.crop l x y half = R1.puts (((l.take l.length).map fun c => (⟨c.x - x, c.y - y⟩ : Cell)).filter fun c => decide (RL.cropIn half c)) := by rw [List.take_length]; rfl
  skip
  refine fn_enter4 Try.func21 rfl Try.ntmps21 rfl fun w0 => ?_
  refine tri_seq ?_
  refine tri_region ?_
  refine tri_v (opv_assign rfl) rfl ?_
  refine tri_nil ?_
  refine tri_then ?_
  refine tri_seq ?_
  refine tri_region ?_
  refine tri_v (opv_assign rfl) rfl ?_
  refine tri_nil ?_
  refine tri_then ?_
  refine tri_seq ?_
  refine tri_seq ?_
  refine tri_region ?_
  refine tri_v (opv_assign rfl) rfl ?_
  refine tri_nil ?_
  refine tri_then ?_
  refine tri_block ?_
  refine tri_sub (F' := [(0, .slice a l.length cap), (1, .int .i64 x), (2, .int .i64 y), (3, .int .i64 half), (9, .slice none 0 0), (10, .int .i64 (0 : Nat))]) ⟨rfl, rfl, rfl, rfl, rfl, rfl, trivial⟩ ?_
  refine loop_ind (G := Nat × Option Addr × Nat × List Chunk) (fun g => l.length - g.1) (fun g => g.1 ≤ l.length ∧ SlAt g.2.2.2 g.2.1 (R1.puts (((l.take g.1).map fun c => (⟨c.x - x, c.y - y⟩ : Cell)).filter fun c => decide (RL.cropIn half c))) ∧ I ⊆ g.2.2.2) (fun g => [(0, .slice a l.length cap), (1, .int .i64 x), (2, .int .i64 y), (3, .int .i64 half), (9, .slice g.2.1 (R1.puts (((l.take g.1).map fun c => (⟨c.x - x, c.y - y⟩ : Cell)).filter fun c => decide (RL.cropIn half c))).length g.2.2.1), (10, .int .i64 (g.1 : Nat))]) (fun _ => A) (fun g => g.2.2.2) ?_ (0, none, 0, I) ⟨by omega, SlAt.nil, fun _ h => h⟩
  rintro ⟨i, a1, cap1, I1⟩ ⟨hi, hs1, hI1⟩ K hK
  simp only at hi hs1 hI1 hK ⊢
  have hsm : SlAt I1 a l := hs.mono hI1
  have hl1 := R1.puts_len (((l.take i).map fun c => (⟨c.x - x, c.y - y⟩ : Cell)).filter fun c => decide (RL.cropIn half c))
  have hl2 := List.length_filter_le (fun c => decide (RL.cropIn half c)) ((l.take i).map fun c => (⟨c.x - x, c.y - y⟩ : Cell))
  rw [List.length_map, List.length_take] at hl2
  have es : ∀ h : i < l.length, R1.puts (((l.take (i + 1)).map fun c => (⟨c.x - x, c.y - y⟩ : Cell)).filter fun c => decide (RL.cropIn half c)) = if RL.cropIn half ⟨(l.getD i default).x - x, (l.getD i default).y - y⟩ then R1.put (R1.puts (((l.take i).map fun c => (⟨c.x - x, c.y - y⟩ : Cell)).filter fun c => decide (RL.cropIn half c))) ⟨(l.getD i default).x - x, (l.getD i default).y - y⟩ else R1.puts (((l.take i).map fun c => (⟨c.x - x, c.y - y⟩ : Cell)).filter fun c => decide (RL.cropIn half c)) := fun h => by
    rw [List.take_succ_eq_append_getElem h, List.map_append, List.filter_append, show l.getD i default = l[i] by simp [h]]
    simp only [List.map_cons, List.map_nil]
    split
    · rename_i hc
      rw [List.filter_cons_of_pos (by simpa using hc), List.filter_nil, R1.puts_snoc]
    · rename_i hc
      rw [List.filter_cons_of_neg (by simpa using hc), List.filter_nil, List.append_nil]
  generalize hacc : R1.puts (((l.take i).map fun c => (⟨c.x - x, c.y - y⟩ : Cell)).filter fun c => decide (RL.cropIn half c)) = acc at *
  skip
  refine tri_seq ?_
  refine tri_seq ?_
  refine tri_region ?_
  refine tri_v (opv_move rfl) rfl ?_
  refine tri_v (opv_move rfl) rfl ?_
  refine tri_v (opv_len rfl) rfl ?_
  refine tri_v (opv_lss rfl rfl) rfl ?_
  refine tri_nil ?_
  refine tri_then ?_
  refine tri_cond_dec rfl (fun h => ?_) (fun h => ?_)
  · have hlt : i < l.length := by omega
    have hbi := hb i hlt
    unfold R2.bd at hbi
    have es := es hlt
    refine tri_skip ?_
    refine tri_then ?_
    refine tri_seq ?_
    refine tri_block ?_
    refine tri_seq ?_
    refine tri_cut (fun F' A' J => ∃ b11, F' = [(0, .slice a l.length cap), (1, .int .i64 x), (2, .int .i64 y), (3, .int .i64 half), (9, .slice a1 acc.length cap1), (10, .int .i64 (i : Nat)), (11, pt b11 0)] ∧ A' = Box b11 [.int .i64 ((l.getD i default).x - x), .int .i64 ((l.getD i default).y - y)] 55 :: A ∧ I1 = J) ?_ ?_
    · refine tri_draw [0, 1, 2, 3, 4, 5, 6, 7, 8, 9, 10, 11, 12, 13, 14, 15, 16] rfl [] rfl mixed ?_
      refine th_take rfl rfl (by kernel_rfl)  (opv_move rfl) ?_
      refine th_take rfl rfl (by kernel_rfl)  (opv_move rfl) ?_
      refine th_take rfl rfl (by kernel_rfl)  (opv_indexAddrSN rfl rfl (by omega) (by assumption) rfl) ?_
      refine th_take rfl rfl (by kernel_rfl)  (opv_fieldAddrE rfl (by assumption) (by omega) rfl) ?_
      refine th_take rfl rfl (by kernel_rfl)  (opv_loadE1 rfl (by assumption) rfl (by omega) rfl rfl) ?_
      refine th_take rfl rfl (by kernel_rfl)  (opv_move rfl) ?_
      refine th_take rfl rfl (by kernel_rfl)  (opv_sub rfl rfl (w64 (by omega) (by omega))) ?_
      refine th_take rfl rfl (by kernel_rfl)  (opv_move rfl) ?_
      refine th_take rfl rfl (by kernel_rfl)  (opv_move rfl) ?_
      refine th_take rfl rfl (by kernel_rfl)  (opv_indexAddrSN rfl rfl (by omega) (by assumption) rfl) ?_
      refine th_take rfl rfl (by kernel_rfl)  (opv_fieldAddrE rfl (by assumption) (by omega) rfl) ?_
      refine th_take rfl rfl (by kernel_rfl)  (opv_loadE1 rfl (by assumption) rfl (by omega) rfl rfl) ?_
      refine th_take rfl rfl (by kernel_rfl)  (opv_move rfl) ?_
      refine th_take rfl rfl (by kernel_rfl)  (opv_sub rfl rfl (w64 (by omega) (by omega))) ?_
      refine th_take rfl rfl (by kernel_rfl)  (opv_buildS rfl rfl) ?_
      refine th_one (by kernel_rfl) (step_m rfl rfl opg_alloc ?_)
      rintro _ _ _ ⟨b11, rfl, rfl, rfl⟩
      refine ⟨Suf.h, (fun _ h => h), ?_⟩
      refine th_one (by kernel_rfl) (step_m rfl rfl (opg_store rfl rfl rfl rfl rfl rfl) ?_)
      rintro _ _ _ ⟨rfl, rfl⟩
      refine ⟨Suf.h, (fun _ h => h), ?_⟩
      refine th_done (by kernel_rfl) ?_
      refine tri_cutEnd _ ⟨b11, rfl, rfl, rfl⟩ ⟨rfl, rfl, rfl, rfl, rfl, rfl, rfl, trivial⟩
    · rintro _ _ _ ⟨b11, rfl, rfl, rfl⟩
      refine tri_then ?_
      refine tri_seq ?_
      refine tri_region ?_
      refine tri_v (opv_fieldAddr rfl rfl) rfl ?_
      refine tri_v (opv_load1 rfl rfl rfl) rfl ?_
      refine tri_v (opv_move rfl) rfl ?_
      refine tri_v (opv_negE rfl (by omega) (by omega)) rfl ?_
      refine tri_v (opv_geq rfl rfl) rfl ?_
      refine tri_v (opv_move rfl) rfl ?_
      refine tri_split rfl rfl (fun h1 => ?_) (fun h1 => ?_)
      · refine tri_guard_run rfl rfl rfl ?_
        refine tri_v (opv_fieldAddr rfl rfl) rfl ?_
        refine tri_guard_run rfl rfl rfl ?_
        refine tri_v (opv_load1 rfl rfl rfl) rfl ?_
        refine tri_guard_run rfl rfl rfl ?_
        refine tri_v (opv_move rfl) rfl ?_
        refine tri_guard_run rfl rfl rfl ?_
        refine tri_v (opv_lss rfl rfl) rfl ?_
        refine tri_v (opv_pick_t rfl rfl) rfl ?_
        refine tri_v (opv_move rfl) rfl ?_
        refine tri_split rfl rfl (fun h2 => ?_) (fun h2 => ?_)
        · refine tri_guard_run rfl rfl rfl ?_
          refine tri_v (opv_fieldAddr rfl rfl) rfl ?_
          refine tri_guard_run rfl rfl rfl ?_
          refine tri_v (opv_load1 rfl rfl rfl) rfl ?_
          refine tri_guard_run rfl rfl rfl ?_
          refine tri_v (opv_move rfl) rfl ?_
          refine tri_guard_run rfl rfl rfl ?_
          refine tri_v (opv_negE rfl (by omega) (by omega)) rfl ?_
          refine tri_guard_run rfl rfl rfl ?_
          refine tri_v (opv_geq rfl rfl) rfl ?_
          refine tri_v (opv_pick_t rfl rfl) rfl ?_
          refine tri_v (opv_move rfl) rfl ?_
          refine tri_split rfl rfl (fun h3 => ?_) (fun h3 => ?_)
          · refine tri_guard_run rfl rfl rfl ?_
            refine tri_v (opv_fieldAddr rfl rfl) rfl ?_
            refine tri_guard_run rfl rfl rfl ?_
            refine tri_v (opv_load1 rfl rfl rfl) rfl ?_
            refine tri_guard_run rfl rfl rfl ?_
            refine tri_v (opv_move rfl) rfl ?_
            refine tri_guard_run rfl rfl rfl ?_
            refine tri_v (opv_lss rfl rfl) rfl ?_
            refine tri_v (opv_pick_t rfl rfl) rfl ?_
            refine tri_nil ?_
            refine tri_then ?_
            refine tri_cond_dec rfl (fun h4 => ?_) (fun h4 => ?_)
            · refine tri_region ?_
              refine tri_v (opv_move rfl) rfl ?_
              refine tri_v (opv_loadA rfl rfl rfl) rfl ?_
              have hf : RL.cropIn half ⟨(l.getD i default).x - x, (l.getD i default).y - y⟩ := ⟨⟨h1, h2⟩, h3, h4⟩
              rw [if_pos hf] at es
              refine tri_g (opg_call (xs := [_, _]) rfl (ref01_put (c := ⟨(l.getD i default).x - x, (l.getD i default).y - y⟩) hs1 (by omega))) rfl ?_
              rintro _ _ I2 ⟨a2, cap2, rfl, hs2, rfl, hI2⟩
              refine tri_v (opv_assign rfl) rfl ?_
              refine tri_nil ?_
              refine tri_inBlock ?_
              refine tri_then ?_
              refine tri_region ?_
              refine tri_v (opv_move rfl) rfl ?_
              refine tri_v (opv_add rfl rfl (w64 (by omega) (by omega))) rfl ?_
              refine tri_v (opv_assign rfl) rfl ?_
              refine tri_nil ?_
              refine tri_then ?_
              refine tri_drop ?_
              have hk2 := hK (i + 1, a2, cap2, I2) ⟨by simp only; omega, by simp only [es]; exact hs2, fun _ h => hI2 (hI1 h)⟩ (by simp only; omega)
              simp only [es] at hk2
              refine tri_sub ?_ hk2
              exact ⟨rfl, rfl, rfl, rfl, rfl, rfl, trivial⟩
            · refine tri_skip ?_
              refine tri_inBlock ?_
              refine tri_then ?_
              refine tri_region ?_
              refine tri_v (opv_move rfl) rfl ?_
              refine tri_v (opv_add rfl rfl (w64 (by omega) (by omega))) rfl ?_
              refine tri_v (opv_assign rfl) rfl ?_
              refine tri_nil ?_
              refine tri_then ?_
              have hf : ¬ RL.cropIn half ⟨(l.getD i default).x - x, (l.getD i default).y - y⟩ := fun hf => by
                obtain ⟨⟨g1, g2⟩, g3, g4⟩ := hf
                exact h4 g4
              rw [if_neg hf] at es
              refine tri_drop ?_
              have hk2 := hK (i + 1, a1, cap1, I1) ⟨by simp only; omega, by simp only [es]; exact hs1, hI1⟩ (by simp only; omega)
              simp only [es] at hk2
              refine tri_sub ?_ hk2
              exact ⟨rfl, rfl, rfl, rfl, rfl, rfl, trivial⟩
          · refine tri_guard_skip rfl rfl rfl rfl ?_
            refine tri_guard_skip rfl rfl rfl rfl ?_
            refine tri_guard_skip rfl rfl rfl rfl ?_
            refine tri_guard_skip rfl rfl rfl rfl ?_
            refine tri_v (opv_pick_f rfl rfl) rfl ?_
            refine tri_nil ?_
            refine tri_then ?_
            refine tri_cond_false rfl ?_
            refine tri_skip ?_
            refine tri_inBlock ?_
            refine tri_then ?_
            refine tri_region ?_
            refine tri_v (opv_move rfl) rfl ?_
            refine tri_v (opv_add rfl rfl (w64 (by omega) (by omega))) rfl ?_
            refine tri_v (opv_assign rfl) rfl ?_
            refine tri_nil ?_
            refine tri_then ?_
            have hf : ¬ RL.cropIn half ⟨(l.getD i default).x - x, (l.getD i default).y - y⟩ := fun hf => by
              obtain ⟨⟨g1, g2⟩, g3, g4⟩ := hf
              exact h3 g3
            rw [if_neg hf] at es
            refine tri_drop ?_
            have hk2 := hK (i + 1, a1, cap1, I1) ⟨by simp only; omega, by simp only [es]; exact hs1, hI1⟩ (by simp only; omega)
            simp only [es] at hk2
            refine tri_sub ?_ hk2
            exact ⟨rfl, rfl, rfl, rfl, rfl, rfl, trivial⟩
        · refine tri_guard_skip rfl rfl rfl rfl ?_
          refine tri_guard_skip rfl rfl rfl rfl ?_
          refine tri_guard_skip rfl rfl rfl rfl ?_
          refine tri_guard_skip rfl rfl rfl rfl ?_
          refine tri_guard_skip rfl rfl rfl rfl ?_
          refine tri_v (opv_pick_f rfl rfl) rfl ?_
          refine tri_v (opv_move rfl) rfl ?_
          refine tri_guard_skip rfl rfl rfl rfl ?_
          refine tri_guard_skip rfl rfl rfl rfl ?_
          refine tri_guard_skip rfl rfl rfl rfl ?_
          refine tri_guard_skip rfl rfl rfl rfl ?_
          refine tri_v (opv_pick_f rfl rfl) rfl ?_
          refine tri_nil ?_
          refine tri_then ?_
          refine tri_cond_false rfl ?_
          refine tri_skip ?_
          refine tri_inBlock ?_
          refine tri_then ?_
          refine tri_region ?_
          refine tri_v (opv_move rfl) rfl ?_
          refine tri_v (opv_add rfl rfl (w64 (by omega) (by omega))) rfl ?_
          refine tri_v (opv_assign rfl) rfl ?_
          refine tri_nil ?_
          refine tri_then ?_
          have hf : ¬ RL.cropIn half ⟨(l.getD i default).x - x, (l.getD i default).y - y⟩ := fun hf => by
            obtain ⟨⟨g1, g2⟩, g3, g4⟩ := hf
            exact h2 g2
          rw [if_neg hf] at es
          refine tri_drop ?_
          have hk2 := hK (i + 1, a1, cap1, I1) ⟨by simp only; omega, by simp only [es]; exact hs1, hI1⟩ (by simp only; omega)
          simp only [es] at hk2
          refine tri_sub ?_ hk2
          exact ⟨rfl, rfl, rfl, rfl, rfl, rfl, trivial⟩
      · refine tri_guard_skip rfl rfl rfl rfl ?_
        refine tri_guard_skip rfl rfl rfl rfl ?_
        refine tri_guard_skip rfl rfl rfl rfl ?_
        refine tri_guard_skip rfl rfl rfl rfl ?_
        refine tri_v (opv_pick_f rfl rfl) rfl ?_
        refine tri_v (opv_move rfl) rfl ?_
        refine tri_guard_skip rfl rfl rfl rfl ?_
        refine tri_guard_skip rfl rfl rfl rfl ?_
        refine tri_guard_skip rfl rfl rfl rfl ?_
        refine tri_guard_skip rfl rfl rfl rfl ?_
        refine tri_guard_skip rfl rfl rfl rfl ?_
        refine tri_v (opv_pick_f rfl rfl) rfl ?_
        refine tri_v (opv_move rfl) rfl ?_
        refine tri_guard_skip rfl rfl rfl rfl ?_
        refine tri_guard_skip rfl rfl rfl rfl ?_
        refine tri_guard_skip rfl rfl rfl rfl ?_
        refine tri_guard_skip rfl rfl rfl rfl ?_
        refine tri_v (opv_pick_f rfl rfl) rfl ?_
        refine tri_nil ?_
        refine tri_then ?_
        refine tri_cond_false rfl ?_
        refine tri_skip ?_
        refine tri_inBlock ?_
        refine tri_then ?_
        refine tri_region ?_
        refine tri_v (opv_move rfl) rfl ?_
        refine tri_v (opv_add rfl rfl (w64 (by omega) (by omega))) rfl ?_
        refine tri_v (opv_assign rfl) rfl ?_
        refine tri_nil ?_
        refine tri_then ?_
        have hf : ¬ RL.cropIn half ⟨(l.getD i default).x - x, (l.getD i default).y - y⟩ := fun hf => by
          obtain ⟨⟨g1, g2⟩, g3, g4⟩ := hf
          exact h1 g1
        rw [if_neg hf] at es
        refine tri_drop ?_
        have hk2 := hK (i + 1, a1, cap1, I1) ⟨by simp only; omega, by simp only [es]; exact hs1, hI1⟩ (by simp only; omega)
        simp only [es] at hk2
        refine tri_sub ?_ hk2
        exact ⟨rfl, rfl, rfl, rfl, rfl, rfl, trivial⟩
  · refine tri_exit ?_
    refine tri_then_exit ?_
    refine tri_then_exit ?_
    refine tri_inBlock_hit rfl ?_
    refine tri_then ?_
    refine tri_seq ?_
    refine tri_region ?_
    refine tri_v (opv_move rfl) rfl ?_
    refine tri_v (opv_assign rfl) rfl ?_
    refine tri_nil ?_
    refine tri_then ?_
    refine tri_ret ?_
    have e : i = l.length := by omega
    subst e
    rw [e0, hacc]
    refine tri_end A Suf.h rfl (.cons (rv_tmp rfl) .nil) ⟨a1, cap1, rfl, hs1, rfl, hI1⟩
end Go.GL

set_option linter.unusedVariables false
namespace Go.GL
namespace RL
def awM : List Node × Int × Int := R7.make [R6.n0, R6.n1] 50 [⟨-1, 0⟩, ⟨0, 0⟩, ⟨1, 0⟩] 2
def awA : List Node × Int × Int := R8.step awM.1 50 awM.2.1
def awB : List Node × Int × Int := R8.centre awM.1 50 awM.2.1
def awC : R8.R9 := R8.nine awM.1 50 awM.2.1
def awD : List Node × Int × Int := R8.step awM.1 50 1
set_option maxRecDepth 100000 in
theorem aw_ok : (awM.1.length ≤ 50 ∧ R6.Mod awM.1) ∧ (0 ≤ awA.2.1 ∧ awA.2.1 < awA.1.length ∧ awA.2.2 = 0 ∧ (awA.1.getD awA.2.1.toNat default).kids = [0, 1, 0, 1])
    ∧ (0 ≤ awB.2.1 ∧ awB.2.1 < awB.1.length ∧ awB.2.2 = 0 ∧ (awB.1.getD awB.2.1.toNat default).kids = [0, 0, 1, 1])
    ∧ (awC.2.2 = 0 ∧ ∃ q8, awC.2.1.getD 8 default = q8 ∧ 0 ≤ q8 ∧ q8 < awC.1.length ∧ (awC.1.getD q8.toNat default).kids = [1, 1, 0, 0])
    ∧ (∃ q4, awC.2.1.getD 4 default = q4 ∧ 0 ≤ q4 ∧ q4 < awC.1.length ∧ (awC.1.getD q4.toNat default).kids = [0, 0, 1, 1]) ∧ awD.2.2 = 1 := by
  refine ⟨⟨by decide +kernel, by unfold R6.Mod; decide +kernel⟩, by decide +kernel, by decide +kernel, ⟨by decide +kernel, _, rfl, by decide +kernel⟩, ⟨_, rfl, by decide +kernel⟩, by decide +kernel⟩
end RL
end Go.GL

set_option linter.unusedVariables false
namespace Go.GL
open Go.Proofs
attribute [local irreducible] wpList Code.wp Exit.then Exit.inBlock Ends Tri TriH OpV OpG FnC epf wpAnyH
variable {A : List Asrt} {I : List Chunk}
set_option maxHeartbeats 2000000 in
set_option maxRecDepth 100000 in
theorem law08_awake : FnC Try.prog 9 #[] A I (fun v A' I' => v = .bool true ∧ A = A' ∧ I ⊆ I') := by
  obtain ⟨⟨hml, hmm⟩, ⟨a1, a2, a3, a4⟩, ⟨b1, b2, b3, b4⟩, ⟨c1, p8, hp8, c2, c3, c4⟩, ⟨p4, hp4, d2, d3, d4⟩, e1⟩ := RL.aw_ok
  skip
  refine fn_enter0 Try.func9 rfl Try.ntmps9 rfl fun w0 => ?_
  refine tri_seq ?_
  refine tri_region ?_
  refine tri_v (opv_assign rfl) rfl ?_
  refine tri_nil ?_
  refine tri_then ?_
  refine tri_seq ?_
  refine tri_region ?_
  refine tri_g (opg_call (xs := [_]) rfl (ref06_new)) rfl ?_
  rintro _ _ I0 ⟨a0, cap0, rfl, hs0, rfl, hI0⟩
  rw [show R6.new 50 = ([R6.n0, R6.n1], 50) from by decide] at hs0 ⊢
  refine tri_v (opv_buildS rfl rfl) rfl ?_
  refine tri_v (opv_buildS rfl rfl) rfl ?_
  refine tri_v (opv_buildS rfl rfl) rfl ?_
  refine tri_g (opg_buildSlice rfl rfl rfl rfl) rfl ?_
  rintro _ _ _ ⟨b21, rfl, rfl, rfl⟩
  refine tri_freezeBoxS [(⟨-1, 0⟩ : Cell), ⟨0, 0⟩, ⟨1, 0⟩] rfl fun I1 hI1 hs1 => ?_
  refine tri_g (opg_call (xs := [_, _, _]) rfl (ref07_make (room := 50) (lv := 2) (l := [⟨-1, 0⟩, ⟨0, 0⟩, ⟨1, 0⟩]) (hs0.mono hI1) (by decide) (by unfold R6.Rng; decide) hs1 (by decide))) rfl ?_
  rintro _ _ I2 ⟨a3', cap3, rfl, hs3, rfl, hI2⟩
  rw [show R7.make [R6.n0, R6.n1] 50 [⟨-1, 0⟩, ⟨0, 0⟩, ⟨1, 0⟩] 2 = RL.awM from rfl] at hs3 ⊢
  have eA : R8.step RL.awM.1 50 RL.awM.2.1 = RL.awA := rfl
  have eB : R8.centre RL.awM.1 50 RL.awM.2.1 = RL.awB := rfl
  have eC : R8.nine RL.awM.1 50 RL.awM.2.1 = RL.awC := rfl
  have eD : R8.step RL.awM.1 50 1 = RL.awD := rfl
  generalize RL.awM = M at *
  refine tri_v (opv_move rfl) rfl ?_
  refine tri_v (opv_extract rfl rfl) rfl ?_
  refine tri_v (opv_extract rfl rfl) rfl ?_
  refine tri_v (opv_extract rfl rfl) rfl ?_
  refine tri_g opg_alloc rfl ?_
  rintro _ _ _ ⟨b1, rfl, rfl, rfl⟩
  refine tri_g (opg_store rfl rfl rfl rfl rfl rfl) rfl ?_
  rintro _ _ _ ⟨rfl, rfl⟩
  refine tri_v (opv_assign rfl) rfl ?_
  refine tri_v (opv_assign rfl) rfl ?_
  refine tri_nil ?_
  refine tri_then ?_
  refine tri_seq ?_
  refine tri_region ?_
  refine tri_v (opv_loadA rfl rfl rfl) rfl ?_
  refine tri_v (opv_move rfl) rfl ?_
  refine tri_g (opg_call (xs := [_, _]) rfl (base_step (room := 50) (n := M.2.1) hs3 (by omega))) rfl ?_
  rintro _ _ I3 ⟨a5, cap5, rfl, hs5, rfl, hI3⟩
  rw [eA] at hs5 ⊢
  generalize RL.awA = rA at *
  refine tri_v (opv_move rfl) rfl ?_
  refine tri_v (opv_extract rfl rfl) rfl ?_
  refine tri_v (opv_extract rfl rfl) rfl ?_
  refine tri_v (opv_extract rfl rfl) rfl ?_
  refine tri_g opg_alloc rfl ?_
  rintro _ _ _ ⟨b4, rfl, rfl, rfl⟩
  refine tri_g (opg_store rfl rfl rfl rfl rfl rfl) rfl ?_
  rintro _ _ _ ⟨rfl, rfl⟩
  refine tri_v (opv_assign rfl) rfl ?_
  refine tri_v (opv_assign rfl) rfl ?_
  refine tri_nil ?_
  refine tri_then ?_
  refine tri_seq ?_
  refine tri_region ?_
  refine tri_v (opv_loadA rfl rfl rfl) rfl ?_
  refine tri_v (opv_move rfl) rfl ?_
  refine tri_g (opg_call (xs := [_, _]) rfl (base_centre (room := 50) (n := M.2.1) (hs3.mono hI3) (by omega))) rfl ?_
  rintro _ _ I4 ⟨a6, cap6, rfl, hs6, rfl, hI4⟩
  rw [eB] at hs6 ⊢
  generalize RL.awB = rB at *
  refine tri_v (opv_move rfl) rfl ?_
  refine tri_v (opv_extract rfl rfl) rfl ?_
  refine tri_v (opv_extract rfl rfl) rfl ?_
  refine tri_v (opv_extract rfl rfl) rfl ?_
  refine tri_g opg_alloc rfl ?_
  rintro _ _ _ ⟨b7, rfl, rfl, rfl⟩
  refine tri_g (opg_store rfl rfl rfl rfl rfl rfl) rfl ?_
  rintro _ _ _ ⟨rfl, rfl⟩
  refine tri_v (opv_assign rfl) rfl ?_
  refine tri_v (opv_assign rfl) rfl ?_
  refine tri_nil ?_
  refine tri_then ?_
  refine tri_seq ?_
  refine tri_region ?_
  refine tri_v (opv_loadA rfl rfl rfl) rfl ?_
  refine tri_v (opv_move rfl) rfl ?_
  refine tri_g (opg_call (xs := [_, _]) rfl (base_nine (room := 50) (n := M.2.1) ((hs3.mono hI3).mono hI4) (by omega))) rfl ?_
  rintro _ _ I5 ⟨a7, cap7, q0, q1, q2, q3, q4, q5, q6, q7, q8, hq, rfl, hs7, rfl, hI5⟩
  rw [eC] at hs7 hq ⊢
  generalize RL.awC = rC at *
  rw [hq] at hp8 hp4
  have ep8 : q8 = p8 := hp8
  have ep4 : q4 = p4 := hp4
  subst ep8; subst ep4
  refine tri_v (opv_move rfl) rfl ?_
  refine tri_v (opv_extract rfl rfl) rfl ?_
  refine tri_v (opv_extract rfl rfl) rfl ?_
  refine tri_v (opv_extract rfl rfl) rfl ?_
  refine tri_g opg_alloc rfl ?_
  rintro _ _ _ ⟨b10, rfl, rfl, rfl⟩
  refine tri_g opg_alloc rfl ?_
  rintro _ _ _ ⟨b11, rfl, rfl, rfl⟩
  refine tri_g (opg_store rfl rfl rfl rfl rfl rfl) rfl ?_
  rintro _ _ _ ⟨rfl, rfl⟩
  refine tri_g (opg_store rfl rfl rfl rfl rfl rfl) rfl ?_
  rintro _ _ _ ⟨rfl, rfl⟩
  refine tri_v (opv_assign rfl) rfl ?_
  refine tri_nil ?_
  refine tri_then ?_
  refine tri_seq ?_
  refine tri_region ?_
  refine tri_v (opv_loadA rfl rfl rfl) rfl ?_
  refine tri_g (opg_call (xs := [_, _]) rfl (base_step (room := 50) (n := 1) (((hs3.mono hI3).mono hI4).mono hI5) (by omega))) rfl ?_
  rintro _ _ I6 ⟨a8, cap8, rfl, hs8, rfl, hI6⟩
  rw [eD] at hs8 ⊢
  generalize RL.awD = rD at *
  have sA : SlAt I6 a5 rA.1 := (((hs5.mono hI4).mono hI5).mono hI6).sl
  have sB : SlAt I6 a6 rB.1 := ((hs6.mono hI5).mono hI6).sl
  have sC : SlAt I6 a7 rC.1 := (hs7.mono hI6).sl
  refine tri_v (opv_move rfl) rfl ?_
  refine tri_v (opv_extract rfl rfl) rfl ?_
  refine tri_v (opv_extract rfl rfl) rfl ?_
  refine tri_v (opv_extract rfl rfl) rfl ?_
  refine tri_g opg_alloc rfl ?_
  rintro _ _ _ ⟨b13, rfl, rfl, rfl⟩
  refine tri_g (opg_store rfl rfl rfl rfl rfl rfl) rfl ?_
  rintro _ _ _ ⟨rfl, rfl⟩
  refine tri_v (opv_assign rfl) rfl ?_
  refine tri_v (opv_assign rfl) rfl ?_
  refine tri_nil ?_
  refine tri_then ?_
  refine tri_seq ?_
  refine tri_seq ?_
  refine tri_region ?_
  refine tri_v (opv_move rfl) rfl ?_
  refine tri_v (opv_fieldAddr rfl rfl) rfl ?_
  refine tri_v (opv_load1 rfl rfl rfl) rfl ?_
  refine tri_v (opv_len rfl) rfl ?_
  refine tri_v (opv_geq rfl rfl) rfl ?_
  refine tri_v (opv_move rfl) rfl ?_
  refine tri_false rfl rfl (by omega) ?_
  refine tri_guard_run rfl rfl rfl ?_
  refine tri_v (opv_move rfl) rfl ?_
  refine tri_guard_run rfl rfl rfl ?_
  refine tri_v (opv_fieldAddr rfl rfl) rfl ?_
  refine tri_guard_run rfl rfl rfl ?_
  refine tri_v (opv_load1 rfl rfl rfl) rfl ?_
  refine tri_guard_run rfl rfl rfl ?_
  refine tri_v (opv_len rfl) rfl ?_
  refine tri_guard_run rfl rfl rfl ?_
  refine tri_v (opv_geq rfl rfl) rfl ?_
  refine tri_v (opv_pick_f rfl rfl) rfl ?_
  refine tri_v (opv_move rfl) rfl ?_
  refine tri_false rfl rfl (by omega) ?_
  refine tri_guard_run rfl rfl rfl ?_
  refine tri_v (opv_indexAddrA rfl rfl (by decide) (by decide)) rfl ?_
  refine tri_guard_run rfl rfl rfl ?_
  refine tri_v (opv_load1 rfl rfl rfl) rfl ?_
  refine tri_guard_run rfl rfl rfl ?_
  refine tri_v (opv_fieldAddr rfl rfl) rfl ?_
  refine tri_guard_run rfl rfl rfl ?_
  refine tri_v (opv_load1 rfl rfl rfl) rfl ?_
  refine tri_guard_run rfl rfl rfl ?_
  refine tri_v (opv_len rfl) rfl ?_
  refine tri_guard_run rfl rfl rfl ?_
  refine tri_v (opv_geq rfl rfl) rfl ?_
  refine tri_v (opv_pick_f rfl rfl) rfl ?_
  refine tri_nil ?_
  refine tri_then ?_
  refine tri_cond_not rfl (by omega) ?_
  refine tri_skip ?_
  refine tri_then ?_
  refine tri_seq ?_
  refine tri_region ?_
  refine tri_v (opv_move rfl) rfl ?_
  refine tri_v (opv_eql rfl rfl) rfl ?_
  refine tri_v (opv_move rfl) rfl ?_
  refine tri_true rfl rfl (a3) ?_
  refine tri_guard_run rfl rfl rfl ?_
  refine tri_v (opv_fieldAddr rfl rfl) rfl ?_
  refine tri_guard_run rfl rfl rfl ?_
  refine tri_v (opv_load1 rfl rfl rfl) rfl ?_
  refine tri_guard_run rfl rfl rfl ?_
  refine tri_v (opv_move rfl) rfl ?_
  refine tri_guard_run rfl rfl rfl ?_
  refine tri_v (opv_indexAddrS rfl rfl (by omega) (by omega) (by assumption) rfl) rfl ?_
  refine tri_guard_run rfl rfl rfl ?_
  refine tri_v (opv_fieldAddrE rfl (by assumption) (by omega) rfl) rfl ?_
  refine tri_guard_run rfl rfl rfl ?_
  refine tri_v (opv_loadEA rfl (by assumption) rfl (by omega) rfl rfl) rfl ?_
  refine tri_guard_run rfl rfl rfl ?_
  refine tri_v (opv_buildA rfl rfl) rfl ?_
  refine tri_guard_run rfl rfl rfl ?_
  refine tri_v (opv_eqlI rfl rfl rfl rfl rfl rfl) rfl ?_
  refine tri_v (opv_pick_t rfl rfl) rfl ?_
  refine tri_v (opv_move rfl) rfl ?_
  refine tri_true rfl rfl (a4) ?_
  refine tri_guard_run rfl rfl rfl ?_
  refine tri_v (opv_move rfl) rfl ?_
  refine tri_guard_run rfl rfl rfl ?_
  refine tri_v (opv_eql rfl rfl) rfl ?_
  refine tri_v (opv_pick_t rfl rfl) rfl ?_
  refine tri_v (opv_move rfl) rfl ?_
  refine tri_true rfl rfl (b3) ?_
  refine tri_guard_run rfl rfl rfl ?_
  refine tri_v (opv_fieldAddr rfl rfl) rfl ?_
  refine tri_guard_run rfl rfl rfl ?_
  refine tri_v (opv_load1 rfl rfl rfl) rfl ?_
  refine tri_guard_run rfl rfl rfl ?_
  refine tri_v (opv_move rfl) rfl ?_
  refine tri_guard_run rfl rfl rfl ?_
  refine tri_v (opv_indexAddrS rfl rfl (by omega) (by omega) (by assumption) rfl) rfl ?_
  refine tri_guard_run rfl rfl rfl ?_
  refine tri_v (opv_fieldAddrE rfl (by assumption) (by omega) rfl) rfl ?_
  refine tri_guard_run rfl rfl rfl ?_
  refine tri_v (opv_loadEA rfl (by assumption) rfl (by omega) rfl rfl) rfl ?_
  refine tri_guard_run rfl rfl rfl ?_
  refine tri_v (opv_buildA rfl rfl) rfl ?_
  refine tri_guard_run rfl rfl rfl ?_
  refine tri_v (opv_eqlI rfl rfl rfl rfl rfl rfl) rfl ?_
  refine tri_v (opv_pick_t rfl rfl) rfl ?_
  refine tri_v (opv_move rfl) rfl ?_
  refine tri_true rfl rfl (b4) ?_
  refine tri_guard_run rfl rfl rfl ?_
  refine tri_v (opv_move rfl) rfl ?_
  refine tri_guard_run rfl rfl rfl ?_
  refine tri_v (opv_eql rfl rfl) rfl ?_
  refine tri_v (opv_pick_t rfl rfl) rfl ?_
  refine tri_v (opv_move rfl) rfl ?_
  refine tri_true rfl rfl (c1) ?_
  refine tri_guard_run rfl rfl rfl ?_
  refine tri_v (opv_fieldAddr rfl rfl) rfl ?_
  refine tri_guard_run rfl rfl rfl ?_
  refine tri_v (opv_load1 rfl rfl rfl) rfl ?_
  refine tri_guard_run rfl rfl rfl ?_
  refine tri_v (opv_indexAddrA rfl rfl (by decide) (by decide)) rfl ?_
  refine tri_guard_run rfl rfl rfl ?_
  refine tri_v (opv_load1 rfl rfl rfl) rfl ?_
  refine tri_guard_run rfl rfl rfl ?_
  refine tri_v (opv_indexAddrS rfl rfl (by omega) (by omega) (by assumption) rfl) rfl ?_
  refine tri_guard_run rfl rfl rfl ?_
  refine tri_v (opv_fieldAddrE rfl (by assumption) (by omega) rfl) rfl ?_
  refine tri_guard_run rfl rfl rfl ?_
  refine tri_v (opv_loadEA rfl (by assumption) rfl (by omega) rfl rfl) rfl ?_
  refine tri_guard_run rfl rfl rfl ?_
  refine tri_v (opv_buildA rfl rfl) rfl ?_
  refine tri_guard_run rfl rfl rfl ?_
  refine tri_v (opv_eqlI rfl rfl rfl rfl rfl rfl) rfl ?_
  refine tri_v (opv_pick_t rfl rfl) rfl ?_
  refine tri_v (opv_move rfl) rfl ?_
  refine tri_true rfl rfl (c4) ?_
  refine tri_guard_run rfl rfl rfl ?_
  refine tri_v (opv_indexAddrA rfl rfl (by decide) (by decide)) rfl ?_
  refine tri_guard_run rfl rfl rfl ?_
  refine tri_v (opv_load1 rfl rfl rfl) rfl ?_
  refine tri_guard_run rfl rfl rfl ?_
  refine tri_v (opv_fieldAddr rfl rfl) rfl ?_
  refine tri_guard_run rfl rfl rfl ?_
  refine tri_v (opv_load1 rfl rfl rfl) rfl ?_
  refine tri_guard_run rfl rfl rfl ?_
  refine tri_v (opv_len rfl) rfl ?_
  refine tri_guard_run rfl rfl rfl ?_
  refine tri_v (opv_lss rfl rfl) rfl ?_
  refine tri_v (opv_pick_t rfl rfl) rfl ?_
  refine tri_v (opv_move rfl) rfl ?_
  refine tri_true rfl rfl (by omega) ?_
  refine tri_guard_run rfl rfl rfl ?_
  refine tri_v (opv_fieldAddr rfl rfl) rfl ?_
  refine tri_guard_run rfl rfl rfl ?_
  refine tri_v (opv_load1 rfl rfl rfl) rfl ?_
  refine tri_guard_run rfl rfl rfl ?_
  refine tri_v (opv_indexAddrA rfl rfl (by decide) (by decide)) rfl ?_
  refine tri_guard_run rfl rfl rfl ?_
  refine tri_v (opv_load1 rfl rfl rfl) rfl ?_
  refine tri_guard_run rfl rfl rfl ?_
  refine tri_v (opv_indexAddrS rfl rfl (by omega) (by omega) (by assumption) rfl) rfl ?_
  refine tri_guard_run rfl rfl rfl ?_
  refine tri_v (opv_fieldAddrE rfl (by assumption) (by omega) rfl) rfl ?_
  refine tri_guard_run rfl rfl rfl ?_
  refine tri_v (opv_loadEA rfl (by assumption) rfl (by omega) rfl rfl) rfl ?_
  refine tri_guard_run rfl rfl rfl ?_
  refine tri_v (opv_buildA rfl rfl) rfl ?_
  refine tri_guard_run rfl rfl rfl ?_
  refine tri_v (opv_eqlI rfl rfl rfl rfl rfl rfl) rfl ?_
  refine tri_v (opv_pick_t rfl rfl) rfl ?_
  refine tri_v (opv_move rfl) rfl ?_
  refine tri_true rfl rfl (d4) ?_
  refine tri_guard_run rfl rfl rfl ?_
  refine tri_v (opv_move rfl) rfl ?_
  refine tri_guard_run rfl rfl rfl ?_
  refine tri_v (opv_eql rfl rfl) rfl ?_
  refine tri_v (opv_pick_t rfl rfl) rfl ?_
  refine tri_v (opv_assign rfl) rfl ?_
  refine tri_nil ?_
  refine tri_then ?_
  refine tri_ret ?_
  refine tri_end A Suf.h rfl (.cons (rv_tmp rfl) .nil) ⟨congrArg Value.bool (decide_eq_true e1), rfl, fun _ h => hI6 (hI5 (hI4 (hI3 (hI2 (hI1 (hI0 h))))))⟩
end Go.GL

set_option linter.unusedVariables false
namespace Go.GL
open Go.Proofs
attribute [local irreducible] wpList Code.wp Exit.then Exit.inBlock Ends Tri TriH OpV OpG FnC epf wpAnyH
variable {A : List Asrt} {I : List Chunk}
/-- A store's head. -/
structure Sto where
  a : Option Addr
  len : Nat
  cap : Nat
  room : Int
  deriving Inhabited
instance : Enc Sto := ⟨fun s => [.slice s.a s.len s.cap, .int .i64 s.room], 2, fun _ => rfl, fun _ => rfl⟩
theorem R6.put_le (ns : List Node) (room q0 q1 q2 q3 : Int) : (R6.put ns room q0 q1 q2 q3).1.length ≤ ns.length + 1 := by
  unfold R6.put
  split
  · split
    · simp
    · split
      · simp
      · simp
  · simp
theorem R8.centre_len (ns : List Node) (room n : Int) : (R8.centre ns room n).1.length ≤ ns.length + 1 := by
  unfold R8.centre; split
  · exact R6.put_le _ _ _ _ _ _
  · simp
theorem R8.step_len (ns : List Node) (room n : Int) : (R8.step ns room n).1.length ≤ ns.length + 1 := by
  unfold R8.step; split
  · exact R6.put_le _ _ _ _ _ _
  · simp
theorem R8.nine_len (ns : List Node) (room n : Int) : (R8.nine ns room n).1.length ≤ ns.length + 9 := by
  unfold R8.nine; split
  · unfold R8.all
    have h := fun ns room l y x => R6.put_le ns room (R8.g l (4 * y + x)) (R8.g l (4 * y + x + 1)) (R8.g l (4 * y + x + 4)) (R8.g l (4 * y + x + 5))
    dsimp only
    generalize R8.s16 ns n = l
    generalize e0 : R8.putSq ns room l 0 0 = p0
    have h0 : p0.1.length ≤ ns.length + 1 := e0 ▸ h ns room l 0 0
    generalize e1 : R8.putSq p0.1 room l 0 1 = p1
    have h1 : p1.1.length ≤ p0.1.length + 1 := e1 ▸ h p0.1 room l 0 1
    generalize e2 : R8.putSq p1.1 room l 0 2 = p2
    have h2 : p2.1.length ≤ p1.1.length + 1 := e2 ▸ h p1.1 room l 0 2
    generalize e3 : R8.putSq p2.1 room l 1 0 = p3
    have h3 : p3.1.length ≤ p2.1.length + 1 := e3 ▸ h p2.1 room l 1 0
    generalize e4 : R8.putSq p3.1 room l 1 1 = p4
    have h4 : p4.1.length ≤ p3.1.length + 1 := e4 ▸ h p3.1 room l 1 1
    generalize e5 : R8.putSq p4.1 room l 1 2 = p5
    have h5 : p5.1.length ≤ p4.1.length + 1 := e5 ▸ h p4.1 room l 1 2
    generalize e6 : R8.putSq p5.1 room l 2 0 = p6
    have h6 : p6.1.length ≤ p5.1.length + 1 := e6 ▸ h p5.1 room l 2 0
    generalize e7 : R8.putSq p6.1 room l 2 1 = p7
    have h7 : p7.1.length ≤ p6.1.length + 1 := e7 ▸ h p6.1 room l 2 1
    generalize e8 : R8.putSq p7.1 room l 2 2 = p8
    have h8 : p8.1.length ≤ p7.1.length + 1 := e8 ▸ h p7.1 room l 2 2
    repeat' split
    all_goals simp only
    all_goals omega
  · simp
theorem R7.make_good {ns : List Node} {room : Int} (h : R6.Good ns room) (l : List Cell) (lv : Int) : R6.Good (R7.make ns room l lv).1 room := by
  unfold R7.make
  split
  · split
    · dsimp only
      split
      · exact h
      · exact R7.build_good room _ _ _ h
    · exact h
  · exact h
theorem RL.square_good (c : Int) (nodes : List Five) (raw : List Cell) (level : Int) : R6.Good (RL.square c nodes raw level).1 (RL.room c + 500) := by
  have hrm := RL.room_bd c
  have hg := RL.store_good (rm := RL.room c) (by omega) (by omega) nodes
  exact R7.make_good ⟨hg.mod, hg.len, by omega⟩ _ _
set_option maxHeartbeats 2000000 in
set_option maxRecDepth 100000 in
theorem law08_tells {nodes : List Five} {raw : List Cell} {os : List Node} {a a2 a3 : Option Addr} {cap cap2 cap3 : Nat} {c level rm n : Int} (h0 : I64 c) (hs : SlAt I a nodes) (hf : RL.Fs nodes) (hs2 : SlAt I a2 raw) (hc : RL.Cs raw) (hl : I64 level)
    (hs3 : StA I a3 cap3 os) (hr : R6.Rng os) (hni : I64 n) :
    FnC Try.prog 3 [.int .i64 c, .slice a nodes.length cap, .slice a2 raw.length cap2, .int .i64 level, storeV a3 os.length cap3 rm, .int .i64 n].toArray A I (fun v A' I' => v = .bool true ∧ A = A' ∧ I ⊆ I') := by
  skip
  refine fn_enter6 Try.func3 rfl Try.ntmps3 rfl fun w0 => ?_
  refine tri_seq ?_
  refine tri_region ?_
  refine tri_g (opg_box_agg rfl) rfl ?_
  rintro _ _ _ ⟨b10, rfl, rfl, rfl⟩
  refine tri_v (opv_assign rfl) rfl ?_
  refine tri_nil ?_
  refine tri_then ?_
  refine tri_seq ?_
  refine tri_region ?_
  refine tri_g (opg_call (xs := []) rfl (law08_awake)) rfl ?_
  rintro _ _ I0 ⟨rfl, rfl, hI0⟩
  refine tri_v (opv_assign rfl) rfl ?_
  refine tri_nil ?_
  refine tri_then ?_
  refine tri_seq ?_
  refine tri_region ?_
  refine tri_v (opv_move rfl) rfl ?_
  refine tri_v (opv_move rfl) rfl ?_
  refine tri_v (opv_move rfl) rfl ?_
  refine tri_v (opv_move rfl) rfl ?_
  refine tri_g (opg_call (xs := [_, _, _, _]) rfl (law07_square h0 (hs.mono hI0) hf (hs2.mono hI0) hc hl)) rfl ?_
  rintro _ _ I1 ⟨a4, cap4, rfl, hs4, rfl, hI1⟩
  have hgd : (RL.square c nodes raw level).1.length ≤ 1000000000 ∧ R6.Rng (RL.square c nodes raw level).1 := ⟨(RL.square_good c nodes raw level).len, (RL.square_good c nodes raw level).mod.rng⟩
  generalize hsq : RL.square c nodes raw level = sq at *
  refine tri_v (opv_move rfl) rfl ?_
  refine tri_v (opv_extract rfl rfl) rfl ?_
  refine tri_v (opv_extract rfl rfl) rfl ?_
  refine tri_g opg_alloc rfl ?_
  rintro _ _ _ ⟨b14, rfl, rfl, rfl⟩
  refine tri_g (opg_store rfl rfl rfl rfl rfl rfl) rfl ?_
  rintro _ _ _ ⟨rfl, rfl⟩
  refine tri_v (opv_assign rfl) rfl ?_
  refine tri_nil ?_
  refine tri_then ?_
  refine tri_seq ?_
  refine tri_seq ?_
  refine tri_region ?_
  refine tri_v (opv_loadA rfl rfl rfl) rfl ?_
  refine tri_v (opv_loadA rfl rfl rfl) rfl ?_
  refine tri_g (opg_buildSlice rfl rfl rfl rfl) rfl ?_
  rintro _ _ _ ⟨b39, rfl, rfl, rfl⟩
  refine tri_v (opv_len rfl) rfl ?_
  refine tri_v (opv_move rfl) rfl ?_
  refine tri_nil ?_
  refine tri_then ?_
  refine tri_block ?_
  refine tri_freezeBoxS [(⟨a4, sq.1.length, cap4, RL.room c + 500⟩ : Sto), ⟨a3, os.length, cap3, rm⟩] rfl fun I2 hI2 hs5 => ?_
  have hst : ∀ i, i < 2 → ∃ ns : List Node, StA I2 (([(⟨a4, sq.1.length, cap4, RL.room c + 500⟩ : Sto), ⟨a3, os.length, cap3, rm⟩] : List Sto).getD i default).a (([(⟨a4, sq.1.length, cap4, RL.room c + 500⟩ : Sto), ⟨a3, os.length, cap3, rm⟩] : List Sto).getD i default).cap ns ∧ (([(⟨a4, sq.1.length, cap4, RL.room c + 500⟩ : Sto), ⟨a3, os.length, cap3, rm⟩] : List Sto).getD i default).len = ns.length ∧ R6.Rng ns := by
    intro i hi
    rcases (by omega : i = 0 ∨ i = 1) with rfl | rfl
    · exact ⟨sq.1, hs4.mono hI2, rfl, hgd.2⟩
    · exact ⟨os, ((hs3.mono hI0).mono hI1).mono hI2, rfl, hr⟩
  generalize hls : ([(⟨a4, sq.1.length, cap4, RL.room c + 500⟩ : Sto), ⟨a3, os.length, cap3, rm⟩] : List Sto) = ss at *
  have hls2 : ss.length = 2 := by rw [← hls]; rfl
  have hI02 : I ⊆ I2 := fun _ h => hI2 (hI1 (hI0 h))
  skip
  refine tri_drop ?_
  refine tri_drop ?_
  refine tri_sub (F' := [(5, .int .i64 n), (13, .bool true), (15, .int .i64 sq.2.1), (39, .slice (some ⟨b39, 0, none⟩) ss.length 2), (40, .int .i64 (2 : Nat)), (41, .int .i64 (0 : Nat))]) ⟨rfl, rfl, rfl, by rw [hls2]; rfl, rfl, rfl, trivial⟩ ?_
  refine loop_ind (G := Nat × List Chunk) (fun g => 2 - g.1) (fun g => g.1 ≤ 2 ∧ I2 ⊆ g.2) (fun g => [(5, .int .i64 n), (13, .bool true), (15, .int .i64 sq.2.1), (39, .slice (some ⟨b39, 0, none⟩) ss.length 2), (40, .int .i64 (2 : Nat)), (41, .int .i64 (g.1 : Nat))]) (fun _ => A) (fun g => g.2) ?_ (0, I2) ⟨by omega, fun _ h => h⟩
  rintro ⟨i, J0⟩ ⟨hi, hJ0⟩ K hK
  simp only at hi hJ0 hK ⊢
  skip
  refine tri_seq ?_
  refine tri_region ?_
  refine tri_v (opv_lss rfl rfl) rfl ?_
  refine tri_nil ?_
  refine tri_then ?_
  refine tri_seq ?_
  refine tri_cond_dec rfl (fun h => ?_) (fun h => ?_)
  · have hi2 : i < 2 := by omega
    obtain ⟨ns, hns, hlen, hrr⟩ := hst i hi2
    have hs5' := hs5.mono hJ0
    have hns' := hns.mono hJ0
    refine tri_skip ?_
    refine tri_then ?_
    refine tri_seq ?_
    refine tri_block ?_
    refine tri_seq ?_
    refine tri_region ?_
    refine tri_v (opv_indexAddrSN rfl rfl (by omega) (by assumption) rfl) rfl ?_
    refine tri_v (opv_loadEA rfl (by assumption) rfl (by omega) rfl rfl) rfl ?_
    refine tri_g opg_alloc rfl ?_
    rintro _ _ _ ⟨b17, rfl, rfl, rfl⟩
    refine tri_g (opg_store rfl rfl rfl rfl rfl rfl) rfl ?_
    rintro _ _ _ ⟨rfl, rfl⟩
    refine tri_nil ?_
    refine tri_then ?_
    refine tri_seq ?_
    refine tri_seq ?_
    refine tri_region ?_
    refine tri_v (opv_fieldAddr rfl rfl) rfl ?_
    refine tri_v (opv_load1 rfl rfl rfl) rfl ?_
    refine tri_v (opv_len rfl) rfl ?_
    refine tri_v (opv_gtr rfl rfl) rfl ?_
    refine tri_nil ?_
    refine tri_then ?_
    rw [hlen] at *
    refine tri_cond_dec rfl (fun hbig => ?_) (fun hbig => ?_)
    · refine tri_exit ?_
      refine tri_then_exit ?_
      refine tri_inBlock_hit rfl ?_
      refine tri_then ?_
      refine tri_region ?_
      refine tri_v (opv_add rfl rfl (w64 (by omega) (by omega))) rfl ?_
      refine tri_v (opv_move rfl) rfl ?_
      refine tri_nil ?_
      refine tri_then ?_
      refine tri_drop ?_
      refine tri_sub ?_ (hK (i + 1, J0) ⟨by simp only; omega, hJ0⟩ (by simp only; omega))
      exact ⟨rfl, rfl, rfl, rfl, rfl, rfl, trivial⟩
    · have hp := pk_bd (c := n) (n := ns.length + 1) (by omega)
      refine tri_skip ?_
      refine tri_then ?_
      refine tri_seq ?_
      refine tri_draw [0, 1, 2, 3, 4, 5, 7, 8, 9, 10, 11, 12, 13, 14, 15, 16, 22, 6, 17, 18, 19, 20, 21] rfl [] rfl mixed ?_
      refine th_take rfl rfl (by kernel_rfl)  (opv_move rfl) ?_
      refine th_take rfl rfl (by kernel_rfl)  (opv_move rfl) ?_
      refine th_take rfl rfl (by kernel_rfl)  (opv_fieldAddr rfl rfl) ?_
      refine th_take rfl rfl (by kernel_rfl)  (opv_load1 rfl rfl rfl) ?_
      refine th_take rfl rfl (by kernel_rfl)  (opv_len rfl) ?_
      refine th_take rfl rfl (by kernel_rfl)  (opv_add rfl rfl (w64 (by omega) (by omega))) ?_
      refine th_take rfl rfl (by kernel_rfl)  (opv_move rfl) ?_
      refine th_take rfl rfl (by kernel_rfl)  (opv_fieldAddr rfl rfl) ?_
      refine th_take rfl rfl (by kernel_rfl)  (opv_load1 rfl rfl rfl) ?_
      refine th_take rfl rfl (by kernel_rfl)  (opv_len rfl) ?_
      refine th_take rfl rfl (by kernel_rfl)  (opv_sub rfl rfl (w64 (by omega) (by omega))) ?_
      refine th_take rfl rfl (by kernel_rfl)  (opv_move rfl) ?_
      refine th_take rfl rfl (by kernel_rfl)  (opv_fieldAddr rfl rfl) ?_
      refine th_take rfl rfl (by kernel_rfl)  (opv_load1 rfl rfl rfl) ?_
      refine th_take rfl rfl (by kernel_rfl)  (opv_len rfl) ?_
      refine th_take rfl rfl (by kernel_rfl)  (opv_add rfl rfl (w64 (by omega) (by omega))) ?_
      refine th_take rfl rfl (by kernel_rfl)  (opv_move rfl) ?_
      refine th_one (by kernel_rfl) (step_m rfl rfl (opg_call (xs := [_, _]) rfl (law08_pick hni.1 hni.2 (by omega))) ?_)
      rintro _ _ _ ⟨rfl, rfl, rfl⟩
      refine ⟨Suf.h, (fun _ h => h), ?_⟩
      skip
      refine th_one (by kernel_rfl) (step_m rfl rfl (opg_call (xs := [_, _]) rfl (law08_pick hni.1 hni.2 (by omega))) ?_)
      rintro _ _ _ ⟨rfl, rfl, rfl⟩
      refine ⟨Suf.h, (fun _ h => h), ?_⟩
      refine th_take rfl rfl (by kernel_rfl)  (opv_quoE rfl rfl (by omega) (by omega) (by omega)) ?_
      refine th_take rfl rfl (by kernel_rfl)  (opv_sub rfl rfl (w64 (by omega) (by omega))) ?_
      refine th_one (by kernel_rfl) (step_m rfl rfl (opg_buildSlice rfl rfl rfl rfl) ?_)
      rintro _ _ _ ⟨b69, rfl, rfl, rfl⟩
      refine ⟨Suf.h, (fun _ h => h), ?_⟩
      refine th_take rfl rfl (by kernel_rfl)  (opv_len rfl) ?_
      refine th_done (by kernel_rfl) ?_
      refine tri_then ?_
      refine tri_block ?_
      refine tri_freezeBoxS [n, pk n ((ns.length : Int) + 1), sq.2.1, (ns.length : Int) - 1 - pk n ((ns.length : Int) + 1) / 2] rfl fun I3 hI3 hs6 => ?_
      generalize hms : ([n, pk n ((ns.length : Int) + 1), sq.2.1, (ns.length : Int) - 1 - pk n ((ns.length : Int) + 1) / 2] : List Int) = ms at *
      have hms2 : ms.length = 4 := by rw [← hms]; rfl
      refine tri_sub (F' := [(5, .int .i64 n), (13, .bool true), (15, .int .i64 sq.2.1), (17, pt b17 0), (39, .slice (some ⟨b39, 0, none⟩) ss.length 2), (40, .int .i64 (2 : Nat)), (41, .int .i64 (i : Nat)), (69, .slice (some ⟨b69, 0, none⟩) ms.length 4), (70, .int .i64 (4 : Nat)), (71, .int .i64 (0 : Nat))]) ⟨rfl, rfl, rfl, rfl, rfl, rfl, rfl, by rw [hms2]; rfl, rfl, rfl, trivial⟩ ?_
      refine loop_ind (G := Nat × List Chunk) (fun g => 4 - g.1) (fun g => g.1 ≤ 4 ∧ I3 ⊆ g.2) (fun g => [(5, .int .i64 n), (13, .bool true), (15, .int .i64 sq.2.1), (17, pt b17 0), (39, .slice (some ⟨b39, 0, none⟩) ss.length 2), (40, .int .i64 (2 : Nat)), (41, .int .i64 (i : Nat)), (69, .slice (some ⟨b69, 0, none⟩) ms.length 4), (70, .int .i64 (4 : Nat)), (71, .int .i64 (g.1 : Nat))]) (fun _ => Box b17 [.slice (ss.getD i default).a ns.length (ss.getD i default).cap, .int .i64 (ss.getD i default).room] 26 :: A) (fun g => g.2) ?_ (0, I3) ⟨by omega, fun _ h => h⟩
      rintro ⟨j, J1⟩ ⟨hj, hJ1⟩ K2 hK2
      simp only at hj hJ1 hK2 ⊢
      have hns2 := (hns'.mono hI3).mono hJ1
      have hs6' := hs6.mono hJ1
      skip
      refine tri_seq ?_
      refine tri_region ?_
      refine tri_v (opv_lss rfl rfl) rfl ?_
      refine tri_nil ?_
      refine tri_then ?_
      refine tri_seq ?_
      refine tri_cond_dec rfl (fun h3 => ?_) (fun h3 => ?_)
      · refine tri_skip ?_
        refine tri_then ?_
        refine tri_seq ?_
        refine tri_block ?_
        refine tri_seq ?_
        refine tri_region ?_
        refine tri_v (opv_indexAddrSN rfl rfl (by omega) (by assumption) rfl) rfl ?_
        refine tri_v (opv_loadE1 rfl (by assumption) rfl (by omega) rfl rfl) rfl ?_
        refine tri_v (opv_assign rfl) rfl ?_
        refine tri_nil ?_
        refine tri_then ?_
        refine tri_seq ?_
        refine tri_region ?_
        refine tri_v (opv_loadA rfl rfl rfl) rfl ?_
        refine tri_v (opv_move rfl) rfl ?_
        have lc := R8.centre_len ns (ss.getD i default).room (ms.getD j default)
        have ls := R8.step_len ns (ss.getD i default).room (ms.getD j default)
        have ln := R8.nine_len ns (ss.getD i default).room (ms.getD j default)
        refine tri_g (opg_call (xs := [_, _]) rfl (base_centre (room := (ss.getD i default).room) (n := ms.getD j default) hns2 (by omega))) rfl ?_
        rintro _ _ J2 ⟨x0, y0, rfl, g0, rfl, hJ2⟩
        refine tri_v (opv_move rfl) rfl ?_
        refine tri_v (opv_extract rfl rfl) rfl ?_
        refine tri_v (opv_extract rfl rfl) rfl ?_
        refine tri_v (opv_extract rfl rfl) rfl ?_
        refine tri_g opg_alloc rfl ?_
        rintro _ _ _ ⟨b20, rfl, rfl, rfl⟩
        refine tri_g (opg_store rfl rfl rfl rfl rfl rfl) rfl ?_
        rintro _ _ _ ⟨rfl, rfl⟩
        refine tri_v (opv_assign rfl) rfl ?_
        refine tri_v (opv_assign rfl) rfl ?_
        refine tri_nil ?_
        refine tri_then ?_
        refine tri_seq ?_
        refine tri_region ?_
        refine tri_v (opv_loadA rfl rfl rfl) rfl ?_
        refine tri_v (opv_move rfl) rfl ?_
        refine tri_g (opg_call (xs := [_, _]) rfl (ref08_centre (room := (ss.getD i default).room) (n := ms.getD j default) (hns2.mono hJ2) (by omega) hrr)) rfl ?_
        rintro _ _ J3 ⟨x1, y1, rfl, g1, rfl, hJ3⟩
        refine tri_v (opv_move rfl) rfl ?_
        refine tri_v (opv_extract rfl rfl) rfl ?_
        refine tri_v (opv_extract rfl rfl) rfl ?_
        refine tri_v (opv_extract rfl rfl) rfl ?_
        refine tri_g opg_alloc rfl ?_
        rintro _ _ _ ⟨b23, rfl, rfl, rfl⟩
        refine tri_g (opg_store rfl rfl rfl rfl rfl rfl) rfl ?_
        rintro _ _ _ ⟨rfl, rfl⟩
        refine tri_v (opv_assign rfl) rfl ?_
        refine tri_v (opv_assign rfl) rfl ?_
        refine tri_nil ?_
        refine tri_then ?_
        refine tri_seq ?_
        refine tri_seq ?_
        refine tri_region ?_
        refine tri_v (opv_loadA rfl rfl rfl) rfl ?_
        refine tri_v (opv_loadA rfl rfl rfl) rfl ?_
        refine tri_g (opg_call (xs := [_, _]) rfl (ref06_same (g0.mono hJ3).sl g1.sl (by omega))) rfl ?_
        rintro _ _ _ ⟨rfl, rfl, rfl⟩
        refine tri_v (opv_notD rfl) rfl ?_
        refine tri_v (opv_move rfl) rfl ?_
        refine tri_false rfl rfl (fun h => h ⟨rfl, rfl⟩) ?_
        refine tri_guard_run rfl rfl rfl ?_
        refine tri_v (opv_move rfl) rfl ?_
        refine tri_guard_run rfl rfl rfl ?_
        refine tri_v (opv_move rfl) rfl ?_
        refine tri_guard_run rfl rfl rfl ?_
        refine tri_v (opv_neq rfl rfl) rfl ?_
        refine tri_v (opv_pick_f rfl rfl) rfl ?_
        refine tri_v (opv_move rfl) rfl ?_
        refine tri_false rfl rfl (fun h => h rfl) ?_
        refine tri_guard_run rfl rfl rfl ?_
        refine tri_v (opv_move rfl) rfl ?_
        refine tri_guard_run rfl rfl rfl ?_
        refine tri_v (opv_move rfl) rfl ?_
        refine tri_guard_run rfl rfl rfl ?_
        refine tri_v (opv_neq rfl rfl) rfl ?_
        refine tri_v (opv_pick_f rfl rfl) rfl ?_
        refine tri_nil ?_
        refine tri_then ?_
        refine tri_cond_not rfl (fun h => h rfl) ?_
        refine tri_skip ?_
        refine tri_then ?_
        refine tri_seq ?_
        refine tri_region ?_
        refine tri_v (opv_loadA rfl rfl rfl) rfl ?_
        refine tri_v (opv_move rfl) rfl ?_
        refine tri_g (opg_call (xs := [_, _]) rfl (base_step (room := (ss.getD i default).room) (n := ms.getD j default) ((hns2.mono hJ2).mono hJ3) (by omega))) rfl ?_
        rintro _ _ J4 ⟨x2, y2, rfl, g2, rfl, hJ4⟩
        refine tri_v (opv_move rfl) rfl ?_
        refine tri_v (opv_extract rfl rfl) rfl ?_
        refine tri_v (opv_extract rfl rfl) rfl ?_
        refine tri_v (opv_extract rfl rfl) rfl ?_
        refine tri_g (opg_store rfl rfl rfl rfl rfl rfl) rfl ?_
        rintro _ _ _ ⟨rfl, rfl⟩
        refine tri_v (opv_assign rfl) rfl ?_
        refine tri_v (opv_assign rfl) rfl ?_
        refine tri_nil ?_
        refine tri_then ?_
        refine tri_seq ?_
        refine tri_region ?_
        refine tri_v (opv_loadA rfl rfl rfl) rfl ?_
        refine tri_v (opv_move rfl) rfl ?_
        refine tri_g (opg_call (xs := [_, _]) rfl (ref08_step (room := (ss.getD i default).room) (n := ms.getD j default) (((hns2.mono hJ2).mono hJ3).mono hJ4) (by omega) hrr)) rfl ?_
        rintro _ _ J5 ⟨x3, y3, rfl, g3, rfl, hJ5⟩
        refine tri_v (opv_move rfl) rfl ?_
        refine tri_v (opv_extract rfl rfl) rfl ?_
        refine tri_v (opv_extract rfl rfl) rfl ?_
        refine tri_v (opv_extract rfl rfl) rfl ?_
        refine tri_g (opg_store rfl rfl rfl rfl rfl rfl) rfl ?_
        rintro _ _ _ ⟨rfl, rfl⟩
        refine tri_v (opv_assign rfl) rfl ?_
        refine tri_v (opv_assign rfl) rfl ?_
        refine tri_nil ?_
        refine tri_then ?_
        refine tri_seq ?_
        refine tri_seq ?_
        refine tri_region ?_
        refine tri_v (opv_loadA rfl rfl rfl) rfl ?_
        refine tri_v (opv_loadA rfl rfl rfl) rfl ?_
        refine tri_g (opg_call (xs := [_, _]) rfl (ref06_same (g2.mono hJ5).sl g3.sl (by omega))) rfl ?_
        rintro _ _ _ ⟨rfl, rfl, rfl⟩
        refine tri_v (opv_notD rfl) rfl ?_
        refine tri_v (opv_move rfl) rfl ?_
        refine tri_false rfl rfl (fun h => h ⟨rfl, rfl⟩) ?_
        refine tri_guard_run rfl rfl rfl ?_
        refine tri_v (opv_move rfl) rfl ?_
        refine tri_guard_run rfl rfl rfl ?_
        refine tri_v (opv_move rfl) rfl ?_
        refine tri_guard_run rfl rfl rfl ?_
        refine tri_v (opv_neq rfl rfl) rfl ?_
        refine tri_v (opv_pick_f rfl rfl) rfl ?_
        refine tri_v (opv_move rfl) rfl ?_
        refine tri_false rfl rfl (fun h => h rfl) ?_
        refine tri_guard_run rfl rfl rfl ?_
        refine tri_v (opv_move rfl) rfl ?_
        refine tri_guard_run rfl rfl rfl ?_
        refine tri_v (opv_move rfl) rfl ?_
        refine tri_guard_run rfl rfl rfl ?_
        refine tri_v (opv_neq rfl rfl) rfl ?_
        refine tri_v (opv_pick_f rfl rfl) rfl ?_
        refine tri_nil ?_
        refine tri_then ?_
        refine tri_cond_not rfl (fun h => h rfl) ?_
        refine tri_skip ?_
        refine tri_then ?_
        refine tri_seq ?_
        refine tri_region ?_
        refine tri_v (opv_loadA rfl rfl rfl) rfl ?_
        refine tri_v (opv_move rfl) rfl ?_
        refine tri_g (opg_call (xs := [_, _]) rfl (base_nine (room := (ss.getD i default).room) (n := ms.getD j default) ((((hns2.mono hJ2).mono hJ3).mono hJ4).mono hJ5) (by omega))) rfl ?_
        rintro _ _ J6 ⟨x4, y4, q0, q1, q2, q3, q4, q5, q6, q7, q8, hq, rfl, g4, rfl, hJ6⟩
        refine tri_v (opv_move rfl) rfl ?_
        refine tri_v (opv_extract rfl rfl) rfl ?_
        refine tri_v (opv_extract rfl rfl) rfl ?_
        refine tri_v (opv_extract rfl rfl) rfl ?_
        refine tri_g opg_alloc rfl ?_
        rintro _ _ _ ⟨b26, rfl, rfl, rfl⟩
        refine tri_g (opg_store rfl rfl rfl rfl rfl rfl) rfl ?_
        rintro _ _ _ ⟨rfl, rfl⟩
        refine tri_g (opg_store rfl rfl rfl rfl rfl rfl) rfl ?_
        rintro _ _ _ ⟨rfl, rfl⟩
        refine tri_v (opv_assign rfl) rfl ?_
        refine tri_nil ?_
        refine tri_then ?_
        refine tri_seq ?_
        refine tri_region ?_
        refine tri_v (opv_loadA rfl rfl rfl) rfl ?_
        refine tri_v (opv_move rfl) rfl ?_
        refine tri_g (opg_call (xs := [_, _]) rfl (ref08_nine (room := (ss.getD i default).room) (n := ms.getD j default) (((((hns2.mono hJ2).mono hJ3).mono hJ4).mono hJ5).mono hJ6) (by omega) hrr)) rfl ?_
        rintro _ _ J7 ⟨x5, y5, r0, r1, r2, r3, r4, r5, r6, r7, r8, hr9, rfl, g5, rfl, hJ7⟩
        have hqr : [q0, q1, q2, q3, q4, q5, q6, q7, q8] = [r0, r1, r2, r3, r4, r5, r6, r7, r8] := hq.symm.trans hr9
        refine tri_v (opv_move rfl) rfl ?_
        refine tri_v (opv_extract rfl rfl) rfl ?_
        refine tri_v (opv_extract rfl rfl) rfl ?_
        refine tri_v (opv_extract rfl rfl) rfl ?_
        refine tri_g opg_alloc rfl ?_
        rintro _ _ _ ⟨b27, rfl, rfl, rfl⟩
        refine tri_g (opg_store rfl rfl rfl rfl rfl rfl) rfl ?_
        rintro _ _ _ ⟨rfl, rfl⟩
        refine tri_g (opg_store rfl rfl rfl rfl rfl rfl) rfl ?_
        rintro _ _ _ ⟨rfl, rfl⟩
        refine tri_v (opv_assign rfl) rfl ?_
        refine tri_nil ?_
        refine tri_then ?_
        refine tri_seq ?_
        refine tri_region ?_
        refine tri_v (opv_loadA rfl rfl rfl) rfl ?_
        refine tri_v (opv_loadA rfl rfl rfl) rfl ?_
        refine tri_g (opg_call (xs := [_, _]) rfl (ref06_same (g4.mono hJ7).sl g5.sl (by omega))) rfl ?_
        rintro _ _ _ ⟨rfl, rfl, rfl⟩
        refine tri_v (opv_notD rfl) rfl ?_
        refine tri_v (opv_move rfl) rfl ?_
        refine tri_false rfl rfl (fun h => h ⟨rfl, rfl⟩) ?_
        refine tri_guard_run rfl rfl rfl ?_
        refine tri_v (opv_loadA rfl rfl rfl) rfl ?_
        refine tri_guard_run rfl rfl rfl ?_
        refine tri_v (opv_loadA rfl rfl rfl) rfl ?_
        refine tri_guard_run rfl rfl rfl ?_
        refine tri_v (opv_neqI rfl rfl rfl rfl rfl rfl) rfl ?_
        refine tri_v (opv_pick_f rfl rfl) rfl ?_
        refine tri_v (opv_move rfl) rfl ?_
        refine tri_false rfl rfl (fun h => h hqr) ?_
        refine tri_guard_run rfl rfl rfl ?_
        refine tri_v (opv_move rfl) rfl ?_
        refine tri_guard_run rfl rfl rfl ?_
        refine tri_v (opv_move rfl) rfl ?_
        refine tri_guard_run rfl rfl rfl ?_
        refine tri_v (opv_neq rfl rfl) rfl ?_
        refine tri_v (opv_pick_f rfl rfl) rfl ?_
        refine tri_nil ?_
        refine tri_then ?_
        refine tri_cond_not rfl (fun h => h rfl) ?_
        refine tri_skip ?_
        refine tri_inBlock ?_
        refine tri_then ?_
        refine tri_region ?_
        refine tri_v (opv_add rfl rfl (w64 (by omega) (by omega))) rfl ?_
        refine tri_v (opv_move rfl) rfl ?_
        refine tri_nil ?_
        refine tri_then ?_
        refine tri_drop (tri_drop (tri_drop (tri_drop ?_)))
        refine tri_sub ?_ (hK2 (j + 1, J7) ⟨by simp only; omega, fun _ h => hJ7 (hJ6 (hJ5 (hJ4 (hJ3 (hJ2 (hJ1 h))))))⟩ (by simp only; omega))
        exact ⟨rfl, rfl, rfl, rfl, rfl, rfl, rfl, rfl, rfl, rfl, trivial⟩
      · refine tri_exit ?_
        refine tri_then_exit ?_
        refine tri_then_exit ?_
        refine tri_inBlock_hit rfl ?_
        refine tri_inBlock ?_
        refine tri_then ?_
        refine tri_region ?_
        refine tri_v (opv_add rfl rfl (w64 (by omega) (by omega))) rfl ?_
        refine tri_v (opv_move rfl) rfl ?_
        refine tri_nil ?_
        refine tri_then ?_
        refine tri_drop ?_
        refine tri_sub ?_ (hK (i + 1, J1) ⟨by simp only; omega, fun _ h => hJ1 (hI3 (hJ0 h))⟩ (by simp only; omega))
        exact ⟨rfl, rfl, rfl, rfl, rfl, rfl, trivial⟩
  · refine tri_exit ?_
    refine tri_then_exit ?_
    refine tri_then_exit ?_
    refine tri_inBlock_hit rfl ?_
    refine tri_then ?_
    refine tri_seq ?_
    refine tri_region ?_
    refine tri_v (opv_move rfl) rfl ?_
    refine tri_v (opv_assign rfl) rfl ?_
    refine tri_nil ?_
    refine tri_then ?_
    refine tri_ret ?_
    refine tri_end A Suf.h rfl (.cons (rv_tmp rfl) .nil) ⟨rfl, rfl, fun _ h => hJ0 (hI02 h)⟩
end Go.GL
