/- Part 5: contracts of the functions that the law reaches: each answers as its model does. No condition beyond those that each theorem states. -/
import Derived.Test.YtogigbjhkdneaaaPart4
set_option linter.unusedVariables false
namespace Go.GL
open Go.Proofs
attribute [local irreducible] wpList Code.wp Exit.then Exit.inBlock Ends Tri TriH OpV OpG FnC epf wpAnyH
variable {A : List Asrt} {I : List Chunk}
set_option maxHeartbeats 1000000 in
set_option maxRecDepth 100000 in
theorem ref19_same {S st : Int} {O Wh : List Int} {o1 o2 w1 w2 : Option Addr} {c1 c2 d1 d2 : Nat} (ho1 : SlAt I o1 O) (ho2 : SlAt I o2 O) (hw1 : SlAt I w1 Wh) (hw2 : SlAt I w2 Wh) (hO : O.length ≤ 1000000000) (hW : Wh.length ≤ 1000000000) :
  FnC Try.prog 17 [.agg [.int .i64 S, .slice o1 O.length c1, .slice w1 Wh.length d1, .int .i64 st].toArray, .agg [.int .i64 S, .slice o2 O.length c2, .slice w2 Wh.length d2, .int .i64 st].toArray].toArray A I (fun v A' I' => v = .bool true ∧ A = A' ∧ I = I') := by
 skip
 refine fn_enter2 Try.func17 rfl Try.ntmps17 rfl fun w0 => ?_
 refine tS (tR ?_)
 first | refine tri_g (opg_box_agg rfl) rfl ?_ | refine tri_g (opg_box1 rfl rfl) rfl ?_
 rintro _ _ _ ⟨b2, rfl, rfl, rfl⟩
 first | refine tri_g (opg_box_agg rfl) rfl ?_ | refine tri_g (opg_box1 rfl rfl) rfl ?_
 rintro _ _ _ ⟨b3, rfl, rfl, rfl⟩
 refine tA rfl rfl (tN (tT (tS (tR ?_))))
 refine tri_v (by first | exact opv_fieldAddr rfl rfl | exact opv_fieldAddrE rfl (by assumption) (by omega) rfl | exact opv_fieldAddrR rfl (by omega) rfl | exact opv_fieldAddrP rfl rfl rfl) rfl ?_
 refine tri_v (by first | exact opv_load1 rfl rfl rfl | exact opv_loadA rfl rfl rfl | exact opv_loadE1 rfl (by assumption) rfl (by omega) rfl rfl | exact opv_loadEA rfl (by assumption) rfl (by omega) rfl rfl | exact opv_loadRX1 rfl rfl (by omega) rfl rfl | exact opv_loadRXA rfl rfl (by omega) rfl rfl rfl | exact opv_loadIX rfl rfl (by omega) | exact opv_loadR1 rfl rfl rfl | exact opv_loadRA rfl rfl rfl rfl) rfl ?_
 refine tri_v (by first | exact opv_fieldAddr rfl rfl | exact opv_fieldAddrE rfl (by assumption) (by omega) rfl | exact opv_fieldAddrR rfl (by omega) rfl | exact opv_fieldAddrP rfl rfl rfl) rfl ?_
 refine tri_v (by first | exact opv_load1 rfl rfl rfl | exact opv_loadA rfl rfl rfl | exact opv_loadE1 rfl (by assumption) rfl (by omega) rfl rfl | exact opv_loadEA rfl (by assumption) rfl (by omega) rfl rfl | exact opv_loadRX1 rfl rfl (by omega) rfl rfl | exact opv_loadRXA rfl rfl (by omega) rfl rfl rfl | exact opv_loadIX rfl rfl (by omega) | exact opv_loadR1 rfl rfl rfl | exact opv_loadRA rfl rfl rfl rfl) rfl ?_
 refine tri_v (by first | exact opv_eql rfl rfl | exact opv_eqlI rfl rfl rfl rfl rfl rfl | exact opv_eqlB rfl rfl | exact opv_eqlNil rfl rfl) rfl ?_
 refine tM rfl rfl ?_
 -- STOP guard
 refine tri_true rfl rfl (rfl) ?_
 refine tri_guard_run rfl rfl rfl ?_
 refine tri_v (by first | exact opv_fieldAddr rfl rfl | exact opv_fieldAddrE rfl (by assumption) (by omega) rfl | exact opv_fieldAddrR rfl (by omega) rfl | exact opv_fieldAddrP rfl rfl rfl) rfl ?_
 refine tri_guard_run rfl rfl rfl ?_
 refine tri_v (by first | exact opv_load1 rfl rfl rfl | exact opv_loadA rfl rfl rfl | exact opv_loadE1 rfl (by assumption) rfl (by omega) rfl rfl | exact opv_loadEA rfl (by assumption) rfl (by omega) rfl rfl | exact opv_loadRX1 rfl rfl (by omega) rfl rfl | exact opv_loadRXA rfl rfl (by omega) rfl rfl rfl | exact opv_loadIX rfl rfl (by omega) | exact opv_loadR1 rfl rfl rfl | exact opv_loadRA rfl rfl rfl rfl) rfl ?_
 refine tri_guard_run rfl rfl rfl ?_
 refine tri_v (by first | exact opv_fieldAddr rfl rfl | exact opv_fieldAddrE rfl (by assumption) (by omega) rfl | exact opv_fieldAddrR rfl (by omega) rfl | exact opv_fieldAddrP rfl rfl rfl) rfl ?_
 refine tri_guard_run rfl rfl rfl ?_
 refine tri_v (by first | exact opv_load1 rfl rfl rfl | exact opv_loadA rfl rfl rfl | exact opv_loadE1 rfl (by assumption) rfl (by omega) rfl rfl | exact opv_loadEA rfl (by assumption) rfl (by omega) rfl rfl | exact opv_loadRX1 rfl rfl (by omega) rfl rfl | exact opv_loadRXA rfl rfl (by omega) rfl rfl rfl | exact opv_loadIX rfl rfl (by omega) | exact opv_loadR1 rfl rfl rfl | exact opv_loadRA rfl rfl rfl rfl) rfl ?_
 refine tri_guard_run rfl rfl rfl ?_
 refine tri_v (by first | exact opv_eql rfl rfl | exact opv_eqlI rfl rfl rfl rfl rfl rfl | exact opv_eqlB rfl rfl | exact opv_eqlNil rfl rfl) rfl ?_
 refine tri_v (by first | exact opv_pick_t rfl rfl | exact opv_pick_f rfl rfl | exact opv_pick_bool rfl rfl rfl | exact opv_pick rfl rfl rfl) rfl ?_
 refine tM rfl rfl ?_
 -- STOP guard
 refine tri_true rfl rfl (rfl) ?_
 refine tri_guard_run rfl rfl rfl ?_
 refine tri_v (by first | exact opv_fieldAddr rfl rfl | exact opv_fieldAddrE rfl (by assumption) (by omega) rfl | exact opv_fieldAddrR rfl (by omega) rfl | exact opv_fieldAddrP rfl rfl rfl) rfl ?_
 refine tri_guard_run rfl rfl rfl ?_
 refine tri_v (by first | exact opv_load1 rfl rfl rfl | exact opv_loadA rfl rfl rfl | exact opv_loadE1 rfl (by assumption) rfl (by omega) rfl rfl | exact opv_loadEA rfl (by assumption) rfl (by omega) rfl rfl | exact opv_loadRX1 rfl rfl (by omega) rfl rfl | exact opv_loadRXA rfl rfl (by omega) rfl rfl rfl | exact opv_loadIX rfl rfl (by omega) | exact opv_loadR1 rfl rfl rfl | exact opv_loadRA rfl rfl rfl rfl) rfl ?_
 refine tri_guard_run rfl rfl rfl ?_
 refine tri_v (by first | exact opv_fieldAddr rfl rfl | exact opv_fieldAddrE rfl (by assumption) (by omega) rfl | exact opv_fieldAddrR rfl (by omega) rfl | exact opv_fieldAddrP rfl rfl rfl) rfl ?_
 refine tri_guard_run rfl rfl rfl ?_
 refine tri_v (by first | exact opv_load1 rfl rfl rfl | exact opv_loadA rfl rfl rfl | exact opv_loadE1 rfl (by assumption) rfl (by omega) rfl rfl | exact opv_loadEA rfl (by assumption) rfl (by omega) rfl rfl | exact opv_loadRX1 rfl rfl (by omega) rfl rfl | exact opv_loadRXA rfl rfl (by omega) rfl rfl rfl | exact opv_loadIX rfl rfl (by omega) | exact opv_loadR1 rfl rfl rfl | exact opv_loadRA rfl rfl rfl rfl) rfl ?_
 -- STOP op
 refine tri_guard_run rfl rfl rfl ?_
 refine tri_g (opg_call (xs := [_, _]) rfl (ref03_ints ho1 ho2 hO)) rfl ?_
 rintro _ _ _ ⟨rfl, rfl, rfl⟩
 refine tri_v (by first | exact opv_pick_t rfl rfl | exact opv_pick_f rfl rfl | exact opv_pick_bool rfl rfl rfl | exact opv_pick rfl rfl rfl) rfl ?_
 refine tM rfl rfl ?_
 -- STOP guard
 refine tri_true rfl rfl (rfl) ?_
 refine tri_guard_run rfl rfl rfl ?_
 refine tri_v (by first | exact opv_fieldAddr rfl rfl | exact opv_fieldAddrE rfl (by assumption) (by omega) rfl | exact opv_fieldAddrR rfl (by omega) rfl | exact opv_fieldAddrP rfl rfl rfl) rfl ?_
 refine tri_guard_run rfl rfl rfl ?_
 refine tri_v (by first | exact opv_load1 rfl rfl rfl | exact opv_loadA rfl rfl rfl | exact opv_loadE1 rfl (by assumption) rfl (by omega) rfl rfl | exact opv_loadEA rfl (by assumption) rfl (by omega) rfl rfl | exact opv_loadRX1 rfl rfl (by omega) rfl rfl | exact opv_loadRXA rfl rfl (by omega) rfl rfl rfl | exact opv_loadIX rfl rfl (by omega) | exact opv_loadR1 rfl rfl rfl | exact opv_loadRA rfl rfl rfl rfl) rfl ?_
 refine tri_guard_run rfl rfl rfl ?_
 refine tri_v (by first | exact opv_fieldAddr rfl rfl | exact opv_fieldAddrE rfl (by assumption) (by omega) rfl | exact opv_fieldAddrR rfl (by omega) rfl | exact opv_fieldAddrP rfl rfl rfl) rfl ?_
 refine tri_guard_run rfl rfl rfl ?_
 refine tri_v (by first | exact opv_load1 rfl rfl rfl | exact opv_loadA rfl rfl rfl | exact opv_loadE1 rfl (by assumption) rfl (by omega) rfl rfl | exact opv_loadEA rfl (by assumption) rfl (by omega) rfl rfl | exact opv_loadRX1 rfl rfl (by omega) rfl rfl | exact opv_loadRXA rfl rfl (by omega) rfl rfl rfl | exact opv_loadIX rfl rfl (by omega) | exact opv_loadR1 rfl rfl rfl | exact opv_loadRA rfl rfl rfl rfl) rfl ?_
 -- STOP op
 refine tri_guard_run rfl rfl rfl ?_
 refine tri_g (opg_call (xs := [_, _]) rfl (ref03_ints hw1 hw2 hW)) rfl ?_
 rintro _ _ _ ⟨rfl, rfl, rfl⟩
 refine tri_v (by first | exact opv_pick_t rfl rfl | exact opv_pick_f rfl rfl | exact opv_pick_bool rfl rfl rfl | exact opv_pick rfl rfl rfl) rfl ?_
 refine tA rfl rfl (tN (tT (tri_ret ?_)))
 -- STOP ret
 refine tri_end A Suf.h rfl (.cons (rv_tmp rfl) .nil) ⟨?_, rfl, rfl⟩
 exact congrArg Value.bool (decide_eq_true rfl)
theorem res_len {p v picks : List Int} {nw : Int} : (R19.resM p v picks nw).O.length ≤ 1000000000 ∧ (R19.resM p v picks nw).Wh.length ≤ 1000000000 := by
 by_cases h : R19.good p v nw
 ·rw [R19.resM_good h]
  have hm := R19.MOk.run h.1 (nw := nw.toNat) (by have := h.2.2.1; omega) p.length (Nat.le_refl _) (picks := picks)
  have := h.1.1
  show (R19.mst p picks nw.toNat p.length).order.length ≤ _ ∧ (R19.mst p picks nw.toNat p.length).who.length ≤ _
  rw [hm.ol, hm.wl]
  omega
 ·rw [R19.resM_bad h]
  exact ⟨Nat.zero_le _, Nat.zero_le _⟩
/-- Slices that are read, side by side. -/
def Sls (I : List Chunk) (LS : List Sl) (LL : List (List Int)) : Prop := LS.length = LL.length ∧ ∀ i, i < LL.length → SlAt I (LS.getD i default).a (LL.getD i default) ∧ (LS.getD i default).len = (LL.getD i default).length
theorem Sls.mono {I J : List Chunk} {LS : List Sl} {LL : List (List Int)} (h : Sls I LS LL) (hI : I ⊆ J) : Sls J LS LL := ⟨h.1, fun i hi => ⟨(h.2 i hi).1.mono hI, (h.2 i hi).2⟩⟩
theorem Sls.nil {I : List Chunk} : Sls I [] [] := ⟨rfl, fun i hi => absurd hi (Nat.not_lt_zero _)⟩
theorem Sls.cons {I : List Chunk} {LS : List Sl} {LL : List (List Int)} {s : Sl} {l : List Int} (h : Sls I LS LL) (hs : SlAt I s.a l) (hl : s.len = l.length) : Sls I (s :: LS) (l :: LL) := by
 refine ⟨by rw [List.length_cons, List.length_cons, h.1], fun i hi => ?_⟩
 cases i with
 | zero => exact ⟨hs, hl⟩
 | succ i => exact h.2 i (by rw [List.length_cons] at hi; omega)
set_option maxHeartbeats 4000000 in
set_option maxRecDepth 100000 in
theorem law19_tells {any vs picks raw : List Int} {workers at_ other : Int} {a a2 a3 a4 : Option Addr} {cap cap2 cap3 cap4 : Nat} (ha : StA I a cap any) (hal : any.length ≤ 9223372036854775807) (hvs : SlAt I a2 vs) (hvi : Is vs) (hvl : vs.length ≤ 9223372036854775807) (hw : I64 workers) (hp3 : SlAt I a3 picks) (hk : Is picks) (hpl : picks.length ≤ 9223372036854775807) (hs : SlAt I a4 raw) (hr : Is raw) (hat : I64 at_) :
  FnC Try.prog 3 [.slice a any.length cap, .slice a2 vs.length cap2, .int .i64 workers, .slice a3 picks.length cap3, .slice a4 raw.length cap4, .int .i64 at_, .int .i64 other].toArray A I (fun v A' I' => v = .bool true ∧ A = A' ∧ I ⊆ I') := by
 have htl := R19.tree_len raw
 skip
 refine fn_enter7 Try.func3 rfl Try.ntmps3 rfl fun w0 => ?_
 skip
 refine tS (tR (tA rfl rfl (tN (tT (tS (tR ?_))))))
 -- STOP op
 refine tri_g (opg_call (xs := []) rfl (law19_awake)) rfl ?_
 rintro _ _ I0 ⟨rfl, rfl, hI0⟩
 refine tA rfl rfl (tN (tT (tS (tR (tM rfl rfl ?_)))))
 -- STOP op
 refine tri_g (opg_call (xs := [_]) rfl (law19_tree (hs.mono hI0) hr)) rfl ?_
 rintro _ _ I1 ⟨b1, c1, rfl, hs1, rfl, hI1⟩
 generalize hp : R19.tree raw = p at *
 refine tA rfl rfl (tN (tT (tS (tR (tM rfl rfl ?_)))))
 -- STOP op
 refine tri_nilRow (E := 3) (sz := 1) ?_
 refine tri_g (opg_appendS rfl rfl hs1 rfl rfl (by omega) rfl) rfl ?_
 rintro _ _ _ ⟨b2, c2, rfl, rfl, rfl⟩
 rw [Nat.zero_add, List.nil_append]
 have hb := pk_bd (c := at_) (n := p.length) (by omega)
 refine tA rfl rfl (tN (tT (tS (tR (tM rfl rfl (tM rfl rfl (tM rfl rfl ?_)))))))
 refine tri_v (opv_len rfl) rfl ?_
 -- STOP op
 refine tri_g (opg_call (xs := [_, _]) rfl (law19_pick hat (by omega))) rfl ?_
 rintro _ _ _ ⟨rfl, rfl, rfl⟩
 refine tM rfl rfl ?_
 refine tri_v (by first | exact opv_indexAddrA rfl rfl (by first | decide | omega) (by first | decide | omega) | exact opv_indexAddrSN rfl rfl (by omega) (by assumption) (by first | rfl | omega) | exact opv_indexAddrS rfl rfl (by omega) (by omega) (by assumption) (by first | rfl | omega) | exact opv_indexAddrE rfl (by assumption) (by omega) rfl (by first | decide | omega) (by first | decide | omega) | exact opv_indexAddrRN rfl rfl (by omega) | exact opv_indexAddrR rfl rfl (by omega) (by omega) | exact opv_indexAddrRA rfl (by omega) rfl (by first | decide | omega) (by first | decide | omega) | exact opv_indexAddrSP rfl rfl (by omega) (by omega)) rfl ?_
 -- STOP op
 refine tri_g (opg_storeRX other rfl rfl rfl (by omega) rfl rfl rfl rfl rfl) rfl ?_
 rintro _ _ _ ⟨rfl, rfl⟩
 refine tri_freezeRow (α := Int) rfl fun I2 hI2 hs2 => ?_
 have hql : (p.set (pk at_ p.length).toNat other).length = p.length := List.length_set
 generalize p.set (pk at_ p.length).toNat other = q at *
 have hI02 : I ⊆ I2 := fun _ h => hI2 (hI1 (hI0 h))
 refine tN (tT (tS (tR (tM rfl rfl (tA rfl rfl (tN (tT ?_)))))))
 refine tS ?_
 refine tri_cut (fun F' A' J => ∃ lx : List Int, (SlAt I2 a lx ∧ lx.length ≤ 320) ∧ F' = [(1, .slice a2 vs.length cap2), (2, .int .i64 workers), (3, .slice a3 picks.length cap3), (15, .bool true), (16, .slice b1 p.length c1), (17, .slice b2 p.length c2), (18, .slice a lx.length cap)] ∧ A = A' ∧ I2 = J) ?_ ?_
 ·have ha2 := ha.mono hI02
  refine tS (tR (tM rfl rfl ?_))
  refine tri_v (opv_len rfl) rfl ?_
  refine tri_v (opv_gtr rfl rfl) rfl ?_
  refine tN (tT ?_)
  -- STOP cond
  refine tri_cond_dec rfl (fun h => ?_) (fun h => ?_)
  ·skip
   refine tR (tM rfl rfl ?_)
   -- STOP op
   refine tri_v (opv_sliceHi rfl rfl (by omega) (by omega) ha2 rfl) rfl ?_
   refine tA rfl rfl (tN ?_)
   -- STOP cut
   exact tri_cutEnd _ ⟨any.take 320, ⟨ha2.sl.take 320, by rw [List.length_take]; omega⟩, rfl, rfl, rfl⟩ ⟨rfl, rfl, rfl, rfl, rfl, rfl, rfl, trivial⟩
  ·refine tri_skip ?_
   -- STOP cut
   exact tri_cutEnd _ ⟨any, ⟨ha2.sl, by omega⟩, rfl, rfl, rfl⟩ ⟨rfl, rfl, rfl, rfl, rfl, rfl, rfl, trivial⟩
 rintro _ _ _ ⟨lx, ⟨hsx, hlx⟩, rfl, rfl, rfl⟩
 have hsls : Sls I2 [⟨b1, p.length, c1⟩, ⟨b2, p.length, c2⟩, ⟨a, lx.length, cap⟩] [p, q, lx] := ((Sls.nil.cons hsx rfl).cons hs2 hql.symm).cons (hs1.mono hI2) rfl
 have hlen : ∀ i, i < 3 → (([p, q, lx] : List (List Int)).getD i default).length ≤ 320 := fun i hi => by
  match i, hi with
  | 0, _ => show p.length ≤ 320; omega
  | 1, _ => show q.length ≤ 320; omega
  | 2, _ => exact hlx
 refine tT (tS (tS (tR (tM rfl rfl (tM rfl rfl (tM rfl rfl ?_))))))
 refine tri_g (opg_buildSlice rfl rfl rfl rfl) rfl ?_
 rintro _ _ _ ⟨b50, rfl, rfl, rfl⟩
 refine tri_v (opv_len rfl) rfl ?_
 refine tM rfl rfl (tN (tT (tri_block ?_)))
 refine tri_freezeBoxS ([⟨b1, p.length, c1⟩, ⟨b2, p.length, c2⟩, ⟨a, lx.length, cap⟩] : List Sl) rfl fun I3 hI3 hL => ?_
 have hsls := hsls.mono hI3
 have hLS3 : ([⟨b1, p.length, c1⟩, ⟨b2, p.length, c2⟩, ⟨a, lx.length, cap⟩] : List Sl).length = 3 := rfl
 have hLL3 : ([p, q, lx] : List (List Int)).length = 3 := rfl
 generalize ([⟨b1, p.length, c1⟩, ⟨b2, p.length, c2⟩, ⟨a, lx.length, cap⟩] : List Sl) = LS at *
 generalize ([p, q, lx] : List (List Int)) = LL at *
 refine tri_sub (F' := [(1, .slice a2 vs.length cap2), (2, .int .i64 workers), (3, .slice a3 picks.length cap3), (15, .bool true), (50, .slice (some ⟨b50, 0, none⟩) 3 3), (51, .int .i64 3), (52, .int .i64 ((0 : Nat) : Int))]) ⟨rfl, rfl, rfl, rfl, rfl, rfl, rfl, trivial⟩ ?_
 refine loop_ind (G := Nat × List Chunk) (fun g => 3 - g.1) (fun g => g.1 ≤ 3 ∧ I3 ⊆ g.2) (fun g => [(1, .slice a2 vs.length cap2), (2, .int .i64 workers), (3, .slice a3 picks.length cap3), (15, .bool true), (50, .slice (some ⟨b50, 0, none⟩) 3 3), (51, .int .i64 3), (52, .int .i64 (g.1 : Nat))]) (fun _ => A) (fun g => g.2) ?_ (0, I3) ⟨Nat.zero_le _, fun _ h => h⟩
 rintro ⟨i, J3⟩ ⟨hi, hJ3⟩ K hK
 simp only at hi hJ3 hK ⊢
 have hLj := hL.mono hJ3
 have hI3a : I ⊆ J3 := fun _ h => hJ3 (hI3 (hI02 h))
 skip
 refine tS (tR ?_)
 refine tri_v (opv_lss rfl rfl) rfl ?_
 refine tN (tT (tS ?_))
 -- STOP cond
 refine tri_cond_dec rfl (fun h => ?_) (fun h => ?_)
 ·have hil : i < 3 := by omega
  obtain ⟨hsi, hli⟩ := hsls.2 i (by omega)
  have hsi := hsi.mono hJ3
  have hl320 := hlen i hil
  generalize LL.getD i default = l at *
  refine tri_skip (tT (tS (tri_block (tS (tR ?_)))))
  refine tri_v (by first | exact opv_indexAddrA rfl rfl (by first | decide | omega) (by first | decide | omega) | exact opv_indexAddrSN rfl rfl (by omega) (by assumption) (by first | rfl | omega) | exact opv_indexAddrS rfl rfl (by omega) (by omega) (by assumption) (by first | rfl | omega) | exact opv_indexAddrE rfl (by assumption) (by omega) rfl (by first | decide | omega) (by first | decide | omega) | exact opv_indexAddrRN rfl rfl (by omega) | exact opv_indexAddrR rfl rfl (by omega) (by omega) | exact opv_indexAddrRA rfl (by omega) rfl (by first | decide | omega) (by first | decide | omega) | exact opv_indexAddrSP rfl rfl (by omega) (by omega)) rfl ?_
  refine tri_v (by first | exact opv_load1 rfl rfl rfl | exact opv_loadA rfl rfl rfl | exact opv_loadE1 rfl (by assumption) rfl (by omega) rfl rfl | exact opv_loadEA rfl (by assumption) rfl (by omega) rfl rfl | exact opv_loadRX1 rfl rfl (by omega) rfl rfl | exact opv_loadRXA rfl rfl (by omega) rfl rfl rfl | exact opv_loadIX rfl rfl (by omega) | exact opv_loadR1 rfl rfl rfl | exact opv_loadRA rfl rfl rfl rfl) rfl ?_
  refine tA rfl rfl (tN (tT (tS (tS (tR (tM rfl rfl ?_))))))
  -- STOP op
  rw [hli]
  refine tri_g (opg_call (xs := [_]) rfl (fork_right hsi (by omega))) rfl ?_
  rintro _ _ _ ⟨rfl, rfl, rfl⟩
  refine tM rfl rfl ?_
  -- STOP op
  refine tri_g (opg_call (xs := [_]) rfl (ref19_right hsi (by omega))) rfl ?_
  rintro _ _ _ ⟨rfl, rfl, rfl⟩
  refine tri_v (by first | exact opv_neq rfl rfl | exact opv_neqI rfl rfl rfl rfl rfl rfl | exact opv_neqB rfl rfl) rfl ?_
  refine tN (tT ?_)
  -- STOP cond
  refine tri_cond_not rfl ((fun h => h rfl)) ?_
  refine tri_skip (tT (tS (tR (tM rfl rfl (tM rfl rfl ?_)))))
  refine tri_v (opv_len rfl) rfl ?_
  -- STOP op
  refine tri_g (opg_call (xs := [_, _]) rfl (law19_values (n := l.length) (hvs.mono hI3a) hvi (by omega) hvl)) rfl ?_
  rintro _ _ J4 ⟨b6, c6, rfl, hs6, rfl, hJ4⟩
  refine tM rfl rfl ?_
  refine tri_g (opg_buildSlice rfl rfl rfl rfl) rfl ?_
  rintro _ _ _ ⟨b66, rfl, rfl, rfl⟩
  refine tri_v (opv_len rfl) rfl ?_
  refine tM rfl rfl (tN (tT (tri_block ?_)))
  -- STOP loop
  refine tri_freezeBoxS ([⟨b6, (R19.vals vs l.length).length, c6⟩, ⟨a2, vs.length, cap2⟩] : List Sl) rfl fun J5 hJ5 hL2 => ?_
  have hsl2 : Sls J5 [⟨b6, (R19.vals vs l.length).length, c6⟩, ⟨a2, vs.length, cap2⟩] [R19.vals vs l.length, vs] := (Sls.nil.cons (hvs.mono fun _ h => hJ5 (hJ4 (hI3a h))) rfl).cons (hs6.mono hJ5) rfl
  have hV2 : ([⟨b6, (R19.vals vs l.length).length, c6⟩, ⟨a2, vs.length, cap2⟩] : List Sl).length = 2 := rfl
  have hW2 : ([R19.vals vs l.length, vs] : List (List Int)).length = 2 := rfl
  generalize ([⟨b6, (R19.vals vs l.length).length, c6⟩, ⟨a2, vs.length, cap2⟩] : List Sl) = VS at *
  generalize ([R19.vals vs l.length, vs] : List (List Int)) = VL at *
  have hI5 : I ⊆ J5 := fun _ h => hJ5 (hJ4 (hI3a h))
  refine tri_sub (F' := [(1, .slice a2 vs.length cap2), (2, .int .i64 workers), (3, .slice a3 picks.length cap3), (15, .bool true), (20, .slice (LS.getD i default).a l.length (LS.getD i default).cap), (50, .slice (some ⟨b50, 0, none⟩) 3 3), (51, .int .i64 3), (52, .int .i64 (i : Nat)), (66, .slice (some ⟨b66, 0, none⟩) 2 2), (67, .int .i64 2), (68, .int .i64 ((0 : Nat) : Int))]) ⟨rfl, rfl, rfl, rfl, rfl, rfl, rfl, rfl, rfl, rfl, rfl, trivial⟩ ?_
  refine loop_ind (G := Nat × List Chunk) (fun g => 2 - g.1) (fun g => g.1 ≤ 2 ∧ J5 ⊆ g.2) (fun g => [(1, .slice a2 vs.length cap2), (2, .int .i64 workers), (3, .slice a3 picks.length cap3), (15, .bool true), (20, .slice (LS.getD i default).a l.length (LS.getD i default).cap), (50, .slice (some ⟨b50, 0, none⟩) 3 3), (51, .int .i64 3), (52, .int .i64 (i : Nat)), (66, .slice (some ⟨b66, 0, none⟩) 2 2), (67, .int .i64 2), (68, .int .i64 (g.1 : Nat))]) (fun _ => A) (fun g => g.2) ?_ (0, J5) ⟨Nat.zero_le _, fun _ h => h⟩
  rintro ⟨j, J6⟩ ⟨hj, hJ6⟩ K2 hK2
  simp only at hj hJ6 hK2 ⊢
  have hL2j := hL2.mono hJ6
  skip
  refine tS (tR ?_)
  refine tri_v (opv_lss rfl rfl) rfl ?_
  refine tN (tT (tS ?_))
  -- STOP cond
  refine tri_cond_dec rfl (fun h2 => ?_) (fun h2 => ?_)
  ·have hjl : j < 2 := by omega
   obtain ⟨hsj, hlj⟩ := hsl2.2 j (by omega)
   have hsj := hsj.mono hJ6
   generalize VL.getD j default = v at *
   refine tri_skip (tT (tS (tri_block (tS (tR ?_)))))
   refine tri_v (by first | exact opv_indexAddrA rfl rfl (by first | decide | omega) (by first | decide | omega) | exact opv_indexAddrSN rfl rfl (by omega) (by assumption) (by first | rfl | omega) | exact opv_indexAddrS rfl rfl (by omega) (by omega) (by assumption) (by first | rfl | omega) | exact opv_indexAddrE rfl (by assumption) (by omega) rfl (by first | decide | omega) (by first | decide | omega) | exact opv_indexAddrRN rfl rfl (by omega) | exact opv_indexAddrR rfl rfl (by omega) (by omega) | exact opv_indexAddrRA rfl (by omega) rfl (by first | decide | omega) (by first | decide | omega) | exact opv_indexAddrSP rfl rfl (by omega) (by omega)) rfl ?_
   refine tri_v (by first | exact opv_load1 rfl rfl rfl | exact opv_loadA rfl rfl rfl | exact opv_loadE1 rfl (by assumption) rfl (by omega) rfl rfl | exact opv_loadEA rfl (by assumption) rfl (by omega) rfl rfl | exact opv_loadRX1 rfl rfl (by omega) rfl rfl | exact opv_loadRXA rfl rfl (by omega) rfl rfl rfl | exact opv_loadIX rfl rfl (by omega) | exact opv_loadR1 rfl rfl rfl | exact opv_loadRA rfl rfl rfl rfl) rfl ?_
   refine tA rfl rfl (tN (tT (tS (tR (tM rfl rfl (tM rfl rfl ?_))))))
   -- STOP op
   rw [hlj]
   refine tri_g (opg_call (xs := [_, _]) rfl (law19_pick hw (by omega))) rfl ?_
   rintro _ _ _ ⟨rfl, rfl, rfl⟩
   have hb9 := pk_bd (c := workers) (n := 9) (by omega)
   refine tri_v (by first | exact opv_add rfl rfl (w64 (by omega) (by omega))) rfl ?_
   refine tri_g (opg_buildSlice rfl rfl rfl rfl) rfl ?_
   rintro _ _ _ ⟨b76, rfl, rfl, rfl⟩
   refine tri_v (opv_len rfl) rfl ?_
   refine tM rfl rfl (tN (tT (tri_block ?_)))
   -- STOP loop
   refine tri_freezeBoxS ([workers, 1 + pk workers 9] : List Int) rfl fun J7 hJ7 hL3 => ?_
   have hU2 : ([workers, 1 + pk workers 9] : List Int).length = 2 := rfl
   generalize ([workers, 1 + pk workers 9] : List Int) = US at *
   refine tri_sub (F' := [(1, .slice a2 vs.length cap2), (2, .int .i64 workers), (3, .slice a3 picks.length cap3), (15, .bool true), (20, .slice (LS.getD i default).a l.length (LS.getD i default).cap), (22, .slice (VS.getD j default).a v.length (VS.getD j default).cap), (50, .slice (some ⟨b50, 0, none⟩) 3 3), (51, .int .i64 3), (52, .int .i64 (i : Nat)), (66, .slice (some ⟨b66, 0, none⟩) 2 2), (67, .int .i64 2), (68, .int .i64 (j : Nat)), (76, .slice (some ⟨b76, 0, none⟩) 2 2), (77, .int .i64 2), (78, .int .i64 ((0 : Nat) : Int))]) ⟨rfl, rfl, rfl, rfl, rfl, rfl, rfl, rfl, rfl, rfl, rfl, rfl, rfl, rfl, rfl, trivial⟩ ?_
   refine loop_ind (G := Nat × List Chunk) (fun g => 2 - g.1) (fun g => g.1 ≤ 2 ∧ J7 ⊆ g.2) (fun g => [(1, .slice a2 vs.length cap2), (2, .int .i64 workers), (3, .slice a3 picks.length cap3), (15, .bool true), (20, .slice (LS.getD i default).a l.length (LS.getD i default).cap), (22, .slice (VS.getD j default).a v.length (VS.getD j default).cap), (50, .slice (some ⟨b50, 0, none⟩) 3 3), (51, .int .i64 3), (52, .int .i64 (i : Nat)), (66, .slice (some ⟨b66, 0, none⟩) 2 2), (67, .int .i64 2), (68, .int .i64 (j : Nat)), (76, .slice (some ⟨b76, 0, none⟩) 2 2), (77, .int .i64 2), (78, .int .i64 (g.1 : Nat))]) (fun _ => A) (fun g => g.2) ?_ (0, J7) ⟨Nat.zero_le _, fun _ h => h⟩
   rintro ⟨k, J8⟩ ⟨hk8, hJ8⟩ K3 hK3
   simp only at hk8 hJ8 hK3 ⊢
   have hL3k := hL3.mono hJ8
   have h38 : J3 ⊆ J8 := fun _ h => hJ8 (hJ7 (hJ6 (hJ5 (hJ4 h))))
   have h68 : J6 ⊆ J8 := fun _ h => hJ8 (hJ7 h)
   skip
   refine tS (tR ?_)
   refine tri_v (opv_lss rfl rfl) rfl ?_
   refine tN (tT (tS ?_))
   -- STOP cond
   refine tri_cond_dec rfl (fun h3 => ?_) (fun h3 => ?_)
   ·have hkl : k < 2 := by omega
    refine tri_skip (tT (tS (tri_block (tS (tR ?_)))))
    refine tri_v (by first | exact opv_indexAddrA rfl rfl (by first | decide | omega) (by first | decide | omega) | exact opv_indexAddrSN rfl rfl (by omega) (by assumption) (by first | rfl | omega) | exact opv_indexAddrS rfl rfl (by omega) (by omega) (by assumption) (by first | rfl | omega) | exact opv_indexAddrE rfl (by assumption) (by omega) rfl (by first | decide | omega) (by first | decide | omega) | exact opv_indexAddrRN rfl rfl (by omega) | exact opv_indexAddrR rfl rfl (by omega) (by omega) | exact opv_indexAddrRA rfl (by omega) rfl (by first | decide | omega) (by first | decide | omega) | exact opv_indexAddrSP rfl rfl (by omega) (by omega)) rfl ?_
    refine tri_v (by first | exact opv_load1 rfl rfl rfl | exact opv_loadA rfl rfl rfl | exact opv_loadE1 rfl (by assumption) rfl (by omega) rfl rfl | exact opv_loadEA rfl (by assumption) rfl (by omega) rfl rfl | exact opv_loadRX1 rfl rfl (by omega) rfl rfl | exact opv_loadRXA rfl rfl (by omega) rfl rfl rfl | exact opv_loadIX rfl rfl (by omega) | exact opv_loadR1 rfl rfl rfl | exact opv_loadRA rfl rfl rfl rfl) rfl ?_
    refine tA rfl rfl (tN (tT (tS (tR (tM rfl rfl (tM rfl rfl (tM rfl rfl ?_)))))))
    refine tM rfl rfl ?_
    -- STOP op
    refine tri_g (opg_call (xs := [_, _, _, _]) rfl (fork_runR (picks := picks) (hsi.mono h38) (hsj.mono h68) (hp3.mono fun _ h => h38 (hI3a h)) hk (by omega))) rfl ?_
    rintro _ _ J9 ⟨o1, w1, c7, d7, rfl, ho1, hw1, rfl, hJ9⟩
    refine tM rfl rfl ?_
    refine tri_v (opv_extract rfl rfl) rfl ?_
    refine tri_v (opv_extract rfl rfl) rfl ?_
    refine tri_g opg_alloc rfl ?_
    rintro _ _ _ ⟨b25, rfl, rfl, rfl⟩
    refine tri_g (opg_store rfl rfl rfl rfl rfl rfl) rfl ?_
    rintro _ _ _ ⟨rfl, rfl⟩
    refine tA rfl rfl (tN (tT (tS (tR (tM rfl rfl (tM rfl rfl (tM rfl rfl ?_)))))))
    refine tM rfl rfl ?_
    -- STOP op
    refine tri_g (opg_call (xs := [_, _, _, _]) rfl (ref19_Run (picks := picks) (hsi.mono fun _ h => hJ9 (h38 h)) (hsj.mono fun _ h => hJ9 (h68 h)) (hp3.mono fun _ h => hJ9 (h38 (hI3a h))) hk (by omega) hpl)) rfl ?_
    rintro _ _ J10 ⟨o2, w2, c8, d8, rfl, ho2, hw2, rfl, hJ10⟩
    obtain ⟨hq1, hq2⟩ := res_len (p := l) (v := v) (picks := picks) (nw := US.getD k default)
    generalize R19.resM l v picks (US.getD k default) = R at *
    refine tM rfl rfl ?_
    refine tri_v (opv_extract rfl rfl) rfl ?_
    refine tri_v (opv_extract rfl rfl) rfl ?_
    refine tri_g opg_alloc rfl ?_
    rintro _ _ _ ⟨b27, rfl, rfl, rfl⟩
    refine tri_g (opg_store rfl rfl rfl rfl rfl rfl) rfl ?_
    rintro _ _ _ ⟨rfl, rfl⟩
    refine tA rfl rfl (tN (tT (tS (tR ?_))))
    refine tri_v (by first | exact opv_load1 rfl rfl rfl | exact opv_loadA rfl rfl rfl | exact opv_loadE1 rfl (by assumption) rfl (by omega) rfl rfl | exact opv_loadEA rfl (by assumption) rfl (by omega) rfl rfl | exact opv_loadRX1 rfl rfl (by omega) rfl rfl | exact opv_loadRXA rfl rfl (by omega) rfl rfl rfl | exact opv_loadIX rfl rfl (by omega) | exact opv_loadR1 rfl rfl rfl | exact opv_loadRA rfl rfl rfl rfl) rfl ?_
    refine tri_v (by first | exact opv_load1 rfl rfl rfl | exact opv_loadA rfl rfl rfl | exact opv_loadE1 rfl (by assumption) rfl (by omega) rfl rfl | exact opv_loadEA rfl (by assumption) rfl (by omega) rfl rfl | exact opv_loadRX1 rfl rfl (by omega) rfl rfl | exact opv_loadRXA rfl rfl (by omega) rfl rfl rfl | exact opv_loadIX rfl rfl (by omega) | exact opv_loadR1 rfl rfl rfl | exact opv_loadRA rfl rfl rfl rfl) rfl ?_
    -- STOP op
    refine tri_g (opg_call (xs := [_, _]) rfl (ref19_same (ho1.mono hJ10) ho2 (hw1.mono hJ10) hw2 hq1 hq2)) rfl ?_
    rintro _ _ _ ⟨rfl, rfl, rfl⟩
    refine tri_v (by first | exact opv_notD rfl | exact opv_not rfl) rfl ?_
    refine tM rfl rfl ?_
    -- STOP guard
    refine tri_bool 102 rfl (fun h => absurd h (by decide)) (fun _ => ?_)
    refine tri_guard_run rfl rfl rfl (tM rfl rfl (tri_guard_run rfl rfl rfl (tM rfl rfl (tri_guard_run rfl rfl rfl ?_))))
    refine tri_v (by first | exact opv_neq rfl rfl | exact opv_neqI rfl rfl rfl rfl rfl rfl | exact opv_neqB rfl rfl) rfl ?_
    refine tri_v (by first | exact opv_pick_t rfl rfl | exact opv_pick_f rfl rfl | exact opv_pick_bool rfl rfl rfl | exact opv_pick rfl rfl rfl) rfl ?_
    refine tN (tT ?_)
    -- STOP cond
    refine tri_cond_not rfl ((fun h => h rfl)) ?_
    refine tri_skip ?_
    refine tri_inBlock ?_
    refine tT (tR ?_)
    refine tri_v (by first | exact opv_add rfl rfl (w64 (by omega) (by omega))) rfl ?_
    refine tM rfl rfl (tN (tT ?_))
    -- STOP again
    refine tri_drop (tri_drop ?_)
    refine tri_sub ?_ (hK3 (k + 1, J10) ⟨by simp only; omega, fun _ h => hJ10 (hJ9 (hJ8 h))⟩ (by simp only; omega))
    exact ⟨rfl, rfl, rfl, rfl, rfl, rfl, rfl, rfl, rfl, rfl, rfl, rfl, rfl, rfl, rfl, trivial⟩
   ·refine tri_exit ?_
    refine tri_then_exit ?_
    refine tri_then_exit ?_
    refine tri_inBlock_hit rfl ?_
    refine tri_inBlock ?_
    refine tT (tR ?_)
    refine tri_v (by first | exact opv_add rfl rfl (w64 (by omega) (by omega))) rfl ?_
    refine tM rfl rfl (tN (tT ?_))
    -- STOP again
    refine tri_sub ?_ (hK2 (j + 1, J8) ⟨by simp only; omega, fun _ h => h68 (hJ6 h)⟩ (by simp only; omega))
    exact ⟨rfl, rfl, rfl, rfl, rfl, rfl, rfl, rfl, rfl, rfl, rfl, trivial⟩
  ·refine tri_exit ?_
   refine tri_then_exit ?_
   refine tri_then_exit ?_
   refine tri_inBlock_hit rfl ?_
   refine tri_inBlock ?_
   refine tT (tR ?_)
   refine tri_v (by first | exact opv_add rfl rfl (w64 (by omega) (by omega))) rfl ?_
   refine tM rfl rfl (tN (tT ?_))
   -- STOP again
   refine tri_sub ?_ (hK (i + 1, J6) ⟨by simp only; omega, fun _ h => hJ6 (hJ5 (hJ4 (hJ3 h)))⟩ (by simp only; omega))
   exact ⟨rfl, rfl, rfl, rfl, rfl, rfl, rfl, trivial⟩
 ·refine tri_exit ?_
  refine tri_then_exit ?_
  refine tri_then_exit ?_
  refine tri_inBlock_hit rfl ?_
  refine tT (tS (tR (tM rfl rfl (tA rfl rfl (tN (tT (tri_ret ?_)))))))
  -- STOP ret
  refine tri_end _ (by first | exact ⟨[], rfl⟩ | exact ⟨[_], rfl⟩ | exact ⟨[_, _], rfl⟩ | exact ⟨[_, _, _], rfl⟩ | exact ⟨[_, _, _, _], rfl⟩ | exact ⟨[_, _, _, _, _], rfl⟩ | exact ⟨[_, _, _, _, _, _], rfl⟩ | exact ⟨[_, _, _, _, _, _, _], rfl⟩ | exact ⟨[_, _, _, _, _, _, _, _], rfl⟩) rfl (.cons (rv_tmp rfl) .nil) ⟨rfl, rfl, hI3a⟩
end Go.GL
