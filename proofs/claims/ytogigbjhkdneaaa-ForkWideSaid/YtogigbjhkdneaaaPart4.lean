/- Part 4: contracts of the functions that the law reaches: each answers as its model does. No condition beyond those that each theorem states. -/
import Derived.Test.YtogigbjhkdneaaaPart3
set_option linter.unusedVariables false
namespace Go.GL
open Go.Proofs
attribute [local irreducible] wpList Code.wp Exit.then Exit.inBlock Ends Tri TriH OpV OpG FnC epf wpAnyH
variable {A : List Asrt} {I : List Chunk}
namespace R19
theorem getD_mapI {v : List Int} {f : Int → Int} {t : Nat} (h : t < v.length) : (v.map f).getD t default = f (v.getD t default) := by
 rw [List.getD_eq_getElem?_getD, List.getElem?_map, List.getElem?_eq_getElem h, List.getD_eq_getElem?_getD, List.getElem?_eq_getElem h]
 rfl
theorem mapTo_succ {v : List Int} {f : Int → Int} {i : Nat} (h : i < v.length) : (v.take (i + 1)).map f = (v.take i).map f ++ [f (v.getD i default)] := by
 rw [List.take_succ_eq_append_getElem h, List.map_append, List.getD_eq_getElem?_getD, List.getElem?_eq_getElem h]
 rfl
theorem total_succ (v : List Int) (n : Nat) : total v (n + 1) = total v n + v.getD n default := rfl
theorem total_add {v : List Int} {k : Int} : ∀ n, n ≤ v.length → total (v.map fun x => x + k) n = total v n + k * n
 | 0, _ => by show (0 : Int) = 0 + k * 0; omega
 | n + 1, h => by
  rw [total_succ, total_succ, total_add n (by omega), getD_mapI (by omega), Int.natCast_add, Int.mul_add]
  omega
theorem total_twice {v : List Int} : ∀ n, n ≤ v.length → total (v.map fun x => 2 * x) n = 2 * total v n
 | 0, _ => by show (0 : Int) = 2 * 0; omega
 | n + 1, h => by
  rw [total_succ, total_succ, total_twice n (by omega), getD_mapI (by omega)]
  omega
theorem good_map {p v : List Int} {nw : Int} {f : Int → Int} (h : good p v nw) (hf : ∀ t, t < v.length → -1099511627776 ≤ f (v.getD t default) ∧ f (v.getD t default) ≤ 1099511627776) : good p (v.map f) nw := by
 obtain ⟨h1, h2, h3, h4, h5⟩ := h
 refine ⟨h1, by rw [List.length_map]; exact h2, h3, h4, fun t ht => ?_⟩
 rw [List.length_map] at ht
 rw [getD_mapI ht]
 exact hf t ht
theorem vals_bd (vs : List Int) {n t : Nat} (h : t < n) (hn : n ≤ 40) : -300 ≤ (vals vs n).getD t default ∧ (vals vs n).getD t default ≤ 700 := by
 have e : (vals vs n).getD t default = valAt vs t := by
  unfold vals
  rw [List.getD_eq_getElem?_getD, List.getElem?_map, List.getElem?_range h]
  rfl
 rw [e]
 have := valAt_bd vs t
 omega
end R19
theorem fork_run_okV {p v picks : List Int} {nv : Nat} {a a2 a3 : Option Addr} {cap cap2 cap3 : Nat} {nw : Int} (hnv : v.length = nv) (hs : SlAt I a p) (hs2 : SlAt I a2 v) (hs3 : SlAt I a3 picks) (hk : Is picks) (hg : R19.good p v nw) :
  FnC Try.prog 15 [.slice a p.length cap, .slice a2 nv cap2, .int .i64 nw, .slice a3 picks.length cap3].toArray A I (fun r A' I' =>
   ∃ ao aw co cw, r = .tuple [.agg [.int .i64 (R19.total v p.length), .slice ao p.length co, .slice aw p.length cw, .int .i64 (p.length : Nat)].toArray, .int .i64 0].toArray ∧ StA I' ao co (R19.mst p picks nw.toNat p.length).order ∧ StA I' aw cw (R19.mst p picks nw.toNat p.length).who ∧ A = A' ∧ I ⊆ I') := by
 subst hnv
 exact fork_run_ok hs hs2 hs3 hk hg
theorem ref03_intsM {l m : List Int} {nl nm : Nat} {a b : Option Addr} {cap cap2 : Nat} (hl : l.length = nl) (hm : m.length = nm) (hs : SlAt I a l) (ht : SlAt I b m) (hn : nl ≤ 1000000000) :
  FnC Try.prog 18 [.slice a nl cap, .slice b nm cap2].toArray A I (fun v A' I' => v = .bool (decide (l = m)) ∧ A = A' ∧ I = I') := by
 subst hl
 subst hm
 exact ref03_ints hs ht hn
set_option maxHeartbeats 4000000 in
set_option maxRecDepth 100000 in
theorem law19_vals {raw vs picks : List Int} {workers by_ : Int} {a a2 a3 : Option Addr} {cap cap2 cap3 : Nat} (hs : SlAt I a raw) (hr : Is raw) (hs2 : SlAt I a2 vs) (hvs : Is vs) (hvl : vs.length ≤ 9223372036854775807) (hw : I64 workers) (hs3 : SlAt I a3 picks) (hk : Is picks) (hby : I64 by_) :
  FnC Try.prog 8 [.slice a raw.length cap, .slice a2 vs.length cap2, .int .i64 workers, .slice a3 picks.length cap3, .int .i64 by_].toArray A I (fun v A' I' => v = .bool true ∧ A = A' ∧ I ⊆ I') := by
 have hb := pk_bd (c := workers) (n := 9) (by omega)
 have hb2 := pk_bd (c := by_) (n := 100) (by omega)
 have htl := R19.tree_len raw
 have hg := vals_good (raw := raw) (vs := vs) (nw := 1 + pk workers 9) (by omega) (by omega)
 have hvl2 := R19.vals_len vs (R19.tree raw).length
 have hvb : ∀ t, t < (R19.tree raw).length → -300 ≤ (R19.vals vs (R19.tree raw).length).getD t default ∧ (R19.vals vs (R19.tree raw).length).getD t default ≤ 700 := fun t ht => R19.vals_bd vs ht (by omega)
 skip
 refine fn_enter5 Try.func8 rfl Try.ntmps8 rfl fun w0 => ?_
 refine tS (tR (tA rfl rfl (tN (tT (tS (tR ?_))))))
 refine tri_g (opg_call (xs := []) rfl (law19_awake)) rfl ?_
 rintro _ _ I0 ⟨rfl, rfl, hI0⟩
 refine tA rfl rfl (tN (tT (tS (tR (tM rfl rfl ?_)))))
 refine tri_g (opg_call (xs := [_]) rfl (law19_tree (hs.mono hI0) hr)) rfl ?_
 rintro _ _ I1 ⟨a4, c4, rfl, hs4, rfl, hI1⟩
 generalize hp : R19.tree raw = p at *
 refine tA rfl rfl (tN (tT (tS (tR (tM rfl rfl (tM rfl rfl ?_))))))
 refine tri_v (opv_len rfl) rfl ?_
 refine tri_g (opg_call (xs := [_, _]) rfl (law19_values ((hs2.mono hI0).mono hI1) hvs (by omega) hvl)) rfl ?_
 rintro _ _ I2 ⟨a5, c5, rfl, hs5, rfl, hI2⟩
 generalize hv : R19.vals vs p.length = v at *
 refine tA rfl rfl (tN (tT (tS (tR (tM rfl rfl ?_)))))
 refine tri_g (opg_call (xs := [_, _]) rfl (law19_pick hby (by omega))) rfl ?_
 rintro _ _ _ ⟨rfl, rfl, rfl⟩
 generalize hkk : pk by_ 100 = k at *
 refine tA rfl rfl (tN (tT (tS (tR (tA rfl rfl (tN (tT ?_)))))))
 refine tS (tR (tA rfl rfl (tN (tT (tS (tS (tR ?_)))))))
 refine tA rfl rfl (tN (tT ?_))
 refine tri_cut (fun F' A' J => ∃ (b1 b2 : Option Addr) (d1 d2 : Nat), (SlAt J b1 (v.map fun x => x + k) ∧ SlAt J b2 (v.map fun x => 2 * x) ∧ I2 ⊆ J) ∧ F' = [(2, .int .i64 workers), (3, .slice a3 picks.length cap3), (11, .bool true), (12, .slice a4 p.length c4), (13, .slice a5 v.length c5), (14, .int .i64 k), (15, .slice b1 v.length d1), (16, .slice b2 v.length d2)] ∧ A' = A) ?_ ?_
 ·refine tri_block ?_
  refine tri_nilRow (E := 3) (sz := 1) ?_
  refine tri_nilRow (E := 3) (sz := 1) ?_
  refine tri_sub (F' := [(2, .int .i64 workers), (3, .slice a3 picks.length cap3), (11, .bool true), (12, .slice a4 p.length c4), (13, .slice a5 v.length c5), (14, .int .i64 k), (15, .slice none ((v.take 0).map fun x => x + k).length 0), (16, .slice none ((v.take 0).map fun x => 2 * x).length 0), (17, .int .i64 (0 : Nat))]) ⟨rfl, rfl, rfl, rfl, rfl, rfl, rfl, rfl, rfl, trivial⟩ ?_
  refine loop_ind (G := Nat × Option Addr × Option Addr × Nat × Nat) (fun g => v.length - g.1) (fun g => g.1 ≤ v.length) (fun g => [(2, .int .i64 workers), (3, .slice a3 picks.length cap3), (11, .bool true), (12, .slice a4 p.length c4), (13, .slice a5 v.length c5), (14, .int .i64 k), (15, .slice g.2.1 ((v.take g.1).map fun x => x + k).length g.2.2.2.1), (16, .slice g.2.2.1 ((v.take g.1).map fun x => 2 * x).length g.2.2.2.2), (17, .int .i64 (g.1 : Nat))])
   (fun g => Row g.2.1 g.2.2.2.1 ((v.take g.1).map fun x => x + k).length 3 1 (encs ((v.take g.1).map fun x => x + k)) :: Row g.2.2.1 g.2.2.2.2 ((v.take g.1).map fun x => 2 * x).length 3 1 (encs ((v.take g.1).map fun x => 2 * x)) :: A) (fun _ => I2) ?_ (0, none, none, 0, 0) (Nat.zero_le _)
  rintro ⟨i, b1, b2, d1, d2⟩ hi K hK
  simp only at hi hK ⊢
  have hl1 : ((v.take i).map fun x => x + k).length = i := by rw [List.length_map, List.length_take]; omega
  have hl2 : ((v.take i).map fun x => 2 * x).length = i := by rw [List.length_map, List.length_take]; omega
  skip
  refine tS (tS (tR (tM rfl rfl (tM rfl rfl ?_))))
  refine tri_v (opv_len rfl) rfl ?_
  refine tri_v (opv_lss rfl rfl) rfl ?_
  refine tN (tT ?_)
  refine tri_cond_dec rfl (fun h => ?_) (fun h => ?_)
  ·have hil : i < v.length := by omega
   have e1 := R19.mapTo_succ (f := fun x => x + k) hil
   have e2 := R19.mapTo_succ (f := fun x => 2 * x) hil
   have hbi := hvb i (by omega)
   have ti : (i : Int).toNat = i := rfl
   have hbi2 : -300 ≤ v.getD (i : Int).toNat default ∧ v.getD (i : Int).toNat default ≤ 700 := hbi
   refine tri_skip (tT (tS (tri_block (tS (tR (tM rfl rfl (tM rfl rfl ?_)))))))
   refine tM rfl rfl ?_
   refine tri_v (by first | exact opv_indexAddrA rfl rfl (by first | decide | omega) (by first | decide | omega) | exact opv_indexAddrSN rfl rfl (by omega) (by assumption) (by first | rfl | omega) | exact opv_indexAddrS rfl rfl (by omega) (by omega) (by assumption) (by first | rfl | omega) | exact opv_indexAddrE rfl (by assumption) (by omega) rfl (by first | decide | omega) (by first | decide | omega) | exact opv_indexAddrRN rfl rfl (by omega) | exact opv_indexAddrR rfl rfl (by omega) (by omega) | exact opv_indexAddrRA rfl (by omega) rfl (by first | decide | omega) (by first | decide | omega) | exact opv_indexAddrSP rfl rfl (by omega) (by omega)) rfl ?_
   refine tri_v (by first | exact opv_load1 rfl rfl rfl | exact opv_loadA rfl rfl rfl | exact opv_loadE1 rfl (by assumption) rfl (by omega) rfl rfl | exact opv_loadEA rfl (by assumption) rfl (by omega) rfl rfl | exact opv_loadRX1 rfl rfl (by omega) rfl rfl | exact opv_loadRXA rfl rfl (by omega) rfl rfl rfl | exact opv_loadIX rfl rfl (by omega) | exact opv_loadR1 rfl rfl rfl | exact opv_loadRA rfl rfl rfl rfl) rfl ?_
   refine tM rfl rfl ?_
   refine tri_v (by first | exact opv_add rfl rfl (w64 (by omega) (by omega))) rfl ?_
   refine tri_g (opg_buildSlice rfl rfl rfl rfl) rfl ?_
   rintro _ _ _ ⟨b47, rfl, rfl, rfl⟩
   refine tri_g (opg_appendB rfl rfl rfl rfl (by omega) rfl) rfl ?_
   rintro _ _ _ ⟨b3, d3, rfl, rfl, rfl⟩
   refine tA rfl rfl (tN (tT (tR (tM rfl rfl (tM rfl rfl (tM rfl rfl ?_))))))
   refine tri_v (by first | exact opv_indexAddrA rfl rfl (by first | decide | omega) (by first | decide | omega) | exact opv_indexAddrSN rfl rfl (by omega) (by assumption) (by first | rfl | omega) | exact opv_indexAddrS rfl rfl (by omega) (by omega) (by assumption) (by first | rfl | omega) | exact opv_indexAddrE rfl (by assumption) (by omega) rfl (by first | decide | omega) (by first | decide | omega) | exact opv_indexAddrRN rfl rfl (by omega) | exact opv_indexAddrR rfl rfl (by omega) (by omega) | exact opv_indexAddrRA rfl (by omega) rfl (by first | decide | omega) (by first | decide | omega) | exact opv_indexAddrSP rfl rfl (by omega) (by omega)) rfl ?_
   refine tri_v (by first | exact opv_load1 rfl rfl rfl | exact opv_loadA rfl rfl rfl | exact opv_loadE1 rfl (by assumption) rfl (by omega) rfl rfl | exact opv_loadEA rfl (by assumption) rfl (by omega) rfl rfl | exact opv_loadRX1 rfl rfl (by omega) rfl rfl | exact opv_loadRXA rfl rfl (by omega) rfl rfl rfl | exact opv_loadIX rfl rfl (by omega) | exact opv_loadR1 rfl rfl rfl | exact opv_loadRA rfl rfl rfl rfl) rfl ?_
   refine tri_v (by first | exact opv_mul rfl rfl (w64 (by omega) (by omega)) | exact opv_mul rfl rfl (by assumption)) rfl ?_
   refine tri_g (opg_buildSlice rfl rfl rfl rfl) rfl ?_
   rintro _ _ _ ⟨b55, rfl, rfl, rfl⟩
   refine tri_g (opg_appendB rfl rfl rfl rfl (by omega) rfl) rfl ?_
   rintro _ _ _ ⟨b4, d4, rfl, rfl, rfl⟩
   refine tA rfl rfl (tN ?_)
   refine tri_inBlock ?_
   refine tT (tR (tM rfl rfl ?_))
   refine tri_v (by first | exact opv_add rfl rfl (w64 (by omega) (by omega))) rfl ?_
   refine tA rfl rfl (tN (tT ?_))
   refine tri_drop (tri_drop ?_)
   refine tri_rowEq (len' := ((v.take (i + 1)).map fun x => x + k).length) (cells' := encs ((v.take (i + 1)).map fun x => x + k)) (by rw [e1]; simp) (by rw [e1, encs_append]; rfl) ?_
   refine tri_perm (List.Perm.swap _ _ _) ?_
   refine tri_rowEq (len' := ((v.take (i + 1)).map fun x => 2 * x).length) (cells' := encs ((v.take (i + 1)).map fun x => 2 * x)) (by rw [e2]; simp) (by rw [e2, encs_append]; rfl) ?_
   refine tri_perm (List.Perm.swap _ _ _) ?_
   refine tri_sub ?_ (hK (i + 1, b3, b4, d3, d4) (by simp only; omega) (by simp only; omega))
   exact ⟨rfl, rfl, rfl, rfl, rfl, rfl, by simp only [e1, List.length_append]; rfl, by simp only [e2, List.length_append]; rfl, rfl, trivial⟩
  ·have ei : v.take i = v := List.take_of_length_le (by omega)
   rw [ei]
   refine tri_exit ?_
   refine tri_then_exit ?_
   refine tri_then_exit ?_
   refine tri_inBlock_hit rfl ?_
   refine tri_freezeRow (α := Int) rfl fun I3 hI3 hs6 => ?_
   refine tri_freezeRow (α := Int) rfl fun I4 hI4 hs7 => ?_
   exact tri_cutEnd _ ⟨b1, b2, d1, d2, ⟨hs6.mono hI4, hs7, fun _ h => hI4 (hI3 h)⟩, rfl, rfl⟩ ⟨rfl, rfl, rfl, rfl, rfl, rfl, by simp only [List.length_map]; rfl, by simp only [List.length_map]; rfl, trivial⟩
 rintro _ _ I3 ⟨b1, b2, d1, d2, ⟨hs6, hs7, hI3⟩, rfl, rfl⟩
 have hvp : v.length = p.length := hvl2
 have hm1 : (v.map fun x => x + k).length = v.length := List.length_map _
 have hm2 : (v.map fun x => 2 * x).length = v.length := List.length_map _
 have hg1 : R19.good p (v.map fun x => x + k) (1 + pk workers 9) := R19.good_map hg fun t ht => by have := hvb t (by omega); omega
 have hg2 : R19.good p (v.map fun x => 2 * x) (1 + pk workers 9) := R19.good_map hg fun t ht => by have := hvb t (by omega); omega
 have ht1 := R19.total_add (v := v) (k := k) p.length (by omega)
 have ht2 := R19.total_twice (v := v) p.length (by omega)
 have htb := R19.total_bd (v := v) (B := 1000) (n := p.length) fun t ht => by have := hvb t ht; omega
 have hm : 0 ≤ k * (p.length : Int) ∧ k * (p.length : Int) ≤ 100 * 40 := ⟨Int.mul_nonneg (by omega) (by omega), Int.mul_le_mul (by omega) (by omega) (by omega) (by omega)⟩
 have hs04 : I ⊆ I3 := fun _ h => hI3 (hI2 (hI1 (hI0 h)))
 refine tT (tS (tR (tM rfl rfl ?_)))
 refine tri_g (opg_call (xs := [_, _]) rfl (law19_pick hw (by omega))) rfl ?_
 rintro _ _ _ ⟨rfl, rfl, rfl⟩
 refine tri_v (by first | exact opv_add rfl rfl (w64 (by omega) (by omega))) rfl ?_
 refine tA rfl rfl (tN (tT (tS (tR (tM rfl rfl (tM rfl rfl (tM rfl rfl ?_)))))))
 refine tM rfl rfl ?_
 refine tri_g (opg_call (xs := [_, _, _, _]) rfl (fork_run_ok (picks := picks) (hs4.mono fun _ h => hI3 (hI2 h)) (hs5.mono hI3) (hs3.mono hs04) hk hg)) rfl ?_
 rintro _ _ I5 ⟨o1, w1, c6, d6, rfl, ho1, hw1, rfl, hI5⟩
 refine tM rfl rfl ?_
 refine tri_v (opv_extract rfl rfl) rfl ?_
 refine tri_v (opv_extract rfl rfl) rfl ?_
 refine tri_g opg_alloc rfl ?_
 rintro _ _ _ ⟨b19, rfl, rfl, rfl⟩
 refine tri_g (opg_store rfl rfl rfl rfl rfl rfl) rfl ?_
 rintro _ _ _ ⟨rfl, rfl⟩
 refine tA rfl rfl (tN (tT (tS (tR (tM rfl rfl (tM rfl rfl (tM rfl rfl ?_)))))))
 refine tM rfl rfl ?_
 refine tri_g (opg_call (xs := [_, _, _, _]) rfl (fork_run_okV (picks := picks) hm1 (hs4.mono fun _ h => hI5 (hI3 (hI2 h))) (hs6.mono hI5) (hs3.mono fun _ h => hI5 (hs04 h)) hk hg1)) rfl ?_
 rintro _ _ I6 ⟨o2, w2, c7, d7, rfl, ho2, hw2, rfl, hI6⟩
 rw [ht1]
 refine tM rfl rfl ?_
 refine tri_v (opv_extract rfl rfl) rfl ?_
 refine tri_v (opv_extract rfl rfl) rfl ?_
 refine tri_g opg_alloc rfl ?_
 rintro _ _ _ ⟨b21, rfl, rfl, rfl⟩
 refine tri_g (opg_store rfl rfl rfl rfl rfl rfl) rfl ?_
 rintro _ _ _ ⟨rfl, rfl⟩
 refine tA rfl rfl (tN (tT (tS (tR (tM rfl rfl (tM rfl rfl (tM rfl rfl ?_)))))))
 refine tM rfl rfl ?_
 refine tri_g (opg_call (xs := [_, _, _, _]) rfl (fork_run_okV (picks := picks) hm2 (hs4.mono fun _ h => hI6 (hI5 (hI3 (hI2 h)))) (hs7.mono fun _ h => hI6 (hI5 h)) (hs3.mono fun _ h => hI6 (hI5 (hs04 h))) hk hg2)) rfl ?_
 rintro _ _ I7 ⟨o3, w3, c8, d8, rfl, ho3, hw3, rfl, hI7⟩
 rw [ht2]
 have hmo := R19.MOk.run (p := p) (by rw [← hp]; exact R19.tree_right raw) (nw := (1 + pk workers 9).toNat) (by omega) p.length (Nat.le_refl _) (picks := picks)
 have hol := hmo.ol
 have hwl := hmo.wl
 generalize R19.mst p picks (1 + pk workers 9).toNat p.length = M at *
 generalize R19.total v p.length = S at *
 refine tM rfl rfl ?_
 refine tri_v (opv_extract rfl rfl) rfl ?_
 refine tri_v (opv_extract rfl rfl) rfl ?_
 refine tri_g opg_alloc rfl ?_
 rintro _ _ _ ⟨b23, rfl, rfl, rfl⟩
 refine tri_g (opg_store rfl rfl rfl rfl rfl rfl) rfl ?_
 rintro _ _ _ ⟨rfl, rfl⟩
 refine tA rfl rfl (tN (tT (tS (tR (tM rfl rfl (tM rfl rfl ?_))))))
 refine tri_bool 85 rfl (fun _ => ?_) (fun h => absurd h (by decide))
 refine tri_guard_run rfl rfl rfl (tM rfl rfl (tri_guard_run rfl rfl rfl ?_))
 refine tri_v (by first | exact opv_eql rfl rfl | exact opv_eqlI rfl rfl rfl rfl rfl rfl | exact opv_eqlB rfl rfl | exact opv_eqlNil rfl rfl) rfl ?_
 refine tri_v (by first | exact opv_pick_t rfl rfl | exact opv_pick_f rfl rfl | exact opv_pick_bool rfl rfl rfl | exact opv_pick rfl rfl rfl) rfl ?_
 refine tM rfl rfl ?_
 refine tri_true rfl rfl (rfl) ?_
 refine tri_guard_run rfl rfl rfl (tM rfl rfl (tri_guard_run rfl rfl rfl ?_))
 refine tri_v (by first | exact opv_eql rfl rfl | exact opv_eqlI rfl rfl rfl rfl rfl rfl | exact opv_eqlB rfl rfl | exact opv_eqlNil rfl rfl) rfl ?_
 refine tri_v (by first | exact opv_pick_t rfl rfl | exact opv_pick_f rfl rfl | exact opv_pick_bool rfl rfl rfl | exact opv_pick rfl rfl rfl) rfl ?_
 refine tM rfl rfl ?_
 refine tri_true rfl rfl (rfl) ?_
 refine tri_guard_run rfl rfl rfl (tM rfl rfl (tri_guard_run rfl rfl rfl ?_))
 refine tri_v (by first | exact opv_eql rfl rfl | exact opv_eqlI rfl rfl rfl rfl rfl rfl | exact opv_eqlB rfl rfl | exact opv_eqlNil rfl rfl) rfl ?_
 refine tri_v (by first | exact opv_pick_t rfl rfl | exact opv_pick_f rfl rfl | exact opv_pick_bool rfl rfl rfl | exact opv_pick rfl rfl rfl) rfl ?_
 refine tM rfl rfl ?_
 refine tri_true rfl rfl (rfl) ?_
 refine tri_guard_run rfl rfl rfl ?_
 refine tri_v (by first | exact opv_fieldAddr rfl rfl | exact opv_fieldAddrE rfl (by assumption) (by omega) rfl | exact opv_fieldAddrR rfl (by omega) rfl | exact opv_fieldAddrP rfl rfl rfl) rfl ?_
 refine tri_guard_run rfl rfl rfl ?_
 refine tri_v (by first | exact opv_load1 rfl rfl rfl | exact opv_loadA rfl rfl rfl | exact opv_loadE1 rfl (by assumption) rfl (by omega) rfl rfl | exact opv_loadEA rfl (by assumption) rfl (by omega) rfl rfl | exact opv_loadRX1 rfl rfl (by omega) rfl rfl | exact opv_loadRXA rfl rfl (by omega) rfl rfl rfl | exact opv_loadIX rfl rfl (by omega) | exact opv_loadR1 rfl rfl rfl | exact opv_loadRA rfl rfl rfl rfl) rfl ?_
 refine tri_guard_run rfl rfl rfl ?_
 refine tri_v (by first | exact opv_fieldAddr rfl rfl | exact opv_fieldAddrE rfl (by assumption) (by omega) rfl | exact opv_fieldAddrR rfl (by omega) rfl | exact opv_fieldAddrP rfl rfl rfl) rfl ?_
 refine tri_guard_run rfl rfl rfl ?_
 refine tri_v (by first | exact opv_load1 rfl rfl rfl | exact opv_loadA rfl rfl rfl | exact opv_loadE1 rfl (by assumption) rfl (by omega) rfl rfl | exact opv_loadEA rfl (by assumption) rfl (by omega) rfl rfl | exact opv_loadRX1 rfl rfl (by omega) rfl rfl | exact opv_loadRXA rfl rfl (by omega) rfl rfl rfl | exact opv_loadIX rfl rfl (by omega) | exact opv_loadR1 rfl rfl rfl | exact opv_loadRA rfl rfl rfl rfl) rfl ?_
 refine tri_guard_run rfl rfl rfl (tM rfl rfl (tri_guard_run rfl rfl rfl (tM rfl rfl (tri_guard_run rfl rfl rfl ?_))))
 refine tri_v (opv_len rfl) rfl ?_
 refine tri_guard_run rfl rfl rfl ?_
 refine tri_v (by first | exact opv_mul rfl rfl (w64 (by omega) (by omega)) | exact opv_mul rfl rfl (by assumption)) rfl ?_
 refine tri_guard_run rfl rfl rfl ?_
 refine tri_v (by first | exact opv_add rfl rfl (w64 (by omega) (by omega))) rfl ?_
 refine tri_guard_run rfl rfl rfl ?_
 refine tri_v (by first | exact opv_eql rfl rfl | exact opv_eqlI rfl rfl rfl rfl rfl rfl | exact opv_eqlB rfl rfl | exact opv_eqlNil rfl rfl) rfl ?_
 refine tri_v (by first | exact opv_pick_t rfl rfl | exact opv_pick_f rfl rfl | exact opv_pick_bool rfl rfl rfl | exact opv_pick rfl rfl rfl) rfl ?_
 refine tM rfl rfl ?_
 refine tri_true rfl rfl (rfl) ?_
 refine tri_guard_run rfl rfl rfl ?_
 refine tri_v (by first | exact opv_fieldAddr rfl rfl | exact opv_fieldAddrE rfl (by assumption) (by omega) rfl | exact opv_fieldAddrR rfl (by omega) rfl | exact opv_fieldAddrP rfl rfl rfl) rfl ?_
 refine tri_guard_run rfl rfl rfl ?_
 refine tri_v (by first | exact opv_load1 rfl rfl rfl | exact opv_loadA rfl rfl rfl | exact opv_loadE1 rfl (by assumption) rfl (by omega) rfl rfl | exact opv_loadEA rfl (by assumption) rfl (by omega) rfl rfl | exact opv_loadRX1 rfl rfl (by omega) rfl rfl | exact opv_loadRXA rfl rfl (by omega) rfl rfl rfl | exact opv_loadIX rfl rfl (by omega) | exact opv_loadR1 rfl rfl rfl | exact opv_loadRA rfl rfl rfl rfl) rfl ?_
 refine tri_guard_run rfl rfl rfl ?_
 refine tri_v (by first | exact opv_fieldAddr rfl rfl | exact opv_fieldAddrE rfl (by assumption) (by omega) rfl | exact opv_fieldAddrR rfl (by omega) rfl | exact opv_fieldAddrP rfl rfl rfl) rfl ?_
 refine tri_guard_run rfl rfl rfl ?_
 refine tri_v (by first | exact opv_load1 rfl rfl rfl | exact opv_loadA rfl rfl rfl | exact opv_loadE1 rfl (by assumption) rfl (by omega) rfl rfl | exact opv_loadEA rfl (by assumption) rfl (by omega) rfl rfl | exact opv_loadRX1 rfl rfl (by omega) rfl rfl | exact opv_loadRXA rfl rfl (by omega) rfl rfl rfl | exact opv_loadIX rfl rfl (by omega) | exact opv_loadR1 rfl rfl rfl | exact opv_loadRA rfl rfl rfl rfl) rfl ?_
 refine tri_guard_run rfl rfl rfl ?_
 refine tri_v (by first | exact opv_mul rfl rfl (w64 (by omega) (by omega)) | exact opv_mul rfl rfl (by assumption)) rfl ?_
 refine tri_guard_run rfl rfl rfl ?_
 refine tri_v (by first | exact opv_eql rfl rfl | exact opv_eqlI rfl rfl rfl rfl rfl rfl | exact opv_eqlB rfl rfl | exact opv_eqlNil rfl rfl) rfl ?_
 refine tri_v (by first | exact opv_pick_t rfl rfl | exact opv_pick_f rfl rfl | exact opv_pick_bool rfl rfl rfl | exact opv_pick rfl rfl rfl) rfl ?_
 refine tM rfl rfl ?_
 refine tri_true rfl rfl (rfl) ?_
 refine tri_guard_run rfl rfl rfl ?_
 refine tri_v (by first | exact opv_fieldAddr rfl rfl | exact opv_fieldAddrE rfl (by assumption) (by omega) rfl | exact opv_fieldAddrR rfl (by omega) rfl | exact opv_fieldAddrP rfl rfl rfl) rfl ?_
 refine tri_guard_run rfl rfl rfl ?_
 refine tri_v (by first | exact opv_load1 rfl rfl rfl | exact opv_loadA rfl rfl rfl | exact opv_loadE1 rfl (by assumption) rfl (by omega) rfl rfl | exact opv_loadEA rfl (by assumption) rfl (by omega) rfl rfl | exact opv_loadRX1 rfl rfl (by omega) rfl rfl | exact opv_loadRXA rfl rfl (by omega) rfl rfl rfl | exact opv_loadIX rfl rfl (by omega) | exact opv_loadR1 rfl rfl rfl | exact opv_loadRA rfl rfl rfl rfl) rfl ?_
 refine tri_guard_run rfl rfl rfl ?_
 refine tri_v (by first | exact opv_fieldAddr rfl rfl | exact opv_fieldAddrE rfl (by assumption) (by omega) rfl | exact opv_fieldAddrR rfl (by omega) rfl | exact opv_fieldAddrP rfl rfl rfl) rfl ?_
 refine tri_guard_run rfl rfl rfl ?_
 refine tri_v (by first | exact opv_load1 rfl rfl rfl | exact opv_loadA rfl rfl rfl | exact opv_loadE1 rfl (by assumption) rfl (by omega) rfl rfl | exact opv_loadEA rfl (by assumption) rfl (by omega) rfl rfl | exact opv_loadRX1 rfl rfl (by omega) rfl rfl | exact opv_loadRXA rfl rfl (by omega) rfl rfl rfl | exact opv_loadIX rfl rfl (by omega) | exact opv_loadR1 rfl rfl rfl | exact opv_loadRA rfl rfl rfl rfl) rfl ?_
 refine tri_guard_run rfl rfl rfl ?_
 refine tri_g (opg_call (xs := [_, _]) rfl (ref03_intsM hol hol (ho1.sl.mono fun _ h => hI7 (hI6 h)) (ho2.sl.mono hI7) (by omega))) rfl ?_
 rintro _ _ _ ⟨rfl, rfl, rfl⟩
 refine tri_v (by first | exact opv_pick_t rfl rfl | exact opv_pick_f rfl rfl | exact opv_pick_bool rfl rfl rfl | exact opv_pick rfl rfl rfl) rfl ?_
 refine tM rfl rfl ?_
 refine tri_true rfl rfl (rfl) ?_
 refine tri_guard_run rfl rfl rfl ?_
 refine tri_v (by first | exact opv_fieldAddr rfl rfl | exact opv_fieldAddrE rfl (by assumption) (by omega) rfl | exact opv_fieldAddrR rfl (by omega) rfl | exact opv_fieldAddrP rfl rfl rfl) rfl ?_
 refine tri_guard_run rfl rfl rfl ?_
 refine tri_v (by first | exact opv_load1 rfl rfl rfl | exact opv_loadA rfl rfl rfl | exact opv_loadE1 rfl (by assumption) rfl (by omega) rfl rfl | exact opv_loadEA rfl (by assumption) rfl (by omega) rfl rfl | exact opv_loadRX1 rfl rfl (by omega) rfl rfl | exact opv_loadRXA rfl rfl (by omega) rfl rfl rfl | exact opv_loadIX rfl rfl (by omega) | exact opv_loadR1 rfl rfl rfl | exact opv_loadRA rfl rfl rfl rfl) rfl ?_
 refine tri_guard_run rfl rfl rfl ?_
 refine tri_v (by first | exact opv_fieldAddr rfl rfl | exact opv_fieldAddrE rfl (by assumption) (by omega) rfl | exact opv_fieldAddrR rfl (by omega) rfl | exact opv_fieldAddrP rfl rfl rfl) rfl ?_
 refine tri_guard_run rfl rfl rfl ?_
 refine tri_v (by first | exact opv_load1 rfl rfl rfl | exact opv_loadA rfl rfl rfl | exact opv_loadE1 rfl (by assumption) rfl (by omega) rfl rfl | exact opv_loadEA rfl (by assumption) rfl (by omega) rfl rfl | exact opv_loadRX1 rfl rfl (by omega) rfl rfl | exact opv_loadRXA rfl rfl (by omega) rfl rfl rfl | exact opv_loadIX rfl rfl (by omega) | exact opv_loadR1 rfl rfl rfl | exact opv_loadRA rfl rfl rfl rfl) rfl ?_
 refine tri_guard_run rfl rfl rfl ?_
 refine tri_g (opg_call (xs := [_, _]) rfl (ref03_intsM hwl hwl (hw1.sl.mono fun _ h => hI7 (hI6 h)) hw3.sl (by omega))) rfl ?_
 rintro _ _ _ ⟨rfl, rfl, rfl⟩
 refine tri_v (by first | exact opv_pick_t rfl rfl | exact opv_pick_f rfl rfl | exact opv_pick_bool rfl rfl rfl | exact opv_pick rfl rfl rfl) rfl ?_
 refine tA rfl rfl (tN (tT (tri_ret ?_)))
 refine tri_end _ (by first | exact ⟨[], rfl⟩ | exact ⟨[_], rfl⟩ | exact ⟨[_, _], rfl⟩ | exact ⟨[_, _, _], rfl⟩ | exact ⟨[_, _, _, _], rfl⟩ | exact ⟨[_, _, _, _, _], rfl⟩ | exact ⟨[_, _, _, _, _, _], rfl⟩ | exact ⟨[_, _, _, _, _, _, _], rfl⟩ | exact ⟨[_, _, _, _, _, _, _, _], rfl⟩) rfl (.cons (rv_tmp rfl) .nil) ⟨?_, rfl, fun _ h => hI7 (hI6 (hI5 (hs04 h)))⟩
 exact congrArg Value.bool (decide_eq_true rfl)
end Go.GL

set_option linter.unusedVariables false
namespace Go.GL
namespace R19
variable {p picks : List Int}
theorem getD_appI {l m : List Int} {i : Nat} (h : i < l.length) : (l ++ m).getD i default = l.getD i default := by
 rw [List.getD_eq_getElem?_getD, List.getElem?_append_left h, List.getD_eq_getElem?_getD]
theorem getD_lastI {l : List Int} {x : Int} {i : Nat} (h : i = l.length) : (l ++ [x]).getD i default = x := by
 subst h
 rw [List.getD_eq_getElem?_getD, List.getElem?_append_right (Nat.le_refl _), Nat.sub_self]
 rfl
theorem mst_order (picks : List Int) (nw n : Nat) : (mst p picks nw (n + 1)).order = (mst p picks nw n).order ++ [(takeM (mst p picks nw n).D (nxt picks nw (mst p picks nw n).order.length (mst p picks nw n).last).toNat).1] := rfl
theorem mst_who (picks : List Int) (nw n : Nat) : (mst p picks nw (n + 1)).who = (mst p picks nw n).who ++ [nxt picks nw (mst p picks nw n).order.length (mst p picks nw n).last] := rfl
/-- What was run stays. -/
theorem mst_pre (hr : right p) {nw : Nat} (hw : 1 ≤ nw) {m : Nat} : ∀ {n : Nat}, m ≤ n → n ≤ p.length → (mst p picks nw n).order.take m = (mst p picks nw m).order ∧ (mst p picks nw n).who.take m = (mst p picks nw m).who := by
 intro n
 induction n with
 | zero =>
  intro h _
  obtain rfl : m = 0 := by omega
  exact ⟨rfl, rfl⟩
 | succ n ih =>
  intro h hn
  have hm := MOk.run hr hw n (by omega) (picks := picks)
  by_cases e : m = n + 1
  ·subst e
   have hm2 := MOk.run hr hw (n + 1) hn (picks := picks)
   exact ⟨List.take_of_length_le (by rw [hm2.ol]; omega), List.take_of_length_le (by rw [hm2.wl]; omega)⟩
  ·obtain ⟨h1, h2⟩ := ih (by omega) (by omega)
   rw [mst_order, mst_who, List.take_append_of_le_length (by rw [hm.ol]; omega), List.take_append_of_le_length (by rw [hm.wl]; omega)]
   exact ⟨h1, h2⟩
theorem getD_take' {l : List Int} {i m : Nat} (h : i < m) : (l.take m).getD i default = l.getD i default := by
 rw [List.getD_eq_getElem?_getD, List.getElem?_take_of_lt h, List.getD_eq_getElem?_getD]
/-- What is run in step i. -/
theorem mst_at (hr : right p) {nw : Nat} (hw : 1 ≤ nw) {i n : Nat} (hi : i < n) (hn : n ≤ p.length) :
  (mst p picks nw n).order.getD i default = (takeM (mst p picks nw i).D (nxt picks nw i (mst p picks nw i).last).toNat).1 ∧ (mst p picks nw n).who.getD i default = nxt picks nw i (mst p picks nw i).last := by
 obtain ⟨h1, h2⟩ := mst_pre hr hw (picks := picks) (m := i + 1) (n := n) (by omega) hn
 have hm := MOk.run hr hw i (by omega) (picks := picks)
 rw [← getD_take' (l := (mst p picks nw n).order) (m := i + 1) (by omega), ← getD_take' (l := (mst p picks nw n).who) (m := i + 1) (by omega), h1, h2, mst_order, mst_who, getD_lastI hm.ol.symm, getD_lastI hm.wl.symm, hm.ol]
 exact ⟨rfl, rfl⟩
/-- The task of step i: it wasn't run, its parent was. -/
theorem ord_at (hr : right p) {nw : Nat} (hw : 1 ≤ nw) {i n : Nat} (hi : i < n) (hn : n ≤ p.length) :
  ∃ T : Nat, (mst p picks nw n).order.getD i default = (T : Int) ∧ T < p.length ∧ (T : Int) ∉ (mst p picks nw n).order.take i ∧ (T = 0 ∨ p.getD T default ∈ (mst p picks nw n).order.take i) := by
 have hm := MOk.run hr hw i (by omega) (picks := picks)
 obtain ⟨hx0, hx1⟩ := nxt_ok (picks := picks) (nw := nw) (n := i) (last := (mst p picks nw i).last) hw
 obtain ⟨T, hT, h1, h2, h3, _⟩ := hm.take hr (by omega) (w := (nxt picks nw i (mst p picks nw i).last).toNat) (by omega)
 rw [(mst_at hr hw hi hn).1, (mst_pre hr hw (by omega) hn).1]
 exact ⟨T, hT, h1, h2, h3⟩
theorem who_at (hr : right p) {nw : Nat} (hw : 1 ≤ nw) {i n : Nat} (hi : i < n) (hn : n ≤ p.length) : 0 ≤ (mst p picks nw n).who.getD i default ∧ (mst p picks nw n).who.getD i default < nw := by
 rw [(mst_at hr hw hi hn).2]
 exact nxt_ok hw
/-! ### One worker alone -/
theorem nxt_one (picks : List Int) (n : Nat) (last : Int) : nxt picks 1 n last = 0 := by
 have := nxt_ok (picks := picks) (nw := 1) (n := n) (last := last) (Nat.le_refl _)
 omega
theorem mst_alone (picks : List Int) : ∀ n, mst p picks 1 n = mst p [] 1 n
 | 0 => rfl
 | n + 1 => by
  show mstep p picks 1 (mst p picks 1 n) = mstep p [] 1 (mst p [] 1 n)
  rw [mst_alone picks n]
  unfold mstep
  rw [nxt_one, nxt_one]
theorem who_alone (hr : right p) {n : Nat} (hn : n ≤ p.length) : (mst p picks 1 n).who = List.replicate n 0 := by
 have hm := MOk.run hr (Nat.le_refl 1) n hn (picks := picks)
 rw [List.eq_replicate_iff]
 exact ⟨hm.wl, fun w hw => by have := hm.who w hw; omega⟩
theorem takeM_own {D : List (List Int)} {w : Nat} (h : 0 < (D.getD w default).length) : takeM D w = ((D.getD w default).getD ((D.getD w default).length - 1) default, D.set w ((D.getD w default).take ((D.getD w default).length - 1))) := if_pos h
/-- Behind a task with kids comes the last one. -/
theorem alone_next (hr : right p) {i n : Nat} (hi : i + 1 < n) (hn : n ≤ p.length) {T : Nat} (hT : (mst p picks 1 n).order.getD i default = (T : Int)) (hk : 0 < (kids p T).length) :
  (mst p picks 1 n).order.getD (i + 1) default = (kids p T).getD ((kids p T).length - 1) default := by
 rw [(mst_at hr (Nat.le_refl 1) (by omega) hn).1] at hT ⊢
 rw [nxt_one] at hT ⊢
 have hm := MOk.run hr (Nat.le_refl 1) i (by omega) (picks := picks)
 have hm2 := MOk.run hr (Nat.le_refl 1) (i + 1) (by omega) (picks := picks)
 have hms : (mst p picks 1 (i + 1)).D = (takeM (mst p picks 1 i).D 0).2.set 0 ((takeM (mst p picks 1 i).D 0).2.getD 0 default ++ kids p (takeM (mst p picks 1 i).D 0).1.toNat) := by
  show (mstep p picks 1 (mst p picks 1 i)).D = _
  unfold mstep
  rw [nxt_one]
  rfl
 have hT2 : (takeM (mst p picks 1 i).D 0).1 = (T : Int) := hT
 rw [hT2, Int.toNat_natCast] at hms
 have hl : (takeM (mst p picks 1 i).D 0).2.length = 1 := by
  obtain ⟨_, _, _, _, _, _, h⟩ := hm.take hr (by omega) (w := 0) (by omega)
  exact h
 have e0 : (mst p picks 1 (i + 1)).D.getD 0 default = (takeM (mst p picks 1 i).D 0).2.getD 0 default ++ kids p T := by
  rw [hms]
  match (takeM (mst p picks 1 i).D 0).2, hl with
  | [x], _ => rfl
 have hpos : 0 < ((mst p picks 1 (i + 1)).D.getD 0 default).length := by rw [e0, List.length_append]; omega
 show (takeM (mst p picks 1 (i + 1)).D 0).1 = _
 rw [takeM_own hpos, e0]
 generalize (takeM (mst p picks 1 i).D 0).2.getD 0 default = l
 show (l ++ kids p T).getD ((l ++ kids p T).length - 1) default = _
 rw [List.length_append, List.getD_eq_getElem?_getD, List.getElem?_append_right (by omega), List.getD_eq_getElem?_getD]
 congr 2
 omega
/-- The last kid among the first k tasks. -/
def lastKid (p : List Int) (T : Int) : Nat → Int
 | 0 => -1
 | k + 1 => if p.getD k default = T then (k : Int) else lastKid p T k
theorem lastKid_bd {T : Int} : ∀ k, -1 ≤ lastKid p T k ∧ lastKid p T k < k
 | 0 => by show -1 ≤ (-1 : Int) ∧ (-1 : Int) < 0; omega
 | k + 1 => by
  have := lastKid_bd (T := T) k
  unfold lastKid
  split <;> omega
theorem lastKid_eq {T : Nat} : ∀ k, 0 ≤ lastKid p T k → 0 < (kidsTo p k T).length ∧ (kidsTo p k T).getD ((kidsTo p k T).length - 1) default = lastKid p T k
 | 0, h => absurd h (by show ¬ (0 : Int) ≤ -1; omega)
 | k + 1, h => by
  unfold lastKid at h ⊢
  rw [kidsTo_succ]
  by_cases e : p.getD k default = (T : Int)
  ·rw [if_pos e, if_pos e]
   refine ⟨by simp, ?_⟩
   rw [getD_lastI]
   simp
  ·rw [if_neg e] at h ⊢
   rw [if_neg e, List.append_nil]
   exact lastKid_eq k h
end R19
end Go.GL

set_option linter.unusedVariables false
namespace Go.GL
section
variable {P : Program} {A : List Asrt} {I : List Chunk}
/-- A row that will not be written any more is handed over to be read. -/
theorem FnC.freezeRow {f : FuncId} {args : Array Value} {R : Value → List Asrt → List Chunk → Prop} {xs : List Int} {E : TypeId} {a : Option Addr} {cap len : Nat} (h : ∀ I', I ⊆ I' → SlAt I' a xs → FnC P f args A I' R) : FnC P f args (Row a cap len E 1 (encs xs) :: A) I R := by
 intro w0 w hs
 obtain ⟨cs, h1, h2⟩ := hs
 obtain ⟨c, cs', rfl, ⟨hl, ha⟩, hr⟩ := h1.cons_inv
 rcases ha with ⟨rfl, rfl, rfl, rfl⟩ | ⟨b, cur, rfl, rfl, hsz, hle, htk⟩
 ·have hx : xs = [] := by
   rw [encs_length] at hl
   have : xs.length * 1 = 0 * 1 := hl
   exact List.eq_nil_of_length_eq_zero (by omega)
  exact h I (fun _ h => h) (.inl hx) w0 w ⟨cs', hr, by simpa using h2⟩
 ·refine h ((b, .cells cur E (0, 0)) :: I) (fun _ h => List.mem_cons_of_mem _ h) (.inr ⟨b, 0, rfl, cur, E, (0, 0), by simp, ?_⟩) w0 w ⟨cs', hr, h2.perm ?_⟩
  ·intro j v hj
   rw [← htk] at hj
   have := (List.getElem?_eq_some_iff.1 hj).1
   rw [List.length_take] at this
   rw [List.getElem?_take_of_lt (by omega)] at hj
   simpa using hj
  ·simpa using (List.perm_middle (l₁ := cs') (a := (b, Obj.cells cur E (0, 0))) (l₂ := I)).symm
theorem reps_int0 : ∀ n, reps n [.int .i64 0] = encs (List.replicate n (0 : Int))
 | 0 => rfl
 | n + 1 => by
  show [_] ++ reps n _ = _
  rw [reps_int0 n, List.replicate_succ, encs_cons]
  rfl
end
end Go.GL

set_option linter.unusedVariables false
namespace Go.GL
open Go.Proofs
attribute [local irreducible] wpList Code.wp Exit.then Exit.inBlock Ends Tri TriH OpV OpG FnC epf wpAnyH
variable {A : List Asrt} {I : List Chunk}
theorem ref03_intsR {l m : List Int} {nl nm len cap3 : Nat} {E : TypeId} {a b : Option Addr} {cap cap2 : Nat} (hl : l.length = nl) (hm : m.length = nm) (hs : SlAt I a l) (hn : nl ≤ 1000000000) :
  FnC Try.prog 18 [.slice a nl cap, .slice b nm cap2].toArray (Row b cap3 len E 1 (encs m) :: A) I (fun v A' I' => v = .bool (decide (l = m)) ∧ A = A' ∧ I ⊆ I') :=
 FnC.freezeRow fun I' hI' hz => (ref03_intsM hl hm (hs.mono hI') hz hn).mono fun v A' J h => ⟨h.1, h.2.1, h.2.2 ▸ hI'⟩
set_option maxHeartbeats 4000000 in
set_option maxRecDepth 100000 in
theorem law19_alone {raw picks : List Int} {a a3 : Option Addr} {cap cap3 : Nat} (hs : SlAt I a raw) (hr : Is raw) (hs3 : SlAt I a3 picks) (hk : Is picks) :
  FnC Try.prog 6 [.slice a raw.length cap, .slice a3 picks.length cap3].toArray A I (fun v A' I' => v = .bool true ∧ A = A' ∧ I ⊆ I') := by
 have htl := R19.tree_len raw
 have hrt := R19.tree_right raw
 have hg := vals_good (raw := raw) (vs := []) (nw := 1) (by omega) (by omega)
 have hvl2 := R19.vals_len [] (R19.tree raw).length
 skip
 refine fn_enter2 Try.func6 rfl Try.ntmps6 rfl fun w0 => ?_
 refine tS (tR (tA rfl rfl (tN (tT (tS (tR ?_))))))
 refine tri_g (opg_call (xs := []) rfl (law19_awake)) rfl ?_
 rintro _ _ I0 ⟨rfl, rfl, hI0⟩
 refine tA rfl rfl (tN (tT (tS (tR (tM rfl rfl ?_)))))
 refine tri_g (opg_call (xs := [_]) rfl (law19_tree (hs.mono hI0) hr)) rfl ?_
 rintro _ _ I1 ⟨a4, c4, rfl, hs4, rfl, hI1⟩
 generalize hp : R19.tree raw = p at *
 refine tA rfl rfl (tN (tT (tS (tR (tM rfl rfl ?_)))))
 refine tri_v (opv_len rfl) rfl ?_
 refine tri_g (opg_call (xs := [_, _]) rfl (law19_values (raw := []) SlAt.nil (fun i hi => absurd hi (Nat.not_lt_zero _)) (by omega) (by decide))) rfl ?_
 rintro _ _ I2 ⟨a5, c5, rfl, hs5, rfl, hI2⟩
 refine tA rfl rfl (tN (tT (tS (tR (tM rfl rfl (tM rfl rfl (tM rfl rfl ?_)))))))
 refine tri_g (opg_call (xs := [_, _, _, _]) rfl (fork_run_ok (picks := picks) (hs4.mono hI2) hs5 (hs3.mono fun _ h => hI2 (hI1 (hI0 h))) hk hg)) rfl ?_
 rintro _ _ I3 ⟨o1, w1, c6, d6, rfl, ho1, hw1, rfl, hI3⟩
 refine tM rfl rfl ?_
 refine tri_v (opv_extract rfl rfl) rfl ?_
 refine tri_v (opv_extract rfl rfl) rfl ?_
 refine tri_g opg_alloc rfl ?_
 rintro _ _ _ ⟨b8, rfl, rfl, rfl⟩
 refine tri_g (opg_store rfl rfl rfl rfl rfl rfl) rfl ?_
 rintro _ _ _ ⟨rfl, rfl⟩
 refine tA rfl rfl (tN (tT (tS (tR (tM rfl rfl (tM rfl rfl ?_))))))
 refine tri_g (opg_call (xs := [_, _, _, _]) rfl (fork_run_ok (picks := []) (hs4.mono fun _ h => hI3 (hI2 h)) (hs5.mono hI3) SlAt.nil (fun i hi => absurd hi (Nat.not_lt_zero _)) hg)) rfl ?_
 rintro _ _ I4 ⟨o2, w2, c7, d7, rfl, ho2, hw2, rfl, hI4⟩
 have ho1 : StA I4 o1 c6 (R19.mst p picks 1 p.length).order := ho1.mono hI4
 have hw1 : StA I4 w1 d6 (R19.mst p picks 1 p.length).who := hw1.mono hI4
 have ho2 : StA I4 o2 c7 (R19.mst p [] 1 p.length).order := ho2
 rw [← R19.mst_alone picks] at ho2
 rw [R19.who_alone hrt (Nat.le_refl _)] at hw1
 have hmo := R19.MOk.run hrt (Nat.le_refl 1) p.length (Nat.le_refl _) (picks := picks)
 have hol := hmo.ol
 have hnext := fun (i T : Nat) (hi : i + 1 < p.length) => R19.alone_next (picks := picks) hrt hi (Nat.le_refl _) (T := T)
 have hord := fun (i : Nat) (hi : i < p.length) => R19.ord_at (picks := picks) hrt (Nat.le_refl 1) hi (Nat.le_refl _)
 generalize (R19.mst p picks 1 p.length).order = O at *
 have hs4 := ((hs4.mono hI2).mono hI3).mono hI4
 have hI04 : I ⊆ I4 := fun _ h => hI4 (hI3 (hI2 (hI1 (hI0 h))))
 have sO := ho1.sl
 refine tM rfl rfl ?_
 refine tri_v (opv_extract rfl rfl) rfl ?_
 refine tri_v (opv_extract rfl rfl) rfl ?_
 refine tri_g opg_alloc rfl ?_
 rintro _ _ _ ⟨b10, rfl, rfl, rfl⟩
 refine tri_g (opg_store rfl rfl rfl rfl rfl rfl) rfl ?_
 rintro _ _ _ ⟨rfl, rfl⟩
 refine tA rfl rfl (tN (tT (tS (tS (tR (tM rfl rfl ?_))))))
 refine tri_v (by first | exact opv_neq rfl rfl | exact opv_neqI rfl rfl rfl rfl rfl rfl | exact opv_neqB rfl rfl) rfl ?_
 refine tM rfl rfl ?_
 refine tri_false rfl rfl ((fun h => h rfl)) ?_
 refine tri_guard_run rfl rfl rfl (tM rfl rfl (tri_guard_run rfl rfl rfl ?_))
 refine tri_v (by first | exact opv_neq rfl rfl | exact opv_neqI rfl rfl rfl rfl rfl rfl | exact opv_neqB rfl rfl) rfl ?_
 refine tri_v (by first | exact opv_pick_t rfl rfl | exact opv_pick_f rfl rfl | exact opv_pick_bool rfl rfl rfl | exact opv_pick rfl rfl rfl) rfl ?_
 refine tM rfl rfl ?_
 refine tri_false rfl rfl ((fun h => h rfl)) ?_
 refine tri_guard_run rfl rfl rfl ?_
 refine tri_v (by first | exact opv_fieldAddr rfl rfl | exact opv_fieldAddrE rfl (by assumption) (by omega) rfl | exact opv_fieldAddrR rfl (by omega) rfl | exact opv_fieldAddrP rfl rfl rfl) rfl ?_
 refine tri_guard_run rfl rfl rfl ?_
 refine tri_v (by first | exact opv_load1 rfl rfl rfl | exact opv_loadA rfl rfl rfl | exact opv_loadE1 rfl (by assumption) rfl (by omega) rfl rfl | exact opv_loadEA rfl (by assumption) rfl (by omega) rfl rfl | exact opv_loadRX1 rfl rfl (by omega) rfl rfl | exact opv_loadRXA rfl rfl (by omega) rfl rfl rfl | exact opv_loadIX rfl rfl (by omega) | exact opv_loadR1 rfl rfl rfl | exact opv_loadRA rfl rfl rfl rfl) rfl ?_
 refine tri_guard_run rfl rfl rfl ?_
 refine tri_v (opv_len rfl) rfl ?_
 refine tri_guard_run rfl rfl rfl (tM rfl rfl (tri_guard_run rfl rfl rfl ?_))
 refine tri_v (opv_len rfl) rfl ?_
 refine tri_guard_run rfl rfl rfl ?_
 refine tri_v (by first | exact opv_neq rfl rfl | exact opv_neqI rfl rfl rfl rfl rfl rfl | exact opv_neqB rfl rfl) rfl ?_
 refine tri_v (by first | exact opv_pick_t rfl rfl | exact opv_pick_f rfl rfl | exact opv_pick_bool rfl rfl rfl | exact opv_pick rfl rfl rfl) rfl ?_
 refine tM rfl rfl ?_
 refine tri_false rfl rfl ((fun h => h rfl)) ?_
 refine tri_guard_run rfl rfl rfl ?_
 refine tri_v (by first | exact opv_fieldAddr rfl rfl | exact opv_fieldAddrE rfl (by assumption) (by omega) rfl | exact opv_fieldAddrR rfl (by omega) rfl | exact opv_fieldAddrP rfl rfl rfl) rfl ?_
 refine tri_guard_run rfl rfl rfl ?_
 refine tri_v (by first | exact opv_load1 rfl rfl rfl | exact opv_loadA rfl rfl rfl | exact opv_loadE1 rfl (by assumption) rfl (by omega) rfl rfl | exact opv_loadEA rfl (by assumption) rfl (by omega) rfl rfl | exact opv_loadRX1 rfl rfl (by omega) rfl rfl | exact opv_loadRXA rfl rfl (by omega) rfl rfl rfl | exact opv_loadIX rfl rfl (by omega) | exact opv_loadR1 rfl rfl rfl | exact opv_loadRA rfl rfl rfl rfl) rfl ?_
 refine tri_guard_run rfl rfl rfl ?_
 refine tri_v (by first | exact opv_fieldAddr rfl rfl | exact opv_fieldAddrE rfl (by assumption) (by omega) rfl | exact opv_fieldAddrR rfl (by omega) rfl | exact opv_fieldAddrP rfl rfl rfl) rfl ?_
 refine tri_guard_run rfl rfl rfl ?_
 refine tri_v (by first | exact opv_load1 rfl rfl rfl | exact opv_loadA rfl rfl rfl | exact opv_loadE1 rfl (by assumption) rfl (by omega) rfl rfl | exact opv_loadEA rfl (by assumption) rfl (by omega) rfl rfl | exact opv_loadRX1 rfl rfl (by omega) rfl rfl | exact opv_loadRXA rfl rfl (by omega) rfl rfl rfl | exact opv_loadIX rfl rfl (by omega) | exact opv_loadR1 rfl rfl rfl | exact opv_loadRA rfl rfl rfl rfl) rfl ?_
 refine tri_guard_run rfl rfl rfl ?_
 refine tri_g (opg_call (xs := [_, _]) rfl (ref03_intsM hol hol ho1.sl ho2.sl (by omega))) rfl ?_
 rintro _ _ _ ⟨rfl, rfl, rfl⟩
 refine tri_guard_run rfl rfl rfl ?_
 refine tri_v (by first | exact opv_notD rfl | exact opv_not rfl) rfl ?_
 refine tri_v (by first | exact opv_pick_t rfl rfl | exact opv_pick_f rfl rfl | exact opv_pick_bool rfl rfl rfl | exact opv_pick rfl rfl rfl) rfl ?_
 refine tN (tT ?_)
 refine tri_cond_not rfl ((fun h => h rfl)) ?_
 refine tri_skip (tT (tS (tS (tR (tA rfl rfl (tN (tT ?_)))))))
 refine tri_block ?_
 refine tri_sub (F' := [(5, .bool true), (6, .slice a4 p.length c4), (8, pt b8 0), (12, .int .i64 (0 : Nat))]) ⟨rfl, rfl, rfl, rfl, trivial⟩ ?_
 refine loop_ind (G := Nat) (fun g => p.length - g) (fun g => g + 1 ≤ p.length) (fun g => [(5, .bool true), (6, .slice a4 p.length c4), (8, pt b8 0), (12, .int .i64 (g : Nat))]) (fun _ => _) (fun _ => _) ?_ 0 (by omega)
 rintro i hi K hK
 obtain ⟨T, hT, hTl, _⟩ := hord i (by omega)
 have ti : (i : Int).toNat = i := rfl
 have ti2 : ((i : Int) + 1).toNat = i + 1 := rfl
 skip
 refine tS (tS (tR (tM rfl rfl ?_)))
 refine tri_v (by first | exact opv_add rfl rfl (w64 (by omega) (by omega))) rfl ?_
 refine tM rfl rfl ?_
 refine tri_v (opv_len rfl) rfl ?_
 refine tri_v (opv_lss rfl rfl) rfl ?_
 refine tN (tT ?_)
 refine tri_cond_dec rfl (fun h => ?_) (fun h => ?_)
 ·have hil : i + 1 < p.length := by omega
  refine tri_skip (tT (tS (tri_block (tS (tR (tA rfl rfl (tN ?_)))))))
  refine tT (tS (tS (tR (tA rfl rfl (tN (tT (tri_block ?_)))))))
  refine tri_sub (F' := [(5, .bool true), (6, .slice a4 p.length c4), (8, pt b8 0), (12, .int .i64 (i : Nat)), (13, .int .i64 (R19.lastKid p T 0)), (14, .int .i64 (0 : Nat))]) ⟨rfl, rfl, rfl, rfl, rfl, rfl, trivial⟩ ?_
  refine loop_ind (G := Nat) (fun g => p.length - g) (fun g => g ≤ p.length) (fun g => [(5, .bool true), (6, .slice a4 p.length c4), (8, pt b8 0), (12, .int .i64 (i : Nat)), (13, .int .i64 (R19.lastKid p T g)), (14, .int .i64 (g : Nat))]) (fun _ => _) (fun _ => _) ?_ 0 (by omega)
  rintro k hk2 K2 hK2
  have hlb := R19.lastKid_bd (p := p) (T := T) k
  skip
  refine tS (tS (tR (tM rfl rfl (tM rfl rfl ?_))))
  refine tri_v (opv_len rfl) rfl ?_
  refine tri_v (opv_lss rfl rfl) rfl ?_
  refine tN (tT ?_)
  refine tri_cond_dec rfl (fun h2 => ?_) (fun h2 => ?_)
  ·have hkl : k < p.length := by omega
   have tk : (k : Int).toNat = k := rfl
   refine tri_skip (tT (tS (tri_block (tS ?_))))
   refine tri_draw [0, 1, 2, 3, 4, 5, 6, 7, 8, 9] rfl [] rfl mixed ?_
   refine th_take rfl rfl (by kernel_rfl)  (opv_move rfl) ?_
   refine th_take rfl rfl (by kernel_rfl)  (opv_move rfl) ?_
   refine th_take rfl rfl (by kernel_rfl)  (by first | exact opv_indexAddrA rfl rfl (by first | decide | omega) (by first | decide | omega) | exact opv_indexAddrSN rfl rfl (by omega) (by assumption) (by first | rfl | omega) | exact opv_indexAddrS rfl rfl (by omega) (by omega) (by assumption) (by first | rfl | omega) | exact opv_indexAddrE rfl (by assumption) (by omega) rfl (by first | decide | omega) (by first | decide | omega) | exact opv_indexAddrRN rfl rfl (by omega) | exact opv_indexAddrR rfl rfl (by omega) (by omega) | exact opv_indexAddrRA rfl (by omega) rfl (by first | decide | omega) (by first | decide | omega) | exact opv_indexAddrSP rfl rfl (by omega) (by omega)) ?_
   refine th_take rfl rfl (by kernel_rfl)  (by first | exact opv_load1 rfl rfl rfl | exact opv_loadA rfl rfl rfl | exact opv_loadE1 rfl (by assumption) rfl (by omega) rfl rfl | exact opv_loadEA rfl (by assumption) rfl (by omega) rfl rfl | exact opv_loadRX1 rfl rfl (by omega) rfl rfl | exact opv_loadRXA rfl rfl (by omega) rfl rfl rfl | exact opv_loadIX rfl rfl (by omega) | exact opv_loadR1 rfl rfl rfl | exact opv_loadRA rfl rfl rfl rfl) ?_
   refine th_take rfl rfl (by kernel_rfl)  (by first | exact opv_fieldAddr rfl rfl | exact opv_fieldAddrE rfl (by assumption) (by omega) rfl | exact opv_fieldAddrR rfl (by omega) rfl | exact opv_fieldAddrP rfl rfl rfl) ?_
   refine th_take rfl rfl (by kernel_rfl)  (by first | exact opv_load1 rfl rfl rfl | exact opv_loadA rfl rfl rfl | exact opv_loadE1 rfl (by assumption) rfl (by omega) rfl rfl | exact opv_loadEA rfl (by assumption) rfl (by omega) rfl rfl | exact opv_loadRX1 rfl rfl (by omega) rfl rfl | exact opv_loadRXA rfl rfl (by omega) rfl rfl rfl | exact opv_loadIX rfl rfl (by omega) | exact opv_loadR1 rfl rfl rfl | exact opv_loadRA rfl rfl rfl rfl) ?_
   refine th_take rfl rfl (by kernel_rfl)  (opv_move rfl) ?_
   refine th_take rfl rfl (by kernel_rfl)  (by first | exact opv_indexAddrA rfl rfl (by first | decide | omega) (by first | decide | omega) | exact opv_indexAddrSN rfl rfl (by omega) (by assumption) (by first | rfl | omega) | exact opv_indexAddrS rfl rfl (by omega) (by omega) (by assumption) (by first | rfl | omega) | exact opv_indexAddrE rfl (by assumption) (by omega) rfl (by first | decide | omega) (by first | decide | omega) | exact opv_indexAddrRN rfl rfl (by omega) | exact opv_indexAddrR rfl rfl (by omega) (by omega) | exact opv_indexAddrRA rfl (by omega) rfl (by first | decide | omega) (by first | decide | omega) | exact opv_indexAddrSP rfl rfl (by omega) (by omega)) ?_
   refine th_take rfl rfl (by kernel_rfl)  (by first | exact opv_load1 rfl rfl rfl | exact opv_loadA rfl rfl rfl | exact opv_loadE1 rfl (by assumption) rfl (by omega) rfl rfl | exact opv_loadEA rfl (by assumption) rfl (by omega) rfl rfl | exact opv_loadRX1 rfl rfl (by omega) rfl rfl | exact opv_loadRXA rfl rfl (by omega) rfl rfl rfl | exact opv_loadIX rfl rfl (by omega) | exact opv_loadR1 rfl rfl rfl | exact opv_loadRA rfl rfl rfl rfl) ?_
   refine th_take rfl rfl (by kernel_rfl)  (by first | exact opv_eql rfl rfl | exact opv_eqlI rfl rfl rfl rfl rfl rfl | exact opv_eqlB rfl rfl | exact opv_eqlNil rfl rfl) ?_
   refine th_done (by kernel_rfl) ?_
   refine tT ?_
   rw [hT]
   refine tri_cond_dec rfl (fun h3 => ?_) (fun h3 => ?_)
   ·have e : R19.lastKid p T (k + 1) = (k : Int) := if_pos h3
    refine tR (tM rfl rfl (tA rfl rfl (tN ?_)))
    refine tri_inBlock ?_
    refine tT (tR (tM rfl rfl ?_))
    refine tri_v (by first | exact opv_add rfl rfl (w64 (by omega) (by omega))) rfl ?_
    refine tA rfl rfl (tN (tT ?_))
    refine tri_sub ?_ (hK2 (k + 1) (by omega) (by omega))
    exact ⟨rfl, rfl, rfl, rfl, by rw [e]; rfl, rfl, trivial⟩
   ·have e : R19.lastKid p T (k + 1) = R19.lastKid p T k := if_neg h3
    refine tri_skip ?_
    refine tri_inBlock ?_
    refine tT (tR (tM rfl rfl ?_))
    refine tri_v (by first | exact opv_add rfl rfl (w64 (by omega) (by omega))) rfl ?_
    refine tA rfl rfl (tN (tT ?_))
    refine tri_sub ?_ (hK2 (k + 1) (by omega) (by omega))
    exact ⟨rfl, rfl, rfl, rfl, by rw [e]; rfl, rfl, trivial⟩
  ·obtain rfl : k = p.length := by omega
   have hle := fun h => R19.lastKid_eq (p := p) (T := T) p.length h
   refine tri_exit ?_
   refine tri_then_exit ?_
   refine tri_then_exit ?_
   refine tri_inBlock_hit rfl ?_
   refine tT (tS (tR (tM rfl rfl ?_)))
   refine tri_v (opv_geq rfl rfl) rfl ?_
   refine tM rfl rfl ?_
   refine tri_split rfl rfl (fun h4 => ?_) (fun h4 => ?_)
   ·obtain ⟨h5, h6⟩ := hle (by omega)
    have hn2 := hnext i T (by omega) hT h5
    have hil2 : i + 1 < O.length := by omega
    skip
    refine tri_guard_run rfl rfl rfl ?_
    refine tri_v (by first | exact opv_fieldAddr rfl rfl | exact opv_fieldAddrE rfl (by assumption) (by omega) rfl | exact opv_fieldAddrR rfl (by omega) rfl | exact opv_fieldAddrP rfl rfl rfl) rfl ?_
    refine tri_guard_run rfl rfl rfl ?_
    refine tri_v (by first | exact opv_load1 rfl rfl rfl | exact opv_loadA rfl rfl rfl | exact opv_loadE1 rfl (by assumption) rfl (by omega) rfl rfl | exact opv_loadEA rfl (by assumption) rfl (by omega) rfl rfl | exact opv_loadRX1 rfl rfl (by omega) rfl rfl | exact opv_loadRXA rfl rfl (by omega) rfl rfl rfl | exact opv_loadIX rfl rfl (by omega) | exact opv_loadR1 rfl rfl rfl | exact opv_loadRA rfl rfl rfl rfl) rfl ?_
    refine tri_guard_run rfl rfl rfl (tM rfl rfl (tri_guard_run rfl rfl rfl ?_))
    refine tri_v (by first | exact opv_add rfl rfl (w64 (by omega) (by omega))) rfl ?_
    refine tri_guard_run rfl rfl rfl ?_
    refine tri_v (by first | exact opv_indexAddrA rfl rfl (by first | decide | omega) (by first | decide | omega) | exact opv_indexAddrSN rfl rfl (by omega) (by assumption) (by first | rfl | omega) | exact opv_indexAddrS rfl rfl (by omega) (by omega) (by assumption) (by first | rfl | omega) | exact opv_indexAddrE rfl (by assumption) (by omega) rfl (by first | decide | omega) (by first | decide | omega) | exact opv_indexAddrRN rfl rfl (by omega) | exact opv_indexAddrR rfl rfl (by omega) (by omega) | exact opv_indexAddrRA rfl (by omega) rfl (by first | decide | omega) (by first | decide | omega) | exact opv_indexAddrSP rfl rfl (by omega) (by omega)) rfl ?_
    refine tri_guard_run rfl rfl rfl ?_
    refine tri_v (opv_loadE1 rfl sO rfl hil2 rfl rfl) rfl ?_
    refine tri_guard_run rfl rfl rfl (tM rfl rfl (tri_guard_run rfl rfl rfl ?_))
    refine tri_v (by first | exact opv_neq rfl rfl | exact opv_neqI rfl rfl rfl rfl rfl rfl | exact opv_neqB rfl rfl) rfl ?_
    refine tri_v (by first | exact opv_pick_t rfl rfl | exact opv_pick_f rfl rfl | exact opv_pick_bool rfl rfl rfl | exact opv_pick rfl rfl rfl) rfl ?_
    refine tN (tT ?_)
    try rw [ti2]
    refine tri_cond_not rfl ((fun h => h (hn2.trans h6))) ?_
    refine tri_skip ?_
    refine tri_inBlock ?_
    refine tT (tR (tM rfl rfl ?_))
    refine tri_v (by first | exact opv_add rfl rfl (w64 (by omega) (by omega))) rfl ?_
    refine tA rfl rfl (tN (tT ?_))
    refine tri_sub ?_ (hK (i + 1) (by omega) (by omega))
    exact ⟨rfl, rfl, rfl, rfl, trivial⟩
   ·refine tri_guard_skip rfl rfl rfl rfl (tri_guard_skip rfl rfl rfl rfl (tri_guard_skip rfl rfl rfl rfl (tri_guard_skip rfl rfl rfl rfl (tri_guard_skip rfl rfl rfl rfl (tri_guard_skip rfl rfl rfl rfl (tri_guard_skip rfl rfl rfl rfl (tri_guard_skip rfl rfl rfl rfl ?_)))))))
    refine tri_v (by first | exact opv_pick_t rfl rfl | exact opv_pick_f rfl rfl | exact opv_pick_bool rfl rfl rfl | exact opv_pick rfl rfl rfl) rfl ?_
    refine tN (tT ?_)
    refine tri_cond_false rfl ?_
    refine tri_skip ?_
    refine tri_inBlock ?_
    refine tT (tR (tM rfl rfl ?_))
    refine tri_v (by first | exact opv_add rfl rfl (w64 (by omega) (by omega))) rfl ?_
    refine tA rfl rfl (tN (tT ?_))
    refine tri_sub ?_ (hK (i + 1) (by omega) (by omega))
    exact ⟨rfl, rfl, rfl, rfl, trivial⟩
 ·refine tri_exit ?_
  refine tri_then_exit ?_
  refine tri_then_exit ?_
  refine tri_inBlock_hit rfl ?_
  refine tT (tS ?_)
  skip
  refine tri_draw [0, 1, 2, 3, 4, 5, 6, 7, 8, 9] rfl [] rfl mixed ?_
  refine th_take rfl rfl (by kernel_rfl)  (opv_move rfl) ?_
  refine th_take rfl rfl (by kernel_rfl)  (opv_move rfl) ?_
  refine th_bool 93 rfl (fun _ => ?_) (fun h => absurd h (by decide))
  refine th_take_g rfl rfl rfl rfl rfl (by kernel_rfl)  (by first | exact opv_fieldAddr rfl rfl | exact opv_fieldAddrE rfl (by assumption) (by omega) rfl | exact opv_fieldAddrR rfl (by omega) rfl | exact opv_fieldAddrP rfl rfl rfl) ?_
  refine th_take_g rfl rfl rfl rfl rfl (by kernel_rfl)  (by first | exact opv_load1 rfl rfl rfl | exact opv_loadA rfl rfl rfl | exact opv_loadE1 rfl (by assumption) rfl (by omega) rfl rfl | exact opv_loadEA rfl (by assumption) rfl (by omega) rfl rfl | exact opv_loadRX1 rfl rfl (by omega) rfl rfl | exact opv_loadRXA rfl rfl (by omega) rfl rfl rfl | exact opv_loadIX rfl rfl (by omega) | exact opv_loadR1 rfl rfl rfl | exact opv_loadRA rfl rfl rfl rfl) ?_
  refine th_take_g rfl rfl rfl rfl rfl (by kernel_rfl)  (opv_move rfl) ?_
  refine th_take_g rfl rfl rfl rfl rfl (by kernel_rfl)  (opv_len rfl) ?_
  refine th_one (by kernel_rfl) (step_mg rfl rfl rfl rfl rfl (opg_makeSliceN rfl rfl rfl (by omega) (by omega)) ?_)
  rintro _ _ _ ⟨az, haz, rfl, rfl, rfl⟩
  refine ⟨Suf.h, (by first | exact fun _ h => h | assumption | exact fun _ h => (by assumption : _ ⊆ _) ((by assumption : _ ⊆ _) h)), ?_⟩
  rw [reps_int0]
  skip
  refine th_one (by kernel_rfl) (step_mg rfl rfl rfl rfl rfl (opg_call (xs := [_, _]) rfl (ref03_intsR (by rw [List.length_replicate]) (by rw [List.length_replicate]) hw1.sl (by omega))) ?_)
  rintro _ _ I5 ⟨rfl, rfl, hI5⟩
  refine ⟨Suf.h, hI5, ?_⟩
  refine th_take rfl rfl (by kernel_rfl)  (by first | exact opv_pick_t rfl rfl | exact opv_pick_f rfl rfl | exact opv_pick_bool rfl rfl rfl | exact opv_pick rfl rfl rfl) ?_
  refine th_take rfl rfl (by kernel_rfl)  (opv_assign rfl) ?_
  refine th_done (by kernel_rfl) ?_
  refine tT (tri_ret ?_)
  refine tri_end _ (by first | exact ⟨[], rfl⟩ | exact ⟨[_], rfl⟩ | exact ⟨[_, _], rfl⟩ | exact ⟨[_, _, _], rfl⟩ | exact ⟨[_, _, _, _], rfl⟩ | exact ⟨[_, _, _, _, _], rfl⟩ | exact ⟨[_, _, _, _, _, _], rfl⟩ | exact ⟨[_, _, _, _, _, _, _], rfl⟩ | exact ⟨[_, _, _, _, _, _, _, _], rfl⟩) rfl (.cons (rv_tmp rfl) .nil) ⟨?_, rfl, fun _ h => hI5 (hI04 h)⟩
  exact congrArg Value.bool (decide_eq_true rfl)
end Go.GL

set_option linter.unusedVariables false
namespace Go.GL
namespace R19
/-! ### Kids without kids -/
def flat (n : Nat) : List Int := -1 :: List.replicate n 0
def rg (f m : Nat) : List Int := (List.range m).map fun j => ((f + j : Nat) : Int)
theorem rg_len (f m : Nat) : (rg f m).length = m := by simp [rg]
theorem rg_snoc (f m : Nat) : rg f (m + 1) = rg f m ++ [((f + m : Nat) : Int)] := by
 unfold rg
 rw [List.range_succ, List.map_append]
 rfl
theorem rg_cons (f m : Nat) : rg f (m + 1) = (f : Int) :: rg (f + 1) m := by
 unfold rg
 rw [List.range_succ_eq_map, List.map_cons, List.map_map]
 congr 1
 refine List.map_congr_left fun j _ => ?_
 show ((f + (j + 1) : Nat) : Int) = ((f + 1 + j : Nat) : Int)
 omega
theorem flat_len (n : Nat) : (flat n).length = n + 1 := by simp [flat]
theorem flat_at {n i : Nat} (h0 : 0 < i) (h : i ≤ n) : (flat n).getD i default = 0 := by
 obtain ⟨j, rfl⟩ : ∃ j, i = j + 1 := ⟨i - 1, by omega⟩
 show (List.replicate n (0 : Int)).getD j default = 0
 rw [List.getD_eq_getElem?_getD, List.getElem?_replicate, if_pos (by omega)]
 rfl
theorem flat_right {n : Nat} (h : n ≤ 299) : right (flat n) := by
 refine ⟨by rw [flat_len]; omega, fun i hi => ⟨fun h0 => by subst h0; rfl, fun h0 => ?_⟩⟩
 rw [flat_len] at hi
 rw [flat_at h0 (by omega)]
 omega
theorem flat_kids0 (n : Nat) : kids (flat n) 0 = rg 1 n := by
 have h : ∀ i, i ≤ n → kidsTo (flat n) (i + 1) 0 = rg 1 i := by
  intro i
  induction i with
  | zero => intro _; rw [kidsTo_succ]; rfl
  | succ i ih =>
   intro hi
   rw [kidsTo_succ, ih (by omega), flat_at (by omega) hi, if_pos (show (0 : Int) = ((0 : Nat) : Int) from rfl), rg_snoc, Nat.add_comm 1 i]
 unfold kids
 rw [flat_len]
 exact h n (Nat.le_refl _)
theorem flat_kids {n T : Nat} (h : 0 < T) : kids (flat n) T = [] := by
 refine List.eq_nil_iff_forall_not_mem.2 fun x hx => ?_
 obtain ⟨h0, h1, h2⟩ := mem_kids.1 hx
 rw [flat_len] at h1
 by_cases e : x.toNat = 0
 ·rw [e] at h2
  have : (-1 : Int) = (T : Int) := h2
  omega
 ·rw [flat_at (by omega) (by omega)] at h2
  omega
/-- All deques but the first one are empty. -/
structure WD (W : Nat) (D : List (List Int)) (x : List Int) : Prop where
 len : D.length = W
 at0 : D.getD 0 default = x
 rest : ∀ w, 0 < w → w < W → D.getD w default = []
theorem getD_setL {D : List (List Int)} {k j : Nat} {l : List Int} (h : k < D.length) : (D.set k l).getD j default = if j = k then l else D.getD j default := by
 rw [List.getD_eq_getElem?_getD, List.getElem?_set]
 by_cases e : k = j
 ·subst e
  rw [if_pos rfl, if_pos rfl, if_pos h]
  rfl
 ·rw [if_neg e, if_neg (fun h => e h.symm), List.getD_eq_getElem?_getD]
theorem WD.set0 {W : Nat} {D : List (List Int)} {x y : List Int} (h : WD W D x) (hW : 0 < W) : WD W (D.set 0 y) y := by
 refine ⟨by rw [List.length_set]; exact h.len, ?_, fun w h1 h2 => ?_⟩
 ·rw [getD_setL (by rw [h.len]; exact hW), if_pos rfl]
 ·rw [getD_setL (by rw [h.len]; exact hW), if_neg (by omega)]
  exact h.rest w h1 h2
theorem WD.setW {W w : Nat} {D : List (List Int)} {x : List Int} (h : WD W D x) (h0 : 0 < w) (hW : w < W) : WD W (D.set w []) x := by
 refine ⟨by rw [List.length_set]; exact h.len, ?_, fun u h1 h2 => ?_⟩
 ·rw [getD_setL (by rw [h.len]; exact hW), if_neg (by omega)]
  exact h.at0
 ·rw [getD_setL (by rw [h.len]; exact hW)]
  split
  ·rfl
  ·exact h.rest u h1 h2
theorem WD.take0 {W : Nat} {D : List (List Int)} {x : List Int} (h : WD W D x) (hx : 0 < x.length) : takeM D 0 = (x.getD (x.length - 1) default, D.set 0 (x.take (x.length - 1))) := by
 rw [takeM_own (by rw [h.at0]; exact hx), h.at0]
theorem WD.takeW {W w : Nat} {D : List (List Int)} {x : List Int} (h : WD W D x) (hx : 0 < x.length) (h0 : 0 < w) (hW : w < W) : takeM D w = (x.getD 0 default, D.set 0 (x.drop 1)) := by
 have e : takeM D w = match findF D w D.length 0 with
  | some k => ((D.getD k default).getD 0 default, D.set k ((D.getD k default).drop 1))
  | none => (-1, D) := if_neg (by rw [h.rest w h0 hW]; exact Nat.lt_irrefl _)
 rw [e]
 have hl := h.len
 cases hf : findF D w D.length 0 with
 | none =>
  exfalso
  have := findF_none _ _ hf (W - w) (by omega) (by omega)
  rw [show w + (W - w) = W by omega, hl, Nat.mod_self, h.at0] at this
  omega
 | some k =>
  obtain ⟨h1, h2⟩ := findF_lt' (by omega) _ _ hf
  by_cases e0 : k = 0
  ·subst e0
   show ((D.getD 0 default).getD 0 default, D.set 0 ((D.getD 0 default).drop 1)) = _
   rw [h.at0]
  ·rw [h.rest k (by omega) (by omega)] at h2
   exact absurd h2 (Nat.lt_irrefl _)
theorem allF_ones (m b : Nat) : R11.allF b (List.replicate (m + 1) 1) = (b : Int) :: R11.allF (b + 1) (List.replicate m 1) := by
 rw [List.replicate_succ]
 show (if (0 : Int) < 1 then _ else _) = _
 rw [if_pos (by decide)]
theorem nxt_first (picks : List Int) {W : Nat} (hW : 1 ≤ W) : nxt (0 :: picks) W 0 (-1) = 0 := by
 obtain ⟨m, rfl⟩ : ∃ m, W = m + 1 := ⟨W - 1, by omega⟩
 have e : R11.all (List.replicate (m + 1) 1) = 0 :: R11.allF 1 (List.replicate m 1) := allF_ones m 0
 have hnx : nxt (0 :: picks) (m + 1) 0 (-1) = if (R11.all (List.replicate (m + 1) 1)).length = 0 then -1 else if 0 ≤ (((0 : Nat) : Int)) ∧ (((0 : Nat) : Int)) < (0 :: picks).length then (R11.all (List.replicate (m + 1) 1)).getD (pk ((0 :: picks).getD (((0 : Nat) : Int)).toNat default) (R11.all (List.replicate (m + 1) 1)).length).toNat default else R11.round (R11.all (List.replicate (m + 1) 1)) (-1) := rfl
 rw [hnx, e, if_neg (by rw [List.length_cons]; omega), if_pos ⟨by omega, by rw [List.length_cons]; omega⟩]
 have e2 : pk ((0 :: picks).getD (((0 : Nat) : Int)).toNat default) ((0 :: R11.allF 1 (List.replicate m 1)).length : Nat) = 0 := by
  show pk 0 _ = 0
  unfold pk
  rw [if_neg (by decide)]
  exact Int.zero_emod _
 rw [e2]
 rfl
/-- Behind i steps the kids from f on, so many, are left. -/
def WideI (n W : Nat) (picks : List Int) (i f m : Nat) : Prop := 1 ≤ f ∧ m + i = n + 1 ∧ f + m ≤ n + 1 ∧ WD W (mst (flat n) (0 :: picks) W i).D (rg f m)
theorem wide_start {n W : Nat} (picks : List Int) (hn : n ≤ 299) (hW : 1 ≤ W) : WideI n W picks 1 1 n ∧ (mst (flat n) (0 :: picks) W 1).order = [0] ∧ (mst (flat n) (0 :: picks) W 1).who = [0] := by
 have h0 : WD W (mst (flat n) (0 :: picks) W 0).D [0] := by
  refine ⟨?_, rfl, fun w h1 h2 => ?_⟩
  ·show ([0] :: List.replicate (W - 1) ([] : List Int)).length = W
   rw [List.length_cons, List.length_replicate]
   omega
  ·obtain ⟨j, rfl⟩ : ∃ j, w = j + 1 := ⟨w - 1, by omega⟩
   show (List.replicate (W - 1) ([] : List Int)).getD j default = []
   rw [List.getD_eq_getElem?_getD, List.getElem?_replicate, if_pos (by omega)]
   rfl
 have ht := h0.take0 (by decide)
 have hx := nxt_first picks hW
 have e : mst (flat n) (0 :: picks) W 1 = mstep (flat n) (0 :: picks) W (mst (flat n) (0 :: picks) W 0) := rfl
 have hx2 : nxt (0 :: picks) W (mst (flat n) (0 :: picks) W 0).order.length (mst (flat n) (0 :: picks) W 0).last = 0 := hx
 have t0 : (0 : Int).toNat = 0 := rfl
 unfold mstep at e
 rw [hx2, t0, ht] at e
 refine ⟨⟨Nat.le_refl _, by omega, by omega, ?_⟩, by rw [e]; rfl, by rw [e]; rfl⟩
 rw [e]
 show WD W (((mst (flat n) (0 :: picks) W 0).D.set 0 []).set 0 (((mst (flat n) (0 :: picks) W 0).D.set 0 []).getD 0 default ++ kids (flat n) 0)) (rg 1 n)
 have h1 := h0.set0 (y := []) (by omega)
 rw [h1.at0, flat_kids0, List.nil_append]
 exact h1.set0 (by omega)
theorem wide_step {n W i f m : Nat} {picks : List Int} (hn : n ≤ 299) (hW : 1 ≤ W) (hi : i ≤ n) (h : WideI n W picks i f m) :
  ((mst (flat n) (0 :: picks) W (n + 1)).who.getD i default = 0 ∧ (mst (flat n) (0 :: picks) W (n + 1)).order.getD i default = ((f + m - 1 : Nat) : Int) ∧ WideI n W picks (i + 1) f (m - 1)) ∨
  ((mst (flat n) (0 :: picks) W (n + 1)).who.getD i default ≠ 0 ∧ (mst (flat n) (0 :: picks) W (n + 1)).order.getD i default = (f : Int) ∧ WideI n W picks (i + 1) (f + 1) (m - 1)) := by
 obtain ⟨h1, h2, h3, h4⟩ := h
 obtain ⟨k, rfl⟩ : ∃ k, m = k + 1 := ⟨m - 1, by omega⟩
 have hr := flat_right hn
 have hlen := flat_len n
 have hm := MOk.run hr hW i (by omega) (picks := 0 :: picks)
 obtain ⟨ha, hb⟩ := mst_at hr hW (picks := 0 :: picks) (i := i) (n := n + 1) (by omega) (by omega)
 obtain ⟨hx0, hx1⟩ := nxt_ok (picks := 0 :: picks) (nw := W) (n := i) (last := (mst (flat n) (0 :: picks) W i).last) hW
 have e : (mst (flat n) (0 :: picks) W (i + 1)).D = (mstep (flat n) (0 :: picks) W (mst (flat n) (0 :: picks) W i)).D := rfl
 unfold mstep at e
 rw [hm.ol] at e
 rw [ha, hb]
 obtain ⟨w, ew⟩ : ∃ w : Nat, nxt (0 :: picks) W i (mst (flat n) (0 :: picks) W i).last = (w : Int) := ⟨(nxt (0 :: picks) W i (mst (flat n) (0 :: picks) W i).last).toNat, by omega⟩
 rw [ew, Int.toNat_natCast] at e ⊢
 rw [ew] at hx1
 have hl := rg_len f (k + 1)
 by_cases hw0 : w = 0
 ·subst hw0
  have ht := h4.take0 (by omega)
  have e1 : (rg f (k + 1)).getD ((rg f (k + 1)).length - 1) default = ((f + k : Nat) : Int) := by
   rw [hl, rg_snoc, getD_lastI (by rw [rg_len]; rfl)]
  have e2 : (rg f (k + 1)).take ((rg f (k + 1)).length - 1) = rg f k := by
   rw [hl, rg_snoc, List.take_left' (by rw [rg_len]; rfl)]
  rw [e1, e2] at ht
  rw [ht] at e ⊢
  left
  refine ⟨rfl, rfl, h1, by omega, by omega, ?_⟩
  rw [e]
  show WD W ((((mst (flat n) (0 :: picks) W i).D.set 0 (rg f k))).set 0 ((((mst (flat n) (0 :: picks) W i).D.set 0 (rg f k))).getD 0 default ++ kids (flat n) (f + k))) (rg f k)
  have h5 := h4.set0 (y := rg f k) (by omega)
  rw [h5.at0, flat_kids (by omega), List.append_nil]
  exact h5.set0 (by omega)
 ·have ht := h4.takeW (w := w) (by omega) (by omega) (by omega)
  have e1 : (rg f (k + 1)).getD 0 default = (f : Int) := by rw [rg_cons]; rfl
  have e2 : (rg f (k + 1)).drop 1 = rg (f + 1) k := by rw [rg_cons]; rfl
  rw [e1, e2] at ht
  rw [ht] at e ⊢
  right
  refine ⟨by omega, rfl, by omega, by omega, by omega, ?_⟩
  rw [e]
  show WD W ((((mst (flat n) (0 :: picks) W i).D.set 0 (rg (f + 1) k))).set w ((((mst (flat n) (0 :: picks) W i).D.set 0 (rg (f + 1) k))).getD w default ++ kids (flat n) f)) (rg (f + 1) k)
  have h5 := h4.set0 (y := rg (f + 1) k) (by omega)
  rw [h5.rest w (by omega) (by omega), flat_kids (by omega), List.append_nil]
  exact h5.setW (by omega) (by omega)
end R19
end Go.GL

set_option linter.unusedVariables false
namespace Go.GL
open Go.Proofs
attribute [local irreducible] wpList Code.wp Exit.then Exit.inBlock Ends Tri TriH OpV OpG FnC epf wpAnyH
variable {A : List Asrt} {I : List Chunk}
theorem flat_snoc (i : Nat) : R19.flat (i + 1) = R19.flat i ++ [0] := by
 unfold R19.flat
 rw [List.replicate_succ']
 rfl
theorem flat_good {n : Nat} {nw : Int} (h : n ≤ 299) (h1 : 1 ≤ nw) (h2 : nw ≤ 64) : R19.good (R19.flat n) (R19.vals [] (n + 1)) nw := by
 refine ⟨R19.flat_right h, by rw [R19.vals_len, R19.flat_len], h1, h2, fun t ht => ?_⟩
 rw [R19.vals_len] at ht
 have e : (R19.vals [] (n + 1)).getD t default = R19.valAt [] t := by
  unfold R19.vals
  rw [List.getD_eq_getElem?_getD, List.getElem?_map, List.getElem?_range ht]
  rfl
 rw [e]
 have := R19.valAt_bd [] t
 omega
theorem fork_run_okN {p v picks : List Int} {np nv nk : Nat} {a a2 a3 : Option Addr} {cap cap2 cap3 : Nat} {nw : Int} (hnp : p.length = np) (hnv : v.length = nv) (hnk : picks.length = nk) (hs : SlAt I a p) (hs2 : SlAt I a2 v) (hs3 : SlAt I a3 picks) (hk : Is picks) (hg : R19.good p v nw) :
  FnC Try.prog 15 [.slice a np cap, .slice a2 nv cap2, .int .i64 nw, .slice a3 nk cap3].toArray A I (fun r A' I' =>
   ∃ ao aw co cw, r = .tuple [.agg [.int .i64 (R19.total v np), .slice ao np co, .slice aw np cw, .int .i64 (np : Nat)].toArray, .int .i64 0].toArray ∧ StA I' ao co (R19.mst p picks nw.toNat np).order ∧ StA I' aw cw (R19.mst p picks nw.toNat np).who ∧ A = A' ∧ I ⊆ I') := by
 subst hnp
 subst hnv
 subst hnk
 exact fork_run_ok hs hs2 hs3 hk hg
set_option maxHeartbeats 4000000 in
set_option maxRecDepth 100000 in
theorem law19_wide {picks : List Int} {kids workers : Int} {a3 : Option Addr} {cap3 : Nat} (hkd : I64 kids) (hw : I64 workers) (hs3 : SlAt I a3 picks) (hk : Is picks) (hkl : picks.length ≤ 17592186043904) :
  FnC Try.prog 7 [.int .i64 kids, .int .i64 workers, .slice a3 picks.length cap3].toArray A I (fun v A' I' => v = .bool true ∧ A = A' ∧ I ⊆ I') := by
 have hb := pk_bd (c := workers) (n := 10) (by omega)
 have hb2 := pk_bd (c := kids) (n := 30) (by omega)
 obtain ⟨n, hn⟩ : ∃ n : Nat, 1 + pk kids 30 = (n : Int) := ⟨(1 + pk kids 30).toNat, by omega⟩
 obtain ⟨W, hW⟩ : ∃ W : Nat, 1 + pk workers 10 = (W : Int) := ⟨(1 + pk workers 10).toNat, by omega⟩
 have hn1 : 1 ≤ n ∧ n ≤ 30 := by omega
 have hW1 : 1 ≤ W ∧ W ≤ 10 := by omega
 skip
 refine fn_enter3 Try.func7 rfl Try.ntmps7 rfl fun w0 => ?_
 refine tS (tR (tA rfl rfl (tN (tT (tS (tR ?_))))))
 refine tri_g (opg_call (xs := []) rfl (law19_awake)) rfl ?_
 rintro _ _ I0 ⟨rfl, rfl, hI0⟩
 refine tA rfl rfl (tN (tT (tS (tR (tM rfl rfl ?_)))))
 refine tri_g (opg_call (xs := [_, _]) rfl (law19_pick hkd (by omega))) rfl ?_
 rintro _ _ _ ⟨rfl, rfl, rfl⟩
 refine tri_v (by first | exact opv_add rfl rfl (w64 (by omega) (by omega))) rfl ?_
 refine tA rfl rfl (tN (tT (tS (tR (tM rfl rfl ?_)))))
 refine tri_g (opg_call (xs := [_, _]) rfl (law19_pick hw (by omega))) rfl ?_
 rintro _ _ _ ⟨rfl, rfl, rfl⟩
 rw [hn]
 refine tri_v (by first | exact opv_add rfl rfl (w64 (by omega) (by omega))) rfl ?_
 refine tA rfl rfl (tN (tT (tS (tR ?_))))
 refine tri_g (opg_buildSlice rfl rfl rfl rfl) rfl ?_
 rintro _ _ _ ⟨b24, rfl, rfl, rfl⟩
 refine tA rfl rfl (tN (tT (tS (tS (tR (tA rfl rfl (tN ?_)))))))
 refine tT ?_
 rw [hW]
 refine tri_cut (fun F' A' J => ∃ (b : Option Addr) (c : Nat), (SlAt J b (R19.flat n) ∧ I0 ⊆ J) ∧ F' = [(2, .slice a3 picks.length cap3), (7, .bool true), (8, .int .i64 (n : Nat)), (9, .int .i64 (W : Nat)), (10, .slice b (n + 1) c)] ∧ A' = A) ?_ ?_
 ·refine tri_block ?_
  refine tri_boxRow (k := 1) (sz := 1) rfl ?_
  refine tri_rowEq (len' := 0 + 1) (cells' := encs (R19.flat 0)) rfl rfl ?_
  refine tri_sub (F' := [(2, .slice a3 picks.length cap3), (7, .bool true), (8, .int .i64 (n : Nat)), (9, .int .i64 (W : Nat)), (10, .slice (some ⟨b24, 0, none⟩) (0 + 1) 1), (11, .int .i64 (0 : Nat))]) ⟨rfl, rfl, rfl, rfl, rfl, rfl, trivial⟩ ?_
  refine loop_ind (G := Nat × Option Addr × Nat) (fun g => n - g.1) (fun g => g.1 ≤ n) (fun g => [(2, .slice a3 picks.length cap3), (7, .bool true), (8, .int .i64 (n : Nat)), (9, .int .i64 (W : Nat)), (10, .slice g.2.1 (g.1 + 1) g.2.2), (11, .int .i64 (g.1 : Nat))])
   (fun g => Row g.2.1 g.2.2 (g.1 + 1) 3 1 (encs (R19.flat g.1)) :: A) (fun _ => I0) ?_ (0, some ⟨b24, 0, none⟩, 1) (Nat.zero_le _)
  rintro ⟨i, b, c⟩ hi K hK
  simp only at hi hK ⊢
  skip
  refine tS (tS (tR (tM rfl rfl (tM rfl rfl ?_))))
  refine tri_v (opv_lss rfl rfl) rfl ?_
  refine tN (tT ?_)
  refine tri_cond_dec rfl (fun h => ?_) (fun h => ?_)
  ·have e := flat_snoc i
   refine tri_skip (tT (tS (tri_block (tR (tM rfl rfl ?_)))))
   refine tri_g (opg_buildSlice rfl rfl rfl rfl) rfl ?_
   rintro _ _ _ ⟨b31, rfl, rfl, rfl⟩
   refine tri_g (opg_appendB rfl rfl rfl rfl (by omega) rfl) rfl ?_
   rintro _ _ _ ⟨b3, c3, rfl, rfl, rfl⟩
   refine tA rfl rfl (tN ?_)
   refine tri_inBlock ?_
   refine tT (tR (tM rfl rfl ?_))
   refine tri_v (by first | exact opv_add rfl rfl (w64 (by omega) (by omega))) rfl ?_
   refine tA rfl rfl (tN (tT ?_))
   refine tri_drop ?_
   refine tri_rowEq (len' := i + 1 + 1) (cells' := encs (R19.flat (i + 1))) rfl (by rw [e, encs_append]; rfl) ?_
   refine tri_sub ?_ (hK (i + 1, b3, c3) (by simp only; omega) (by simp only; omega))
   exact ⟨rfl, rfl, rfl, rfl, rfl, rfl, trivial⟩
  ·obtain rfl : i = n := by omega
   refine tri_exit ?_
   refine tri_then_exit ?_
   refine tri_then_exit ?_
   refine tri_inBlock_hit rfl ?_
   refine tri_freezeRow (α := Int) rfl fun I1 hI1 hs1 => ?_
   exact tri_cutEnd _ ⟨b, c, ⟨hs1, hI1⟩, rfl, rfl⟩ ⟨rfl, rfl, rfl, rfl, rfl, trivial⟩
 rintro _ _ I1 ⟨b, c, ⟨hs1, hI1⟩, rfl, rfl⟩
 have hfl := R19.flat_len n
 have hvl := R19.vals_len [] (n + 1)
 have hg := flat_good (n := n) (nw := W) (by omega) (by omega) (by omega)
 refine tT (tS (tR (tM rfl rfl (tM rfl rfl ?_))))
 refine tri_v (opv_len rfl) rfl ?_
 refine tri_g (opg_call (xs := [_, _]) rfl (law19_values (raw := []) (n := n + 1) SlAt.nil (fun i hi => absurd hi (Nat.not_lt_zero _)) (by omega) (by decide))) rfl ?_
 rintro _ _ I2 ⟨a5, c5, rfl, hs5, rfl, hI2⟩
 refine tM rfl rfl ?_
 refine tri_g (opg_buildSlice rfl rfl rfl rfl) rfl ?_
 rintro _ _ _ ⟨b39, rfl, rfl, rfl⟩
 refine tM rfl rfl ?_
 refine tri_freezeBoxS ([0] : List Int) rfl fun I3 hI3 hs6 => ?_
 refine tri_g (opg_appendF (xs := ([0] : List Int)) rfl rfl hs6 (hs3.mono fun _ h => hI3 (hI2 (hI1 (hI0 h)))) rfl rfl rfl (by omega) rfl) rfl ?_
 rintro _ _ I4 ⟨a7, c7, rfl, hs7, rfl, hI4⟩
 skip
 have hI04 : I ⊆ I4 := fun _ h => hI4 (hI3 (hI2 (hI1 (hI0 h))))
 have hk2 : Is ([0] ++ picks) := fun i hi => by
  cases i with
  | zero => exact (show I64 (0 : Int) from (by unfold I64; omega))
  | succ i =>
   have : i < picks.length := by rw [List.length_append, List.length_singleton] at hi; omega
   exact hk i this
 refine tri_g (opg_call (xs := [_, _, _, _]) rfl (fork_run_okN (picks := [0] ++ picks) hfl rfl rfl (hs1.mono fun _ h => hI4 (hI3 (hI2 h))) (hs5.mono fun _ h => hI4 (hI3 h)) hs7.sl hk2 hg)) rfl ?_
 rintro _ _ I5 ⟨o1, w1, c6, d6, rfl, ho1, hw1, rfl, hI5⟩
 have hrt := R19.flat_right (n := n) (by omega)
 have hst := R19.wide_start (n := n) (W := W) picks (by omega) hW1.1
 have hstep := fun (i f m : Nat) (hi : i ≤ n) => R19.wide_step (n := n) (W := W) (i := i) (f := f) (m := m) (picks := picks) (by omega) hW1.1 hi
 have hmo := R19.MOk.run hrt hW1.1 (n + 1) (by omega) (picks := 0 :: picks)
 have hol := hmo.ol
 have hwl := hmo.wl
 have hw0 : (R19.mst (R19.flat n) (0 :: picks) W (n + 1)).who.getD 0 default = 0 := by
  have h1 := (R19.mst_pre hrt hW1.1 (picks := 0 :: picks) (m := 1) (n := n + 1) (by omega) (by omega)).2
  rw [hst.2.2] at h1
  rw [← R19.getD_take' (m := 1) (by omega), h1]
  rfl
 have ho1 : StA I5 o1 c6 (R19.mst (R19.flat n) (0 :: picks) W (n + 1)).order := ho1
 have hw1 : StA I5 w1 d6 (R19.mst (R19.flat n) (0 :: picks) W (n + 1)).who := hw1
 generalize (R19.mst (R19.flat n) (0 :: picks) W (n + 1)).order = O at *
 generalize (R19.mst (R19.flat n) (0 :: picks) W (n + 1)).who = Wh at *
 have sO := ho1.sl
 have sW := hw1.sl
 refine tM rfl rfl ?_
 refine tri_v (opv_extract rfl rfl) rfl ?_
 refine tri_v (opv_extract rfl rfl) rfl ?_
 refine tri_g opg_alloc rfl ?_
 rintro _ _ _ ⟨b12, rfl, rfl, rfl⟩
 refine tri_g (opg_store rfl rfl rfl rfl rfl rfl) rfl ?_
 rintro _ _ _ ⟨rfl, rfl⟩
 refine tA rfl rfl (tN (tT (tS (tS (tR (tM rfl rfl ?_))))))
 refine tri_v (by first | exact opv_neq rfl rfl | exact opv_neqI rfl rfl rfl rfl rfl rfl | exact opv_neqB rfl rfl) rfl ?_
 refine tM rfl rfl ?_
 refine tri_false rfl rfl ((fun h => h rfl)) ?_
 refine tri_guard_run rfl rfl rfl ?_
 refine tri_v (by first | exact opv_fieldAddr rfl rfl | exact opv_fieldAddrE rfl (by assumption) (by omega) rfl | exact opv_fieldAddrR rfl (by omega) rfl | exact opv_fieldAddrP rfl rfl rfl) rfl ?_
 refine tri_guard_run rfl rfl rfl ?_
 refine tri_v (by first | exact opv_load1 rfl rfl rfl | exact opv_loadA rfl rfl rfl | exact opv_loadE1 rfl (by assumption) rfl (by omega) rfl rfl | exact opv_loadEA rfl (by assumption) rfl (by omega) rfl rfl | exact opv_loadRX1 rfl rfl (by omega) rfl rfl | exact opv_loadRXA rfl rfl (by omega) rfl rfl rfl | exact opv_loadIX rfl rfl (by omega) | exact opv_loadR1 rfl rfl rfl | exact opv_loadRA rfl rfl rfl rfl) rfl ?_
 refine tri_guard_run rfl rfl rfl ?_
 refine tri_v (opv_len rfl) rfl ?_
 refine tri_guard_run rfl rfl rfl (tM rfl rfl (tri_guard_run rfl rfl rfl ?_))
 refine tri_v (by first | exact opv_add rfl rfl (w64 (by omega) (by omega))) rfl ?_
 refine tri_guard_run rfl rfl rfl ?_
 refine tri_v (by first | exact opv_neq rfl rfl | exact opv_neqI rfl rfl rfl rfl rfl rfl | exact opv_neqB rfl rfl) rfl ?_
 refine tri_v (by first | exact opv_pick_t rfl rfl | exact opv_pick_f rfl rfl | exact opv_pick_bool rfl rfl rfl | exact opv_pick rfl rfl rfl) rfl ?_
 refine tM rfl rfl ?_
 refine tri_false rfl rfl ((by omega)) ?_
 refine tri_guard_run rfl rfl rfl ?_
 refine tri_v (by first | exact opv_fieldAddr rfl rfl | exact opv_fieldAddrE rfl (by assumption) (by omega) rfl | exact opv_fieldAddrR rfl (by omega) rfl | exact opv_fieldAddrP rfl rfl rfl) rfl ?_
 refine tri_guard_run rfl rfl rfl ?_
 refine tri_v (by first | exact opv_load1 rfl rfl rfl | exact opv_loadA rfl rfl rfl | exact opv_loadE1 rfl (by assumption) rfl (by omega) rfl rfl | exact opv_loadEA rfl (by assumption) rfl (by omega) rfl rfl | exact opv_loadRX1 rfl rfl (by omega) rfl rfl | exact opv_loadRXA rfl rfl (by omega) rfl rfl rfl | exact opv_loadIX rfl rfl (by omega) | exact opv_loadR1 rfl rfl rfl | exact opv_loadRA rfl rfl rfl rfl) rfl ?_
 refine tri_guard_run rfl rfl rfl ?_
 refine tri_v (opv_len rfl) rfl ?_
 refine tri_guard_run rfl rfl rfl (tM rfl rfl (tri_guard_run rfl rfl rfl ?_))
 refine tri_v (by first | exact opv_add rfl rfl (w64 (by omega) (by omega))) rfl ?_
 refine tri_guard_run rfl rfl rfl ?_
 refine tri_v (by first | exact opv_neq rfl rfl | exact opv_neqI rfl rfl rfl rfl rfl rfl | exact opv_neqB rfl rfl) rfl ?_
 refine tri_v (by first | exact opv_pick_t rfl rfl | exact opv_pick_f rfl rfl | exact opv_pick_bool rfl rfl rfl | exact opv_pick rfl rfl rfl) rfl ?_
 refine tM rfl rfl ?_
 refine tri_false rfl rfl ((by omega)) ?_
 refine tri_guard_run rfl rfl rfl ?_
 refine tri_v (by first | exact opv_fieldAddr rfl rfl | exact opv_fieldAddrE rfl (by assumption) (by omega) rfl | exact opv_fieldAddrR rfl (by omega) rfl | exact opv_fieldAddrP rfl rfl rfl) rfl ?_
 refine tri_guard_run rfl rfl rfl ?_
 refine tri_v (by first | exact opv_load1 rfl rfl rfl | exact opv_loadA rfl rfl rfl | exact opv_loadE1 rfl (by assumption) rfl (by omega) rfl rfl | exact opv_loadEA rfl (by assumption) rfl (by omega) rfl rfl | exact opv_loadRX1 rfl rfl (by omega) rfl rfl | exact opv_loadRXA rfl rfl (by omega) rfl rfl rfl | exact opv_loadIX rfl rfl (by omega) | exact opv_loadR1 rfl rfl rfl | exact opv_loadRA rfl rfl rfl rfl) rfl ?_
 refine tri_guard_run rfl rfl rfl ?_
 refine tri_v (by first | exact opv_indexAddrA rfl rfl (by first | decide | omega) (by first | decide | omega) | exact opv_indexAddrSN rfl rfl (by omega) (by assumption) (by first | rfl | omega) | exact opv_indexAddrS rfl rfl (by omega) (by omega) (by assumption) (by first | rfl | omega) | exact opv_indexAddrE rfl (by assumption) (by omega) rfl (by first | decide | omega) (by first | decide | omega) | exact opv_indexAddrRN rfl rfl (by omega) | exact opv_indexAddrR rfl rfl (by omega) (by omega) | exact opv_indexAddrRA rfl (by omega) rfl (by first | decide | omega) (by first | decide | omega) | exact opv_indexAddrSP rfl rfl (by omega) (by omega)) rfl ?_
 refine tri_guard_run rfl rfl rfl ?_
 refine tri_v (by first | exact opv_load1 rfl rfl rfl | exact opv_loadA rfl rfl rfl | exact opv_loadE1 rfl (by assumption) rfl (by omega) rfl rfl | exact opv_loadEA rfl (by assumption) rfl (by omega) rfl rfl | exact opv_loadRX1 rfl rfl (by omega) rfl rfl | exact opv_loadRXA rfl rfl (by omega) rfl rfl rfl | exact opv_loadIX rfl rfl (by omega) | exact opv_loadR1 rfl rfl rfl | exact opv_loadRA rfl rfl rfl rfl) rfl ?_
 refine tri_guard_run rfl rfl rfl ?_
 refine tri_v (by first | exact opv_neq rfl rfl | exact opv_neqI rfl rfl rfl rfl rfl rfl | exact opv_neqB rfl rfl) rfl ?_
 refine tri_v (by first | exact opv_pick_t rfl rfl | exact opv_pick_f rfl rfl | exact opv_pick_bool rfl rfl rfl | exact opv_pick rfl rfl rfl) rfl ?_
 refine tN (tT ?_)
 refine tri_cond_not rfl ((fun h => h hw0)) ?_
 refine tri_skip (tT (tS (tR (tA rfl rfl (tN (tT (tS ?_)))))))
 refine tR (tM rfl rfl (tA rfl rfl (tN (tT (tS (tS (tR ?_)))))))
 refine tA rfl rfl (tN (tT (tri_block ?_)))
 refine tri_sub (F' := [(7, .bool true), (8, .int .i64 (n : Nat)), (12, pt b12 0), (14, .int .i64 ((1 : Nat) : Int)), (15, .int .i64 (n : Int)), (16, .int .i64 ((1 : Nat) : Int))]) ⟨rfl, rfl, rfl, rfl, rfl, rfl, trivial⟩ ?_
 refine loop_ind (G := Nat × Nat × Nat × Int) (fun g => n + 1 - g.1) (fun g => g.1 ≤ n + 1 ∧ 1 ≤ g.1 ∧ R19.WideI n W picks g.1 g.2.1 g.2.2.1 ∧ g.2.2.2 = (g.2.1 : Int) + g.2.2.1 - 1) (fun g => [(7, .bool true), (8, .int .i64 (n : Nat)), (12, pt b12 0), (14, .int .i64 (g.2.1 : Int)), (15, .int .i64 g.2.2.2), (16, .int .i64 (g.1 : Nat))])
  (fun _ => _) (fun _ => _) ?_ (1, 1, n, (n : Int)) ⟨by simp only; omega, Nat.le_refl _, hst.1, by simp only; omega⟩
 rintro ⟨i, f, m, l⟩ ⟨hi, hi1, hwi, hl⟩ K hK
 simp only at hi hi1 hwi hl hK ⊢
 have hwi2 := hwi
 obtain ⟨q1, q2, q3, _⟩ := hwi2
 have ti : (i : Int).toNat = i := rfl
 skip
 refine tS (tS (tR (tM rfl rfl (tM rfl rfl ?_))))
 refine tri_v (opv_leq rfl rfl) rfl ?_
 refine tN (tT ?_)
 refine tri_cond_dec rfl (fun h => ?_) (fun h => ?_)
 ·have hil : i ≤ n := by omega
  have hio : i < O.length := by omega
  have hiw : i < Wh.length := by omega
  rcases hstep i f m hil hwi with ⟨e1, e2, e3⟩ | ⟨e1, e2, e3⟩
  ·refine tri_skip (tT (tS (tri_block (tS (tR ?_)))))
   refine tri_v (by first | exact opv_fieldAddr rfl rfl | exact opv_fieldAddrE rfl (by assumption) (by omega) rfl | exact opv_fieldAddrR rfl (by omega) rfl | exact opv_fieldAddrP rfl rfl rfl) rfl ?_
   refine tri_v (by first | exact opv_load1 rfl rfl rfl | exact opv_loadA rfl rfl rfl | exact opv_loadE1 rfl (by assumption) rfl (by omega) rfl rfl | exact opv_loadEA rfl (by assumption) rfl (by omega) rfl rfl | exact opv_loadRX1 rfl rfl (by omega) rfl rfl | exact opv_loadRXA rfl rfl (by omega) rfl rfl rfl | exact opv_loadIX rfl rfl (by omega) | exact opv_loadR1 rfl rfl rfl | exact opv_loadRA rfl rfl rfl rfl) rfl ?_
   refine tM rfl rfl ?_
   refine tri_v (by first | exact opv_indexAddrA rfl rfl (by first | decide | omega) (by first | decide | omega) | exact opv_indexAddrSN rfl rfl (by omega) (by assumption) (by first | rfl | omega) | exact opv_indexAddrS rfl rfl (by omega) (by omega) (by assumption) (by first | rfl | omega) | exact opv_indexAddrE rfl (by assumption) (by omega) rfl (by first | decide | omega) (by first | decide | omega) | exact opv_indexAddrRN rfl rfl (by omega) | exact opv_indexAddrR rfl rfl (by omega) (by omega) | exact opv_indexAddrRA rfl (by omega) rfl (by first | decide | omega) (by first | decide | omega) | exact opv_indexAddrSP rfl rfl (by omega) (by omega)) rfl ?_
   refine tri_v (by first | exact opv_load1 rfl rfl rfl | exact opv_loadA rfl rfl rfl | exact opv_loadE1 rfl (by assumption) rfl (by omega) rfl rfl | exact opv_loadEA rfl (by assumption) rfl (by omega) rfl rfl | exact opv_loadRX1 rfl rfl (by omega) rfl rfl | exact opv_loadRXA rfl rfl (by omega) rfl rfl rfl | exact opv_loadIX rfl rfl (by omega) | exact opv_loadR1 rfl rfl rfl | exact opv_loadRA rfl rfl rfl rfl) rfl ?_
   refine tri_v (by first | exact opv_eql rfl rfl | exact opv_eqlI rfl rfl rfl rfl rfl rfl | exact opv_eqlB rfl rfl | exact opv_eqlNil rfl rfl) rfl ?_
   refine tN (tT ?_)
   refine tri_cond_is rfl (e1) ?_
   refine tS (tS (tR ?_))
   refine tri_v (by first | exact opv_fieldAddr rfl rfl | exact opv_fieldAddrE rfl (by assumption) (by omega) rfl | exact opv_fieldAddrR rfl (by omega) rfl | exact opv_fieldAddrP rfl rfl rfl) rfl ?_
   refine tri_v (by first | exact opv_load1 rfl rfl rfl | exact opv_loadA rfl rfl rfl | exact opv_loadE1 rfl (by assumption) rfl (by omega) rfl rfl | exact opv_loadEA rfl (by assumption) rfl (by omega) rfl rfl | exact opv_loadRX1 rfl rfl (by omega) rfl rfl | exact opv_loadRXA rfl rfl (by omega) rfl rfl rfl | exact opv_loadIX rfl rfl (by omega) | exact opv_loadR1 rfl rfl rfl | exact opv_loadRA rfl rfl rfl rfl) rfl ?_
   refine tM rfl rfl ?_
   refine tri_v (by first | exact opv_indexAddrA rfl rfl (by first | decide | omega) (by first | decide | omega) | exact opv_indexAddrSN rfl rfl (by omega) (by assumption) (by first | rfl | omega) | exact opv_indexAddrS rfl rfl (by omega) (by omega) (by assumption) (by first | rfl | omega) | exact opv_indexAddrE rfl (by assumption) (by omega) rfl (by first | decide | omega) (by first | decide | omega) | exact opv_indexAddrRN rfl rfl (by omega) | exact opv_indexAddrR rfl rfl (by omega) (by omega) | exact opv_indexAddrRA rfl (by omega) rfl (by first | decide | omega) (by first | decide | omega) | exact opv_indexAddrSP rfl rfl (by omega) (by omega)) rfl ?_
   refine tri_v (by first | exact opv_load1 rfl rfl rfl | exact opv_loadA rfl rfl rfl | exact opv_loadE1 rfl (by assumption) rfl (by omega) rfl rfl | exact opv_loadEA rfl (by assumption) rfl (by omega) rfl rfl | exact opv_loadRX1 rfl rfl (by omega) rfl rfl | exact opv_loadRXA rfl rfl (by omega) rfl rfl rfl | exact opv_loadIX rfl rfl (by omega) | exact opv_loadR1 rfl rfl rfl | exact opv_loadRA rfl rfl rfl rfl) rfl ?_
   refine tM rfl rfl ?_
   refine tri_v (by first | exact opv_neq rfl rfl | exact opv_neqI rfl rfl rfl rfl rfl rfl | exact opv_neqB rfl rfl) rfl ?_
   refine tN (tT ?_)
   refine tri_cond_not rfl ((fun h => h (by rw [e2]; omega))) ?_
   refine tri_skip (tT (tR (tM rfl rfl ?_)))
   refine tri_v (by first | exact opv_sub rfl rfl (w64 (by omega) (by omega)) | exact opv_sub rfl rfl rfl) rfl ?_
   refine tA rfl rfl (tN ?_)
   refine tri_inBlock ?_
   refine tT (tR (tM rfl rfl ?_))
   refine tri_v (by first | exact opv_add rfl rfl (w64 (by omega) (by omega))) rfl ?_
   refine tA rfl rfl (tN (tT ?_))
   refine tri_sub ?_ (hK (i + 1, f, m - 1, l - 1) ⟨by simp only; omega, by simp only; omega, e3, by simp only; omega⟩ (by simp only; omega))
   exact ⟨rfl, rfl, rfl, rfl, rfl, rfl, trivial⟩
  ·refine tri_skip (tT (tS (tri_block (tS (tR ?_)))))
   refine tri_v (by first | exact opv_fieldAddr rfl rfl | exact opv_fieldAddrE rfl (by assumption) (by omega) rfl | exact opv_fieldAddrR rfl (by omega) rfl | exact opv_fieldAddrP rfl rfl rfl) rfl ?_
   refine tri_v (by first | exact opv_load1 rfl rfl rfl | exact opv_loadA rfl rfl rfl | exact opv_loadE1 rfl (by assumption) rfl (by omega) rfl rfl | exact opv_loadEA rfl (by assumption) rfl (by omega) rfl rfl | exact opv_loadRX1 rfl rfl (by omega) rfl rfl | exact opv_loadRXA rfl rfl (by omega) rfl rfl rfl | exact opv_loadIX rfl rfl (by omega) | exact opv_loadR1 rfl rfl rfl | exact opv_loadRA rfl rfl rfl rfl) rfl ?_
   refine tM rfl rfl ?_
   refine tri_v (by first | exact opv_indexAddrA rfl rfl (by first | decide | omega) (by first | decide | omega) | exact opv_indexAddrSN rfl rfl (by omega) (by assumption) (by first | rfl | omega) | exact opv_indexAddrS rfl rfl (by omega) (by omega) (by assumption) (by first | rfl | omega) | exact opv_indexAddrE rfl (by assumption) (by omega) rfl (by first | decide | omega) (by first | decide | omega) | exact opv_indexAddrRN rfl rfl (by omega) | exact opv_indexAddrR rfl rfl (by omega) (by omega) | exact opv_indexAddrRA rfl (by omega) rfl (by first | decide | omega) (by first | decide | omega) | exact opv_indexAddrSP rfl rfl (by omega) (by omega)) rfl ?_
   refine tri_v (by first | exact opv_load1 rfl rfl rfl | exact opv_loadA rfl rfl rfl | exact opv_loadE1 rfl (by assumption) rfl (by omega) rfl rfl | exact opv_loadEA rfl (by assumption) rfl (by omega) rfl rfl | exact opv_loadRX1 rfl rfl (by omega) rfl rfl | exact opv_loadRXA rfl rfl (by omega) rfl rfl rfl | exact opv_loadIX rfl rfl (by omega) | exact opv_loadR1 rfl rfl rfl | exact opv_loadRA rfl rfl rfl rfl) rfl ?_
   refine tri_v (by first | exact opv_eql rfl rfl | exact opv_eqlI rfl rfl rfl rfl rfl rfl | exact opv_eqlB rfl rfl | exact opv_eqlNil rfl rfl) rfl ?_
   refine tN (tT ?_)
   refine tri_cond_not rfl (e1) ?_
   refine tS (tS (tR ?_))
   refine tri_v (by first | exact opv_fieldAddr rfl rfl | exact opv_fieldAddrE rfl (by assumption) (by omega) rfl | exact opv_fieldAddrR rfl (by omega) rfl | exact opv_fieldAddrP rfl rfl rfl) rfl ?_
   refine tri_v (by first | exact opv_load1 rfl rfl rfl | exact opv_loadA rfl rfl rfl | exact opv_loadE1 rfl (by assumption) rfl (by omega) rfl rfl | exact opv_loadEA rfl (by assumption) rfl (by omega) rfl rfl | exact opv_loadRX1 rfl rfl (by omega) rfl rfl | exact opv_loadRXA rfl rfl (by omega) rfl rfl rfl | exact opv_loadIX rfl rfl (by omega) | exact opv_loadR1 rfl rfl rfl | exact opv_loadRA rfl rfl rfl rfl) rfl ?_
   refine tM rfl rfl ?_
   refine tri_v (by first | exact opv_indexAddrA rfl rfl (by first | decide | omega) (by first | decide | omega) | exact opv_indexAddrSN rfl rfl (by omega) (by assumption) (by first | rfl | omega) | exact opv_indexAddrS rfl rfl (by omega) (by omega) (by assumption) (by first | rfl | omega) | exact opv_indexAddrE rfl (by assumption) (by omega) rfl (by first | decide | omega) (by first | decide | omega) | exact opv_indexAddrRN rfl rfl (by omega) | exact opv_indexAddrR rfl rfl (by omega) (by omega) | exact opv_indexAddrRA rfl (by omega) rfl (by first | decide | omega) (by first | decide | omega) | exact opv_indexAddrSP rfl rfl (by omega) (by omega)) rfl ?_
   refine tri_v (by first | exact opv_load1 rfl rfl rfl | exact opv_loadA rfl rfl rfl | exact opv_loadE1 rfl (by assumption) rfl (by omega) rfl rfl | exact opv_loadEA rfl (by assumption) rfl (by omega) rfl rfl | exact opv_loadRX1 rfl rfl (by omega) rfl rfl | exact opv_loadRXA rfl rfl (by omega) rfl rfl rfl | exact opv_loadIX rfl rfl (by omega) | exact opv_loadR1 rfl rfl rfl | exact opv_loadRA rfl rfl rfl rfl) rfl ?_
   refine tM rfl rfl ?_
   refine tri_v (by first | exact opv_neq rfl rfl | exact opv_neqI rfl rfl rfl rfl rfl rfl | exact opv_neqB rfl rfl) rfl ?_
   refine tN (tT ?_)
   refine tri_cond_not rfl ((fun h => h e2)) ?_
   refine tri_skip (tT (tR (tM rfl rfl ?_)))
   refine tri_v (by first | exact opv_add rfl rfl (w64 (by omega) (by omega))) rfl ?_
   refine tA rfl rfl (tN ?_)
   refine tri_inBlock ?_
   refine tT (tR (tM rfl rfl ?_))
   refine tri_v (by first | exact opv_add rfl rfl (w64 (by omega) (by omega))) rfl ?_
   refine tA rfl rfl (tN (tT ?_))
   refine tri_sub ?_ (hK (i + 1, f + 1, m - 1, l) ⟨by simp only; omega, by simp only; omega, e3, by simp only; omega⟩ (by simp only; omega))
   exact ⟨rfl, rfl, rfl, rfl, rfl, rfl, trivial⟩
 ·obtain rfl : i = n + 1 := by omega
  refine tri_exit ?_
  refine tri_then_exit ?_
  refine tri_then_exit ?_
  refine tri_inBlock_hit rfl ?_
  refine tT (tS (tR (tM rfl rfl (tM rfl rfl ?_))))
  refine tri_bool 101 rfl (fun _ => ?_) (fun h => absurd h (by decide))
  refine tri_guard_run rfl rfl rfl (tM rfl rfl (tri_guard_run rfl rfl rfl (tM rfl rfl (tri_guard_run rfl rfl rfl ?_))))
  refine tri_v (by first | exact opv_add rfl rfl (w64 (by omega) (by omega))) rfl ?_
  refine tri_guard_run rfl rfl rfl ?_
  refine tri_v (by first | exact opv_eql rfl rfl | exact opv_eqlI rfl rfl rfl rfl rfl rfl | exact opv_eqlB rfl rfl | exact opv_eqlNil rfl rfl) rfl ?_
  refine tri_v (by first | exact opv_pick_t rfl rfl | exact opv_pick_f rfl rfl | exact opv_pick_bool rfl rfl rfl | exact opv_pick rfl rfl rfl) rfl ?_
  refine tA rfl rfl (tN (tT (tri_ret ?_)))
  refine tri_end _ (by first | exact ⟨[], rfl⟩ | exact ⟨[_], rfl⟩ | exact ⟨[_, _], rfl⟩ | exact ⟨[_, _, _], rfl⟩ | exact ⟨[_, _, _, _], rfl⟩ | exact ⟨[_, _, _, _, _], rfl⟩ | exact ⟨[_, _, _, _, _, _], rfl⟩ | exact ⟨[_, _, _, _, _, _, _], rfl⟩ | exact ⟨[_, _, _, _, _, _, _, _], rfl⟩) rfl (.cons (rv_tmp rfl) .nil) ⟨?_, rfl, fun _ h => hI5 (hI04 h)⟩
  exact congrArg Value.bool (decide_eq_true (by omega))
end Go.GL
