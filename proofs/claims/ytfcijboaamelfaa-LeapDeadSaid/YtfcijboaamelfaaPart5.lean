/- Part 5: contracts of the functions that the law reaches: each answers as its model does. No condition beyond those that each theorem states. -/
import Derived.Test.YtfcijboaamelfaaPart4
set_option linter.unusedVariables false
namespace Go.GL
open Go.Proofs
attribute [local irreducible] wpList Code.wp Exit.then Exit.inBlock Ends Tri TriH OpV OpG FnC epf wpAnyH
theorem four_len {l : List Int} (h : l.length = 4) : ∃ q0 q1 q2 q3, l = [q0, q1, q2, q3] := by
 match l, h with
 | [a, b, c, d], _ => exact ⟨a, b, c, d, rfl⟩
set_option maxHeartbeats 2000000 in
set_option maxRecDepth 100000 in
theorem leaper_make {A : List Asrt} {I : List Chunk} {k : Nat} (ih : LeapSpec k) {s : R9.LS} {a : Option Addr} {cap bl bx mb db : Nat} {room n j : Int} {es ds : KVs} {r : R9.L9} (h : R9.Lk room s) (hn : R7.IsN s.ns (k + 3) n) (hix : Idx s.ns es) (hmx : MemIx s.mm ds) (hj : 0 ≤ j ∧ j ≤ 1000000)
  (hr : R9.far (R9.leap room k) room (decide (j = k + 1)) s n j = r) :
  FnC Try.prog 69 [pt bl 0, .int .i64 n, .int .i64 j].toArray (LxA bl bx mb db a cap s.ns room es ds A) I (LxR bl bx mb db r room A I) := by
 have hlv : (R6.nd s.ns n).lv = k + 3 := by rw [hn.2]; omega
 have efull : decide (j = (R6.nd s.ns n).lv - 2) = decide (j = k + 1) := decide_eq_decide.2 (by omega)
 have hlb := h.wf.lvb hn.1
 obtain ⟨full, hfl⟩ : ∃ f, decide (j = k + 1) = f := ⟨_, rfl⟩
 have hfull : full = true → 1 ≤ j := fun e => by
  rw [← hfl] at e
  have := of_decide_eq_true e
  omega
 rw [hfl] at hr efull
 obtain ⟨r1, hr1⟩ : ∃ r1, R9.half (R9.leap room k) room full s n j = r1 := ⟨_, rfl⟩
 unfold R9.far at hr
 rw [hr1] at hr
 skip
 skip
 refine fn_enter3 Try.func69 rfl Try.ntmps69 rfl fun w0 => ?_
 refine tS (tR (tA rfl rfl (tA rfl rfl (tN (tT (tS (tR ?_)))))))
 refine tM rfl rfl (tM rfl rfl (tM rfl rfl ?_))
 refine tri_g (opg_call (xs := [_, _]) rfl (leaper_level hn.1)) rfl ?_
 rintro _ _ _ ⟨rfl, rfl, rfl⟩
 refine tri_v (opv_sub rfl rfl (w64 (by omega) (by omega))) rfl ?_
 refine tri_v (opv_eql rfl rfl) rfl ?_
 refine tA rfl rfl (tN (tT (tS (tR (tM rfl rfl (tM rfl rfl (tM rfl rfl ?_)))))))
 refine tM rfl rfl ?_
 rw [efull]
 refine tri_g (opg_call (xs := [_, _, _, _]) rfl (leaper_half ih h hn hix hmx hj hfull hr1)) rfl ?_
 rintro _ _ _ ⟨a1, c1, es1, ds1, ns1, q0, q1, q2, q3, q4, q5, q6, q7, q8, rfl, rfl, h1, rfl⟩
 refine tM rfl rfl ?_
 refine tri_v (opv_extract rfl rfl) rfl ?_
 refine tri_v (opv_extract rfl rfl) rfl ?_
 refine tri_g opg_alloc rfl ?_
 rintro _ _ _ ⟨b9, rfl, rfl, rfl⟩
 refine tri_g (opg_store rfl rfl rfl rfl rfl rfl) rfl ?_
 rintro _ _ _ ⟨rfl, rfl⟩
 refine tA rfl rfl (tN (tT (tS (tS (tR (tM rfl rfl ?_))))))
 refine tri_v (opv_neq rfl rfl) rfl ?_
 refine tN (tT ?_)
 refine tri_cond_dec rfl (fun x1 => ?_) (fun x1 => ?_)
 ·rw [R9.bindM_err x1] at hr
  subst hr
  refine tS (tR (tM rfl rfl (tA rfl rfl (tA rfl rfl (tN (tT (tri_ret ?_)))))))
  refine tri_then_ret ?_
  refine tri_end _ (⟨[_], rfl⟩) rfl (.cons (rv_tmp rfl) (.cons (rv_tmp rfl) .nil)) ⟨a1, c1, es1, ds1, ns1, 0, rfl, rfl, fun e => absurd e x1, rfl⟩
 refine tri_skip (tT (tS (tR ?_)))
 refine tri_g opg_alloc rfl ?_
 rintro _ _ _ ⟨b11, rfl, rfl, rfl⟩
 refine tN (tT (tS (tS (tR (tM rfl rfl (tN (tT ?_)))))))
 refine tri_block ?_
 have x1 : r1.2.2 = 0 := Decidable.not_not.1 x1
 rw [R9.bindM_ok x1] at hr
 obtain ⟨rfl, hq9, hi1, hm1⟩ := h1 x1
 obtain ⟨lk1, pre1, len1, is1⟩ := R9.half_gd (fun s q j hs hq he => R9.leap_gd k s q j hs hq he) h hn hr1 x1
 obtain ⟨T, L, e1⟩ := r1
 simp only at hq9 hi1 hm1 lk1 pre1 len1 is1 hr x1
 refine tri_perm (A := ?a1_0 :: ?a1_1 :: ?a1_2 :: ?a1_3 :: ?a1_4 :: ?a1_5 :: ?a1_6 :: ?T1) (B := ?a1_2 :: ?a1_3 :: ?a1_4 :: ?a1_0 :: ?a1_5 :: ?a1_6 :: ?a1_1 :: ?T1) (by exact permL [2, 3, 4, 0, 5, 6, 1] [?a1_0, ?a1_1, ?a1_2, ?a1_3, ?a1_4, ?a1_5, ?a1_6] ?T1 (by decide) rfl) ?_
 rw [show ([.int .i64 q0, .int .i64 q1, .int .i64 q2, .int .i64 q3, .int .i64 q4, .int .i64 q5, .int .i64 q6, .int .i64 q7, .int .i64 q8] : List Value) = ints [q0, q1, q2, q3, q4, q5, q6, q7, q8] from rfl, ← hq9]
 obtain ⟨R2, hR2⟩ : ∃ R2, R9.mapS (R9.fourP room L) T R9.fourE = R2 := ⟨_, rfl⟩
 rw [hR2] at hr
 refine tri_sub (F' := [(0, pt bl 0), (2, .int .i64 j), (8, .bool full), (9, pt b9 0), (11, pt b11 0), (32, .int .i64 (0 : Nat))]) ⟨rfl, rfl, rfl, rfl, rfl, rfl, trivial⟩ ?_
 refine loop_ind (G := Nat × R9.LS × List Int × Option Addr × Nat × KVs) (fun g => 4 - g.1) (fun g => g.1 ≤ 4 ∧ g.2.2.1.length = g.1 ∧ R2 = ((R9.mapS (R9.fourP room L) g.2.1 (R9.fourE.drop g.1)).1, g.2.2.1 ++ (R9.mapS (R9.fourP room L) g.2.1 (R9.fourE.drop g.1)).2.1, (R9.mapS (R9.fourP room L) g.2.1 (R9.fourE.drop g.1)).2.2) ∧ R9.Lk room g.2.1 ∧ T.ns <+: g.2.1.ns ∧ Idx g.2.1.ns g.2.2.2.2.2 ∧ g.2.1.mm = T.mm) (fun g => [(0, pt bl 0), (2, .int .i64 j), (8, .bool full), (9, pt b9 0), (11, pt b11 0), (32, .int .i64 (g.1 : Nat))]) (fun g => IxA bx mb g.2.2.2.1 g.2.2.2.2.1 g.2.1.ns room g.2.2.2.2.2 (Box b11 (ints (midL g.2.2.1 [0, 0, 0, 0])) 33 :: Box bl [pt bx 0, .map (some db)] 96 :: MapA Try.prog 102 db ds1 :: Box b9 (ints L) 117 :: A)) (fun _ => I) ?_ (0, T, [], a1, c1, es1) ⟨by omega, rfl, hR2.symm, lk1, List.prefix_refl _, hi1, rfl⟩
 rintro ⟨i, t, res, a2, c2, es2⟩ ⟨hi, hlen, hrr, hlk, hpre, hix2, hmm⟩ K hK
 simp only at hi hlen hrr hlk hpre hix2 hmm hK ⊢
 have hml := midL_len (res := res) (qs := [0, 0, 0, 0]) (by simp only [List.length_cons, List.length_nil]; omega)
 simp only [List.length_cons, List.length_nil] at hml
 skip
 refine tS (tR ?_)
 refine tri_v (opv_lss rfl rfl) rfl ?_
 refine tN (tT (tS ?_))
 refine tri_cond_dec rfl (fun h4 => ?_) (fun h4 => ?_)
 ·have hi4 : i < 4 := by omega
  have ekk : R9.fourE.getD i default = (i : Int) / 2 * 3 + (i : Int) % 2 := by
   rcases (by omega : i = 0 ∨ i = 1 ∨ i = 2 ∨ i = 3) with rfl | rfl | rfl | rfl <;> rfl
  have eset : ∀ v, (midL res [0, 0, 0, 0]).set (0 + ((i : Nat) : Int).toNat * 1) v = midL (res ++ [v]) [0, 0, 0, 0] := fun v => by
   rw [show 0 + ((i : Nat) : Int).toNat * 1 = i by omega, ← hlen]
   exact midL_set (res := res) (qs := [0, 0, 0, 0]) (by simp only [List.length_cons, List.length_nil]; omega) v
  have eg : ∀ x : Int, L.getD (0 + x.toNat * 1) default = R8.g L x := fun x => by rw [show 0 + x.toNat * 1 = x.toNat by omega]; rfl
  obtain ⟨R, hR⟩ : ∃ R, R9.fourP room L t (R9.fourE.getD i default) = R := ⟨_, rfl⟩
  have hnx := mapS_next (R := R) hlen (by show i < 4; omega) hrr hR
  have hgd := fun e : R.2.2 = 0 => R9.putS_gd (lv := k + 1) hlk ((is1 _ (R9.g_mem (i := R9.fourE.getD i default) (by rw [ekk]; omega) (by rw [ekk, len1]; omega))).pre hpre) (by unfold R9.fourP at hR; rw [hR]; exact e)
  unfold R9.fourP at hR
  rw [ekk] at hR hgd
  rw [hR] at hgd
  have er1 : (R6.put t.ns room (R8.g L ((i : Int) / 2 * 3 + (i : Int) % 2)) (R8.g L ((i : Int) / 2 * 3 + (i : Int) % 2 + 1)) (R8.g L ((i : Int) / 2 * 3 + (i : Int) % 2 + 3)) (R8.g L ((i : Int) / 2 * 3 + (i : Int) % 2 + 4))) = (R.1.ns, R.2.1, R.2.2) := by rw [← hR]; rfl
  have er4 : R.1.mm = t.mm := by rw [← hR]; rfl
  rw [← eg, ← eg, ← eg, ← eg] at er1
  refine tri_skip (tT (tS (tri_block (tS (tR (tM rfl rfl (tA rfl rfl ?_)))))))
  refine tN (tT (tS (tR (tM rfl rfl ?_))))
  refine tri_v (opv_quoE rfl rfl (by omega) (by omega) (by omega)) rfl ?_
  refine tri_v (opv_mul rfl rfl (w64 (by omega) (by omega))) rfl ?_
  refine tM rfl rfl ?_
  refine tri_v (opv_remE rfl rfl (by omega) (by omega)) rfl ?_
  refine tU rfl rfl (by omega) (by omega) rfl ?_
  refine tA rfl rfl (tN (tT (tS ?_)))
  skip
  refine tri_draw [0, 1, 2, 3, 4, 5, 6, 7, 8, 9, 10, 11, 12, 13, 14, 15, 16, 17, 18, 19, 20, 21, 22, 23, 24, 25, 26, 27, 28] rfl [_, _, _, _] rfl mixed ?_
  refine th_take rfl rfl (by kernel_rfl)  (opv_move rfl) ?_
  refine th_take rfl rfl (by kernel_rfl)  (opv_move rfl) ?_
  refine th_take rfl rfl (by kernel_rfl)  (opv_nilCheck rfl) ?_
  refine th_take rfl rfl (by kernel_rfl)  (opv_fieldAddr rfl rfl) ?_
  refine th_take rfl rfl (by kernel_rfl)  (opv_fieldAddr rfl rfl) ?_
  refine th_take rfl rfl (by kernel_rfl)  (opv_load1 rfl rfl rfl) ?_
  refine th_take rfl rfl (by kernel_rfl)  (opv_move rfl) ?_
  refine th_take rfl rfl (by kernel_rfl)  (opv_indexAddrA rfl rfl (by omega) (by omega)) ?_
  refine th_take rfl rfl (by kernel_rfl)  (opv_loadIX rfl rfl (by omega)) ?_
  refine th_take rfl rfl (by kernel_rfl)  (opv_move rfl) ?_
  refine th_take rfl rfl (by kernel_rfl)  (opv_add rfl rfl (w64 (by omega) (by omega))) ?_
  refine th_take rfl rfl (by kernel_rfl)  (opv_indexAddrA rfl rfl (by omega) (by omega)) ?_
  refine th_take rfl rfl (by kernel_rfl)  (opv_loadIX rfl rfl (by omega)) ?_
  refine th_take rfl rfl (by kernel_rfl)  (opv_move rfl) ?_
  refine th_take rfl rfl (by kernel_rfl)  (opv_add rfl rfl (w64 (by omega) (by omega))) ?_
  refine th_take rfl rfl (by kernel_rfl)  (opv_indexAddrA rfl rfl (by omega) (by omega)) ?_
  refine th_take rfl rfl (by kernel_rfl)  (opv_loadIX rfl rfl (by omega)) ?_
  refine th_take rfl rfl (by kernel_rfl)  (opv_move rfl) ?_
  refine th_take rfl rfl (by kernel_rfl)  (opv_add rfl rfl (w64 (by omega) (by omega))) ?_
  refine th_take rfl rfl (by kernel_rfl)  (opv_indexAddrA rfl rfl (by omega) (by omega)) ?_
  refine th_take rfl rfl (by kernel_rfl)  (opv_loadIX rfl rfl (by omega)) ?_
  refine th_take rfl rfl (by kernel_rfl)  (opv_buildA rfl rfl) ?_
  refine th_one (by kernel_rfl) (step_m rfl rfl (opg_call (xs := [_, _]) rfl (node_putR (r := (R.1.ns, R.2.1, R.2.2)) hlk.good hlk.len2 hix2 er1)) ?_)
  rintro _ _ _ ⟨a3, c3, es3, rfl, rfl, hi3, rfl⟩
  refine ⟨Suf.h, (fun _ h => h), ?_⟩
  refine th_take rfl rfl (by kernel_rfl)  (opv_move rfl) ?_
  refine th_take rfl rfl (by kernel_rfl)  (opv_extract rfl rfl) ?_
  refine th_take rfl rfl (by kernel_rfl)  (opv_extract rfl rfl) ?_
  refine th_take rfl rfl (by kernel_rfl)  (opv_indexAddrA rfl rfl (by omega) (by omega)) ?_
  refine th_one (by kernel_rfl) (step_m rfl rfl (opg_storeIX rfl rfl (by omega)) ?_)
  rintro _ _ _ ⟨rfl, rfl⟩
  refine ⟨Suf.h, (fun _ h => h), ?_⟩
  rw [eset]
  refine th_take rfl rfl (by kernel_rfl)  (opv_assign rfl) ?_
  refine th_done (by kernel_rfl) ?_
  refine tT (tS (tR (tM rfl rfl ?_)))
  refine tri_v (opv_neq rfl rfl) rfl ?_
  refine tN (tT ?_)
  refine tri_cond_dec rfl (fun x2 => ?_) (fun x2 => ?_)
  ·have e2 := hnx.2 x2
   rw [R9.bindM_err (by rw [e2]; exact x2), e2] at hr
   subst hr
   refine tS (tR (tM rfl rfl (tA rfl rfl (tA rfl rfl (tN (tT (tri_ret ?_)))))))
   refine tri_inBlock_ret ?_
   refine tri_then_ret (tri_then_ret ?_)
   refine tri_inBlock_ret ?_
   refine tri_then_ret ?_
   refine tri_perm (A := ?a2_0 :: ?a2_1 :: ?a2_2 :: ?a2_3 :: ?a2_4 :: ?a2_5 :: ?a2_6 :: ?T2) (B := ?a2_0 :: ?a2_1 :: ?a2_2 :: ?a2_4 :: ?a2_5 :: ?a2_3 :: ?a2_6 :: ?T2) (by exact permL [0, 1, 2, 4, 5, 3, 6] [?a2_0, ?a2_1, ?a2_2, ?a2_3, ?a2_4, ?a2_5, ?a2_6] ?T2 (by decide) rfl) ?_
   refine tri_perm (A := ?a3_0 :: ?a3_1 :: ?a3_2 :: ?a3_3 :: ?a3_4 :: ?a3_5 :: ?a3_6 :: ?T3) (B := ?a3_5 :: ?a3_6 :: ?a3_0 :: ?a3_1 :: ?a3_2 :: ?a3_3 :: ?a3_4 :: ?T3) (by exact permL [5, 6, 0, 1, 2, 3, 4] [?a3_0, ?a3_1, ?a3_2, ?a3_3, ?a3_4, ?a3_5, ?a3_6] ?T3 (by decide) rfl) ?_
   refine tri_end _ (⟨[_, _], rfl⟩) rfl (.cons (rv_tmp rfl) (.cons (rv_tmp rfl) .nil)) ⟨a3, c3, es3, ds1, R.1.ns, 0, rfl, rfl, fun e => absurd e x2, rfl⟩
  ·have x2' : R.2.2 = 0 := Decidable.not_not.1 x2
   refine tri_skip ?_
   refine tri_inBlock ?_
   refine tT (tR ?_)
   refine tU rfl rfl (by omega) (by omega) rfl ?_
   refine tM rfl rfl (tN (tT ?_))
   refine tri_sub ?_ (hK (i + 1, R.1, res ++ [R.2.1], a3, c3, es3) ⟨by simp only; omega, (hnx.1 x2').1, (hnx.1 x2').2, (hgd x2').lk, hpre.trans (hgd x2').pre, hi3, by rw [er4, hmm]⟩ (by simp only; omega))
   exact ⟨rfl, rfl, rfl, rfl, rfl, rfl, trivial⟩
 ·have hi4 : i = 4 := by omega
  subst hi4
  have hR2' : R2 = (t, res, 0) := by rw [hrr]; simp [R9.fourE, R9.mapS]
  have g2 := R9.four_gd lk1 len1 is1 (by rw [hR2, hR2'])
  rw [hR2, hR2'] at g2
  obtain ⟨lk2, pre2, len2, is2⟩ := g2
  simp only at lk2 pre2 len2 is2
  rw [hR2', R9.bindM_ok rfl] at hr
  simp only at hr
  rw [midL_done (by rw [hlen]; rfl)]
  have hm2 : MemIx t.mm ds1 := by rw [hmm]; exact hm1
  refine tri_exit ?_
  refine tri_then_exit ?_
  refine tri_then_exit ?_
  refine tri_inBlock_hit rfl ?_
  refine tT (tS (tS (tR (tM rfl rfl (tN (tT ?_))))))
  refine tri_cut (fun F' A' J => F' = [(0, pt bl 0), (2, .int .i64 (if full = true then j - 1 else j)), (11, pt b11 0)] ∧ A' = IxA bx mb a2 c2 t.ns room es2 (Box b11 (ints res) 33 :: Box bl [pt bx 0, .map (some db)] 96 :: MapA Try.prog 102 db ds1 :: Box b9 (ints L) 117 :: A) ∧ I = J) ?_ ?_
  ·refine tri_cond rfl (fun hf => ?_) (fun hf => ?_)
   ·have hf1 : full = true := by simpa using hf
    have hj1 := hfull hf1
    refine tR (tM rfl rfl ?_)
    refine tri_v (opv_sub rfl rfl (w64 (by omega) (by omega))) rfl ?_
    refine tA rfl rfl (tN ?_)
    exact tri_cutEnd _ ⟨rfl, rfl, rfl⟩ ⟨rfl, by rw [if_pos hf1]; rfl, rfl, trivial⟩
   ·have hf1 : ¬ full = true := by simpa using hf
    refine tri_skip ?_
    exact tri_cutEnd _ ⟨rfl, rfl, rfl⟩ ⟨rfl, by rw [if_neg hf1]; rfl, rfl, trivial⟩
  rintro _ _ _ ⟨rfl, rfl, rfl⟩
  skip
  have hj' : 0 ≤ (if full = true then j - 1 else j) ∧ (if full = true then j - 1 else j) ≤ 1000000 := by
   by_cases hf : full = true
   ·have := hfull hf; rw [if_pos hf]; omega
   ·rw [if_neg hf]; omega
  generalize (if full = true then j - 1 else j) = j' at *
  refine tT (tS (tS (tR (tM rfl rfl (tN (tT (tri_block ?_)))))))
  refine tri_perm (A := ?a4_0 :: ?a4_1 :: ?a4_2 :: ?a4_3 :: ?a4_4 :: ?a4_5 :: ?a4_6 :: ?T4) (B := ?a4_0 :: ?a4_1 :: ?a4_2 :: ?a4_4 :: ?a4_5 :: ?a4_3 :: ?a4_6 :: ?T4) (by exact permL [0, 1, 2, 4, 5, 3, 6] [?a4_0, ?a4_1, ?a4_2, ?a4_3, ?a4_4, ?a4_5, ?a4_6] ?T4 (by decide) rfl) ?_
  obtain ⟨R3, hR3⟩ : ∃ R3, R9.mapS (R9.lastF (R9.leap room k) j') t res = R3 := ⟨_, rfl⟩
  rw [hR3] at hr
  refine tri_sub (F' := [(0, pt bl 0), (2, .int .i64 j'), (11, pt b11 0), (75, .int .i64 (0 : Nat))]) ⟨rfl, rfl, rfl, rfl, trivial⟩ ?_
  refine loop_ind (G := Nat × R9.LS × List Int × Option Addr × Nat × KVs × KVs) (fun g => 4 - g.1) (fun g => g.1 ≤ 4 ∧ g.2.2.1.length = g.1 ∧ R3 = ((R9.mapS (R9.lastF (R9.leap room k) j') g.2.1 (res.drop g.1)).1, g.2.2.1 ++ (R9.mapS (R9.lastF (R9.leap room k) j') g.2.1 (res.drop g.1)).2.1, (R9.mapS (R9.lastF (R9.leap room k) j') g.2.1 (res.drop g.1)).2.2) ∧ R9.Lk room g.2.1 ∧ t.ns <+: g.2.1.ns ∧ Idx g.2.1.ns g.2.2.2.2.2.1 ∧ MemIx g.2.1.mm g.2.2.2.2.2.2) (fun g => [(0, pt bl 0), (2, .int .i64 j'), (11, pt b11 0), (75, .int .i64 (g.1 : Nat))]) (fun g => LxA bl bx mb db g.2.2.2.1 g.2.2.2.2.1 g.2.1.ns room g.2.2.2.2.2.1 g.2.2.2.2.2.2 (Box b11 (ints (midL g.2.2.1 res)) 33 :: Box b9 (ints L) 117 :: A)) (fun _ => I) ?_ (0, t, [], a2, c2, es2, ds1) ⟨by omega, rfl, hR3.symm, lk2, List.prefix_refl _, hix2, hm2⟩
  rintro ⟨i, u, out, a3, c3, es3, ds3⟩ ⟨hi5, hlen5, hrr5, hlk5, hpre5, hix5, hmx5⟩ K2 hK2
  simp only at hi5 hlen5 hrr5 hlk5 hpre5 hix5 hmx5 hK2 ⊢
  have hml5 := midL_len (res := out) (qs := res) (by omega)
  skip
  refine tS (tR ?_)
  refine tri_v (opv_lss rfl rfl) rfl ?_
  refine tN (tT (tS ?_))
  refine tri_cond_dec rfl (fun h5 => ?_) (fun h5 => ?_)
  ·have hi6 : i < 4 := by omega
   have ei : 0 + ((i : Nat) : Int).toNat * 1 = i := by omega
   have eq : (midL out res).getD (0 + ((i : Nat) : Int).toNat * 1) default = res.getD i default := by rw [ei, ← hlen5]; exact midL_at (res := out) (qs := res) (by omega)
   have eset : ∀ v, (midL out res).set (0 + ((i : Nat) : Int).toNat * 1) v = midL (out ++ [v]) res := fun v => by rw [ei, ← hlen5]; exact midL_set (res := out) (qs := res) (by omega) v
   have hqn : R7.IsN u.ns (k + 2) ((midL out res).getD (0 + ((i : Nat) : Int).toNat * 1) default) := by
    rw [eq]
    exact (is2 _ (by simp [show i < res.length by omega])).pre hpre5
   obtain ⟨R, hR⟩ : ∃ R, R9.leap room k u ((midL out res).getD (0 + ((i : Nat) : Int).toNat * 1) default) j' = R := ⟨_, rfl⟩
   have hnx := mapS_next (R := R) hlen5 (by omega) hrr5 (by unfold R9.lastF; rw [← eq]; exact hR)
   have hgd := fun e : R.2.2 = 0 => R9.leap_gd k u _ j' hlk5 hqn (by rw [hR]; exact e)
   rw [hR] at hgd
   refine tri_skip (tT (tS (tri_block (tS (tR (tM rfl rfl (tA rfl rfl ?_)))))))
   refine tN (tT (tS (tR (tM rfl rfl (tM rfl rfl (tM rfl rfl ?_))))))
   refine tri_v (opv_indexAddrA rfl rfl (by omega) (by omega)) rfl ?_
   refine tri_v (opv_loadIX rfl rfl (by omega)) rfl ?_
   refine tM rfl rfl ?_
   refine tri_g (opg_call (xs := [_, _, _]) rfl (ih _ _ u _ _ _ _ _ _ _ _ j' _ _ R hlk5 hqn hix5 hmx5 hj' hR)) rfl ?_
   rintro _ _ _ ⟨a4, c4, es4, ds4, ns4, m4, rfl, rfl, h4', rfl⟩
   refine tM rfl rfl ?_
   refine tri_v (opv_extract rfl rfl) rfl ?_
   refine tri_v (opv_extract rfl rfl) rfl ?_
   refine tri_v (opv_indexAddrA rfl rfl (by omega) (by omega)) rfl ?_
   refine tri_g (opg_storeIX rfl rfl (by omega)) rfl ?_
   rintro _ _ _ ⟨rfl, rfl⟩
   rw [eset]
   refine tA rfl rfl (tN (tT (tS (tR (tM rfl rfl ?_)))))
   refine tri_v (opv_neq rfl rfl) rfl ?_
   refine tN (tT ?_)
   refine tri_cond_dec rfl (fun x3 => ?_) (fun x3 => ?_)
   ·have e2 := hnx.2 x3
    rw [R9.bindM_err (by rw [e2]; exact x3), e2] at hr
    subst hr
    refine tS (tR (tM rfl rfl (tA rfl rfl (tA rfl rfl (tN (tT (tri_ret ?_)))))))
    refine tri_inBlock_ret ?_
    refine tri_then_ret (tri_then_ret ?_)
    refine tri_inBlock_ret ?_
    refine tri_then_ret ?_
    refine tri_perm (A := ?a5_0 :: ?a5_1 :: ?a5_2 :: ?a5_3 :: ?a5_4 :: ?a5_5 :: ?a5_6 :: ?T5) (B := ?a5_5 :: ?a5_6 :: ?a5_0 :: ?a5_1 :: ?a5_2 :: ?a5_3 :: ?a5_4 :: ?T5) (by exact permL [5, 6, 0, 1, 2, 3, 4] [?a5_0, ?a5_1, ?a5_2, ?a5_3, ?a5_4, ?a5_5, ?a5_6] ?T5 (by decide) rfl) ?_
    refine tri_end _ (⟨[_, _], rfl⟩) rfl (.cons (rv_tmp rfl) (.cons (rv_tmp rfl) .nil)) ⟨a4, c4, es4, ds4, ns4, 0, rfl, rfl, fun e => absurd e x3, rfl⟩
   ·have x3' : R.2.2 = 0 := Decidable.not_not.1 x3
    obtain ⟨rfl, rfl, hi6', hm6⟩ := h4' x3'
    refine tri_skip ?_
    refine tri_inBlock ?_
    refine tT (tR ?_)
    refine tU rfl rfl (by omega) (by omega) rfl ?_
    refine tM rfl rfl (tN (tT ?_))
    refine tri_sub ?_ (hK2 (i + 1, R.1, out ++ [R.2.1], a4, c4, es4, ds4) ⟨by simp only; omega, (hnx.1 x3').1, (hnx.1 x3').2, (hgd x3').lk, hpre5.trans (hgd x3').pre, hi6', hm6⟩ (by simp only; omega))
    exact ⟨rfl, rfl, rfl, rfl, trivial⟩
  ·have hi6 : i = 4 := by omega
   subst hi6
   have hR3' : R3 = (u, out, 0) := by rw [hrr5, List.drop_of_length_le (by omega)]; simp [R9.mapS]
   rw [hR3', R9.bindM_ok rfl] at hr
   simp only at hr
   obtain ⟨p0, p1, p2, p3, hp⟩ := four_len hlen5
   rw [midL_done (by omega), hp]
   rw [hp] at hr
   have er1 : R6.put u.ns room p0 p1 p2 p3 = (r.1.ns, r.2.1, r.2.2) := by rw [← hr]; rfl
   have er4 : r.1.mm = u.mm := by rw [← hr]; rfl
   refine tri_exit ?_
   refine tri_then_exit ?_
   refine tri_then_exit ?_
   refine tri_inBlock_hit rfl ?_
   refine tT (tS ?_)
   skip
   refine tri_draw [0, 1, 2, 3, 4, 5, 6, 7, 8, 9, 10] rfl [_, _, _] rfl mixed ?_
   refine th_take rfl rfl (by kernel_rfl)  (opv_move rfl) ?_
   refine th_take rfl rfl (by kernel_rfl)  (opv_nilCheck rfl) ?_
   refine th_take rfl rfl (by kernel_rfl)  (opv_fieldAddr rfl rfl) ?_
   refine th_take rfl rfl (by kernel_rfl)  (opv_fieldAddr rfl rfl) ?_
   refine th_take rfl rfl (by kernel_rfl)  (opv_load1 rfl rfl rfl) ?_
   refine th_take rfl rfl (by kernel_rfl)  (opv_loadA rfl rfl rfl) ?_
   refine th_one (by kernel_rfl) (step_m rfl rfl (opg_call (xs := [_, _]) rfl (node_putR (r := (r.1.ns, r.2.1, r.2.2)) hlk5.good hlk5.len2 hix5 er1)) ?_)
   rintro _ _ _ ⟨a4, c4, es4, rfl, rfl, hi4', rfl⟩
   refine ⟨Suf.h, (fun _ h => h), ?_⟩
   refine th_take rfl rfl (by kernel_rfl)  (opv_extract rfl rfl) ?_
   refine th_take rfl rfl (by kernel_rfl)  (opv_extract rfl rfl) ?_
   refine th_take rfl rfl (by kernel_rfl)  (opv_assign rfl) ?_
   refine th_take rfl rfl (by kernel_rfl)  (opv_assign rfl) ?_
   refine th_done (by kernel_rfl) ?_
   refine tT (tri_ret ?_)
   refine tri_perm (A := ?a6_0 :: ?a6_1 :: ?a6_2 :: ?a6_3 :: ?a6_4 :: ?a6_5 :: ?a6_6 :: ?T6) (B := ?a6_5 :: ?a6_6 :: ?a6_0 :: ?a6_1 :: ?a6_2 :: ?a6_3 :: ?a6_4 :: ?T6) (by exact permL [5, 6, 0, 1, 2, 3, 4] [?a6_0, ?a6_1, ?a6_2, ?a6_3, ?a6_4, ?a6_5, ?a6_6] ?T6 (by decide) rfl) ?_
   refine tri_end _ (⟨[_, _], rfl⟩) rfl (.cons (rv_tmp rfl) (.cons (rv_tmp rfl) .nil)) ⟨a4, c4, es4, ds3, r.1.ns, r.2.1, rfl, rfl, fun _ => ⟨rfl, rfl, hi4', by rw [er4]; exact hmx5⟩, rfl⟩
end Go.GL

set_option linter.unusedVariables false
namespace Go.GL
open Go.Proofs
attribute [local irreducible] wpList Code.wp Exit.then Exit.inBlock Ends Tri TriH OpV OpG FnC epf wpAnyH
set_option maxHeartbeats 2000000 in
set_option maxRecDepth 100000 in
theorem leap_zero : LeapSpec 0 := by
 intro A I s a cap bl bx mb db room n j es ds r h hn hix hmx hj hr
 have hlv : (R6.nd s.ns n).lv = 2 := by rw [hn.2]; omega
 have hmf := hmx n j
 unfold R9.leap at hr
 skip
 refine fn_enter3 Try.func43 rfl Try.ntmps43 rfl fun w0 => ?_
 refine tS (tR (tA rfl rfl (tA rfl rfl (tN (tT (tS (tS ?_)))))))
 refine tR (tM rfl rfl ?_)
 refine tri_v (opv_nilCheck rfl) rfl ?_
 refine tri_v (opv_fieldAddr rfl rfl) rfl ?_
 refine tri_v (opv_load1 rfl rfl rfl) rfl ?_
 refine tM rfl rfl (tM rfl rfl ?_)
 refine tri_v (opv_buildS rfl rfl) rfl ?_
 refine tri_v (opv_lookup2 (P := Try.prog) (ks := [n, j]) zeroInt rfl rfl (keyTask n j) keyTaskAt rfl) rfl ?_
 refine tM rfl rfl ?_
 refine tri_v (opv_extract rfl rfl) rfl ?_
 refine tri_v (opv_extract rfl rfl) rfl ?_
 refine tA rfl rfl (tA rfl rfl (tN (tT (tS (tR (tM rfl rfl (tN ?_)))))))
 refine tT ?_
 obtain ⟨o, ho⟩ : ∃ o, R9.look9 s.mm n j = o := ⟨_, rfl⟩
 rw [ho] at hmf hr
 rcases o with _ | to
 ·simp only at hr
  refine tri_cond_false (congrArg (fun o => some (Value.bool (Option.isSome o))) hmf) ?_
  refine tri_skip (tT (tS (tS (tR (tM rfl rfl (tM rfl rfl ?_))))))
  refine tri_g (opg_call (xs := [_, _]) rfl (leaper_level hn.1)) rfl ?_
  rintro _ _ _ ⟨rfl, rfl, rfl⟩
  refine tri_v (opv_eql rfl rfl) rfl ?_
  refine tN (tT ?_)
  refine tri_cond_is rfl (hlv) ?_
  refine tR (tM rfl rfl ?_)
  refine tri_v (opv_nilCheck rfl) rfl ?_
  refine tri_v (opv_fieldAddr rfl rfl) rfl ?_
  refine tri_v (opv_loadA rfl rfl rfl) rfl ?_
  refine tM rfl rfl ?_
  refine tri_g (opg_call (xs := [_, _]) rfl (maker_step h.good h.len2 hix (h.kid hn) (h.right.bits hn.1 hlv))) rfl ?_
  rintro _ _ _ ⟨a1, c1, es1, rfl, rfl, hi1, rfl⟩
  obtain ⟨R, hR⟩ : ∃ R, R9.oneS room s n = R := ⟨_, rfl⟩
  have er1 : (R8.one s.ns room n).1 = R.1.ns := by rw [← hR]; rfl
  have er2 : (R8.one s.ns room n).2.1 = R.2.1 := by rw [← hR]; rfl
  have er3 : (R8.one s.ns room n).2.2 = R.2.2 := by rw [← hR]; rfl
  have er4 : R.1.mm = s.mm := by rw [← hR]; rfl
  rw [er1] at hi1
  rw [er1, er2, er3]
  rw [hR] at hr
  have hm1 : R.2.2 = 0 → MemIx (R.1.mm ++ [(n, j, R.2.1)]) (mset ds [n, j] (.int .i64 R.2.1)) := fun _ => by
   rw [er4]; exact hmx.snoc ho R.2.1
  have hst : R.2.2 = 0 → R.1.ns = R.1.ns ∧ R.2.1 = R.2.1 ∧ Idx R.1.ns es1 := fun _ => ⟨rfl, rfl, hi1⟩
  refine tM rfl rfl ?_
  refine tri_v (opv_extract rfl rfl) rfl ?_
  refine tri_v (opv_extract rfl rfl) rfl ?_
  refine tA rfl rfl (tA rfl rfl (tN (tT (tS (tS (tR (tM rfl rfl ?_)))))))
  refine tri_v (opv_eql rfl rfl) rfl ?_
  refine tN (tT ?_)
  refine tri_cond_dec rfl (fun x => ?_) (fun x => ?_)
  ·have hr' : r = (⟨R.1.ns, R.1.mm ++ [(n, j, R.2.1)]⟩, R.2.1, 0) := by rw [← hr]; unfold R9.keep; rw [if_neg (by simpa using x)]
   obtain ⟨e1, e2, e3⟩ := hst x
   refine tR (tM rfl rfl ?_)
   refine tri_v (opv_nilCheck rfl) rfl ?_
   refine tri_v (opv_fieldAddr rfl rfl) rfl ?_
   refine tri_v (opv_load1 rfl rfl rfl) rfl ?_
   refine tM rfl rfl (tM rfl rfl ?_)
   refine tri_v (opv_buildS rfl rfl) rfl ?_
   refine tM rfl rfl ?_
   refine tri_g (opg_mapUpdate (P := Try.prog) (ks := [n, j]) rfl rfl rfl (keyTask n j) keyTaskAt rfl) rfl ?_
   rintro _ _ _ ⟨rfl, rfl⟩
   refine tN (tT (tS (tR (tM rfl rfl (tM rfl rfl (tA rfl rfl (tA rfl rfl ?_)))))))
   refine tN (tT (tri_ret ?_))
   refine tri_end _ (⟨[], rfl⟩) rfl (.cons (rv_tmp rfl) (.cons (rv_tmp rfl) .nil)) ⟨a1, c1, es1, mset ds [n, j] (.int .i64 R.2.1), R.1.ns, R.2.1, by rw [hr', x]; rfl, rfl, fun _ => ?_, rfl⟩
   rw [hr']
   exact ⟨e1, e2, e3, hm1 x⟩
  ·have hr' : r = (R.1, 0, R.2.2) := by rw [← hr]; unfold R9.keep; rw [if_pos x]
   refine tri_skip (tT (tS (tR (tM rfl rfl (tM rfl rfl (tA rfl rfl (tA rfl rfl ?_)))))))
   refine tN (tT (tri_ret ?_))
   refine tri_end _ (⟨[], rfl⟩) rfl (.cons (rv_tmp rfl) (.cons (rv_tmp rfl) .nil)) ⟨a1, c1, es1, ds, R.1.ns, R.2.1, by rw [hr']; rfl, rfl, fun e => ?_, rfl⟩
   rw [hr'] at e
   exact absurd e x
 ·simp only at hr
  subst hr
  refine tri_cond_true (congrArg (fun o => some (Value.bool (Option.isSome o))) hmf) ?_
  refine tS (tR (tM rfl rfl (tA rfl rfl (tA rfl rfl (tN (tT (tri_ret ?_)))))))
  refine tri_then_ret ?_
  refine tri_end _ (⟨[], rfl⟩) rfl (.cons (rv_tmp rfl) (.cons (rv_tmp rfl) .nil)) ⟨a, cap, es, ds, s.ns, to, ?_, rfl, fun _ => ⟨rfl, rfl, hix, hmx⟩, rfl⟩
  rw [hmf]; rfl
set_option maxHeartbeats 2000000 in
set_option maxRecDepth 100000 in
theorem leap_succ {k : Nat} (ih : LeapSpec k) : LeapSpec (k + 1) := by
 intro A I s a cap bl bx mb db room n j es ds r h hn hix hmx hj hr
 have hlv : (R6.nd s.ns n).lv = k + 3 := by rw [hn.2]; omega
 have hmf := hmx n j
 unfold R9.leap at hr
 skip
 refine fn_enter3 Try.func43 rfl Try.ntmps43 rfl fun w0 => ?_
 refine tS (tR (tA rfl rfl (tA rfl rfl (tN (tT (tS (tS ?_)))))))
 refine tR (tM rfl rfl ?_)
 refine tri_v (opv_nilCheck rfl) rfl ?_
 refine tri_v (opv_fieldAddr rfl rfl) rfl ?_
 refine tri_v (opv_load1 rfl rfl rfl) rfl ?_
 refine tM rfl rfl (tM rfl rfl ?_)
 refine tri_v (opv_buildS rfl rfl) rfl ?_
 refine tri_v (opv_lookup2 (P := Try.prog) (ks := [n, j]) zeroInt rfl rfl (keyTask n j) keyTaskAt rfl) rfl ?_
 refine tM rfl rfl ?_
 refine tri_v (opv_extract rfl rfl) rfl ?_
 refine tri_v (opv_extract rfl rfl) rfl ?_
 refine tA rfl rfl (tA rfl rfl (tN (tT (tS (tR (tM rfl rfl (tN ?_)))))))
 refine tT ?_
 obtain ⟨o, ho⟩ : ∃ o, R9.look9 s.mm n j = o := ⟨_, rfl⟩
 rw [ho] at hmf hr
 rcases o with _ | to
 ·simp only at hr
  refine tri_cond_false (congrArg (fun o => some (Value.bool (Option.isSome o))) hmf) ?_
  refine tri_skip (tT (tS (tS (tR (tM rfl rfl (tM rfl rfl ?_))))))
  refine tri_g (opg_call (xs := [_, _]) rfl (leaper_level hn.1)) rfl ?_
  rintro _ _ _ ⟨rfl, rfl, rfl⟩
  refine tri_v (opv_eql rfl rfl) rfl ?_
  refine tN (tT ?_)
  refine tri_cond_not rfl (by rw [hlv]; omega) ?_
  refine tR (tM rfl rfl (tM rfl rfl (tM rfl rfl ?_)))
  obtain ⟨R, hR⟩ : ∃ R, R9.far (R9.leap room k) room (decide (j = k + 1)) s n j = R := ⟨_, rfl⟩
  rw [hR] at hr
  refine tri_g (opg_call (xs := [_, _, _]) rfl (leaper_make ih h hn hix hmx hj hR)) rfl ?_
  rintro _ _ _ ⟨a1, c1, es1, ds1, ns1, m1, rfl, rfl, h1, rfl⟩
  have hst : R.2.2 = 0 → ns1 = R.1.ns ∧ m1 = R.2.1 ∧ Idx R.1.ns es1 := fun e => ⟨(h1 e).1, (h1 e).2.1, (h1 e).2.2.1⟩
  refine tM rfl rfl ?_
  refine tri_v (opv_extract rfl rfl) rfl ?_
  refine tri_v (opv_extract rfl rfl) rfl ?_
  refine tA rfl rfl (tA rfl rfl (tN (tT (tS (tS (tR (tM rfl rfl ?_)))))))
  refine tri_v (opv_eql rfl rfl) rfl ?_
  refine tN (tT ?_)
  refine tri_cond_dec rfl (fun x => ?_) (fun x => ?_)
  ·have hr' : r = (⟨R.1.ns, R.1.mm ++ [(n, j, R.2.1)]⟩, R.2.1, 0) := by rw [← hr]; unfold R9.keep; rw [if_neg (by simpa using x)]
   obtain ⟨e1, e2, e3⟩ := hst x
   refine tR (tM rfl rfl ?_)
   refine tri_v (opv_nilCheck rfl) rfl ?_
   refine tri_v (opv_fieldAddr rfl rfl) rfl ?_
   refine tri_v (opv_load1 rfl rfl rfl) rfl ?_
   refine tM rfl rfl (tM rfl rfl ?_)
   refine tri_v (opv_buildS rfl rfl) rfl ?_
   refine tM rfl rfl ?_
   refine tri_g (opg_mapUpdate (P := Try.prog) (ks := [n, j]) rfl rfl rfl (keyTask n j) keyTaskAt rfl) rfl ?_
   rintro _ _ _ ⟨rfl, rfl⟩
   refine tN (tT (tS (tR (tM rfl rfl (tM rfl rfl (tA rfl rfl (tA rfl rfl ?_)))))))
   refine tN (tT (tri_ret ?_))
   refine tri_end _ (⟨[], rfl⟩) rfl (.cons (rv_tmp rfl) (.cons (rv_tmp rfl) .nil)) ⟨a1, c1, es1, mset ds1 [n, j] (.int .i64 m1), ns1, m1, by rw [hr', x]; rfl, rfl, fun _ => ?_, rfl⟩
   rw [hr']
   exact ⟨e1, e2, e3, by rw [← e2]; exact (h1 x).2.2.2.snoc ((R9.far_new (fun s q j hs hq he => R9.leap_gd k s q j hs hq he) (fun s q j hs hq he => R9.leap_new k s q j hs hq he) h hn (by rw [hR]; exact x)) |>.look (lv := k + 1) (hn.pre (R9.far_gd (fun s q j hs hq he => R9.leap_gd k s q j hs hq he) h hn (by rw [hR]; exact x)).pre) (by omega) ho |> fun q => by rw [hR] at q; exact q) _⟩
  ·have hr' : r = (R.1, 0, R.2.2) := by rw [← hr]; unfold R9.keep; rw [if_pos x]
   refine tri_skip (tT (tS (tR (tM rfl rfl (tM rfl rfl (tA rfl rfl (tA rfl rfl ?_)))))))
   refine tN (tT (tri_ret ?_))
   refine tri_end _ (⟨[], rfl⟩) rfl (.cons (rv_tmp rfl) (.cons (rv_tmp rfl) .nil)) ⟨a1, c1, es1, ds1, ns1, m1, by rw [hr']; rfl, rfl, fun e => ?_, rfl⟩
   rw [hr'] at e
   exact absurd e x
 ·simp only at hr
  subst hr
  refine tri_cond_true (congrArg (fun o => some (Value.bool (Option.isSome o))) hmf) ?_
  refine tS (tR (tM rfl rfl (tA rfl rfl (tA rfl rfl (tN (tT (tri_ret ?_)))))))
  refine tri_then_ret ?_
  refine tri_end _ (⟨[], rfl⟩) rfl (.cons (rv_tmp rfl) (.cons (rv_tmp rfl) .nil)) ⟨a, cap, es, ds, s.ns, to, ?_, rfl, fun _ => ⟨rfl, rfl, hix, hmx⟩, rfl⟩
  rw [hmf]; rfl
theorem leaper_leap : ∀ k, LeapSpec k
 | 0 => leap_zero
 | k + 1 => leap_succ (leaper_leap k)
end Go.GL

set_option linter.unusedVariables false
namespace Go.GL
open Go.Proofs
attribute [local irreducible] wpList Code.wp Exit.then Exit.inBlock Ends Tri TriH OpV OpG FnC epf wpAnyH
variable {A : List Asrt} {I : List Chunk}
namespace R9
def kd (ns : List Node) (n : Int) (i : Nat) : Int := (R6.nd ns n).kids.getD i default
def edgedP (ns : List Node) (n : Int) : Prop := ∃ k q : Nat, k < 4 ∧ q < 4 ∧ q + k ≠ 3 ∧ (R6.nd ns (kd ns (kd ns n k) q)).pop ≠ 0
theorem edged_iff (ns : List Node) (n : Int) : edged ns n = true ↔ edgedP ns n := by
 unfold edged edgedP
 rw [List.any_eq_true]
 constructor
 ·rintro ⟨i, hi, h⟩
  have h' := of_decide_eq_true h
  simp only [List.mem_cons, List.not_mem_nil, or_false] at hi
  rcases hi with rfl | rfl | rfl | rfl | rfl | rfl | rfl | rfl | rfl | rfl | rfl | rfl
  ·exact ⟨0, 0, by omega, by omega, by omega, h'⟩
  ·exact ⟨0, 1, by omega, by omega, by omega, h'⟩
  ·exact ⟨1, 0, by omega, by omega, by omega, h'⟩
  ·exact ⟨1, 1, by omega, by omega, by omega, h'⟩
  ·exact ⟨0, 2, by omega, by omega, by omega, h'⟩
  ·exact ⟨1, 3, by omega, by omega, by omega, h'⟩
  ·exact ⟨2, 0, by omega, by omega, by omega, h'⟩
  ·exact ⟨3, 1, by omega, by omega, by omega, h'⟩
  ·exact ⟨2, 2, by omega, by omega, by omega, h'⟩
  ·exact ⟨2, 3, by omega, by omega, by omega, h'⟩
  ·exact ⟨3, 2, by omega, by omega, by omega, h'⟩
  ·exact ⟨3, 3, by omega, by omega, by omega, h'⟩
 ·rintro ⟨k, q, hk, hq, hn, h⟩
  have key : ∀ i : Int, i ∈ [0, 1, 2, 3, 4, 7, 8, 11, 12, 13, 14, (15 : Int)] → (R6.nd ns (R8.g (R8.s16 ns n) i)).pop ≠ 0 → ∃ x, x ∈ [0, 1, 2, 3, 4, 7, 8, 11, 12, 13, 14, (15 : Int)] ∧ decide ((R6.nd ns (R8.g (R8.s16 ns n) x)).pop ≠ 0) = true := fun i hi h => ⟨i, hi, decide_eq_true h⟩
  match k, hk, q, hq, hn, h with
  | 0, _, 0, _, _, h => exact key 0 (by simp) h
  | 0, _, 1, _, _, h => exact key 1 (by simp) h
  | 0, _, 2, _, _, h => exact key 4 (by simp) h
  | 1, _, 0, _, _, h => exact key 2 (by simp) h
  | 1, _, 1, _, _, h => exact key 3 (by simp) h
  | 1, _, 3, _, _, h => exact key 7 (by simp) h
  | 2, _, 0, _, _, h => exact key 8 (by simp) h
  | 2, _, 2, _, _, h => exact key 12 (by simp) h
  | 2, _, 3, _, _, h => exact key 13 (by simp) h
  | 3, _, 1, _, _, h => exact key 11 (by simp) h
  | 3, _, 2, _, _, h => exact key 14 (by simp) h
  | 3, _, 3, _, _, h => exact key 15 (by simp) h
  | 0, _, 3, _, hn, _ => exact absurd rfl hn
  | 1, _, 2, _, hn, _ => exact absurd rfl hn
  | 2, _, 1, _, hn, _ => exact absurd rfl hn
  | 3, _, 0, _, hn, _ => exact absurd rfl hn
theorem kd_is {room : Int} {s : LS} (h : Lk room s) {lv : Nat} {n : Int} (hn : R7.IsN s.ns (lv + 1) n) {i : Nat} (hi : i < 4) : R7.IsN s.ns lv (kd s.ns n i) := by
 obtain ⟨a, b, c, d⟩ := R7.kids4 h.wf hn
 match i, hi with
 | 0, _ => exact a
 | 1, _ => exact b
 | 2, _ => exact c
 | 3, _ => exact d
end R9
set_option maxHeartbeats 2000000 in
set_option maxRecDepth 100000 in
theorem leaper_edged {lv : Nat} {s : R9.LS} {a : Option Addr} {cap bl bx mb db : Nat} {room n : Int} {es ds : KVs} (h : R9.Lk room s) (hn : R7.IsN s.ns (lv + 2) n) :
  FnC Try.prog 72 [pt bl 0, .int .i64 n].toArray (LxA bl bx mb db a cap s.ns room es ds A) I (fun v A' I' => v = .bool (R9.edged s.ns n) ∧ LxA bl bx mb db a cap s.ns room es ds A = A' ∧ I = I') := by
 obtain ⟨hn0, hn1⟩ := hn.1
 skip
 skip
 refine fn_enter2 Try.func72 rfl Try.ntmps72 rfl fun w0 => ?_
 refine tS (tR (tA rfl rfl (tN (tT (tS (tS (tR ?_)))))))
 refine tM rfl rfl ?_
 refine tri_v (opv_nilCheck rfl) rfl ?_
 refine tri_v (opv_fieldAddr rfl rfl) rfl ?_
 refine tri_v (opv_fieldAddr rfl rfl) rfl ?_
 refine tri_v (opv_load1 rfl rfl rfl) rfl ?_
 refine tri_v (opv_nilCheck rfl) rfl ?_
 refine tri_v (opv_fieldAddr rfl rfl) rfl ?_
 refine tri_v (opv_fieldAddr rfl rfl) rfl ?_
 refine tri_v (opv_load1 rfl rfl rfl) rfl ?_
 refine tM rfl rfl ?_
 refine tri_v (opv_indexAddrR rfl rfl (by omega) (by omega)) rfl ?_
 refine tri_v (opv_fieldAddrR rfl (by omega) rfl) rfl ?_
 refine tri_v (opv_loadRXA rfl rfl (by omega) rfl rfl rfl) rfl ?_
 refine tM rfl rfl (tN (tT (tri_block ?_)))
 refine tri_sub (F' := [(0, pt bl 0), (21, .agg (ints (R6.nd s.ns n).kids).toArray), (22, .int .i64 (0 : Nat))]) ⟨rfl, rfl, rfl, trivial⟩ ?_
 refine loop_ind (G := Nat) (fun i => 4 - i) (fun i => i ≤ 4 ∧ ∀ k q : Nat, k < i → q < 4 → q + k ≠ 3 → (R6.nd s.ns (R9.kd s.ns (R9.kd s.ns n k) q)).pop = 0) (fun i => [(0, pt bl 0), (21, .agg (ints (R6.nd s.ns n).kids).toArray), (22, .int .i64 (i : Nat))]) (fun _ => _) (fun _ => _) ?_ 0 ⟨by omega, fun k q hk => absurd hk (by omega)⟩
 rintro i ⟨hi, hz⟩ K hK
 skip
 refine tS (tR ?_)
 refine tri_v (opv_lss rfl rfl) rfl ?_
 refine tN (tT (tS ?_))
 refine tri_cond_dec rfl (fun h4 => ?_) (fun h4 => ?_)
 ·have hi4 : i < 4 := by omega
  have hkid := R9.kd_is h hn hi4
  obtain ⟨hk0, hk1⟩ := hkid.1
  have ekd : (R6.nd s.ns n).kids.getD ((i : Nat) : Int).toNat default = R9.kd s.ns n i := by rw [Int.toNat_natCast]; rfl
  refine tri_skip (tT (tS (tri_block (tS (tR (tM rfl rfl ?_))))))
  refine tri_v (opv_indexIX (l := (R6.nd s.ns n).kids) (l2 := 4) rfl rfl (by omega) (by omega) rfl) rfl ?_
  rw [ekd]
  refine tA rfl rfl (tA rfl rfl (tN (tT (tS (tR (tM rfl rfl ?_))))))
  refine tri_v (opv_nilCheck rfl) rfl ?_
  refine tri_v (opv_fieldAddr rfl rfl) rfl ?_
  refine tri_v (opv_fieldAddr rfl rfl) rfl ?_
  refine tri_v (opv_load1 rfl rfl rfl) rfl ?_
  refine tri_v (opv_nilCheck rfl) rfl ?_
  refine tri_v (opv_fieldAddr rfl rfl) rfl ?_
  refine tri_v (opv_fieldAddr rfl rfl) rfl ?_
  refine tri_v (opv_load1 rfl rfl rfl) rfl ?_
  refine tM rfl rfl ?_
  refine tri_v (opv_indexAddrR rfl rfl (by omega) (by omega)) rfl ?_
  refine tri_v (opv_fieldAddrR rfl (by omega) rfl) rfl ?_
  refine tri_v (opv_loadRXA rfl rfl (by omega) rfl rfl rfl) rfl ?_
  refine tM rfl rfl (tN (tT (tri_block ?_)))
  refine tri_sub (F' := [(0, pt bl 0), (5, .int .i64 (i : Nat)), (21, .agg (ints (R6.nd s.ns n).kids).toArray), (22, .int .i64 (i : Nat)), (38, .agg (ints (R6.nd s.ns (R9.kd s.ns n i)).kids).toArray), (39, .int .i64 (0 : Nat))]) ⟨rfl, rfl, rfl, rfl, rfl, rfl, trivial⟩ ?_
  refine loop_ind (G := Nat) (fun q => 4 - q) (fun q => q ≤ 4 ∧ ∀ q' : Nat, q' < q → q' + i ≠ 3 → (R6.nd s.ns (R9.kd s.ns (R9.kd s.ns n i) q')).pop = 0) (fun q => [(0, pt bl 0), (5, .int .i64 (i : Nat)), (21, .agg (ints (R6.nd s.ns n).kids).toArray), (22, .int .i64 (i : Nat)), (38, .agg (ints (R6.nd s.ns (R9.kd s.ns n i)).kids).toArray), (39, .int .i64 (q : Nat))]) (fun _ => _) (fun _ => _) ?_ 0 ⟨by omega, fun q' hq => absurd hq (by omega)⟩
  rintro q ⟨hq, hzq⟩ K2 hK2
  skip
  refine tS (tR ?_)
  refine tri_v (opv_lss rfl rfl) rfl ?_
  refine tN (tT (tS ?_))
  refine tri_cond_dec rfl (fun h5 => ?_) (fun h5 => ?_)
  ·have hq4 : q < 4 := by omega
   have hg := R9.kd_is h hkid hq4
   obtain ⟨hg0, hg1⟩ := hg.1
   have ekd2 : (R6.nd s.ns (R9.kd s.ns n i)).kids.getD ((q : Nat) : Int).toNat default = R9.kd s.ns (R9.kd s.ns n i) q := by rw [Int.toNat_natCast]; rfl
   refine tri_skip (tT (tS (tri_block (tS (tR (tM rfl rfl ?_))))))
   refine tri_v (opv_indexIX (l := (R6.nd s.ns (R9.kd s.ns n i)).kids) (l2 := 4) rfl rfl (by omega) (by omega) rfl) rfl ?_
   rw [ekd2]
   refine tA rfl rfl (tA rfl rfl (tN (tT (tS (tR (tM rfl rfl (tM rfl rfl ?_)))))))
   refine tri_v (opv_sub rfl rfl (w64 (by omega) (by omega))) rfl ?_
   refine tri_v (opv_neq rfl rfl) rfl ?_
   refine tM rfl rfl ?_
   refine tri_split rfl rfl (fun h6 => ?_) (fun h6 => ?_)
   ·refine tri_guard_run rfl rfl rfl (tM rfl rfl (tri_guard_run rfl rfl rfl ?_))
    refine tri_v (opv_nilCheck rfl) rfl ?_
    refine tri_guard_run rfl rfl rfl ?_
    refine tri_v (opv_fieldAddr rfl rfl) rfl ?_
    refine tri_guard_run rfl rfl rfl ?_
    refine tri_v (opv_fieldAddr rfl rfl) rfl ?_
    refine tri_guard_run rfl rfl rfl ?_
    refine tri_v (opv_load1 rfl rfl rfl) rfl ?_
    refine tri_guard_run rfl rfl rfl ?_
    refine tri_v (opv_nilCheck rfl) rfl ?_
    refine tri_guard_run rfl rfl rfl ?_
    refine tri_v (opv_fieldAddr rfl rfl) rfl ?_
    refine tri_guard_run rfl rfl rfl ?_
    refine tri_v (opv_fieldAddr rfl rfl) rfl ?_
    refine tri_guard_run rfl rfl rfl ?_
    refine tri_v (opv_load1 rfl rfl rfl) rfl ?_
    refine tri_guard_run rfl rfl rfl (tM rfl rfl (tri_guard_run rfl rfl rfl ?_))
    refine tri_v (opv_indexAddrR rfl rfl (by omega) (by omega)) rfl ?_
    refine tri_guard_run rfl rfl rfl ?_
    refine tri_v (opv_fieldAddrR rfl (by omega) rfl) rfl ?_
    refine tri_guard_run rfl rfl rfl ?_
    refine tri_v (opv_loadRX1 rfl rfl (by omega) rfl rfl) rfl ?_
    refine tri_guard_run rfl rfl rfl ?_
    refine tri_v (opv_neq rfl rfl) rfl ?_
    refine tri_v (opv_pick_t rfl rfl) rfl ?_
    refine tN (tT ?_)
    refine tri_cond_dec rfl (fun h7 => ?_) (fun h7 => ?_)
    ·refine tS (tR (tA rfl rfl (tN (tT (tri_ret ?_)))))
     refine tri_inBlock_ret ?_
     refine tri_then_ret (tri_then_ret ?_)
     refine tri_inBlock_ret ?_
     refine tri_inBlock_ret ?_
     refine tri_then_ret (tri_then_ret ?_)
     refine tri_inBlock_ret ?_
     refine tri_then_ret ?_
     refine tri_end _ (⟨[], rfl⟩) rfl (.cons (rv_tmp rfl) .nil) ⟨?_, rfl, rfl⟩
     rw [(R9.edged_iff s.ns n).2 ⟨i, q, hi4, hq4, by omega, h7⟩]; rfl
    ·refine tri_skip ?_
     refine tri_inBlock ?_
     refine tT (tR ?_)
     refine tU rfl rfl (by omega) (by omega) rfl ?_
     refine tM rfl rfl (tN (tT ?_))
     refine tri_sub ?_ (hK2 (q + 1) ⟨by omega, fun q' hq' hne => ?_⟩ (by omega))
     ·exact ⟨rfl, rfl, rfl, rfl, rfl, rfl, trivial⟩
     ·by_cases e : q' = q
      ·subst e; exact Decidable.not_not.1 h7
      ·exact hzq q' (by omega) hne
   ·refine tri_guard_skip rfl rfl rfl rfl (tri_guard_skip rfl rfl rfl rfl (tri_guard_skip rfl rfl rfl rfl (tri_guard_skip rfl rfl rfl rfl (tri_guard_skip rfl rfl rfl rfl (tri_guard_skip rfl rfl rfl rfl (tri_guard_skip rfl rfl rfl rfl (tri_guard_skip rfl rfl rfl rfl ?_)))))))
    refine tri_guard_skip rfl rfl rfl rfl (tri_guard_skip rfl rfl rfl rfl (tri_guard_skip rfl rfl rfl rfl (tri_guard_skip rfl rfl rfl rfl (tri_guard_skip rfl rfl rfl rfl (tri_guard_skip rfl rfl rfl rfl ?_)))))
    refine tri_v (opv_pick_f rfl rfl) rfl ?_
    refine tN (tT ?_)
    refine tri_cond_false rfl ?_
    refine tri_skip ?_
    refine tri_inBlock ?_
    refine tT (tR ?_)
    refine tU rfl rfl (by omega) (by omega) rfl ?_
    refine tM rfl rfl (tN (tT ?_))
    refine tri_sub ?_ (hK2 (q + 1) ⟨by omega, fun q' hq' hne => ?_⟩ (by omega))
    ·exact ⟨rfl, rfl, rfl, rfl, rfl, rfl, trivial⟩
    ·by_cases e : q' = q
     ·subst e; exfalso; omega
     ·exact hzq q' (by omega) hne
  ·refine tri_exit ?_
   refine tri_then_exit ?_
   refine tri_then_exit ?_
   refine tri_inBlock_hit rfl ?_
   refine tri_inBlock ?_
   refine tT (tR ?_)
   refine tU rfl rfl (by omega) (by omega) rfl ?_
   refine tM rfl rfl (tN (tT ?_))
   refine tri_sub ?_ (hK (i + 1) ⟨by omega, fun k q' hk hq' hne => ?_⟩ (by omega))
   ·exact ⟨rfl, rfl, rfl, trivial⟩
   ·by_cases e : k = i
    ·subst e; exact hzq q' (by omega) hne
    ·exact hz k q' (by omega) hq' hne
 ·refine tri_exit ?_
  refine tri_then_exit ?_
  refine tri_then_exit ?_
  refine tri_inBlock_hit rfl ?_
  refine tT (tS (tR (tA rfl rfl (tN (tT (tri_ret ?_))))))
  refine tri_end _ (⟨[], rfl⟩) rfl (.cons (rv_tmp rfl) .nil) ⟨?_, rfl, rfl⟩
  have : R9.edged s.ns n = false := by
   cases he : R9.edged s.ns n
   ·rfl
   ·obtain ⟨k, q, hk, hq, hne, hp⟩ := (R9.edged_iff s.ns n).1 he
    exact absurd (hz k q (by omega) hq hne) hp
  rw [this]; rfl
end Go.GL

set_option linter.unusedVariables false
namespace Go.GL
open Go.Proofs
attribute [local irreducible] wpList Code.wp Exit.then Exit.inBlock Ends Tri TriH OpV OpG FnC epf wpAnyH
variable {A : List Asrt} {I : List Chunk}
set_option maxHeartbeats 2000000 in
set_option maxRecDepth 100000 in
theorem leaper_trim {k : Nat} {s : R9.LS} {a : Option Addr} {cap bl bx mb db : Nat} {room n : Int} {es ds : KVs} {r : R9.L9} (h : R9.Lk room s) (hn : R7.IsN s.ns (k + 2) n) (hix : Idx s.ns es) (hmx : MemIx s.mm ds) (hr : R9.trim room k s n = r) :
  FnC Try.prog 48 [pt bl 0, .int .i64 n].toArray (LxA bl bx mb db a cap s.ns room es ds A) I (LxR bl bx mb db r room A I) := by
 skip
 refine fn_enter2 Try.func48 rfl Try.ntmps48 rfl fun w0 => ?_
 refine tS (tR (tA rfl rfl (tA rfl rfl (tN (tT (tS (tR ?_)))))))
 refine tA rfl rfl (tN (tT (tS (tri_block ?_))))
 refine tri_sub (F' := [(0, pt bl 0), (1, .int .i64 n), (6, .int .i64 0)]) ⟨rfl, rfl, rfl, trivial⟩ ?_
 refine loop_ind (G := Nat × R9.LS × Int × Option Addr × Nat × KVs × Int) (fun g => 2 * g.1 + (if g.2.2.2.2.2.2 = 0 then 1 else 0)) (fun g => (g.2.2.2.2.2.2 = 0 → R9.Lk room g.2.1 ∧ R7.IsN g.2.1.ns (g.1 + 2) g.2.2.1 ∧ Idx g.2.1.ns g.2.2.2.2.2.1 ∧ MemIx g.2.1.mm ds ∧ R9.trim room g.1 g.2.1 g.2.2.1 = r) ∧ (g.2.2.2.2.2.2 ≠ 0 → r.2.2 = g.2.2.2.2.2.2)) (fun g => [(0, pt bl 0), (1, .int .i64 g.2.2.1), (6, .int .i64 g.2.2.2.2.2.2)]) (fun g => LxA bl bx mb db g.2.2.2.1 g.2.2.2.2.1 g.2.1.ns room g.2.2.2.2.2.1 ds A) (fun _ => I) ?_ (k, s, n, a, cap, es, 0) ⟨fun _ => ⟨h, hn, hix, hmx, hr⟩, fun e => absurd rfl e⟩
 rintro ⟨k1, s1, n1, a1, c1, es1, er⟩ ⟨ho, hne⟩ K hK
 simp only at ho hne hK ⊢
 skip
 refine tS (tS (tR (tM rfl rfl ?_)))
 refine tri_v (by first | exact opv_eql rfl rfl | exact opv_eqlI rfl rfl rfl rfl rfl rfl | exact opv_eqlB rfl rfl | exact opv_eqlNil rfl rfl) rfl ?_
 refine tM rfl rfl ?_
 refine tri_split rfl rfl (fun h1 => ?_) (fun h1 => ?_)
 ·obtain ⟨hlk, hn1, hx1, hm1, hr1⟩ := ho h1
  have hlv : (R6.nd s1.ns n1).lv = k1 + 2 := by rw [hn1.2]; omega
  refine tri_guard_run rfl rfl rfl (tM rfl rfl (tri_guard_run rfl rfl rfl (tM rfl rfl (tri_guard_run rfl rfl rfl ?_))))
  refine tri_g (opg_call (xs := [_, _]) rfl (leaper_level hn1.1)) rfl ?_
  rintro _ _ _ ⟨rfl, rfl, rfl⟩
  refine tri_guard_run rfl rfl rfl ?_
  refine tri_v (opv_gtr rfl rfl) rfl ?_
  refine tri_v (by first | exact opv_pick_t rfl rfl | exact opv_pick_f rfl rfl | exact opv_pick_bool rfl rfl rfl | exact opv_pick rfl rfl rfl) rfl ?_
  refine tM rfl rfl ?_
  refine tri_split rfl rfl (fun h2 => ?_) (fun h2 => ?_)
  ·obtain ⟨k2, rfl⟩ : ∃ k2, k1 = k2 + 1 := ⟨k1 - 1, by omega⟩
   unfold R9.trim at hr1
   refine tri_guard_run rfl rfl rfl (tM rfl rfl (tri_guard_run rfl rfl rfl (tM rfl rfl (tri_guard_run rfl rfl rfl ?_))))
   refine tri_g (opg_call (xs := [_, _]) rfl (leaper_edged (lv := k2 + 1) hlk hn1)) rfl ?_
   rintro _ _ _ ⟨rfl, rfl, rfl⟩
   refine tri_guard_run rfl rfl rfl ?_
   refine tri_v (by first | exact opv_notD rfl | exact opv_not rfl) rfl ?_
   refine tri_v (by first | exact opv_pick_t rfl rfl | exact opv_pick_f rfl rfl | exact opv_pick_bool rfl rfl rfl | exact opv_pick rfl rfl rfl) rfl ?_
   refine tN (tT ?_)
   refine tri_cond rfl (fun h3 => ?_) (fun h3 => ?_)
   ·have h3' : ¬ R9.edged s1.ns n1 = true := by simpa using h3
    rw [if_neg h3'] at hr1
    obtain ⟨R, hR⟩ : ∃ R, R9.midS room s1 n1 = R := ⟨_, rfl⟩
    rw [hR] at hr1
    have hgd := fun e => R9.midS_gd (lv := k2 + 1) hlk hn1 (by rw [hR]; exact e)
    rw [hR] at hgd
    have er1 : (R8.putSq s1.ns room (R8.s16 s1.ns n1) 1 1).1 = R.1.ns := by rw [← hR]; rfl
    have er2 : (R8.putSq s1.ns room (R8.s16 s1.ns n1) 1 1).2.1 = R.2.1 := by rw [← hR]; rfl
    have er3 : (R8.putSq s1.ns room (R8.s16 s1.ns n1) 1 1).2.2 = R.2.2 := by rw [← hR]; rfl
    have er4 : R.1.mm = s1.mm := by rw [← hR]; rfl
    refine tri_skip (tT (tri_block (tR (tM rfl rfl ?_))))
    refine tri_v (opv_nilCheck rfl) rfl ?_
    refine tri_v (by first | exact opv_fieldAddr rfl rfl | exact opv_fieldAddrE rfl (by assumption) (by omega) rfl | exact opv_fieldAddrR rfl (by omega) rfl | exact opv_fieldAddrP rfl rfl rfl) rfl ?_
    refine tri_v (by first | exact opv_load1 rfl rfl rfl | exact opv_loadA rfl rfl rfl | exact opv_loadE1 rfl (by assumption) rfl (by omega) rfl rfl | exact opv_loadEA rfl (by assumption) rfl (by omega) rfl rfl | exact opv_loadRX1 rfl rfl (by omega) rfl rfl | exact opv_loadRXA rfl rfl (by omega) rfl rfl rfl | exact opv_loadIX rfl rfl (by omega) | exact opv_loadR1 rfl rfl rfl | exact opv_loadRA rfl rfl rfl rfl) rfl ?_
    refine tM rfl rfl ?_
    refine tri_g (opg_call (xs := [_, _]) rfl (maker_centre hlk.good hlk.len2 hx1 (hlk.kid hn1))) rfl ?_
    rintro _ _ _ ⟨a3, c3, es3, rfl, rfl, hi3, rfl⟩
    rw [er1] at hi3
    rw [er1, er2, er3]
    refine tM rfl rfl ?_
    refine tri_v (opv_extract rfl rfl) rfl ?_
    refine tri_v (opv_extract rfl rfl) rfl ?_
    refine tA rfl rfl (tA rfl rfl (tN ?_))
    refine tri_inBlock ?_
    refine tT ?_
    refine tri_sub ?_ (hK (k2, R.1, R.2.1, a3, c3, es3, R.2.2) ⟨fun e => ?_, fun e => ?_⟩ (by simp only; rw [if_pos h1]; split <;> omega))
    ·exact ⟨rfl, rfl, rfl, trivial⟩
    ·simp only at e
     rw [if_neg (by simpa using e)] at hr1
     exact ⟨(hgd e).lk, (hgd e).is, hi3, by rw [er4]; exact hm1, hr1⟩
    ·simp only at e
     rw [if_pos e] at hr1
     rw [← hr1]
   ·have h3' : R9.edged s1.ns n1 = true := by simpa using h3
    rw [if_pos h3'] at hr1
    subst hr1
    refine tri_exit ?_
    refine tri_then_exit ?_
    refine tri_then_exit ?_
    refine tri_inBlock_hit rfl ?_
    refine tT (tS (tR (tM rfl rfl (tM rfl rfl (tA rfl rfl (tA rfl rfl (tN ?_)))))))
    refine tT (tri_ret ?_)
    refine tri_end _ (by first | exact ⟨[], rfl⟩ | exact ⟨[_], rfl⟩ | exact ⟨[_, _], rfl⟩ | exact ⟨[_, _, _], rfl⟩ | exact ⟨[_, _, _, _], rfl⟩ | exact ⟨[_, _, _, _, _], rfl⟩ | exact ⟨[_, _, _, _, _, _], rfl⟩ | exact ⟨[_, _, _, _, _, _, _], rfl⟩ | exact ⟨[_, _, _, _, _, _, _, _], rfl⟩) rfl (.cons (rv_tmp rfl) (.cons (rv_tmp rfl) .nil)) ⟨a1, c1, es1, ds, s1.ns, n1, by rw [h1]; rfl, rfl, fun _ => ⟨rfl, rfl, hx1, hm1⟩, rfl⟩
  ·have hk0 : k1 = 0 := by omega
   subst hk0
   unfold R9.trim at hr1
   subst hr1
   refine tri_guard_skip rfl rfl rfl rfl (tri_guard_skip rfl rfl rfl rfl (tri_guard_skip rfl rfl rfl rfl (tri_guard_skip rfl rfl rfl rfl ?_)))
   refine tri_v (by first | exact opv_pick_t rfl rfl | exact opv_pick_f rfl rfl | exact opv_pick_bool rfl rfl rfl | exact opv_pick rfl rfl rfl) rfl ?_
   refine tN (tT ?_)
   refine tri_cond_false rfl ?_
   refine tri_exit ?_
   refine tri_then_exit ?_
   refine tri_then_exit ?_
   refine tri_inBlock_hit rfl ?_
   refine tT (tS (tR (tM rfl rfl (tM rfl rfl (tA rfl rfl (tA rfl rfl (tN ?_)))))))
   refine tT (tri_ret ?_)
   refine tri_end _ (by first | exact ⟨[], rfl⟩ | exact ⟨[_], rfl⟩ | exact ⟨[_, _], rfl⟩ | exact ⟨[_, _, _], rfl⟩ | exact ⟨[_, _, _, _], rfl⟩ | exact ⟨[_, _, _, _, _], rfl⟩ | exact ⟨[_, _, _, _, _, _], rfl⟩ | exact ⟨[_, _, _, _, _, _, _], rfl⟩ | exact ⟨[_, _, _, _, _, _, _, _], rfl⟩) rfl (.cons (rv_tmp rfl) (.cons (rv_tmp rfl) .nil)) ⟨a1, c1, es1, ds, s1.ns, n1, by rw [h1]; rfl, rfl, fun _ => ⟨rfl, rfl, hx1, hm1⟩, rfl⟩
 ·refine tri_guard_skip rfl rfl rfl rfl (tri_guard_skip rfl rfl rfl rfl (tri_guard_skip rfl rfl rfl rfl (tri_guard_skip rfl rfl rfl rfl ?_)))
  refine tri_v (by first | exact opv_pick_t rfl rfl | exact opv_pick_f rfl rfl | exact opv_pick_bool rfl rfl rfl | exact opv_pick rfl rfl rfl) rfl ?_
  refine tM rfl rfl (tri_guard_skip rfl rfl rfl rfl (tri_guard_skip rfl rfl rfl rfl (tri_guard_skip rfl rfl rfl rfl (tri_guard_skip rfl rfl rfl rfl ?_))))
  refine tri_v (by first | exact opv_pick_t rfl rfl | exact opv_pick_f rfl rfl | exact opv_pick_bool rfl rfl rfl | exact opv_pick rfl rfl rfl) rfl ?_
  refine tN (tT ?_)
  refine tri_cond_false rfl ?_
  refine tri_exit ?_
  refine tri_then_exit ?_
  refine tri_then_exit ?_
  refine tri_inBlock_hit rfl ?_
  refine tT (tS (tR (tM rfl rfl (tM rfl rfl (tA rfl rfl (tA rfl rfl (tN ?_)))))))
  refine tT (tri_ret ?_)
  refine tri_end _ (by first | exact ⟨[], rfl⟩ | exact ⟨[_], rfl⟩ | exact ⟨[_, _], rfl⟩ | exact ⟨[_, _, _], rfl⟩ | exact ⟨[_, _, _, _], rfl⟩ | exact ⟨[_, _, _, _, _], rfl⟩ | exact ⟨[_, _, _, _, _, _], rfl⟩ | exact ⟨[_, _, _, _, _, _, _], rfl⟩ | exact ⟨[_, _, _, _, _, _, _, _], rfl⟩) rfl (.cons (rv_tmp rfl) (.cons (rv_tmp rfl) .nil)) ⟨a1, c1, es1, ds, s1.ns, n1, by rw [hne h1]; rfl, rfl, fun e => absurd ((hne h1).symm.trans e) h1, rfl⟩
end Go.GL

set_option linter.unusedVariables false
namespace Go.GL
open Go.Proofs
attribute [local irreducible] wpList Code.wp Exit.then Exit.inBlock Ends Tri TriH OpV OpG FnC epf wpAnyH
variable {A : List Asrt} {I : List Chunk}
theorem bigK_set (d v : Int) {i : Nat} (hi : i < 4) : ([d, d, d, d] : List Int).set (0 + (3 - ((i : Nat) : Int)).toNat * 1) v = [R9.bigK d i v 0, R9.bigK d i v 1, R9.bigK d i v 2, R9.bigK d i v 3] := by
 match i, hi with
 | 0, _ => rfl
 | 1, _ => rfl
 | 2, _ => rfl
 | 3, _ => rfl
set_option maxHeartbeats 2000000 in
set_option maxRecDepth 100000 in
theorem leaper_grow {k : Nat} {s : R9.LS} {a : Option Addr} {cap bl bx mb db : Nat} {room n : Int} {es ds : KVs} {r : R9.L9} (h : R9.Lk room s) (hn : R7.IsN s.ns (k + 2) n) (hix : Idx s.ns es) (hmx : MemIx s.mm ds) (hr : R9.grow room s n = r) :
  FnC Try.prog 94 [pt bl 0, .int .i64 n].toArray (LxA bl bx mb db a cap s.ns room es ds A) I (LxR bl bx mb db r room A I) := by
 have hlv : (R6.nd s.ns n).lv = (k + 2 : Nat) := by rw [hn.2]
 have hlvb := (h.wf.lvb hn.1).2
 rw [R9.grow_eq, show ((R6.nd s.ns n).lv - 1).toNat = k + 1 by omega] at hr
 skip
 skip
 skip
 refine fn_enter2 Try.func94 rfl Try.ntmps94 rfl fun w0 => ?_
 refine tS (tR (tA rfl rfl (tA rfl rfl (tN (tT (tS (tS ?_)))))))
 refine tR (tM rfl rfl (tM rfl rfl ?_))
 refine tri_g (opg_call (xs := [_, _]) rfl (leaper_level hn.1)) rfl ?_
 rintro _ _ _ ⟨rfl, rfl, rfl⟩
 refine tri_v (opv_geq rfl rfl) rfl ?_
 refine tN (tT ?_)
 refine tri_cond_dec rfl (fun h1 => ?_) (fun h1 => ?_)
 ·rw [if_pos h1] at hr
  subst hr
  refine tS (tR (tA rfl rfl (tA rfl rfl (tN (tT (tri_ret (tri_then_ret ?_)))))))
  refine tri_end _ (⟨[], rfl⟩) rfl (.cons (rv_tmp rfl) (.cons (rv_tmp rfl) .nil)) ⟨a, cap, es, ds, s.ns, 0, rfl, rfl, fun e => absurd e (show ¬ (2 : Int) = 0 by decide), rfl⟩
 skip
 rw [if_neg h1] at hr
 obtain ⟨D, hD⟩ : ∃ D, R7.empty s.ns room (k + 1) = D := ⟨_, rfl⟩
 rw [hD] at hr
 have hDg := fun e : D.2.2 = 0 => R9.empty_gd (lv := k + 1) h.right (by rw [hD]; exact e)
 rw [hD] at hDg
 skip
 refine tri_skip (tT (tS ?_))
 refine tri_draw [0, 1, 2, 3, 4, 5, 6, 7, 8, 9, 10, 11, 12, 13, 14] rfl [_, _, _] rfl mixed ?_
 refine th_take rfl rfl (by kernel_rfl)  (opv_move rfl) ?_
 refine th_take rfl rfl (by kernel_rfl)  (opv_nilCheck rfl) ?_
 refine th_take rfl rfl (by kernel_rfl)  (opv_fieldAddr rfl rfl) ?_
 refine th_take rfl rfl (by kernel_rfl)  (opv_fieldAddr rfl rfl) ?_
 refine th_take rfl rfl (by kernel_rfl)  (opv_load1 rfl rfl rfl) ?_
 refine th_take rfl rfl (by kernel_rfl)  (opv_move rfl) ?_
 refine th_take rfl rfl (by kernel_rfl)  (opv_move rfl) ?_
 refine th_one (by kernel_rfl) (step_m rfl rfl (opg_call (xs := [_, _]) rfl (leaper_level hn.1)) ?_)
 rintro _ _ _ ⟨rfl, rfl, rfl⟩
 refine ⟨Suf.h, (fun _ h => h), ?_⟩
 rw [hlv]
 refine th_take rfl rfl (by kernel_rfl)  (opv_sub rfl rfl (w64 (by omega) (by omega))) ?_
 rw [show ((k + 2 : Nat) : Int) - 1 = ((k + 1 : Nat) : Int) by omega]
 refine th_one (by kernel_rfl) (step_m rfl rfl (opg_call (xs := [_, _]) rfl (index_empty (lv := k + 1) (by omega) h.good h.len2 hix)) ?_)
 rintro _ _ _ ⟨a1, c1, es1, rfl, rfl, hi1, rfl⟩
 refine ⟨Suf.h, (fun _ h => h), ?_⟩
 rw [hD] at hi1
 rw [hD]
 refine th_take rfl rfl (by kernel_rfl)  (opv_move rfl) ?_
 refine th_take rfl rfl (by kernel_rfl)  (opv_extract rfl rfl) ?_
 refine th_take rfl rfl (by kernel_rfl)  (opv_extract rfl rfl) ?_
 refine th_take rfl rfl (by kernel_rfl)  (opv_assign rfl) ?_
 refine th_take rfl rfl (by kernel_rfl)  (opv_assign rfl) ?_
 refine th_done (by kernel_rfl) ?_
 refine tT (tS (tS (tR (tM rfl rfl ?_))))
 refine tri_v (opv_neq rfl rfl) rfl ?_
 refine tN (tT ?_)
 refine tri_cond_dec rfl (fun h2 => ?_) (fun h2 => ?_)
 ·rw [if_pos h2] at hr
  subst hr
  refine tS (tR (tM rfl rfl (tA rfl rfl (tA rfl rfl (tN (tT (tri_ret ?_)))))))
  refine tri_then_ret ?_
  refine tri_end _ (⟨[], rfl⟩) rfl (.cons (rv_tmp rfl) (.cons (rv_tmp rfl) .nil)) ⟨a1, c1, es1, ds, D.1, 0, rfl, rfl, fun e => absurd e h2, rfl⟩
 skip
 have h2' : D.2.2 = 0 := Decidable.not_not.1 h2
 rw [if_neg h2] at hr
 obtain ⟨dr, dp, di⟩ := hDg h2'
 have hnp : R6.nd D.1 n = R6.nd s.ns n := R6.nd_pre dp hn.1
 have lk1 : R9.Lk room (⟨D.1, s.mm⟩ : R9.LS) := ⟨dr, h.mem.pre dp⟩
 have hkid : ∀ q : Nat, q < 4 → R7.IsN D.1 (k + 1) ((R6.nd s.ns n).kids.getD q default) := fun q hq => (R9.kids_getD h.wf hn hq).pre dp
 obtain ⟨hn0, hn1⟩ := hn.1
 have hn2 : n < (D.1.length : Int) := by have := dp.length_le; omega
 obtain ⟨R2, hR2⟩ : ∃ R2, R9.mapS (R9.growF room D.2.1 (R6.nd s.ns n).kids) ⟨D.1, s.mm⟩ R9.k4 = R2 := ⟨_, rfl⟩
 rw [hR2] at hr
 rw [← hnp] at hkid hR2
 obtain ⟨ks, hks⟩ : ∃ ks, (R6.nd D.1 n).kids = ks := ⟨_, rfl⟩
 have hkl : (4 : Nat) = ks.length := by rw [← hks]; rfl
 rw [hks] at hkid hR2
 refine tri_skip (tT (tS (tR ?_)))
 refine tri_g opg_alloc rfl ?_
 rintro _ _ _ ⟨b8, rfl, rfl, rfl⟩
 refine tN (tT (tS (tS (tR (tM rfl rfl ?_)))))
 refine tri_v (opv_nilCheck rfl) rfl ?_
 refine tri_v (opv_fieldAddr rfl rfl) rfl ?_
 refine tri_v (opv_fieldAddr rfl rfl) rfl ?_
 refine tri_v (opv_load1 rfl rfl rfl) rfl ?_
 refine tri_v (opv_nilCheck rfl) rfl ?_
 refine tri_v (opv_fieldAddr rfl rfl) rfl ?_
 refine tri_v (opv_fieldAddr rfl rfl) rfl ?_
 refine tri_v (opv_load1 rfl rfl rfl) rfl ?_
 refine tM rfl rfl ?_
 refine tri_v (opv_indexAddrR rfl rfl (by omega) (by omega)) rfl ?_
 refine tri_v (opv_fieldAddrR rfl (by omega) rfl) rfl ?_
 refine tri_v (opv_loadRXA rfl rfl (by omega) rfl rfl rfl) rfl ?_
 refine tM rfl rfl (tN (tT (tri_block ?_)))
 refine tri_perm (A := ?a1_0 :: ?a1_1 :: ?a1_2 :: ?a1_3 :: ?a1_4 :: ?a1_5 :: ?T1) (B := ?a1_1 :: ?a1_2 :: ?a1_3 :: ?a1_0 :: ?a1_4 :: ?a1_5 :: ?T1) (by exact permL [1, 2, 3, 0, 4, 5] [?a1_0, ?a1_1, ?a1_2, ?a1_3, ?a1_4, ?a1_5] ?T1 (by decide) rfl) ?_
 refine tri_sub (F' := [(0, pt bl 0), (6, .int .i64 D.2.1), (8, pt b8 0), (44, .agg (ints (R6.nd D.1 n).kids).toArray), (45, .int .i64 (0 : Nat))]) ⟨rfl, rfl, rfl, rfl, rfl, trivial⟩ ?_
 rw [hks]
 refine loop_ind (G := Nat × R9.LS × List Int × Option Addr × Nat × KVs) (fun g => 4 - g.1) (fun g => g.1 ≤ 4 ∧ g.2.2.1.length = g.1 ∧ R2 = ((R9.mapS (R9.growF room D.2.1 ks) g.2.1 (R9.k4.drop g.1)).1, g.2.2.1 ++ (R9.mapS (R9.growF room D.2.1 ks) g.2.1 (R9.k4.drop g.1)).2.1, (R9.mapS (R9.growF room D.2.1 ks) g.2.1 (R9.k4.drop g.1)).2.2) ∧ R9.Lk room g.2.1 ∧ D.1 <+: g.2.1.ns ∧ Idx g.2.1.ns g.2.2.2.2.2 ∧ g.2.1.mm = s.mm) (fun g => [(0, pt bl 0), (6, .int .i64 D.2.1), (8, pt b8 0), (44, .agg (ints ks).toArray), (45, .int .i64 (g.1 : Nat))]) (fun g => IxA bx mb g.2.2.2.1 g.2.2.2.2.1 g.2.1.ns room g.2.2.2.2.2 (Box b8 (ints (midL g.2.2.1 [0, 0, 0, 0])) 33 :: Box bl [pt bx 0, .map (some db)] 96 :: MapA Try.prog 102 db ds :: A)) (fun _ => I) ?_ (0, ⟨D.1, s.mm⟩, [], a1, c1, es1) ⟨by omega, rfl, hR2.symm, lk1, List.prefix_refl _, hi1, rfl⟩
 rintro ⟨i, t, res, a2, c2, es2⟩ ⟨hi, hlen, hrr, hlk, hpre, hix2, hmm⟩ K hK
 simp only at hi hlen hrr hlk hpre hix2 hmm hK ⊢
 have hml := midL_len (res := res) (qs := [0, 0, 0, 0]) (by simp only [List.length_cons, List.length_nil]; omega)
 simp only [List.length_cons, List.length_nil] at hml
 skip
 refine tS (tR ?_)
 refine tri_v (opv_lss rfl rfl) rfl ?_
 refine tN (tT (tS ?_))
 refine tri_cond_dec rfl (fun h4 => ?_) (fun h4 => ?_)
 ·have hi4 : i < 4 := by omega
  have ek : ks.getD ((i : Nat) : Int).toNat default = ks.getD i default := by rw [Int.toNat_natCast]
  have ekk : R9.k4.getD i default = (i : Int) := by
   rcases (by omega : i = 0 ∨ i = 1 ∨ i = 2 ∨ i = 3) with rfl | rfl | rfl | rfl <;> rfl
  have eset : ∀ v, (midL res [0, 0, 0, 0]).set (0 + ((i : Nat) : Int).toNat * 1) v = midL (res ++ [v]) [0, 0, 0, 0] := fun v => by
   rw [show 0 + ((i : Nat) : Int).toNat * 1 = i by omega, ← hlen]
   exact midL_set (res := res) (qs := [0, 0, 0, 0]) (by simp only [List.length_cons, List.length_nil]; omega) v
  obtain ⟨R, hR⟩ : ∃ R, R9.growF room D.2.1 ks t (R9.k4.getD i default) = R := ⟨_, rfl⟩
  have hnx := mapS_next (R := R) hlen (by show i < 4; omega) hrr hR
  rw [ekk] at hR
  have hgd := fun e : R.2.2 = 0 => R9.growF_gd (lv := k + 1) (k := (i : Int)) hlk ⟨di.pre hpre, by rw [ek]; exact (hkid i hi4).pre hpre⟩ (by rw [hR]; exact e)
  rw [hR] at hgd
  have er1 : R6.put t.ns room (R9.bigK D.2.1 i (ks.getD i default) 0) (R9.bigK D.2.1 i (ks.getD i default) 1) (R9.bigK D.2.1 i (ks.getD i default) 2) (R9.bigK D.2.1 i (ks.getD i default) 3) = (R.1.ns, R.2.1, R.2.2) := by rw [← hR]; rfl
  have er4 : R.1.mm = t.mm := by rw [← hR]; rfl
  have hdl := di.1
  refine tri_skip (tT (tS (tri_block (tS (tR (tM rfl rfl ?_))))))
  refine tri_v (opv_indexIX (l := ks) (l2 := 4) rfl rfl (by omega) (by omega) hkl) rfl ?_
  rw [ek]
  refine tA rfl rfl (tA rfl rfl (tN (tT (tS (tR (tM rfl rfl (tM rfl rfl ?_)))))))
  refine tM rfl rfl (tM rfl rfl ?_)
  refine tri_v (opv_buildA rfl rfl) rfl ?_
  refine tri_g opg_alloc rfl ?_
  rintro _ _ _ ⟨b11, rfl, rfl, rfl⟩
  refine tri_g (opg_store rfl rfl rfl rfl rfl rfl) rfl ?_
  rintro _ _ _ ⟨rfl, rfl⟩
  refine tN (tT (tS ?_))
  rw [show ([.int .i64 D.2.1, .int .i64 D.2.1, .int .i64 D.2.1, .int .i64 D.2.1] : List Value) = ints [D.2.1, D.2.1, D.2.1, D.2.1] from rfl]
  refine tR (tM rfl rfl ?_)
  refine tri_v (opv_sub rfl rfl (w64 (by omega) (by omega))) rfl ?_
  refine tM rfl rfl ?_
  refine tri_v (opv_indexAddrA rfl rfl (by omega) (by omega)) rfl ?_
  refine tri_g (opg_storeIX rfl rfl (by simp only [List.length_cons, List.length_nil]; omega)) rfl ?_
  rintro _ _ _ ⟨rfl, rfl⟩
  rw [bigK_set _ _ hi4]
  refine tN (tT (tS ?_))
  refine tri_perm (A := ?a2_0 :: ?a2_1 :: ?a2_2 :: ?a2_3 :: ?a2_4 :: ?a2_5 :: ?a2_6 :: ?T2) (B := ?a2_1 :: ?a2_2 :: ?a2_3 :: ?a2_4 :: ?a2_0 :: ?a2_5 :: ?a2_6 :: ?T2) (by exact permL [1, 2, 3, 4, 0, 5, 6] [?a2_0, ?a2_1, ?a2_2, ?a2_3, ?a2_4, ?a2_5, ?a2_6] ?T2 (by decide) rfl) ?_
  skip
  refine tri_draw [0, 1, 2, 3, 4, 5, 6, 7, 8, 9, 10, 11, 12, 13] rfl [_, _, _, _] rfl mixed ?_
  refine th_take rfl rfl (by kernel_rfl)  (opv_move rfl) ?_
  refine th_take rfl rfl (by kernel_rfl)  (opv_move rfl) ?_
  refine th_take rfl rfl (by kernel_rfl)  (opv_nilCheck rfl) ?_
  refine th_take rfl rfl (by kernel_rfl)  (opv_fieldAddr rfl rfl) ?_
  refine th_take rfl rfl (by kernel_rfl)  (opv_fieldAddr rfl rfl) ?_
  refine th_take rfl rfl (by kernel_rfl)  (opv_load1 rfl rfl rfl) ?_
  refine th_take rfl rfl (by kernel_rfl)  (opv_loadA rfl rfl rfl) ?_
  refine th_one (by kernel_rfl) (step_m rfl rfl (opg_call (xs := [_, _]) rfl (node_putR (r := (R.1.ns, R.2.1, R.2.2)) hlk.good hlk.len2 hix2 er1)) ?_)
  rintro _ _ _ ⟨a3, c3, es3, rfl, rfl, hi3, rfl⟩
  refine ⟨Suf.h, (fun _ h => h), ?_⟩
  refine th_take rfl rfl (by kernel_rfl)  (opv_move rfl) ?_
  refine th_take rfl rfl (by kernel_rfl)  (opv_extract rfl rfl) ?_
  refine th_take rfl rfl (by kernel_rfl)  (opv_extract rfl rfl) ?_
  refine th_take rfl rfl (by kernel_rfl)  (opv_indexAddrA rfl rfl (by omega) (by omega)) ?_
  refine th_one (by kernel_rfl) (step_m rfl rfl (opg_storeIX rfl rfl (by omega)) ?_)
  rintro _ _ _ ⟨rfl, rfl⟩
  refine ⟨Suf.h, (fun _ h => h), ?_⟩
  rw [eset]
  refine th_take rfl rfl (by kernel_rfl)  (opv_assign rfl) ?_
  refine th_done (by kernel_rfl) ?_
  refine tT (tS (tR (tM rfl rfl ?_)))
  refine tri_v (opv_neq rfl rfl) rfl ?_
  refine tN (tT ?_)
  refine tri_cond_dec rfl (fun x2 => ?_) (fun x2 => ?_)
  ·have e2 := hnx.2 x2
   rw [R9.bindM_err (by rw [e2]; exact x2), e2] at hr
   subst hr
   refine tS (tR (tM rfl rfl (tA rfl rfl (tA rfl rfl (tN (tT (tri_ret ?_)))))))
   refine tri_inBlock_ret ?_
   refine tri_then_ret (tri_then_ret ?_)
   refine tri_inBlock_ret ?_
   refine tri_then_ret ?_
   refine tri_perm (A := ?a3_0 :: ?a3_1 :: ?a3_2 :: ?a3_3 :: ?a3_4 :: ?a3_5 :: ?a3_6 :: ?T3) (B := ?a3_3 :: ?a3_4 :: ?a3_0 :: ?a3_1 :: ?a3_2 :: ?a3_5 :: ?a3_6 :: ?T3) (by exact permL [3, 4, 0, 1, 2, 5, 6] [?a3_0, ?a3_1, ?a3_2, ?a3_3, ?a3_4, ?a3_5, ?a3_6] ?T3 (by decide) rfl) ?_
   refine tri_end _ (⟨[_, _], rfl⟩) rfl (.cons (rv_tmp rfl) (.cons (rv_tmp rfl) .nil)) ⟨a3, c3, es3, ds, R.1.ns, 0, rfl, rfl, fun e => absurd e x2, rfl⟩
  ·have x2' : R.2.2 = 0 := Decidable.not_not.1 x2
   refine tri_skip ?_
   refine tri_inBlock ?_
   refine tT (tR ?_)
   refine tU rfl rfl (by omega) (by omega) rfl ?_
   refine tM rfl rfl (tN (tT ?_))
   refine tri_perm (A := ?a4_0 :: ?a4_1 :: ?a4_2 :: ?a4_3 :: ?a4_4 :: ?a4_5 :: ?a4_6 :: ?T4) (B := ?a4_4 :: ?a4_0 :: ?a4_1 :: ?a4_2 :: ?a4_3 :: ?a4_5 :: ?a4_6 :: ?T4) (by exact permL [4, 0, 1, 2, 3, 5, 6] [?a4_0, ?a4_1, ?a4_2, ?a4_3, ?a4_4, ?a4_5, ?a4_6] ?T4 (by decide) rfl) ?_
   refine tri_drop ?_
   refine tri_sub ?_ (hK (i + 1, R.1, res ++ [R.2.1], a3, c3, es3) ⟨by simp only; omega, (hnx.1 x2').1, (hnx.1 x2').2, (hgd x2').lk, hpre.trans (hgd x2').pre, hi3, by rw [er4, hmm]⟩ (by simp only; omega))
   exact ⟨rfl, rfl, rfl, rfl, rfl, trivial⟩
 ·have hi4 : i = 4 := by omega
  subst hi4
  have hR2' : R2 = (t, res, 0) := by rw [hrr]; simp [R9.k4, R9.mapS]
  rw [hR2', R9.bindM_ok rfl] at hr
  simp only at hr
  obtain ⟨p0, p1, p2, p3, hp⟩ := four_len hlen
  rw [midL_done (by rw [hlen]; rfl), hp]
  rw [hp] at hr
  have er1 : R6.put t.ns room p0 p1 p2 p3 = (r.1.ns, r.2.1, r.2.2) := by rw [← hr]; rfl
  have er4 : r.1.mm = t.mm := by rw [← hr]; rfl
  refine tri_exit ?_
  refine tri_then_exit ?_
  refine tri_then_exit ?_
  refine tri_inBlock_hit rfl ?_
  refine tT (tS ?_)
  skip
  refine tri_draw [0, 1, 2, 3, 4, 5, 6, 7, 8, 9, 10] rfl [_, _, _] rfl mixed ?_
  refine th_take rfl rfl (by kernel_rfl)  (opv_move rfl) ?_
  refine th_take rfl rfl (by kernel_rfl)  (opv_nilCheck rfl) ?_
  refine th_take rfl rfl (by kernel_rfl)  (opv_fieldAddr rfl rfl) ?_
  refine th_take rfl rfl (by kernel_rfl)  (opv_fieldAddr rfl rfl) ?_
  refine th_take rfl rfl (by kernel_rfl)  (opv_load1 rfl rfl rfl) ?_
  refine th_take rfl rfl (by kernel_rfl)  (opv_loadA rfl rfl rfl) ?_
  refine th_one (by kernel_rfl) (step_m rfl rfl (opg_call (xs := [_, _]) rfl (node_putR (r := (r.1.ns, r.2.1, r.2.2)) hlk.good hlk.len2 hix2 er1)) ?_)
  rintro _ _ _ ⟨a4, c4, es4, rfl, rfl, hi4', rfl⟩
  refine ⟨Suf.h, (fun _ h => h), ?_⟩
  refine th_take rfl rfl (by kernel_rfl)  (opv_extract rfl rfl) ?_
  refine th_take rfl rfl (by kernel_rfl)  (opv_extract rfl rfl) ?_
  refine th_take rfl rfl (by kernel_rfl)  (opv_assign rfl) ?_
  refine th_take rfl rfl (by kernel_rfl)  (opv_assign rfl) ?_
  refine th_done (by kernel_rfl) ?_
  refine tT (tri_ret ?_)
  refine tri_perm (A := ?a5_0 :: ?a5_1 :: ?a5_2 :: ?a5_3 :: ?a5_4 :: ?a5_5 :: ?T5) (B := ?a5_3 :: ?a5_0 :: ?a5_1 :: ?a5_2 :: ?a5_4 :: ?a5_5 :: ?T5) (by exact permL [3, 0, 1, 2, 4, 5] [?a5_0, ?a5_1, ?a5_2, ?a5_3, ?a5_4, ?a5_5] ?T5 (by decide) rfl) ?_
  refine tri_end _ (⟨[_], rfl⟩) rfl (.cons (rv_tmp rfl) (.cons (rv_tmp rfl) .nil)) ⟨a4, c4, es4, ds, r.1.ns, r.2.1, rfl, rfl, fun _ => ⟨rfl, rfl, hi4', by rw [er4, hmm]; exact hmx⟩, rfl⟩
end Go.GL

set_option linter.unusedVariables false
namespace Go.GL
open Go.Proofs
attribute [local irreducible] wpList Code.wp Exit.then Exit.inBlock Ends Tri TriH OpV OpG FnC epf wpAnyH
variable {A : List Asrt} {I : List Chunk}
set_option maxHeartbeats 2000000 in
set_option maxRecDepth 100000 in
theorem leaper_power {k : Nat} {s : R9.LS} {a : Option Addr} {cap bl bx mb db : Nat} {room n j : Int} {es ds : KVs} {r : R9.L9} (h : R9.Lk room s) (hn : R7.IsN s.ns (k + 2) n) (hix : Idx s.ns es) (hmx : MemIx s.mm ds) (hj : 0 ≤ j ∧ j ≤ 1000) (hr : R9.power room s n j = r) :
  FnC Try.prog 77 [pt bl 0, .int .i64 n, .int .i64 j].toArray (LxA bl bx mb db a cap s.ns room es ds A) I (LxR bl bx mb db r room A I) := by
 obtain ⟨r1, hr1⟩ : ∃ r1, R9.trimS room s n = r1 := ⟨_, rfl⟩
 obtain ⟨r0, hr0⟩ : ∃ r0, R9.bindS r1 (R9.more room j 0) = r0 := ⟨_, rfl⟩
 rw [R9.power_eq, hr1, hr0] at hr
 have hge := fun e : r1.2.2 = 0 => R9.trimS_ge h hn (by rw [hr1]; exact e)
 rw [hr1] at hge
 unfold R9.trimS at hr1
 rw [R9.lvS_is hn] at hr1
 skip
 refine fn_enter3 Try.func77 rfl Try.ntmps77 rfl fun w0 => ?_
 refine tS (tR (tA rfl rfl (tA rfl rfl (tN (tT (tS (tR ?_)))))))
 refine tM rfl rfl (tM rfl rfl ?_)
 refine tri_g (opg_call (xs := [_, _]) rfl (leaper_trim h hn hix hmx hr1)) rfl ?_
 rintro _ _ _ ⟨a1, c1, es1, ds1, ns1, m1, rfl, rfl, h1, rfl⟩
 refine tM rfl rfl ?_
 refine tri_v (opv_extract rfl rfl) rfl ?_
 refine tri_v (opv_extract rfl rfl) rfl ?_
 refine tA rfl rfl (tA rfl rfl (tN (tT (tS (tS (tR (tA rfl rfl ?_)))))))
 refine tN (tT (tri_block ?_))
 refine tri_sub (F' := [(0, pt bl 0), (1, .int .i64 m1), (2, .int .i64 j), (8, .int .i64 r1.2.2), (9, .int .i64 (0 : Nat))]) ⟨rfl, rfl, rfl, rfl, rfl, trivial⟩ ?_
 refine loop_ind (G := Nat × R9.LS × Int × Option Addr × Nat × KVs × KVs × List Node × Int) (fun g => 100 - g.1) (fun g => (g.2.2.2.2.2.2.2.2 = 0 → g.2.2.2.2.2.2.2.1 = g.2.1.ns ∧ R9.Lk room g.2.1 ∧ (∃ k : Nat, g.1 ≤ k ∧ k ≤ 40 ∧ R7.IsN g.2.1.ns (k + 2) g.2.2.1) ∧ Idx g.2.1.ns g.2.2.2.2.2.1 ∧ MemIx g.2.1.mm g.2.2.2.2.2.2.1 ∧ r0 = R9.more room j g.1 g.2.1 g.2.2.1) ∧ (g.2.2.2.2.2.2.2.2 ≠ 0 → r0.2.2 = g.2.2.2.2.2.2.2.2) ∧ g.1 ≤ 41) (fun g => [(0, pt bl 0), (1, .int .i64 g.2.2.1), (2, .int .i64 j), (8, .int .i64 g.2.2.2.2.2.2.2.2), (9, .int .i64 (g.1 : Nat))]) (fun g => LxA bl bx mb db g.2.2.2.1 g.2.2.2.2.1 g.2.2.2.2.2.2.2.1 room g.2.2.2.2.2.1 g.2.2.2.2.2.2.1 A) (fun _ => I) ?_ (0, r1.1, m1, a1, c1, es1, ds1, ns1, r1.2.2) ⟨fun e => ?_, fun e => ?_, by simp only; omega⟩
 ·rintro ⟨i, s1, n1, a1, c1, es1, ds1, ns1, er⟩ ⟨ho, hne, hi41⟩ K hK
  simp only at ho hne hK hi41 ⊢
  skip
  refine tS (tS (tR (tM rfl rfl ?_)))
  refine tri_v (opv_eql rfl rfl) rfl ?_
  refine tM rfl rfl ?_
  refine tri_split rfl rfl (fun h1 => ?_) (fun h1 => ?_)
  ·obtain ⟨rfl, hlk, ⟨k1, hik, hk40, hn1⟩, hx1, hm1, hr1⟩ := ho h1
   have hlv : (R6.nd s1.ns n1).lv = k1 + 2 := by rw [hn1.2]; omega
   have go : ∀ R : R9.L9, R9.grow room s1 n1 = R → (i < 2 ∨ (R6.nd s1.ns n1).lv < j + 3) → (R.2.2 = 0 → R9.Lk room R.1 ∧ (∃ k : Nat, i + 1 ≤ k ∧ k ≤ 40 ∧ R7.IsN R.1.ns (k + 2) R.2.1) ∧ r0 = R9.more room j (i + 1) R.1 R.2.1) ∧ (R.2.2 ≠ 0 → r0.2.2 = R.2.2) := by
    intro R hR hc
    have e := hr1
    rw [R9.more_step (by omega) hc, hR] at e
    refine ⟨fun e2 => ?_, fun e2 => by rw [e, R9.bindS_err e2]⟩
    have g := R9.grow_gd hlk hn1 (by rw [hR]; exact e2)
    rw [hR] at g
    have hb := (g.lk.wf.lvb g.is.1).2
    rw [g.is.2] at hb
    exact ⟨g.lk, ⟨k1 + 1, by omega, by omega, g.is⟩, by rw [e, R9.bindS_ok e2]⟩
   refine tri_guard_run rfl rfl rfl (tM rfl rfl (tri_guard_run rfl rfl rfl ?_))
   refine tri_v (opv_lss rfl rfl) rfl ?_
   refine tri_guard_run rfl rfl rfl (tM rfl rfl ?_)
   refine tri_split rfl rfl (fun h2 => ?_) (fun h2 => ?_)
   ·refine tri_guard_skip rfl rfl rfl rfl (tri_guard_skip rfl rfl rfl rfl (tri_guard_skip rfl rfl rfl rfl (tri_guard_skip rfl rfl rfl rfl (tri_guard_skip rfl rfl rfl rfl (tri_guard_skip rfl rfl rfl rfl (tri_guard_run rfl rfl rfl ?_))))))
    refine tri_v (opv_pick_t rfl rfl) rfl ?_
    refine tri_v (opv_pick_t rfl rfl) rfl ?_
    refine tN (tT ?_)
    refine tri_cond_true rfl ?_
    refine tri_skip (tT (tS (tri_block (tR (tM rfl rfl (tM rfl rfl ?_))))))
    obtain ⟨R, hR⟩ : ∃ R, R9.grow room s1 n1 = R := ⟨_, rfl⟩
    have hg := go R hR (.inl (by omega))
    refine tri_g (opg_call (xs := [_, _]) rfl (leaper_grow hlk hn1 hx1 hm1 hR)) rfl ?_
    rintro _ _ _ ⟨a3, c3, es3, ds3, ns3, m3, rfl, rfl, h3, rfl⟩
    refine tM rfl rfl ?_
    refine tri_v (opv_extract rfl rfl) rfl ?_
    refine tri_v (opv_extract rfl rfl) rfl ?_
    refine tA rfl rfl (tA rfl rfl (tN ?_))
    refine tri_inBlock ?_
    refine tT (tR (tM rfl rfl ?_))
    refine tU rfl rfl (by omega) (by omega) rfl ?_
    refine tA rfl rfl (tN (tT ?_))
    refine tri_sub ?_ (hK (i + 1, R.1, m3, a3, c3, es3, ds3, ns3, R.2.2) ⟨fun e => ?_, fun e => ?_, by simp only; omega⟩ (by simp only; omega))
    ·exact ⟨rfl, rfl, rfl, rfl, rfl, trivial⟩
    ·obtain ⟨b1, b2, b3⟩ := hg.1 e
     obtain ⟨d1, rfl, d3, d4⟩ := h3 e
     exact ⟨d1, b1, b2, d3, d4, b3⟩
    ·exact hg.2 e
   ·refine tri_guard_run rfl rfl rfl (tM rfl rfl (tri_guard_run rfl rfl rfl (tM rfl rfl (tri_guard_run rfl rfl rfl ?_))))
    refine tri_g (opg_call (xs := [_, _]) rfl (leaper_level hn1.1)) rfl ?_
    rintro _ _ _ ⟨rfl, rfl, rfl⟩
    refine tri_guard_run rfl rfl rfl (tM rfl rfl (tri_guard_run rfl rfl rfl ?_))
    refine tU rfl rfl (by omega) (by omega) rfl ?_
    refine tri_guard_run rfl rfl rfl ?_
    refine tri_v (opv_lss rfl rfl) rfl ?_
    refine tri_guard_run rfl rfl rfl ?_
    refine tri_v (opv_pick_f rfl rfl) rfl ?_
    refine tri_v (opv_pick_t rfl rfl) rfl ?_
    refine tN (tT ?_)
    refine tri_cond_dec rfl (fun h4 => ?_) (fun h4 => ?_)
    ·refine tri_skip (tT (tS (tri_block (tR (tM rfl rfl (tM rfl rfl ?_))))))
     obtain ⟨R, hR⟩ : ∃ R, R9.grow room s1 n1 = R := ⟨_, rfl⟩
     have hg := go R hR (.inr (by omega))
     refine tri_g (opg_call (xs := [_, _]) rfl (leaper_grow hlk hn1 hx1 hm1 hR)) rfl ?_
     rintro _ _ _ ⟨a3, c3, es3, ds3, ns3, m3, rfl, rfl, h3, rfl⟩
     refine tM rfl rfl ?_
     refine tri_v (opv_extract rfl rfl) rfl ?_
     refine tri_v (opv_extract rfl rfl) rfl ?_
     refine tA rfl rfl (tA rfl rfl (tN ?_))
     refine tri_inBlock ?_
     refine tT (tR (tM rfl rfl ?_))
     refine tU rfl rfl (by omega) (by omega) rfl ?_
     refine tA rfl rfl (tN (tT ?_))
     refine tri_sub ?_ (hK (i + 1, R.1, m3, a3, c3, es3, ds3, ns3, R.2.2) ⟨fun e => ?_, fun e => ?_, by simp only; omega⟩ (by simp only; omega))
     ·exact ⟨rfl, rfl, rfl, rfl, rfl, trivial⟩
     ·obtain ⟨b1, b2, b3⟩ := hg.1 e
      obtain ⟨d1, rfl, d3, d4⟩ := h3 e
      exact ⟨d1, b1, b2, d3, d4, b3⟩
     ·exact hg.2 e
    ·rw [R9.more_stop (by omega) (by omega)] at hr1
     rw [R9.bindS_ok (by rw [hr1]), hr1] at hr
     simp only at hr
     rw [R9.lvS_is hn1] at hr
     refine tri_exit ?_
     refine tri_then_exit ?_
     refine tri_then_exit ?_
     refine tri_inBlock_hit rfl ?_
     refine tT (tS (tS (tR (tM rfl rfl ?_))))
     refine tri_v (opv_neq rfl rfl) rfl ?_
     refine tN (tT ?_)
     refine tri_cond_not rfl (by omega) ?_
     refine tri_skip (tT (tS (tR (tM rfl rfl (tM rfl rfl (tM rfl rfl ?_))))))
     refine tri_g (opg_call (xs := [_, _, _]) rfl (leaper_leap k1 _ _ s1 _ _ _ _ _ _ _ n1 j _ _ r hlk hn1 hx1 hm1 (by omega) hr)) rfl ?_
     rintro _ _ _ ⟨a4, c4, es4, ds4, ns4, m4, rfl, rfl, h4, rfl⟩
     refine tri_v (opv_extract rfl rfl) rfl ?_
     refine tri_v (opv_extract rfl rfl) rfl ?_
     refine tA rfl rfl (tA rfl rfl (tN (tT (tri_ret ?_))))
     refine tri_end _ (⟨[], rfl⟩) rfl (.cons (rv_tmp rfl) (.cons (rv_tmp rfl) .nil)) ⟨a4, c4, es4, ds4, ns4, m4, rfl, rfl, h4, rfl⟩
  ·have e0 : r0.2.2 ≠ 0 := by rw [hne h1]; exact h1
   rw [R9.bindS_err e0] at hr
   subst hr
   refine tri_guard_skip rfl rfl rfl rfl (tri_guard_skip rfl rfl rfl rfl (tri_guard_skip rfl rfl rfl rfl ?_))
   refine tri_guard_skip_u rfl rfl rfl ?_
   refine tri_guard_skip_u rfl rfl rfl ?_
   refine tri_guard_skip_u rfl rfl rfl ?_
   refine tri_guard_skip_u rfl rfl rfl ?_
   refine tri_guard_skip_u rfl rfl rfl ?_
   refine tri_guard_skip_u rfl rfl rfl ?_
   refine tri_guard_skip rfl rfl rfl rfl ?_
   refine tri_v (opv_pick_f rfl rfl) rfl ?_
   refine tN (tT ?_)
   refine tri_cond_false rfl ?_
   refine tri_exit ?_
   refine tri_then_exit ?_
   refine tri_then_exit ?_
   refine tri_inBlock_hit rfl ?_
   refine tT (tS (tS (tR (tM rfl rfl ?_))))
   refine tri_v (opv_neq rfl rfl) rfl ?_
   refine tN (tT ?_)
   refine tri_cond_is rfl (h1) ?_
   refine tS (tR (tM rfl rfl (tA rfl rfl (tA rfl rfl (tN (tT (tri_ret ?_)))))))
   refine tri_then_ret ?_
   refine tri_end _ (⟨[], rfl⟩) rfl (.cons (rv_tmp rfl) (.cons (rv_tmp rfl) .nil)) ⟨a1, c1, es1, ds1, ns1, 0, by rw [← hne h1]; rfl, rfl, fun e => absurd e e0, rfl⟩
 ·simp only at e ⊢
  obtain ⟨d1, rfl, d3, d4⟩ := h1 e
  have g := hge e
  obtain ⟨k', hk'⟩ := g.is
  have hb := (g.lk.wf.lvb hk'.1).2
  rw [hk'.2] at hb
  rw [R9.bindS_ok e] at hr0
  exact ⟨d1, g.lk, ⟨k', by omega, by omega, hk'⟩, d3, d4, hr0.symm⟩
 ·simp only at e ⊢
  rw [R9.bindS_err e] at hr0
  rw [← hr0]
end Go.GL

set_option linter.unusedVariables false
namespace Go.GL
open Go.Proofs
attribute [local irreducible] wpList Code.wp Exit.then Exit.inBlock Ends Tri TriH OpV OpG FnC epf wpAnyH
variable {A : List Asrt} {I : List Chunk}
namespace R9
def bitsTo (c : Int) (k : Nat) : List Int := ((List.range k).filter fun i => decide (c / 2 ^ i % 2 = 1)).map fun i => ((i : Nat) : Int)
theorem bitsTo_succ (c : Int) (k : Nat) : bitsTo c (k + 1) = if c / 2 ^ k % 2 = 1 then bitsTo c k ++ [(k : Int)] else bitsTo c k := by
 unfold bitsTo
 rw [List.range_succ, List.filter_append, List.map_append]
 by_cases h : c / 2 ^ k % 2 = 1
 ·rw [if_pos h]; simp [h]
 ·rw [if_neg h]; simp [h]
theorem bitsTo_len (c : Int) (k : Nat) : (bitsTo c k).length ≤ k := by
 unfold bitsTo
 rw [List.length_map]
 exact Nat.le_trans (List.length_filter_le _ _) (by rw [List.length_range]; exact Nat.le_refl _)
theorem bits_bd {c j : Int} (h : j ∈ bits c) : 0 ≤ j ∧ j ≤ 61 := by
 unfold bits at h
 obtain ⟨i, hi, rfl⟩ := List.mem_map.1 h
 have := List.mem_range.1 (List.mem_filter.1 hi).1
 omega
end R9
/-- What tells the bits of a count. -/
def BitsR (c : Int) (A : List Asrt) (I : List Chunk) : Value → List Asrt → List Chunk → Prop := fun v A' I' => ∃ a' cap', v = .slice a' (R9.bits c).length cap' ∧ SlAt I' a' (R9.bits c) ∧ A = A' ∧ I ⊆ I'
set_option maxHeartbeats 2000000 in
set_option maxRecDepth 100000 in
theorem count_bits {c : Int} (hc : 0 ≤ c ∧ c ≤ 4611686018427387903) :
  FnC Try.prog 76 [.int .i64 c].toArray A I (BitsR c A I) := by
 skip
 skip
 refine fn_enter1 Try.func76 rfl Try.ntmps76 rfl fun w0 => ?_
 refine tS (tR (tA rfl rfl (tN (tT (tS (tS (tR ?_)))))))
 refine tM rfl rfl ?_
 refine tri_v (opv_lss rfl rfl) rfl ?_
 refine tM rfl rfl ?_
 refine tri_false rfl rfl (by omega) ?_
 refine tri_guard_run rfl rfl rfl (tM rfl rfl (tri_guard_run rfl rfl rfl ?_))
 refine tri_v (opv_gtr rfl rfl) rfl ?_
 refine tri_v (opv_pick_f rfl rfl) rfl ?_
 refine tN (tT ?_)
 refine tri_cond_not rfl (by omega) ?_
 refine tri_skip (tT (tS (tS (tR (tM rfl rfl (tN (tT ?_)))))))
 refine tri_block ?_
 refine tri_nilRow (E := 3) (sz := 1) ?_
 refine tri_sub (F' := [(0, .int .i64 c), (2, .slice none 0 0), (10, .int .i64 (0 : Nat))]) ⟨rfl, rfl, rfl, trivial⟩ ?_
 refine loop_ind (G := Nat × Option Addr × Nat) (fun g => 62 - g.1) (fun g => g.1 ≤ 62) (fun g => [(0, .int .i64 c), (2, .slice g.2.1 (R9.bitsTo c g.1).length g.2.2), (10, .int .i64 (g.1 : Nat))]) (fun g => Row g.2.1 g.2.2 (R9.bitsTo c g.1).length 3 1 (encs (R9.bitsTo c g.1)) :: A) (fun _ => I) ?_ (0, none, 0) (by omega)
 rintro ⟨i, a1, cap1⟩ hi K hK
 simp only at hi hK ⊢
 have hbl := R9.bitsTo_len c i
 skip
 refine tS (tR ?_)
 refine tri_v (opv_lss rfl rfl) rfl ?_
 refine tN (tT (tS ?_))
 refine tri_cond_dec rfl (fun h => ?_) (fun h => ?_)
 ·have hlt : i < 62 := by omega
  have hs := R9.bitsTo_succ c i
  refine tri_skip (tT (tS (tri_block (tS (tR (tM rfl rfl (tA rfl rfl ?_)))))))
  refine tN (tT (tS (tR (tM rfl rfl (tM rfl rfl ?_)))))
  refine tri_v (opv_shl1 rfl rfl (by omega) (by omega)) rfl ?_
  refine tri_v (opv_bit (k := i) rfl rfl hc.1 (by omega) (by rw [Int.toNat_natCast]) (by omega)) rfl ?_
  refine tri_v (opv_neq rfl rfl) rfl ?_
  refine tN (tT ?_)
  refine tri_cond_dec rfl (fun hb => ?_) (fun hb => ?_)
  ·have hb1 : c / 2 ^ i % 2 = 1 := Decidable.byContradiction fun e => hb (if_neg e)
   rw [if_pos hb1] at hs
   refine tR (tM rfl rfl (tM rfl rfl ?_))
   refine tri_g (opg_buildSlice rfl rfl rfl rfl) rfl ?_
   rintro _ _ _ ⟨b20, rfl, rfl, rfl⟩
   refine tri_g (opg_appendB rfl rfl rfl rfl (by omega) rfl) rfl ?_
   rintro _ _ _ ⟨a3, cap3, rfl, rfl, rfl⟩
   refine tA rfl rfl (tN ?_)
   refine tri_inBlock ?_
   refine tT (tR ?_)
   refine tU rfl rfl (by omega) (by omega) rfl ?_
   refine tM rfl rfl (tN (tT ?_))
   refine tri_drop ?_
   refine tri_rowEq (len' := (R9.bitsTo c (i + 1)).length) (cells' := encs (R9.bitsTo c (i + 1))) (by rw [hs, List.length_append]; rfl) (by rw [hs, encs_append]; rfl) ?_
   refine tri_sub ?_ (hK (i + 1, a3, cap3) (by simp only; omega) (by simp only; omega))
   exact ⟨rfl, by rw [hs, List.length_append]; rfl, rfl, trivial⟩
  ·have hb1 : ¬ c / 2 ^ i % 2 = 1 := fun e => hb (by rw [if_pos e]; exact Int.ne_of_gt (Int.pow_pos (by omega)))
   rw [if_neg hb1] at hs
   refine tri_skip ?_
   refine tri_inBlock ?_
   refine tT (tR ?_)
   refine tU rfl rfl (by omega) (by omega) rfl ?_
   refine tM rfl rfl (tN (tT ?_))
   refine tri_rowEq (len' := (R9.bitsTo c (i + 1)).length) (cells' := encs (R9.bitsTo c (i + 1))) (by rw [hs]) (by rw [hs]) ?_
   refine tri_sub ?_ (hK (i + 1, a1, cap1) (by simp only; omega) (by simp only; omega))
   exact ⟨rfl, by rw [hs]; rfl, rfl, trivial⟩
 ·have hi' : i = 62 := by omega
  subst hi'
  refine tri_exit ?_
  refine tri_then_exit ?_
  refine tri_then_exit ?_
  refine tri_inBlock_hit rfl ?_
  refine tT (tS (tR (tM rfl rfl (tA rfl rfl (tN (tT (tri_ret ?_)))))))
  refine tri_freezeRow rfl fun I' hI hs' => ?_
  refine tri_end A Suf.h rfl (.cons (rv_tmp rfl) .nil) ⟨a1, cap1, rfl, hs', rfl, hI⟩
set_option maxHeartbeats 2000000 in
set_option maxRecDepth 100000 in
theorem ref03_bits {c : Int} (hc : 0 ≤ c ∧ c ≤ 4611686018427387903) :
  FnC Try.prog 53 [.int .i64 c].toArray A I (BitsR c A I) := by
 skip
 skip
 refine fn_enter1 Try.func53 rfl Try.ntmps53 rfl fun w0 => ?_
 refine tS (tR (tA rfl rfl (tN (tT (tS (tR (tA rfl rfl ?_)))))))
 refine tN (tT (tS (tS (tR (tA rfl rfl (tN (tT ?_)))))))
 refine tri_block ?_
 refine tri_nilRow (E := 3) (sz := 1) ?_
 refine tri_sub (F' := [(0, .int .i64 c), (3, .slice none 0 0), (4, .int .i64 (0 : Nat))]) ⟨rfl, rfl, rfl, trivial⟩ ?_
 refine loop_ind (G := Nat × Option Addr × Nat) (fun g => 62 - g.1) (fun g => g.1 ≤ 62) (fun g => [(0, .int .i64 c), (3, .slice g.2.1 (R9.bitsTo c g.1).length g.2.2), (4, .int .i64 (g.1 : Nat))]) (fun g => Row g.2.1 g.2.2 (R9.bitsTo c g.1).length 3 1 (encs (R9.bitsTo c g.1)) :: A) (fun _ => I) ?_ (0, none, 0) (by omega)
 rintro ⟨i, a1, cap1⟩ hi K hK
 simp only at hi hK ⊢
 have hbl := R9.bitsTo_len c i
 skip
 refine tS (tS (tR (tM rfl rfl ?_)))
 refine tri_v (opv_lss rfl rfl) rfl ?_
 refine tM rfl rfl ?_
 refine tri_split rfl rfl (fun h => ?_) (fun h => ?_)
 ·have hlt : i < 62 := by omega
  have hs := R9.bitsTo_succ c i
  have hd := div_pow_bd (a := c) (k := i) hc.1
  refine tri_guard_run rfl rfl rfl (tM rfl rfl (tri_guard_run rfl rfl rfl ?_))
  refine tri_v (opv_geq rfl rfl) rfl ?_
  refine tri_v (opv_pick_t rfl rfl) rfl ?_
  refine tM rfl rfl ?_
  refine tri_true rfl rfl (hc.1) ?_
  refine tri_guard_run rfl rfl rfl (tM rfl rfl (tri_guard_run rfl rfl rfl ?_))
  refine tri_v (opv_leq rfl rfl) rfl ?_
  refine tri_v (opv_pick_t rfl rfl) rfl ?_
  refine tN (tT ?_)
  refine tri_cond_is rfl (hc.2) ?_
  refine tri_skip (tT (tS (tri_block (tS (tR (tM rfl rfl (tM rfl rfl ?_)))))))
  refine tri_v (opv_shrN (k := i) rfl rfl hc.1 rfl (by omega)) rfl ?_
  generalize hdd : c / 2 ^ i = d at hd
  refine tri_v (opv_remE rfl rfl (by omega) (by omega)) rfl ?_
  refine tri_v (opv_eql rfl rfl) rfl ?_
  refine tN (tT ?_)
  refine tri_cond_dec rfl (fun hb => ?_) (fun hb => ?_)
  ·have hb1 : c / 2 ^ i % 2 = 1 := by rw [hdd]; exact hb
   rw [if_pos hb1] at hs
   refine tR (tM rfl rfl (tM rfl rfl ?_))
   refine tri_g (opg_buildSlice rfl rfl rfl rfl) rfl ?_
   rintro _ _ _ ⟨b24, rfl, rfl, rfl⟩
   refine tri_g (opg_appendB rfl rfl rfl rfl (by omega) rfl) rfl ?_
   rintro _ _ _ ⟨a3, cap3, rfl, rfl, rfl⟩
   refine tA rfl rfl (tN ?_)
   refine tri_inBlock ?_
   refine tT (tR (tM rfl rfl ?_))
   refine tU rfl rfl (by omega) (by omega) rfl ?_
   refine tA rfl rfl (tN (tT ?_))
   refine tri_drop ?_
   refine tri_rowEq (len' := (R9.bitsTo c (i + 1)).length) (cells' := encs (R9.bitsTo c (i + 1))) (by rw [hs, List.length_append]; rfl) (by rw [hs, encs_append]; rfl) ?_
   refine tri_sub ?_ (hK (i + 1, a3, cap3) (by simp only; omega) (by simp only; omega))
   exact ⟨rfl, by rw [hs, List.length_append]; rfl, rfl, trivial⟩
  ·have hb1 : ¬ c / 2 ^ i % 2 = 1 := by rw [hdd]; exact hb
   rw [if_neg hb1] at hs
   refine tri_skip ?_
   refine tri_inBlock ?_
   refine tT (tR (tM rfl rfl ?_))
   refine tU rfl rfl (by omega) (by omega) rfl ?_
   refine tA rfl rfl (tN (tT ?_))
   refine tri_rowEq (len' := (R9.bitsTo c (i + 1)).length) (cells' := encs (R9.bitsTo c (i + 1))) (by rw [hs]) (by rw [hs]) ?_
   refine tri_sub ?_ (hK (i + 1, a1, cap1) (by simp only; omega) (by simp only; omega))
   exact ⟨rfl, by rw [hs]; rfl, rfl, trivial⟩
 ·have hi' : i = 62 := by omega
  subst hi'
  refine tri_guard_skip rfl rfl rfl rfl (tri_guard_skip rfl rfl rfl rfl ?_)
  refine tri_v (opv_pick_f rfl rfl) rfl ?_
  refine tM rfl rfl (tri_guard_skip rfl rfl rfl rfl (tri_guard_skip rfl rfl rfl rfl ?_))
  refine tri_v (opv_pick_f rfl rfl) rfl ?_
  refine tN (tT ?_)
  refine tri_cond_false rfl ?_
  refine tri_exit ?_
  refine tri_then_exit ?_
  refine tri_then_exit ?_
  refine tri_inBlock_hit rfl ?_
  refine tT (tS (tR (tM rfl rfl (tA rfl rfl (tN (tT (tri_ret ?_)))))))
  refine tri_freezeRow rfl fun I' hI hs' => ?_
  refine tri_end A Suf.h rfl (.cons (rv_tmp rfl) .nil) ⟨a1, cap1, rfl, hs', rfl, hI⟩
end Go.GL

set_option linter.unusedVariables false
namespace Go.GL
open Go.Proofs
attribute [local irreducible] wpList Code.wp Exit.then Exit.inBlock Ends Tri TriH OpV OpG FnC epf wpAnyH
variable {A : List Asrt} {I : List Chunk}
/-- As LxR, where something may have been frozen. -/
def LxS (bl bx mb db : Nat) (r : R9.L9) (room : Int) (A : List Asrt) (I : List Chunk) : Value → List Asrt → List Chunk → Prop :=
 fun v A' I' => ∃ a' cap' es' ds' ns' m, v = .tuple [.int .i64 m, .int .i64 r.2.2].toArray ∧ A' = LxA bl bx mb db a' cap' ns' room es' ds' A ∧ (r.2.2 = 0 → ns' = r.1.ns ∧ m = r.2.1 ∧ Idx r.1.ns es' ∧ MemIx r.1.mm ds') ∧ I ⊆ I'
theorem runL_drop {room : Int} {js : List Int} {i : Nat} (hi : i < js.length) (t : R9.LS) (n : Int) : R9.runL room (js.drop i) t n = R9.bindS (R9.power room t n (js.getD i default)) (R9.runL room (js.drop (i + 1))) := by
 rw [List.drop_eq_getElem_cons hi, show js.getD i default = js[i] by simp [hi]]
 rfl
set_option maxHeartbeats 2000000 in
set_option maxRecDepth 100000 in
theorem leaper_run {k : Nat} {s : R9.LS} {a : Option Addr} {cap bl bx mb db : Nat} {room n c : Int} {es ds : KVs} {r : R9.L9} (h : R9.Lk room s) (hn : R7.IsN s.ns (k + 2) n) (hix : Idx s.ns es) (hmx : MemIx s.mm ds) (hc : 0 ≤ c ∧ c ≤ 4611686018427387903) (hr : R9.runL room (R9.bits c) s n = r) :
  FnC Try.prog 52 [pt bl 0, .int .i64 n, .int .i64 c].toArray (LxA bl bx mb db a cap s.ns room es ds A) I (LxS bl bx mb db r room A I) := by
 have hbd := fun j (hj : j ∈ R9.bits c) => R9.bits_bd hj
 have hbl : (R9.bits c).length ≤ 62 := R9.bitsTo_len c 62
 skip
 refine fn_enter3 Try.func52 rfl Try.ntmps52 rfl fun w0 => ?_
 refine tS (tR (tA rfl rfl (tA rfl rfl (tN (tT (tS (tS ?_)))))))
 refine tR (tM rfl rfl ?_)
 refine tri_g (opg_call (xs := [_]) rfl (count_bits hc)) rfl ?_
 rintro _ _ I1 ⟨a1, c1, rfl, hs, rfl, hI⟩
 generalize R9.bits c = js at *
 refine tri_v (opv_len rfl) rfl ?_
 refine tM rfl rfl (tN (tT (tri_block ?_)))
 refine tri_sub (F' := [(0, pt bl 0), (1, .int .i64 n), (12, .slice a1 js.length c1), (13, .int .i64 (js.length : Nat)), (14, .int .i64 (0 : Nat))]) ⟨rfl, rfl, rfl, rfl, rfl, trivial⟩ ?_
 refine loop_ind (G := Nat × R9.LS × Int × Option Addr × Nat × KVs × KVs) (fun g => js.length - g.1) (fun g => g.1 ≤ js.length ∧ R9.Lk room g.2.1 ∧ (∃ k : Nat, R7.IsN g.2.1.ns (k + 2) g.2.2.1) ∧ Idx g.2.1.ns g.2.2.2.2.2.1 ∧ MemIx g.2.1.mm g.2.2.2.2.2.2 ∧ R9.runL room (js.drop g.1) g.2.1 g.2.2.1 = r) (fun g => [(0, pt bl 0), (1, .int .i64 g.2.2.1), (12, .slice a1 js.length c1), (13, .int .i64 (js.length : Nat)), (14, .int .i64 (g.1 : Nat))]) (fun g => LxA bl bx mb db g.2.2.2.1 g.2.2.2.2.1 g.2.1.ns room g.2.2.2.2.2.1 g.2.2.2.2.2.2 A) (fun _ => I1) ?_ (0, s, n, a, cap, es, ds) ⟨by omega, h, ⟨k, hn⟩, hix, hmx, hr⟩
 rintro ⟨i, t, n1, a2, c2, es2, ds2⟩ ⟨hi, hlk, ⟨k1, hn1⟩, hx1, hm1, hr1⟩ K hK
 simp only at hi hlk hn1 hx1 hm1 hr1 hK ⊢
 skip
 refine tS (tR ?_)
 refine tri_v (opv_lss rfl rfl) rfl ?_
 refine tN (tT (tS ?_))
 refine tri_cond_dec rfl (fun h1 => ?_) (fun h1 => ?_)
 ·have hlt : i < js.length := by omega
  rw [runL_drop hlt] at hr1
  have hj := hbd (js.getD i default) (by simp [hlt])
  obtain ⟨R, hR⟩ : ∃ R, R9.power room t n1 (js.getD i default) = R := ⟨_, rfl⟩
  rw [hR] at hr1
  have hge := fun e : R.2.2 = 0 => R9.power_ge hlk hn1 (by rw [hR]; exact e)
  rw [hR] at hge
  refine tri_skip (tT (tS (tri_block (tS (tR ?_)))))
  refine tri_v (opv_indexAddrSN rfl rfl (by omega) (by assumption) rfl) rfl ?_
  refine tri_v (opv_loadE1 rfl (by assumption) rfl (by omega) rfl rfl) rfl ?_
  refine tA rfl rfl (tN (tT (tS (tR (tA rfl rfl (tN (tT ?_)))))))
  refine tS (tR (tM rfl rfl (tM rfl rfl (tM rfl rfl ?_))))
  refine tri_g (opg_call (xs := [_, _, _]) rfl (leaper_power hlk hn1 hx1 hm1 (by omega) hR)) rfl ?_
  rintro _ _ _ ⟨a3, c3, es3, ds3, ns3, m3, rfl, rfl, h3, rfl⟩
  refine tM rfl rfl ?_
  refine tri_v (opv_extract rfl rfl) rfl ?_
  refine tri_v (opv_extract rfl rfl) rfl ?_
  refine tA rfl rfl (tA rfl rfl (tN (tT (tS (tR (tM rfl rfl ?_))))))
  refine tri_v (opv_neq rfl rfl) rfl ?_
  refine tN (tT ?_)
  refine tri_cond_dec rfl (fun x => ?_) (fun x => ?_)
  ·rw [R9.bindS_err x] at hr1
   subst hr1
   refine tS (tR (tM rfl rfl (tA rfl rfl (tA rfl rfl (tN (tT (tri_ret ?_)))))))
   refine tri_inBlock_ret ?_
   refine tri_then_ret (tri_then_ret ?_)
   refine tri_inBlock_ret ?_
   refine tri_then_ret ?_
   refine tri_end _ (⟨[], rfl⟩) rfl (.cons (rv_tmp rfl) (.cons (rv_tmp rfl) .nil)) ⟨a3, c3, es3, ds3, ns3, 0, rfl, rfl, fun e => absurd e x, hI⟩
  ·have x' : R.2.2 = 0 := Decidable.not_not.1 x
   rw [R9.bindS_ok x'] at hr1
   obtain ⟨rfl, rfl, h5, h6⟩ := h3 x'
   have g := hge x'
   refine tri_skip ?_
   refine tri_inBlock ?_
   refine tT (tR ?_)
   refine tU rfl rfl (by omega) (by omega) rfl ?_
   refine tM rfl rfl (tN (tT ?_))
   refine tri_sub ?_ (hK (i + 1, R.1, R.2.1, a3, c3, es3, ds3) ⟨by simp only; omega, g.lk, g.is, h5, h6, hr1⟩ (by simp only; omega))
   exact ⟨rfl, rfl, rfl, rfl, rfl, trivial⟩
 ·have hi' : i = js.length := by omega
  subst hi'
  rw [List.drop_of_length_le (by omega)] at hr1
  unfold R9.runL R9.trimS at hr1
  rw [R9.lvS_is hn1] at hr1
  refine tri_exit ?_
  refine tri_then_exit ?_
  refine tri_then_exit ?_
  refine tri_inBlock_hit rfl ?_
  refine tT (tS (tR (tM rfl rfl (tM rfl rfl ?_))))
  refine tri_g (opg_call (xs := [_, _]) rfl (leaper_trim hlk hn1 hx1 hm1 hr1)) rfl ?_
  rintro _ _ _ ⟨a3, c3, es3, ds3, ns3, m3, rfl, rfl, h3, rfl⟩
  refine tri_v (opv_extract rfl rfl) rfl ?_
  refine tri_v (opv_extract rfl rfl) rfl ?_
  refine tA rfl rfl (tA rfl rfl (tN (tT (tri_ret ?_))))
  refine tri_end _ (⟨[], rfl⟩) rfl (.cons (rv_tmp rfl) (.cons (rv_tmp rfl) .nil)) ⟨a3, c3, es3, ds3, ns3, m3, rfl, rfl, h3, hI⟩
end Go.GL

set_option linter.unusedVariables false
namespace Go.GL
open Go.Proofs
attribute [local irreducible] wpList Code.wp Exit.then Exit.inBlock Ends Tri TriH OpV OpG FnC epf wpAnyH
variable {A : List Asrt} {I : List Chunk}
def LeapOfR (ns : List Node) (room n : Int) (A : List Asrt) (I : List Chunk) : Value → List Asrt → List Chunk → Prop := fun v A' I' =>
 (R8.may ns room n 2 ∧ ∃ bl bx mb db a' cap' es, v = .tuple [pt bl 0, .bool true].toArray ∧ A' = LxA bl bx mb db a' cap' ns room es [] A ∧ Idx ns es ∧ I = I') ∨ (¬ R8.may ns room n 2 ∧ ∃ p, v = .tuple [p, .bool false].toArray ∧ A = A' ∧ I = I')
set_option maxHeartbeats 1000000 in
set_option maxRecDepth 100000 in
theorem leap_of {ns : List Node} {a : Option Addr} {cap : Nat} {room n : Int} (hs : StA I a cap ns) (hn : ns.length ≤ 1000000000) :
  FnC Try.prog 67 [storeV a ns.length cap room, .int .i64 n].toArray A I (LeapOfR ns room n A I) := by
 skip
 refine fn_enter2 Try.func67 rfl Try.ntmps67 rfl fun w0 => ?_
 refine tS (tR ?_)
 refine tri_g (opg_box_agg rfl) rfl ?_
 rintro _ _ _ ⟨b2, rfl, rfl, rfl⟩
 refine tA rfl rfl (tA rfl rfl (tN (tT (tS (tR ?_)))))
 refine tri_v (opv_loadA rfl rfl rfl) rfl ?_
 refine tM rfl rfl ?_
 refine tri_g (opg_call (xs := [_, _, _]) rfl (base_of (lv := 2) hs hn)) rfl ?_
 rintro v A1 I1 hR
 rcases hR with ⟨hr, bx, mb, a1, c1, es, rfl, rfl, hix, rfl⟩ | ⟨hr, p, rfl, rfl, rfl⟩
 ·refine tM rfl rfl ?_
  refine tri_v (opv_extract rfl rfl) rfl ?_
  refine tri_v (opv_extract rfl rfl) rfl ?_
  refine tri_g opg_alloc rfl ?_
  rintro _ _ _ ⟨b6, rfl, rfl, rfl⟩
  refine tri_g (opg_store rfl rfl rfl rfl rfl rfl) rfl ?_
  rintro _ _ _ ⟨rfl, rfl⟩
  refine tA rfl rfl (tN (tT (tS (tR ?_))))
  refine tri_v (opv_loadA rfl rfl rfl) rfl ?_
  refine tri_g opg_makeMap rfl ?_
  rintro _ _ _ ⟨b15, rfl, rfl, rfl⟩
  refine tri_v (opv_buildS rfl rfl) rfl ?_
  refine tri_g (opg_box_agg rfl) rfl ?_
  rintro _ _ _ ⟨b17, rfl, rfl, rfl⟩
  refine tM rfl rfl (tA rfl rfl (tA rfl rfl (tN (tT (tri_ret ?_)))))
  refine tri_perm (A := ?a1_0 :: ?a1_1 :: ?a1_2 :: ?a1_3 :: ?a1_4 :: ?a1_5 :: ?a1_6 :: ?T1) (B := ?a1_2 :: ?a1_6 :: ?a1_3 :: ?a1_4 :: ?a1_5 :: ?a1_0 :: ?a1_1 :: ?T1) (by exact permL [2, 6, 3, 4, 5, 0, 1] [?a1_0, ?a1_1, ?a1_2, ?a1_3, ?a1_4, ?a1_5, ?a1_6] ?T1 (by decide) rfl) ?_
  refine tri_end _ (⟨[_, _], rfl⟩) rfl (.cons (rv_tmp rfl) (.cons (rv_tmp rfl) .nil)) (.inl ⟨hr, b17, bx, mb, b15, a1, c1, es, rfl, rfl, hix, rfl⟩)
 ·refine tM rfl rfl ?_
  refine tri_v (opv_extract rfl rfl) rfl ?_
  refine tri_v (opv_extract rfl rfl) rfl ?_
  refine tri_g opg_alloc rfl ?_
  rintro _ _ _ ⟨b6, rfl, rfl, rfl⟩
  refine tri_g (opg_store rfl rfl rfl rfl rfl rfl) rfl ?_
  rintro _ _ _ ⟨rfl, rfl⟩
  refine tA rfl rfl (tN (tT (tS (tR ?_))))
  refine tri_v (opv_loadA rfl rfl rfl) rfl ?_
  refine tri_g opg_makeMap rfl ?_
  rintro _ _ _ ⟨b15, rfl, rfl, rfl⟩
  refine tri_v (opv_buildS rfl rfl) rfl ?_
  refine tri_g (opg_box_agg rfl) rfl ?_
  rintro _ _ _ ⟨b17, rfl, rfl, rfl⟩
  refine tM rfl rfl (tA rfl rfl (tA rfl rfl (tN (tT (tri_ret ?_)))))
  refine tri_end A Suf.h rfl (.cons (rv_tmp rfl) (.cons (rv_tmp rfl) .nil)) (.inr ⟨hr, _, rfl, rfl, rfl⟩)
/-- What told makes of what a leaper told. -/
def toldL (ns : List Node) (room n : Int) (p : Prop) [Decidable p] (r : R9.L9) : List Node × Int × Int := if R8.may ns room n 2 ∧ p then R9.out ns r else (ns, 0, 1)
set_option maxHeartbeats 1000000 in
set_option maxRecDepth 100000 in
theorem leap_told {ns : List Node} {a : Option Addr} {cap f1 f2 : Nat} {room n : Int} {ca1 ca2 : List Value} {p : Prop} [Decidable p] {r : R9.L9} [FnI Try.prog f1] [FnI Try.prog f2] (hs : StA I a cap ns) (hn : ns.length ≤ 1000000000)
  (hc1 : R8.may ns room n 2 → ∀ bl bx mb db a cap es (X Y : Asrt), Idx ns es → FnC Try.prog f1 (pt bl 0 :: ca1).toArray (LxA bl bx mb db a cap ns room es [] (X :: Y :: A)) I (fun v A' I' => v = .bool (decide p) ∧ LxA bl bx mb db a cap ns room es [] (X :: Y :: A) = A' ∧ I = I'))
  (hc2 : R8.may ns room n 2 → p → ∀ bl bx mb db a cap es (X Y : Asrt), Idx ns es → FnC Try.prog f2 (pt bl 0 :: ca2).toArray (LxA bl bx mb db a cap ns room es [] (X :: Y :: A)) I (LxS bl bx mb db r room (X :: Y :: A) I)) :
  FnC Try.prog 39 [storeV a ns.length cap room, .int .i64 n, .func (.func f1) [].toArray ca1.toArray, .func (.func f2) [].toArray ca2.toArray].toArray A I (StoreR (toldL ns room n p r) room A I) := by
 skip
 refine fn_enter4 Try.func39 rfl Try.ntmps39 rfl fun w0 => ?_
 refine tS (tR ?_)
 refine tri_g (opg_box_agg rfl) rfl ?_
 rintro _ _ _ ⟨b4, rfl, rfl, rfl⟩
 refine tri_g opg_alloc rfl ?_
 rintro _ _ _ ⟨b8, rfl, rfl, rfl⟩
 refine tA rfl rfl (tA rfl rfl (tN (tT (tS (tR ?_)))))
 refine tri_v (opv_loadA rfl rfl rfl) rfl ?_
 refine tM rfl rfl ?_
 refine tri_g (opg_call (xs := [_, _]) rfl (leap_of hs hn)) rfl ?_
 rintro v A1 I1 hR
 rcases hR with ⟨hr, bl, bx, mb, db, a1, c1, es, rfl, rfl, hix, rfl⟩ | ⟨hr, q, rfl, rfl, rfl⟩
 ·refine tM rfl rfl ?_
  refine tri_v (opv_extract rfl rfl) rfl ?_
  refine tri_v (opv_extract rfl rfl) rfl ?_
  refine tA rfl rfl (tA rfl rfl (tN (tT (tS (tS (tR (tM rfl rfl ?_)))))))
  refine tri_v (opv_not rfl) rfl ?_
  refine tM rfl rfl ?_
  skip
  refine tri_guard_run rfl rfl rfl (tM rfl rfl (tri_guard_run rfl rfl rfl (tM rfl rfl (tri_guard_run rfl rfl rfl ?_))))
  refine tri_g (opg_callv (vs := [pt bl 0]) (xs := [_]) rfl rfl (hc1 hr bl bx mb db a1 c1 es _ _ hix)) rfl ?_
  rintro _ _ _ ⟨rfl, rfl, rfl⟩
  refine tri_guard_run rfl rfl rfl ?_
  refine tri_v (opv_notD rfl) rfl ?_
  refine tri_v (opv_pick_f rfl rfl) rfl ?_
  refine tN (tT ?_)
  refine tri_cond rfl (fun hp => ?_) (fun hp => ?_)
  ·have hp' : ¬ p := by simpa using hp
   refine tS (tR ?_)
   refine tri_v (opv_loadA rfl rfl rfl) rfl ?_
   refine tri_g (opg_store rfl rfl rfl rfl rfl rfl) rfl ?_
   rintro _ _ _ ⟨rfl, rfl⟩
   refine tA rfl rfl (tA rfl rfl (tN (tT (tri_ret (tri_then_ret ?_)))))
   refine tri_end A Suf.h rfl (.cons (rv_cellA rfl rfl rfl) (.cons (rv_tmp rfl) (.cons (rv_tmp rfl) .nil))) ?_
   rw [show toldL ns room n p r = (ns, 0, 1) from if_neg fun h => hp' h.2]
   exact ⟨a, cap, rfl, hs, rfl, fun _ h => h⟩
  ·have hp' : p := by simpa using hp
   refine tri_skip (tT (tS (tR (tM rfl rfl (tM rfl rfl ?_)))))
   refine tri_g (opg_callv (vs := [pt bl 0]) (xs := [_]) rfl rfl (hc2 hr hp' bl bx mb db a1 c1 es _ _ hix)) rfl ?_
   rintro _ _ I2 ⟨a2, c2, es2, ds2, ns2, m2, rfl, rfl, h2, hI⟩
   refine tM rfl rfl ?_
   refine tri_v (opv_extract rfl rfl) rfl ?_
   refine tri_v (opv_extract rfl rfl) rfl ?_
   refine tA rfl rfl (tA rfl rfl (tN (tT (tS (tS (tR (tM rfl rfl ?_)))))))
   refine tri_v (opv_neq rfl rfl) rfl ?_
   refine tN (tT ?_)
   refine tri_cond_dec rfl (fun h => ?_) (fun h => ?_)
   ·refine tS (tR ?_)
    refine tri_v (opv_loadA rfl rfl rfl) rfl ?_
    refine tM rfl rfl ?_
    refine tri_g (opg_store rfl rfl rfl rfl rfl rfl) rfl ?_
    rintro _ _ _ ⟨rfl, rfl⟩
    refine tA rfl rfl (tA rfl rfl (tN (tT (tri_ret (tri_then_ret ?_)))))
    refine tri_end A Suf.h rfl (.cons (rv_cellA rfl rfl rfl) (.cons (rv_tmp rfl) (.cons (rv_tmp rfl) .nil))) ?_
    rw [show toldL ns room n p r = (ns, 0, r.2.2) from (if_pos ⟨hr, hp'⟩).trans (if_pos h)]
    exact ⟨a, cap, rfl, hs.mono hI, rfl, hI⟩
   ·have h0 : r.2.2 = 0 := Decidable.not_not.1 h
    obtain ⟨rfl, rfl, _, _⟩ := h2 h0
    refine tri_skip (tT (tS (tR (tM rfl rfl ?_))))
    refine tri_v (opv_nilCheck rfl) rfl ?_
    refine tri_v (opv_fieldAddr rfl rfl) rfl ?_
    refine tri_v (opv_fieldAddr rfl rfl) rfl ?_
    refine tri_v (opv_load1 rfl rfl rfl) rfl ?_
    refine tri_v (opv_nilCheck rfl) rfl ?_
    refine tri_v (opv_fieldAddr rfl rfl) rfl ?_
    refine tri_v (opv_loadA rfl rfl rfl) rfl ?_
    refine tM rfl rfl ?_
    refine tri_g (opg_store rfl rfl rfl rfl rfl rfl) rfl ?_
    rintro _ _ _ ⟨rfl, rfl⟩
    refine tA rfl rfl (tA rfl rfl (tN (tT (tri_ret ?_))))
    refine tri_perm (A := ?a2_0 :: ?a2_1 :: ?T2) (B := ?a2_1 :: ?a2_0 :: ?T2) (by exact permL [1, 0] [?a2_0, ?a2_1] ?T2 (by decide) rfl) ?_
    refine tri_freezeRowC rfl fun I' hI' hs' => ?_
    refine tri_end A Suf.h rfl (.cons (rv_cellA rfl rfl rfl) (.cons (rv_tmp rfl) (.cons (rv_tmp rfl) .nil))) ?_
    rw [show toldL ns room n p r = (r.1.ns, r.2.1, 0) from (if_pos ⟨hr, hp'⟩).trans (if_neg h)]
    exact ⟨a2, c2, rfl, hs', rfl, fun _ h => hI' (hI h)⟩
 ·refine tM rfl rfl ?_
  refine tri_v (opv_extract rfl rfl) rfl ?_
  refine tri_v (opv_extract rfl rfl) rfl ?_
  refine tA rfl rfl (tA rfl rfl (tN (tT (tS (tS (tR (tM rfl rfl ?_)))))))
  refine tri_v (opv_not rfl) rfl ?_
  refine tM rfl rfl ?_
  skip
  refine tri_guard_skip rfl rfl rfl rfl (tri_guard_skip rfl rfl rfl rfl (tri_guard_skip rfl rfl rfl rfl (tri_guard_skip rfl rfl rfl rfl ?_)))
  refine tri_v (opv_pick_t rfl rfl) rfl ?_
  refine tN (tT ?_)
  refine tri_cond_true rfl ?_
  refine tS (tR ?_)
  refine tri_v (opv_loadA rfl rfl rfl) rfl ?_
  refine tri_g (opg_store rfl rfl rfl rfl rfl rfl) rfl ?_
  rintro _ _ _ ⟨rfl, rfl⟩
  refine tA rfl rfl (tA rfl rfl (tN (tT (tri_ret (tri_then_ret ?_)))))
  refine tri_end A Suf.h rfl (.cons (rv_cellA rfl rfl rfl) (.cons (rv_tmp rfl) (.cons (rv_tmp rfl) .nil))) ?_
  rw [show toldL ns room n p r = (ns, 0, 1) from if_neg fun h => hr h.1]
  exact ⟨a, cap, rfl, hs, rfl, fun _ h => h⟩
end Go.GL

set_option linter.unusedVariables false
namespace Go.GL
open Go.Proofs
attribute [local irreducible] wpList Code.wp Exit.then Exit.inBlock Ends Tri TriH OpV OpG FnC epf wpAnyH
variable {A : List Asrt} {I : List Chunk}
theorem may_lk {ns : List Node} {room n : Int} (h : R8.may ns room n 2) : R9.Lk room (⟨ns, []⟩ : R9.LS) ∧ ∃ k : Nat, R7.IsN ns (k + 2) n ∧ R9.lvS (⟨ns, []⟩ : R9.LS) n = k := by
 have h2 := h.2.2
 refine ⟨⟨h.1, fun p hp => by cases hp⟩, ((R6.nd ns n).lv - 2).toNat, ⟨h.2.1, by omega⟩, rfl⟩
set_option maxHeartbeats 1000000 in
set_option maxRecDepth 100000 in
theorem leap_clo1 {ns : List Node} {bn bj : Nat} {room n j : Int} (hr : R8.may ns room n 2) (bl bx mb db : Nat) (a : Option Addr) (cap : Nat) (es : KVs) (X Y : Asrt) (hix : Idx ns es) :
  FnC Try.prog 40 [pt bl 0, pt bj 0, pt bn 0].toArray (LxA bl bx mb db a cap ns room es [] (X :: Y :: Box bj [.int .i64 j] 3 :: Box bn [.int .i64 n] 3 :: A)) I (fun v A' I' => v = .bool (decide (0 ≤ j ∧ j ≤ (R6.nd ns n).lv - 2)) ∧ LxA bl bx mb db a cap ns room es [] (X :: Y :: Box bj [.int .i64 j] 3 :: Box bn [.int .i64 n] 3 :: A) = A' ∧ I = I') := by
 obtain ⟨lk, k, hn, hk⟩ := may_lk hr
 have hlb := lk.wf.lvb hn.1
 simp only at hlb
 skip
 refine fn_enter3 Try.func40 rfl Try.ntmps40 rfl fun w0 => ?_
 refine tS (tR (tA rfl rfl (tN (tT (tS ?_)))))
 refine tri_draw [0, 1, 2, 3, 4, 5, 6, 7, 8, 9, 10] rfl [] rfl mixed ?_
 refine th_take rfl rfl (by kernel_rfl)  (opv_load1 rfl rfl rfl) ?_
 refine th_take rfl rfl (by kernel_rfl)  (opv_geq rfl rfl) ?_
 refine th_take rfl rfl (by kernel_rfl)  (opv_move rfl) ?_
 refine th_split rfl rfl rfl (fun h1 => ?_) (fun h1 => ?_)
 ·refine th_take_g rfl rfl rfl rfl rfl (by kernel_rfl)  (opv_load1 rfl rfl rfl) ?_
  refine th_take_g rfl rfl rfl rfl rfl (by kernel_rfl)  (opv_move rfl) ?_
  refine th_take_g rfl rfl rfl rfl rfl (by kernel_rfl)  (opv_load1 rfl rfl rfl) ?_
  refine th_one (by kernel_rfl) (step_mg rfl rfl rfl rfl rfl (opg_call (xs := [_, _]) rfl (leaper_level hn.1)) ?_)
  rintro _ _ _ ⟨rfl, rfl, rfl⟩
  refine ⟨Suf.h, (fun _ h => h), ?_⟩
  refine th_take_g rfl rfl rfl rfl rfl (by kernel_rfl)  (opv_sub rfl rfl (w64 (by omega) (by omega))) ?_
  refine th_take_g rfl rfl rfl rfl rfl (by kernel_rfl)  (opv_leq rfl rfl) ?_
  refine th_take rfl rfl (by kernel_rfl)  (opv_pick_t rfl rfl) ?_
  refine th_take rfl rfl (by kernel_rfl)  (opv_assign rfl) ?_
  refine th_done (by kernel_rfl) ?_
  refine tT (tri_ret ?_)
  refine tri_end _ (⟨[], rfl⟩) rfl (.cons (rv_tmp rfl) .nil) ⟨?_, rfl, rfl⟩
  rw [show decide (0 ≤ j ∧ j ≤ (R6.nd ns n).lv - 2) = decide (j ≤ (R6.nd ns n).lv - 2) from decide_eq_decide.2 ⟨fun h => h.2, fun h => ⟨h1, h⟩⟩]
  rfl
 ·refine th_skip rfl rfl rfl rfl rfl (by kernel_rfl)  ?_
  refine th_skip rfl rfl rfl rfl rfl (by kernel_rfl)  ?_
  refine th_skip rfl rfl rfl rfl rfl (by kernel_rfl)  ?_
  refine th_one (by kernel_rfl) (step_skip rfl rfl rfl rfl rfl ?_)
  refine th_skip rfl rfl rfl rfl rfl (by kernel_rfl)  ?_
  refine th_skip rfl rfl rfl rfl rfl (by kernel_rfl)  ?_
  refine th_take rfl rfl (by kernel_rfl)  (opv_pick_f rfl rfl) ?_
  refine th_take rfl rfl (by kernel_rfl)  (opv_assign rfl) ?_
  refine th_done (by kernel_rfl) ?_
  refine tT (tri_ret ?_)
  refine tri_end _ (⟨[], rfl⟩) rfl (.cons (rv_tmp rfl) .nil) ⟨?_, rfl, rfl⟩
  rw [decide_eq_false fun h => h1 h.1]
  rfl
set_option maxHeartbeats 1000000 in
set_option maxRecDepth 100000 in
theorem leap_clo2 {ns : List Node} {bn bj : Nat} {room n j : Int} (hr : R8.may ns room n 2) (hj : 0 ≤ j ∧ j ≤ (R6.nd ns n).lv - 2) (bl bx mb db : Nat) (a : Option Addr) (cap : Nat) (es : KVs) (X Y : Asrt) (hix : Idx ns es) :
  FnC Try.prog 42 [pt bl 0, pt bn 0, pt bj 0].toArray (LxA bl bx mb db a cap ns room es [] (X :: Y :: Box bj [.int .i64 j] 3 :: Box bn [.int .i64 n] 3 :: A)) I (LxS bl bx mb db (R9.leap room (R9.lvS (⟨ns, []⟩ : R9.LS) n) ⟨ns, []⟩ n j) room (X :: Y :: Box bj [.int .i64 j] 3 :: Box bn [.int .i64 n] 3 :: A) I) := by
 obtain ⟨lk, k, hn, hk⟩ := may_lk hr
 have hlb := lk.wf.lvb hn.1
 simp only at hlb
 rw [hk]
 skip
 refine fn_enter3 Try.func42 rfl Try.ntmps42 rfl fun w0 => ?_
 refine tS (tR (tA rfl rfl (tA rfl rfl (tN (tT (tS (tR ?_)))))))
 refine tM rfl rfl ?_
 refine tri_v (opv_load1 rfl rfl rfl) rfl ?_
 refine tri_v (opv_load1 rfl rfl rfl) rfl ?_
 refine tri_g (opg_call (xs := [_, _, _]) rfl (leaper_leap k _ _ (⟨ns, []⟩ : R9.LS) _ _ _ _ _ _ _ n j _ _ _ lk hn hix MemIx.nil (by omega) rfl)) rfl ?_
 rintro _ _ _ ⟨a4, c4, es4, ds4, ns4, m4, rfl, rfl, h4, rfl⟩
 refine tri_v (opv_extract rfl rfl) rfl ?_
 refine tri_v (opv_extract rfl rfl) rfl ?_
 refine tA rfl rfl (tA rfl rfl (tN (tT (tri_ret ?_))))
 refine tri_end _ (⟨[], rfl⟩) rfl (.cons (rv_tmp rfl) (.cons (rv_tmp rfl) .nil)) ⟨a4, c4, es4, ds4, ns4, m4, rfl, rfl, h4, fun _ h => h⟩
set_option maxHeartbeats 1000000 in
set_option maxRecDepth 100000 in
theorem leap_leap {ns : List Node} {a : Option Addr} {cap : Nat} {room n j : Int} (hs : StA I a cap ns) (hn : ns.length ≤ 1000000000) :
  FnC Try.prog 15 [storeV a ns.length cap room, .int .i64 n, .int .i64 j].toArray A I (StoreR (R9.leapT ns room n j) room A I) := by
 skip
 refine fn_enter3 Try.func15 rfl Try.ntmps15 rfl fun w0 => ?_
 refine tS (tR ?_)
 refine tri_g (opg_box_agg rfl) rfl ?_
 rintro _ _ _ ⟨b3, rfl, rfl, rfl⟩
 refine tri_g (opg_box1 rfl rfl) rfl ?_
 rintro _ _ _ ⟨b4, rfl, rfl, rfl⟩
 refine tri_g (opg_box1 rfl rfl) rfl ?_
 rintro _ _ _ ⟨b5, rfl, rfl, rfl⟩
 refine tri_g opg_alloc rfl ?_
 rintro _ _ _ ⟨b6, rfl, rfl, rfl⟩
 refine tA rfl rfl (tA rfl rfl (tN (tT (tS (tR ?_)))))
 refine tri_v (opv_loadA rfl rfl rfl) rfl ?_
 refine tri_v (opv_load1 rfl rfl rfl) rfl ?_
 refine tri_v (opv_makeFunc (fs := []) (cs := [_, _]) (vf := []) (vc := [_, _]) rfl rfl) rfl ?_
 refine tri_v (opv_makeFunc (fs := []) (cs := [_, _]) (vf := []) (vc := [_, _]) rfl rfl) rfl ?_
 refine tri_perm (A := ?a1_0 :: ?a1_1 :: ?a1_2 :: ?a1_3 :: ?T1) (B := ?a1_1 :: ?a1_2 :: ?a1_0 :: ?a1_3 :: ?T1) (by exact permL [1, 2, 0, 3] [?a1_0, ?a1_1, ?a1_2, ?a1_3] ?T1 (by decide) rfl) ?_
 refine tri_g (opg_call (xs := [_, _, _, _]) rfl (leap_told (ca1 := [_, _]) (ca2 := [_, _]) (p := 0 ≤ j ∧ j ≤ (R6.nd ns n).lv - 2) (r := R9.leap room (R9.lvS (⟨ns, []⟩ : R9.LS) n) ⟨ns, []⟩ n j) hs hn (fun hr bl bx mb db a cap es X Y hix => leap_clo1 hr bl bx mb db a cap es X Y hix) (fun hr hp bl bx mb db a cap es X Y hix => leap_clo2 hr hp bl bx mb db a cap es X Y hix))) rfl ?_
 rintro _ _ _ ⟨a2, c2, rfl, hs2, rfl, hI⟩
 refine tri_v (opv_extract rfl rfl) rfl ?_
 refine tri_v (opv_extract rfl rfl) rfl ?_
 refine tri_v (opv_extract rfl rfl) rfl ?_
 refine tri_g (opg_store rfl rfl rfl rfl rfl rfl) rfl ?_
 rintro _ _ _ ⟨rfl, rfl⟩
 refine tA rfl rfl (tA rfl rfl (tN (tT (tri_ret ?_))))
 refine tri_end A Suf.h rfl (.cons (rv_cellA rfl rfl rfl) (.cons (rv_tmp rfl) (.cons (rv_tmp rfl) .nil))) ⟨a2, c2, rfl, hs2, rfl, hI⟩
set_option maxHeartbeats 1000000 in
set_option maxRecDepth 100000 in
theorem run_clo1 {ns : List Node} {bn bj : Nat} {room n j : Int} (hr : R8.may ns room n 2) (bl bx mb db : Nat) (a : Option Addr) (cap : Nat) (es : KVs) (X Y : Asrt) (hix : Idx ns es) :
  FnC Try.prog 50 [pt bl 0, pt bj 0].toArray (LxA bl bx mb db a cap ns room es [] (X :: Y :: Box bj [.int .i64 j] 3 :: Box bn [.int .i64 n] 3 :: A)) I (fun v A' I' => v = .bool (decide (0 ≤ j ∧ j ≤ 4611686018427387903)) ∧ LxA bl bx mb db a cap ns room es [] (X :: Y :: Box bj [.int .i64 j] 3 :: Box bn [.int .i64 n] 3 :: A) = A' ∧ I = I') := by
 skip
 refine fn_enter2 Try.func50 rfl Try.ntmps50 rfl fun w0 => ?_
 refine tS (tR (tA rfl rfl (tN (tT (tS (tR ?_))))))
 refine tri_v (opv_load1 rfl rfl rfl) rfl ?_
 refine tri_v (opv_geq rfl rfl) rfl ?_
 refine tM rfl rfl ?_
 refine tri_split rfl rfl (fun h1 => ?_) (fun h1 => ?_)
 ·refine tri_guard_run rfl rfl rfl ?_
  refine tri_v (opv_load1 rfl rfl rfl) rfl ?_
  refine tri_guard_run rfl rfl rfl ?_
  refine tri_v (opv_leq rfl rfl) rfl ?_
  refine tri_v (opv_pick_t rfl rfl) rfl ?_
  refine tA rfl rfl (tN (tT (tri_ret ?_)))
  refine tri_end _ (⟨[], rfl⟩) rfl (.cons (rv_tmp rfl) .nil) ⟨?_, rfl, rfl⟩
  rw [show decide (0 ≤ j ∧ j ≤ 4611686018427387903) = decide (j ≤ 4611686018427387903) from decide_eq_decide.2 ⟨fun h => h.2, fun h => ⟨h1, h⟩⟩]
  rfl
 ·refine tri_guard_skip rfl rfl rfl rfl (tri_guard_skip rfl rfl rfl rfl ?_)
  refine tri_v (opv_pick_f rfl rfl) rfl ?_
  refine tA rfl rfl (tN (tT (tri_ret ?_)))
  refine tri_end _ (⟨[], rfl⟩) rfl (.cons (rv_tmp rfl) .nil) ⟨?_, rfl, rfl⟩
  rw [decide_eq_false fun h => h1 h.1]
  rfl
set_option maxHeartbeats 1000000 in
set_option maxRecDepth 100000 in
theorem run_clo2 {ns : List Node} {bn bj : Nat} {room n j : Int} (hr : R8.may ns room n 2) (hj : 0 ≤ j ∧ j ≤ 4611686018427387903) (bl bx mb db : Nat) (a : Option Addr) (cap : Nat) (es : KVs) (X Y : Asrt) (hix : Idx ns es) :
  FnC Try.prog 51 [pt bl 0, pt bn 0, pt bj 0].toArray (LxA bl bx mb db a cap ns room es [] (X :: Y :: Box bj [.int .i64 j] 3 :: Box bn [.int .i64 n] 3 :: A)) I (LxS bl bx mb db (R9.runL room (R9.bits j) ⟨ns, []⟩ n) room (X :: Y :: Box bj [.int .i64 j] 3 :: Box bn [.int .i64 n] 3 :: A) I) := by
 obtain ⟨lk, k, hn, hk⟩ := may_lk hr
 skip
 refine fn_enter3 Try.func51 rfl Try.ntmps51 rfl fun w0 => ?_
 refine tS (tR (tA rfl rfl (tA rfl rfl (tN (tT (tS (tR ?_)))))))
 refine tM rfl rfl ?_
 refine tri_v (opv_load1 rfl rfl rfl) rfl ?_
 refine tri_v (opv_load1 rfl rfl rfl) rfl ?_
 refine tri_g (opg_call (xs := [_, _, _]) rfl (leaper_run (s := (⟨ns, []⟩ : R9.LS)) lk hn hix MemIx.nil hj rfl)) rfl ?_
 rintro _ _ _ ⟨a4, c4, es4, ds4, ns4, m4, rfl, rfl, h4, hI⟩
 refine tri_v (opv_extract rfl rfl) rfl ?_
 refine tri_v (opv_extract rfl rfl) rfl ?_
 refine tA rfl rfl (tA rfl rfl (tN (tT (tri_ret ?_))))
 refine tri_end _ (⟨[], rfl⟩) rfl (.cons (rv_tmp rfl) (.cons (rv_tmp rfl) .nil)) ⟨a4, c4, es4, ds4, ns4, m4, rfl, rfl, h4, hI⟩
set_option maxHeartbeats 1000000 in
set_option maxRecDepth 100000 in
theorem leap_run {ns : List Node} {a : Option Addr} {cap : Nat} {room n j : Int} (hs : StA I a cap ns) (hn : ns.length ≤ 1000000000) :
  FnC Try.prog 20 [storeV a ns.length cap room, .int .i64 n, .int .i64 j].toArray A I (StoreR (R9.runT ns room n j) room A I) := by
 skip
 refine fn_enter3 Try.func20 rfl Try.ntmps20 rfl fun w0 => ?_
 refine tS (tR ?_)
 refine tri_g (opg_box_agg rfl) rfl ?_
 rintro _ _ _ ⟨b3, rfl, rfl, rfl⟩
 refine tri_g (opg_box1 rfl rfl) rfl ?_
 rintro _ _ _ ⟨b4, rfl, rfl, rfl⟩
 refine tri_g (opg_box1 rfl rfl) rfl ?_
 rintro _ _ _ ⟨b5, rfl, rfl, rfl⟩
 refine tri_g opg_alloc rfl ?_
 rintro _ _ _ ⟨b6, rfl, rfl, rfl⟩
 refine tA rfl rfl (tA rfl rfl (tN (tT (tS (tR ?_)))))
 refine tri_v (opv_loadA rfl rfl rfl) rfl ?_
 refine tri_v (opv_load1 rfl rfl rfl) rfl ?_
 refine tri_v (opv_makeFunc (fs := []) (cs := [_]) (vf := []) (vc := [_]) rfl rfl) rfl ?_
 refine tri_v (opv_makeFunc (fs := []) (cs := [_, _]) (vf := []) (vc := [_, _]) rfl rfl) rfl ?_
 refine tri_perm (A := ?a2_0 :: ?a2_1 :: ?a2_2 :: ?a2_3 :: ?T2) (B := ?a2_1 :: ?a2_2 :: ?a2_0 :: ?a2_3 :: ?T2) (by exact permL [1, 2, 0, 3] [?a2_0, ?a2_1, ?a2_2, ?a2_3] ?T2 (by decide) rfl) ?_
 refine tri_g (opg_call (xs := [_, _, _, _]) rfl (leap_told (ca1 := [_]) (ca2 := [_, _]) (p := 0 ≤ j ∧ j ≤ 4611686018427387903) (r := R9.runL room (R9.bits j) ⟨ns, []⟩ n) hs hn (fun hr bl bx mb db a cap es X Y hix => run_clo1 hr bl bx mb db a cap es X Y hix) (fun hr hp bl bx mb db a cap es X Y hix => run_clo2 hr hp bl bx mb db a cap es X Y hix))) rfl ?_
 rintro _ _ _ ⟨a2, c2, rfl, hs2, rfl, hI⟩
 refine tri_v (opv_extract rfl rfl) rfl ?_
 refine tri_v (opv_extract rfl rfl) rfl ?_
 refine tri_v (opv_extract rfl rfl) rfl ?_
 refine tri_g (opg_store rfl rfl rfl rfl rfl rfl) rfl ?_
 rintro _ _ _ ⟨rfl, rfl⟩
 refine tA rfl rfl (tA rfl rfl (tN (tT (tri_ret ?_))))
 refine tri_end A Suf.h rfl (.cons (rv_cellA rfl rfl rfl) (.cons (rv_tmp rfl) (.cons (rv_tmp rfl) .nil))) ⟨a2, c2, rfl, hs2, rfl, hI⟩
set_option maxHeartbeats 1000000 in
set_option maxRecDepth 100000 in
theorem trim_clo1 {ns : List Node} {bn : Nat} {room n : Int} (bl bx mb db : Nat) (a : Option Addr) (cap : Nat) (es : KVs) (X Y : Asrt) :
  FnC Try.prog 46 [pt bl 0].toArray (LxA bl bx mb db a cap ns room es [] (X :: Y :: Box bn [.int .i64 n] 3 :: A)) I (fun v A' I' => v = .bool (decide True) ∧ LxA bl bx mb db a cap ns room es [] (X :: Y :: Box bn [.int .i64 n] 3 :: A) = A' ∧ I = I') := by
 skip
 refine fn_enter1 Try.func46 rfl Try.ntmps46 rfl fun w0 => ?_
 refine tS (tR (tA rfl rfl (tN (tT (tS (tR (tA rfl rfl ?_)))))))
 refine tN (tT (tri_ret ?_))
 refine tri_end _ (⟨[], rfl⟩) rfl (.cons (rv_tmp rfl) .nil) ⟨rfl, rfl, rfl⟩
set_option maxHeartbeats 1000000 in
set_option maxRecDepth 100000 in
theorem trim_clo2 {ns : List Node} {bn : Nat} {room n : Int} (hr : R8.may ns room n 2) (bl bx mb db : Nat) (a : Option Addr) (cap : Nat) (es : KVs) (X Y : Asrt) (hix : Idx ns es) :
  FnC Try.prog 47 [pt bl 0, pt bn 0].toArray (LxA bl bx mb db a cap ns room es [] (X :: Y :: Box bn [.int .i64 n] 3 :: A)) I (LxS bl bx mb db (R9.trimS room ⟨ns, []⟩ n) room (X :: Y :: Box bn [.int .i64 n] 3 :: A) I) := by
 obtain ⟨lk, k, hn, hk⟩ := may_lk hr
 unfold R9.trimS
 rw [hk]
 skip
 refine fn_enter2 Try.func47 rfl Try.ntmps47 rfl fun w0 => ?_
 refine tS (tR (tA rfl rfl (tA rfl rfl (tN (tT (tS (tR ?_)))))))
 refine tM rfl rfl ?_
 refine tri_v (opv_load1 rfl rfl rfl) rfl ?_
 refine tri_g (opg_call (xs := [_, _]) rfl (leaper_trim (s := (⟨ns, []⟩ : R9.LS)) lk hn hix MemIx.nil rfl)) rfl ?_
 rintro _ _ _ ⟨a4, c4, es4, ds4, ns4, m4, rfl, rfl, h4, rfl⟩
 refine tri_v (opv_extract rfl rfl) rfl ?_
 refine tri_v (opv_extract rfl rfl) rfl ?_
 refine tA rfl rfl (tA rfl rfl (tN (tT (tri_ret ?_))))
 refine tri_end _ (⟨[], rfl⟩) rfl (.cons (rv_tmp rfl) (.cons (rv_tmp rfl) .nil)) ⟨a4, c4, es4, ds4, ns4, m4, rfl, rfl, h4, fun _ h => h⟩
set_option maxHeartbeats 1000000 in
set_option maxRecDepth 100000 in
theorem leap_trim {ns : List Node} {a : Option Addr} {cap : Nat} {room n : Int} (hs : StA I a cap ns) (hn : ns.length ≤ 1000000000) :
  FnC Try.prog 18 [storeV a ns.length cap room, .int .i64 n].toArray A I (StoreR (R9.trimT ns room n) room A I) := by
 have e : R9.trimT ns room n = toldL ns room n True (R9.trimS room ⟨ns, []⟩ n) := by
  unfold R9.trimT toldL
  by_cases h : R8.may ns room n 2
  ·rw [if_pos h, if_pos ⟨h, trivial⟩]
  ·rw [if_neg h, if_neg fun x => h x.1]
 rw [e]
 skip
 refine fn_enter2 Try.func18 rfl Try.ntmps18 rfl fun w0 => ?_
 refine tS (tR ?_)
 refine tri_g (opg_box_agg rfl) rfl ?_
 rintro _ _ _ ⟨b2, rfl, rfl, rfl⟩
 refine tri_g (opg_box1 rfl rfl) rfl ?_
 rintro _ _ _ ⟨b3, rfl, rfl, rfl⟩
 refine tri_g opg_alloc rfl ?_
 rintro _ _ _ ⟨b4, rfl, rfl, rfl⟩
 refine tA rfl rfl (tA rfl rfl (tN (tT (tS (tR ?_)))))
 refine tri_v (opv_loadA rfl rfl rfl) rfl ?_
 refine tri_v (opv_load1 rfl rfl rfl) rfl ?_
 refine tri_v (opv_makeFunc (fs := []) (cs := [_]) (vf := []) (vc := [_]) rfl rfl) rfl ?_
 refine tri_perm (A := ?a3_0 :: ?a3_1 :: ?a3_2 :: ?T3) (B := ?a3_1 :: ?a3_0 :: ?a3_2 :: ?T3) (by exact permL [1, 0, 2] [?a3_0, ?a3_1, ?a3_2] ?T3 (by decide) rfl) ?_
 refine tri_g (opg_call (xs := [_, _, _, _]) rfl (leap_told (ca1 := []) (ca2 := [_]) (p := True) (r := R9.trimS room ⟨ns, []⟩ n) hs hn (fun hr bl bx mb db a cap es X Y hix => trim_clo1 bl bx mb db a cap es X Y) (fun hr _ bl bx mb db a cap es X Y hix => trim_clo2 hr bl bx mb db a cap es X Y hix))) rfl ?_
 rintro _ _ _ ⟨a2, c2, rfl, hs2, rfl, hI⟩
 refine tri_v (opv_extract rfl rfl) rfl ?_
 refine tri_v (opv_extract rfl rfl) rfl ?_
 refine tri_v (opv_extract rfl rfl) rfl ?_
 refine tri_g (opg_store rfl rfl rfl rfl rfl rfl) rfl ?_
 rintro _ _ _ ⟨rfl, rfl⟩
 refine tA rfl rfl (tA rfl rfl (tN (tT (tri_ret ?_))))
 refine tri_end A Suf.h rfl (.cons (rv_cellA rfl rfl rfl) (.cons (rv_tmp rfl) (.cons (rv_tmp rfl) .nil))) ⟨a2, c2, rfl, hs2, rfl, hI⟩
end Go.GL

set_option linter.unusedVariables false
namespace Go.GL
namespace RL
def glider : List Cell := [⟨0, 0⟩, ⟨1, 1⟩, ⟨-1, 2⟩, ⟨0, 2⟩, ⟨1, 2⟩]
def awM9 : List Node × Int × Int := R7.make [R6.n0, R6.n1] 9000 glider 4
def awA9 : List Node × Int × Int := R9.runT awM9.1 9000 awM9.2.1 4
def awB9 : List Node × Int × Int := R9.leapT awM9.1 9000 awM9.2.1 2
def awT9 : List Node × Int × Int := R9.trimT awM9.1 9000 awM9.2.1
set_option maxRecDepth 100000 in
theorem aw9_ok : (R6.right awM9.1 9000 ∧ R6.inS awM9.1 awM9.2.1)
  ∧ (0 ≤ awA9.2.1 ∧ awA9.2.1 < awA9.1.length ∧ awA9.2.2 = 0 ∧ 2 ≤ (awA9.1.getD awA9.2.1.toNat default).lv ∧ R6.right awA9.1 9000 ∧ (R7.of awA9.1 awA9.2.1).length = 5)
  ∧ (0 ≤ awB9.2.1 ∧ awB9.2.1 < awB9.1.length ∧ 3 ≤ awB9.1.length ∧ awB9.2.2 = 0 ∧ (awB9.1.getD awB9.2.1.toNat default).lv = 3 ∧ (awB9.1.getD awB9.2.1.toNat default).pop = 5)
  ∧ (0 ≤ awT9.2.1 ∧ awT9.2.1 < awT9.1.length ∧ awT9.2.2 = 0 ∧ (awT9.1.getD awT9.2.1.toNat default).lv = 3)
  ∧ (R9.leapT awM9.1 9000 awM9.2.1 3).2.2 = 1 ∧ (R9.runT awM9.1 9000 awM9.2.1 2305843009213693952).2.2 = 2 := by
 refine ⟨by decide +kernel, by decide +kernel, by decide +kernel, by decide +kernel, by decide +kernel, by decide +kernel⟩
end RL
end Go.GL

set_option linter.unusedVariables false
namespace Go.GL
open Go.Proofs
attribute [local irreducible] wpList Code.wp Exit.then Exit.inBlock Ends Tri TriH OpV OpG FnC epf wpAnyH
variable {A : List Asrt} {I : List Chunk}
set_option maxRecDepth 100000 in
theorem law09_glider : FnC Try.prog 32 #[] A I (fun v A' I' => ∃ a' cap', v = .slice a' RL.glider.length cap' ∧ SlAt I' a' RL.glider ∧ A = A' ∧ I ⊆ I') := by
 skip
 refine fn_enter0 Try.func32 rfl Try.ntmps32 rfl fun w0 => ?_
 refine tS (tR (tA rfl rfl (tN (tT (tS (tR ?_))))))
 refine tri_v (opv_buildS rfl rfl) rfl ?_
 refine tri_v (opv_buildS rfl rfl) rfl ?_
 refine tri_v (opv_buildS rfl rfl) rfl ?_
 refine tri_v (opv_buildS rfl rfl) rfl ?_
 refine tri_v (opv_buildS rfl rfl) rfl ?_
 refine tri_g (opg_buildSlice rfl rfl rfl rfl) rfl ?_
 rintro _ _ _ ⟨b6, rfl, rfl, rfl⟩
 refine tA rfl rfl (tN (tT (tri_ret ?_)))
 refine tri_freezeBoxS RL.glider rfl fun I1 hI1 hs1 => ?_
 refine tri_end A Suf.h rfl (.cons (rv_tmp rfl) .nil) ⟨_, _, rfl, hs1, rfl, hI1⟩
theorem ref06_newR {room : Int} {p : List Node × Int} (h : R6.new room = p) : FnC Try.prog 31 [.int .i64 room].toArray A I (fun v A' I' => ∃ a' cap', v = storeV a' p.1.length cap' p.2 ∧ StA I' a' cap' p.1 ∧ A = A' ∧ I ⊆ I') := by
 subst h
 exact ref06_new
theorem ref07_makeR {ns : List Node} {a bb : Option Addr} {cap cap2 : Nat} {room lv : Int} {l : List Cell} {p : List Node × Int × Int} (hs : StA I a cap ns) (hn : ns.length ≤ 1000000000) (hr : R6.Rng ns) (hsl : SlAt I bb l) (hnl : l.length ≤ 1000000000) (h : R7.make ns room l lv = p) :
  FnC Try.prog 30 [storeV a ns.length cap room, .slice bb l.length cap2, .int .i64 lv].toArray A I (StoreR p room A I) := by
 subst h
 exact ref07_make hs hn hr hsl hnl
theorem leap_leapR {ns : List Node} {a : Option Addr} {cap : Nat} {room n j : Int} {p : List Node × Int × Int} (hs : StA I a cap ns) (hn : ns.length ≤ 1000000000) (h : R9.leapT ns room n j = p) :
  FnC Try.prog 15 [storeV a ns.length cap room, .int .i64 n, .int .i64 j].toArray A I (StoreR p room A I) := by
 subst h
 exact leap_leap hs hn
theorem leap_runR {ns : List Node} {a : Option Addr} {cap : Nat} {room n j : Int} {p : List Node × Int × Int} (hs : StA I a cap ns) (hn : ns.length ≤ 1000000000) (h : R9.runT ns room n j = p) :
  FnC Try.prog 20 [storeV a ns.length cap room, .int .i64 n, .int .i64 j].toArray A I (StoreR p room A I) := by
 subst h
 exact leap_run hs hn
theorem leap_trimR {ns : List Node} {a : Option Addr} {cap : Nat} {room n : Int} {p : List Node × Int × Int} (hs : StA I a cap ns) (hn : ns.length ≤ 1000000000) (h : R9.trimT ns room n = p) :
  FnC Try.prog 18 [storeV a ns.length cap room, .int .i64 n].toArray A I (StoreR p room A I) := by
 subst h
 exact leap_trim hs hn
set_option maxHeartbeats 2000000 in
set_option maxRecDepth 100000 in
theorem law09_awake : FnC Try.prog 12 #[] A I (fun v A' I' => v = .bool true ∧ A = A' ∧ I ⊆ I') := by
 obtain ⟨⟨hmr, hmi⟩, ⟨a1, a2, a3, a4, a5, a6⟩, ⟨g1, g2, g3, g4, g5, g6⟩, ⟨t1, t2, t3, t4⟩, e1, e2⟩ := RL.aw9_ok
 have eN : R6.new 9000 = ([R6.n0, R6.n1], 9000) := by decide
 obtain ⟨M, eM⟩ : ∃ M, RL.awM9 = M := ⟨_, rfl⟩
 obtain ⟨rA, eA⟩ : ∃ M, RL.awA9 = M := ⟨_, rfl⟩
 obtain ⟨rB, eB⟩ : ∃ M, RL.awB9 = M := ⟨_, rfl⟩
 obtain ⟨rT, eT⟩ : ∃ M, RL.awT9 = M := ⟨_, rfl⟩
 have eM' : R7.make [R6.n0, R6.n1] 9000 RL.glider 4 = M := eM
 have eA' : R9.runT M.1 9000 M.2.1 4 = rA := by rw [← eM]; exact eA
 have eB' : R9.leapT M.1 9000 M.2.1 2 = rB := by rw [← eM]; exact eB
 have eT' : R9.trimT M.1 9000 M.2.1 = rT := by rw [← eM]; exact eT
 rw [eM] at hmr hmi e1 e2
 rw [eA] at a1 a2 a3 a4 a5 a6
 rw [eB] at g1 g2 g3 g4 g5 g6
 rw [eT] at t1 t2 t3 t4
 obtain ⟨rC, eC⟩ : ∃ r, R9.leapT M.1 9000 M.2.1 3 = r := ⟨_, rfl⟩
 obtain ⟨rD, eD⟩ : ∃ r, R9.runT M.1 9000 M.2.1 2305843009213693952 = r := ⟨_, rfl⟩
 rw [eC] at e1
 rw [eD] at e2
 have hml : M.1.length ≤ 1000000000 := by have := hmr.1; omega
 skip
 refine fn_enter0 Try.func12 rfl Try.ntmps12 rfl fun w0 => ?_
 refine tS (tR (tA rfl rfl (tN (tT (tS (tR ?_))))))
 refine tri_g (opg_call (xs := [_]) rfl (ref06_newR eN)) rfl ?_
 rintro _ _ I0 ⟨x0, y0, rfl, hs0, rfl, hI0⟩
 skip
 refine tri_g (opg_call (xs := []) rfl (law09_glider)) rfl ?_
 rintro _ _ I1 ⟨x1, y1, rfl, hs1, rfl, hI1⟩
 skip
 refine tri_g (opg_call (xs := [_, _, _]) rfl (ref07_makeR (hs0.mono hI1) (by decide) (by unfold R6.Rng; decide) hs1 (by decide) eM')) rfl ?_
 rintro _ _ I2 ⟨x2, y2, rfl, hs2, rfl, hI2⟩
 refine tM rfl rfl ?_
 refine tri_v (opv_extract rfl rfl) rfl ?_
 refine tri_v (opv_extract rfl rfl) rfl ?_
 refine tri_v (opv_extract rfl rfl) rfl ?_
 refine tri_g opg_alloc rfl ?_
 rintro _ _ _ ⟨b1, rfl, rfl, rfl⟩
 refine tri_g (opg_store rfl rfl rfl rfl rfl rfl) rfl ?_
 rintro _ _ _ ⟨rfl, rfl⟩
 refine tA rfl rfl (tA rfl rfl (tN (tT (tS (tR ?_)))))
 refine tri_v (opv_loadA rfl rfl rfl) rfl ?_
 refine tM rfl rfl ?_
 refine tri_g (opg_call (xs := [_, _, _]) rfl (leap_runR hs2 hml eA')) rfl ?_
 rintro _ _ I3 ⟨x3, y3, rfl, hs3, rfl, hI3⟩
 refine tM rfl rfl ?_
 refine tri_v (opv_extract rfl rfl) rfl ?_
 refine tri_v (opv_extract rfl rfl) rfl ?_
 refine tri_v (opv_extract rfl rfl) rfl ?_
 refine tri_g opg_alloc rfl ?_
 rintro _ _ _ ⟨b4, rfl, rfl, rfl⟩
 refine tri_g (opg_store rfl rfl rfl rfl rfl rfl) rfl ?_
 rintro _ _ _ ⟨rfl, rfl⟩
 refine tA rfl rfl (tA rfl rfl (tN (tT (tS (tR ?_)))))
 refine tri_v (opv_loadA rfl rfl rfl) rfl ?_
 refine tM rfl rfl ?_
 refine tri_g (opg_call (xs := [_, _, _]) rfl (leap_leapR (hs2.mono hI3) hml eB')) rfl ?_
 rintro _ _ I4 ⟨x4, y4, rfl, hs4, rfl, hI4⟩
 refine tM rfl rfl ?_
 refine tri_v (opv_extract rfl rfl) rfl ?_
 refine tri_v (opv_extract rfl rfl) rfl ?_
 refine tri_v (opv_extract rfl rfl) rfl ?_
 refine tri_g opg_alloc rfl ?_
 rintro _ _ _ ⟨b7, rfl, rfl, rfl⟩
 refine tri_g (opg_store rfl rfl rfl rfl rfl rfl) rfl ?_
 rintro _ _ _ ⟨rfl, rfl⟩
 refine tA rfl rfl (tA rfl rfl (tN (tT (tS (tR ?_)))))
 refine tri_v (opv_loadA rfl rfl rfl) rfl ?_
 refine tM rfl rfl ?_
 refine tri_g (opg_call (xs := [_, _]) rfl (leap_trimR ((hs2.mono hI3).mono hI4) hml eT')) rfl ?_
 rintro _ _ I5 ⟨x5, y5, rfl, hs5, rfl, hI5⟩
 refine tM rfl rfl ?_
 refine tri_v (opv_extract rfl rfl) rfl ?_
 refine tri_v (opv_extract rfl rfl) rfl ?_
 refine tri_v (opv_extract rfl rfl) rfl ?_
 refine tri_g opg_alloc rfl ?_
 rintro _ _ _ ⟨b10, rfl, rfl, rfl⟩
 refine tri_g (opg_store rfl rfl rfl rfl rfl rfl) rfl ?_
 rintro _ _ _ ⟨rfl, rfl⟩
 refine tA rfl rfl (tA rfl rfl (tN (tT (tS (tR ?_)))))
 refine tri_v (opv_loadA rfl rfl rfl) rfl ?_
 refine tM rfl rfl ?_
 refine tri_g (opg_call (xs := [_, _, _]) rfl (leap_leapR (((hs2.mono hI3).mono hI4).mono hI5) hml eC)) rfl ?_
 rintro _ _ I6 ⟨x6, y6, rfl, hs6, rfl, hI6⟩
 refine tM rfl rfl ?_
 refine tri_v (opv_extract rfl rfl) rfl ?_
 refine tri_v (opv_extract rfl rfl) rfl ?_
 refine tri_v (opv_extract rfl rfl) rfl ?_
 refine tri_g opg_alloc rfl ?_
 rintro _ _ _ ⟨b13, rfl, rfl, rfl⟩
 refine tri_g (opg_store rfl rfl rfl rfl rfl rfl) rfl ?_
 rintro _ _ _ ⟨rfl, rfl⟩
 refine tA rfl rfl (tA rfl rfl (tN (tT (tS (tR ?_)))))
 refine tri_v (opv_loadA rfl rfl rfl) rfl ?_
 refine tM rfl rfl ?_
 refine tri_g (opg_call (xs := [_, _, _]) rfl (leap_runR ((((hs2.mono hI3).mono hI4).mono hI5).mono hI6) hml eD)) rfl ?_
 rintro _ _ I7 ⟨x7, y7, rfl, hs7, rfl, hI7⟩
 have sA : SlAt I7 x3 rA.1 := ((((hs3.mono hI4).mono hI5).mono hI6).mono hI7).sl
 have sB : SlAt I7 x4 rB.1 := (((hs4.mono hI5).mono hI6).mono hI7).sl
 have sT : SlAt I7 x5 rT.1 := ((hs5.mono hI6).mono hI7).sl
 refine tM rfl rfl ?_
 refine tri_v (opv_extract rfl rfl) rfl ?_
 refine tri_v (opv_extract rfl rfl) rfl ?_
 refine tri_v (opv_extract rfl rfl) rfl ?_
 refine tri_g opg_alloc rfl ?_
 rintro _ _ _ ⟨b16, rfl, rfl, rfl⟩
 refine tri_g (opg_store rfl rfl rfl rfl rfl rfl) rfl ?_
 rintro _ _ _ ⟨rfl, rfl⟩
 refine tA rfl rfl (tA rfl rfl (tN (tT (tS (tS (tR (tM rfl rfl ?_)))))))
 refine tri_v (opv_fieldAddr rfl rfl) rfl ?_
 refine tri_v (opv_load1 rfl rfl rfl) rfl ?_
 refine tri_v (opv_len rfl) rfl ?_
 refine tri_v (opv_geq rfl rfl) rfl ?_
 refine tM rfl rfl ?_
 refine tri_false rfl rfl (by omega) ?_
 refine tri_guard_run rfl rfl rfl (tM rfl rfl (tri_guard_run rfl rfl rfl ?_))
 refine tri_v (opv_fieldAddr rfl rfl) rfl ?_
 refine tri_guard_run rfl rfl rfl ?_
 refine tri_v (opv_load1 rfl rfl rfl) rfl ?_
 refine tri_guard_run rfl rfl rfl ?_
 refine tri_v (opv_len rfl) rfl ?_
 refine tri_guard_run rfl rfl rfl ?_
 refine tri_v (opv_geq rfl rfl) rfl ?_
 refine tri_v (opv_pick_f rfl rfl) rfl ?_
 refine tM rfl rfl ?_
 refine tri_false rfl rfl (by omega) ?_
 refine tri_guard_run rfl rfl rfl (tM rfl rfl (tri_guard_run rfl rfl rfl ?_))
 refine tri_v (opv_fieldAddr rfl rfl) rfl ?_
 refine tri_guard_run rfl rfl rfl ?_
 refine tri_v (opv_load1 rfl rfl rfl) rfl ?_
 refine tri_guard_run rfl rfl rfl ?_
 refine tri_v (opv_len rfl) rfl ?_
 refine tri_guard_run rfl rfl rfl ?_
 refine tri_v (opv_geq rfl rfl) rfl ?_
 refine tri_v (opv_pick_f rfl rfl) rfl ?_
 refine tM rfl rfl ?_
 refine tri_false rfl rfl (by omega) ?_
 refine tri_guard_run rfl rfl rfl ?_
 refine tri_v (opv_fieldAddr rfl rfl) rfl ?_
 refine tri_guard_run rfl rfl rfl ?_
 refine tri_v (opv_load1 rfl rfl rfl) rfl ?_
 refine tri_guard_run rfl rfl rfl ?_
 refine tri_v (opv_len rfl) rfl ?_
 refine tri_guard_run rfl rfl rfl ?_
 refine tri_v (opv_lss rfl rfl) rfl ?_
 refine tri_v (opv_pick_f rfl rfl) rfl ?_
 refine tM rfl rfl ?_
 refine tri_false rfl rfl (by omega) ?_
 refine tri_guard_run rfl rfl rfl ?_
 refine tri_v (opv_fieldAddr rfl rfl) rfl ?_
 refine tri_guard_run rfl rfl rfl ?_
 refine tri_v (opv_load1 rfl rfl rfl) rfl ?_
 refine tri_guard_run rfl rfl rfl (tM rfl rfl (tri_guard_run rfl rfl rfl ?_))
 refine tri_v (opv_indexAddrS rfl rfl (by omega) (by omega) (by assumption) rfl) rfl ?_
 refine tri_guard_run rfl rfl rfl ?_
 refine tri_v (opv_fieldAddrE rfl (by assumption) (by omega) rfl) rfl ?_
 refine tri_guard_run rfl rfl rfl ?_
 refine tri_v (opv_loadE1 rfl (by assumption) rfl (by omega) rfl rfl) rfl ?_
 refine tri_guard_run rfl rfl rfl ?_
 refine tri_v (opv_lss rfl rfl) rfl ?_
 refine tri_v (opv_pick_f rfl rfl) rfl ?_
 refine tN (tT ?_)
 refine tri_cond_not rfl (by omega) ?_
 refine tri_skip (tT (tS (tR ?_)))
 refine tri_v (opv_loadA rfl rfl rfl) rfl ?_
 refine tM rfl rfl ?_
 refine tri_g (opg_call (xs := [_, _]) rfl (ref07_of a5 sA ⟨a1, a2⟩ (show 1 ≤ (R6.nd rA.1 rA.2.1).lv by unfold R6.nd; omega) (by omega))) rfl ?_
 rintro _ _ I8 ⟨x8, y8, rfl, hs8, rfl, hI8⟩
 have sB' := sB.mono hI8
 have sT' := sT.mono hI8
 rw [a6]
 refine tA rfl rfl (tN (tT (tS (tR (tM rfl rfl ?_)))))
 refine tri_v (opv_eql rfl rfl) rfl ?_
 refine tM rfl rfl ?_
 refine tri_true rfl rfl (a3) ?_
 refine tri_guard_run rfl rfl rfl (tM rfl rfl (tri_guard_run rfl rfl rfl ?_))
 refine tri_v (opv_len rfl) rfl ?_
 refine tri_guard_run rfl rfl rfl ?_
 refine tri_v (opv_eql rfl rfl) rfl ?_
 refine tri_v (opv_pick_t rfl rfl) rfl ?_
 refine tM rfl rfl ?_
 refine tri_true rfl rfl (by decide) ?_
 refine tri_guard_run rfl rfl rfl (tM rfl rfl (tri_guard_run rfl rfl rfl ?_))
 refine tri_v (opv_eql rfl rfl) rfl ?_
 refine tri_v (opv_pick_t rfl rfl) rfl ?_
 refine tM rfl rfl ?_
 refine tri_true rfl rfl (g4) ?_
 refine tri_guard_run rfl rfl rfl ?_
 refine tri_v (opv_fieldAddr rfl rfl) rfl ?_
 refine tri_guard_run rfl rfl rfl ?_
 refine tri_v (opv_load1 rfl rfl rfl) rfl ?_
 refine tri_guard_run rfl rfl rfl (tM rfl rfl (tri_guard_run rfl rfl rfl ?_))
 refine tri_v (opv_indexAddrS rfl rfl (by omega) (by omega) (by assumption) rfl) rfl ?_
 refine tri_guard_run rfl rfl rfl ?_
 refine tri_v (opv_fieldAddrE rfl (by assumption) (by omega) rfl) rfl ?_
 refine tri_guard_run rfl rfl rfl ?_
 refine tri_v (opv_loadE1 rfl (by assumption) rfl (by omega) rfl rfl) rfl ?_
 refine tri_guard_run rfl rfl rfl ?_
 refine tri_v (opv_eql rfl rfl) rfl ?_
 refine tri_v (opv_pick_t rfl rfl) rfl ?_
 refine tM rfl rfl ?_
 refine tri_true rfl rfl (g5) ?_
 refine tri_guard_run rfl rfl rfl ?_
 refine tri_v (opv_fieldAddr rfl rfl) rfl ?_
 refine tri_guard_run rfl rfl rfl ?_
 refine tri_v (opv_load1 rfl rfl rfl) rfl ?_
 refine tri_guard_run rfl rfl rfl (tM rfl rfl (tri_guard_run rfl rfl rfl ?_))
 refine tri_v (opv_indexAddrS rfl rfl (by omega) (by omega) (by assumption) rfl) rfl ?_
 refine tri_guard_run rfl rfl rfl ?_
 refine tri_v (opv_fieldAddrE rfl (by assumption) (by omega) rfl) rfl ?_
 refine tri_guard_run rfl rfl rfl ?_
 refine tri_v (opv_loadE1 rfl (by assumption) rfl (by omega) rfl rfl) rfl ?_
 refine tri_guard_run rfl rfl rfl ?_
 refine tri_v (opv_eql rfl rfl) rfl ?_
 refine tri_v (opv_pick_t rfl rfl) rfl ?_
 refine tM rfl rfl ?_
 refine tri_true rfl rfl (g6) ?_
 refine tri_guard_run rfl rfl rfl (tM rfl rfl (tri_guard_run rfl rfl rfl ?_))
 refine tri_v (opv_eql rfl rfl) rfl ?_
 refine tri_v (opv_pick_t rfl rfl) rfl ?_
 refine tM rfl rfl ?_
 refine tri_true rfl rfl (t3) ?_
 refine tri_guard_run rfl rfl rfl ?_
 refine tri_v (opv_fieldAddr rfl rfl) rfl ?_
 refine tri_guard_run rfl rfl rfl ?_
 refine tri_v (opv_load1 rfl rfl rfl) rfl ?_
 refine tri_guard_run rfl rfl rfl (tM rfl rfl (tri_guard_run rfl rfl rfl ?_))
 refine tri_v (opv_indexAddrS rfl rfl (by omega) (by omega) (by assumption) rfl) rfl ?_
 refine tri_guard_run rfl rfl rfl ?_
 refine tri_v (opv_fieldAddrE rfl (by assumption) (by omega) rfl) rfl ?_
 refine tri_guard_run rfl rfl rfl ?_
 refine tri_v (opv_loadE1 rfl (by assumption) rfl (by omega) rfl rfl) rfl ?_
 refine tri_guard_run rfl rfl rfl ?_
 refine tri_v (opv_eql rfl rfl) rfl ?_
 refine tri_v (opv_pick_t rfl rfl) rfl ?_
 refine tM rfl rfl ?_
 refine tri_true rfl rfl (t4) ?_
 refine tri_guard_run rfl rfl rfl (tM rfl rfl (tri_guard_run rfl rfl rfl ?_))
 refine tri_v (opv_eql rfl rfl) rfl ?_
 refine tri_v (opv_pick_t rfl rfl) rfl ?_
 refine tM rfl rfl ?_
 refine tri_true rfl rfl (e1) ?_
 refine tri_guard_run rfl rfl rfl (tM rfl rfl (tri_guard_run rfl rfl rfl ?_))
 refine tri_v (opv_eql rfl rfl) rfl ?_
 refine tri_v (opv_pick_t rfl rfl) rfl ?_
 refine tA rfl rfl (tN (tT (tri_ret ?_)))
 refine tri_end A Suf.h rfl (.cons (rv_tmp rfl) .nil) ⟨congrArg Value.bool (decide_eq_true e2), rfl, fun _ h => hI8 (hI7 (hI6 (hI5 (hI4 (hI3 (hI2 (hI1 (hI0 h)))))))) ⟩
end Go.GL

set_option linter.unusedVariables false
namespace Go.GL
/-! ### What is made of cells -/
namespace R7
open R6
def deadB (ns : List Node) (j : Nat) : Bool := ns.any fun x => decide (x.lv = (j : Int) ∧ x.pop = 0)
/-- Of how many levels there is no node yet in which all is dead. -/
def E (ns : List Node) : Nat → Nat
 | 0 => 0
 | L + 1 => E ns L + if deadB ns (L + 1) = true then 0 else 1
theorem deadB_iff {ns : List Node} {j : Nat} : deadB ns j = true ↔ ∃ n, IsN ns j n ∧ (nd ns n).pop = 0 := by
 unfold deadB
 rw [List.any_eq_true]
 constructor
 ·rintro ⟨x, hx, h⟩
  obtain ⟨i, hi, rfl⟩ := List.getElem_of_mem hx
  have h' := of_decide_eq_true h
  have e : nd ns (i : Int) = ns[i] := by simp [nd, hi]
  exact ⟨i, ⟨⟨by omega, by omega⟩, by rw [e]; exact h'.1⟩, by rw [e]; exact h'.2⟩
 ·rintro ⟨n, ⟨⟨h0, h1⟩, h2⟩, h3⟩
  have hlt : n.toNat < ns.length := by omega
  have e : nd ns n = ns[n.toNat] := by simp [nd, hlt]
  rw [e] at h2 h3
  exact ⟨_, List.getElem_mem hlt, by simp [h2, h3]⟩
theorem deadB_pre {ns ms : List Node} (h : ns <+: ms) {j : Nat} (hd : deadB ns j = true) : deadB ms j = true := by
 obtain ⟨t, rfl⟩ := h
 unfold deadB at *
 rw [List.any_append, hd]; rfl
theorem E_pre {ns ms : List Node} (h : ns <+: ms) : ∀ L, E ms L ≤ E ns L
 | 0 => Nat.le_refl _
 | L + 1 => by
  have := E_pre h L
  simp only [E]
  by_cases hd : deadB ns (L + 1) = true
  ·rw [if_pos hd, if_pos (deadB_pre h hd)]; omega
  ·rw [if_neg hd]; split <;> omega
theorem E_new {ns ms : List Node} (h : ns <+: ms) {j : Nat} (h0 : ¬ deadB ns (j + 1) = true) (h1 : deadB ms (j + 1) = true) : ∀ L, j < L → E ms L + 1 ≤ E ns L
 | 0, hj => absurd hj (by omega)
 | L + 1, hj => by
  simp only [E]
  by_cases e : j = L
  ·subst e
   have := E_pre h j
   rw [if_neg h0, if_pos h1]; omega
  ·have := E_new h h0 h1 L (by omega)
   by_cases hd : deadB ns (L + 1) = true
   ·rw [if_pos hd, if_pos (deadB_pre h hd)]; omega
   ·rw [if_neg hd]; split <;> omega
theorem E_le (ns : List Node) : ∀ L, E ns L ≤ L
 | 0 => Nat.le_refl _
 | L + 1 => by have := E_le ns L; simp only [E]; split <;> omega
theorem E_pos {ns : List Node} {j L : Nat} (hj : j < L) (h0 : ¬ deadB ns (j + 1) = true) : 1 ≤ E ns L := by
 induction L with
 | zero => omega
 | succ L ih =>
  simp only [E]
  by_cases e : j = L
  ·subst e; rw [if_neg h0]; omega
  ·have := ih (by omega); omega
/-- A node of a level is made; it cost so many nodes, and what was dead of the levels to L. -/
structure Mk (ns : List Node) (L cost lv : Nat) (ms : List Node) (m : Int) : Prop where
 wf : Wf ms
 pre : ns <+: ms
 is : IsN ms lv m
 len : ms.length + E ms L ≤ ns.length + E ns L + cost
theorem fit4_of {ns : List Node} {lv : Nat} (hl : lv + 1 ≤ 42) {a b c d : Int} (ha : IsN ns lv a) (hb : IsN ns lv b) (hc : IsN ns lv c) (hd : IsN ns lv d) : fit4 ns a b c d := by
 refine ⟨ha.1, ⟨hb.1, ?_⟩, ⟨hc.1, ?_⟩, ⟨hd.1, ?_⟩, ?_⟩
 ·rw [hb.2, ha.2]
 ·rw [hc.2, ha.2]
 ·rw [hd.2, ha.2]
 ·rw [ha.2]; omega
theorem dead_found {ns : List Node} (h : Wf ns) {j : Nat} {n d : Int} (hn : IsN ns j n) (hp : (nd ns n).pop = 0) (hd : IsN ns (j + 1) d) (hdp : (nd ns d).pop = 0) : R6.at_ ns [n, n, n, n] = d := by
 obtain ⟨a, b, c, e⟩ := kids4 h hd
 obtain ⟨a', b', c', e'⟩ := (dead_kids h hd).1 hdp
 have := h.at_ hd.1 (by rw [hd.2]; omega)
 unfold Node.kids at this
 rwa [dead_uniq h a hn a' hp, dead_uniq h b hn b' hp, dead_uniq h c hn c' hp, dead_uniq h e hn e' hp] at this
theorem emptyF_ok {room : Int} {L : Nat} (hL : L ≤ 42) : ∀ (k : Nat) (ns : List Node) (n : Int) (j : Nat), Wf ns → IsN ns j n → (nd ns n).pop = 0 → j + k ≤ L → ((ns.length + E ns L : Nat) : Int) ≤ room →
  ∃ ms m, emptyF room k ns n = (ms, m, 0) ∧ Mk ns L 0 (j + k) ms m ∧ (nd ms m).pop = 0
 | 0, ns, n, j, h, hn, hp, hj, hr => ⟨ns, n, rfl, ⟨h, List.prefix_refl _, hn, Nat.le_refl _⟩, hp⟩
 | k + 1, ns, n, j, h, hn, hp, hj, hr => by
  have hf := fit4_of (by omega) hn hn hn hn
  have hroom : 0 ≤ R6.at_ ns [n, n, n, n] ∨ (ns.length : Int) < room := by
   by_cases hd : deadB ns (j + 1) = true
   ·obtain ⟨d, hd1, hd2⟩ := deadB_iff.1 hd
    rw [dead_found h hn hp hd1 hd2]; exact .inl hd1.1.1
   ·have := E_pos (L := L) (by omega) hd
    exact .inr (by omega)
  obtain ⟨ms, m, e, ok⟩ := put_ok h hf hroom
  have him : IsN ms (j + 1) m := ⟨ok.mem, by rw [ok.lv, hn.2]; omega⟩
  have hpm : (nd ms m).pop = 0 := by rw [ok.nd]; exact (pop4_zero (by omega) (by omega) (by omega) (by omega)).2 ⟨hp, hp, hp, hp⟩
  have hlen : ms.length + E ms L ≤ ns.length + E ns L := by
   by_cases hd : deadB ns (j + 1) = true
   ·obtain ⟨d, hd1, hd2⟩ := deadB_iff.1 hd
    have hat := dead_found h hn hp hd1 hd2
    have : put ns room n n n n = (ns, d, 0) := put_again h hf hd1.1 (by rw [hd1.2]; omega) (by rw [← hat]; exact (at_found (by rw [hat]; exact hd1.1.1)).2.2)
    rw [this] at e
    cases e
    exact Nat.le_refl _
   ·have := E_new ok.pre hd (deadB_iff.2 ⟨m, him, hpm⟩) L (by omega)
    have := ok.len
    omega
  obtain ⟨ms2, m2, e2, ok2, hp2⟩ := emptyF_ok (room := room) hL k ms m (j + 1) ok.wf him hpm (by omega) (by omega)
  refine ⟨ms2, m2, ?_, ⟨ok2.wf, ok.pre.trans ok2.pre, by rw [show j + (k + 1) = j + 1 + k by omega]; exact ok2.is, by have := ok2.len; omega⟩, hp2⟩
  simp only [emptyF, e]
  rw [if_neg (by omega)]
  exact e2
theorem empty_ok {room : Int} {L : Nat} (hL : L ≤ 42) {ns : List Node} {lv : Nat} (h : Wf ns) (hlv : lv ≤ L) (hr : ((ns.length + E ns L : Nat) : Int) ≤ room) : ∃ ms m, empty ns room lv = (ms, m, 0) ∧ Mk ns L 0 lv ms m ∧ (nd ms m).pop = 0 := by
 have := emptyF_ok (room := room) hL lv ns 0 0 h ⟨h.in0, by rw [h.nd0]; rfl⟩ (by rw [h.nd0]; rfl) (by omega) hr
 unfold empty
 simpa using this
/-! #### the quarters of a list of cells -/
def qx' (h : Int) (c : Cell) : Nat := qx h c
theorem part_sum (h : Int) (l : List Cell) : (part h 0 l).length + (part h 1 l).length + (part h 2 l).length + (part h 3 l).length = l.length := by
 induction l with
 | nil => rfl
 | cons c l ih =>
  unfold part at *
  simp only [List.length_map] at *
  have hk : qx h c = 0 ∨ qx h c = 1 ∨ qx h c = 2 ∨ qx h c = 3 := by unfold qx; split <;> split <;> simp
  rcases hk with e | e | e | e <;> simp only [List.filter_cons, e] <;> simp <;> omega
theorem part_in {lv : Nat} {l : List Cell} (hb : ∀ c ∈ l, inQ (lv + 1) c.x c.y) (k : Nat) : ∀ c ∈ part (2 ^ lv) k l, inQ lv c.x c.y := by
 intro c hc
 obtain ⟨d, hd, rfl⟩ := List.mem_map.1 hc
 have := hb d (List.mem_filter.1 hd).1
 unfold inQ at *
 rw [p2s] at this
 have := p2pos lv
 unfold qc
 simp only
 split <;> split <;> omega
theorem mem_part {lv : Nat} {l : List Cell} (hb : ∀ c ∈ l, inQ (lv + 1) c.x c.y) {x y : Int} (hq : inQ lv x y) :
  ((⟨x, y⟩ : Cell) ∈ part (2 ^ lv) 0 l ↔ (⟨x, y⟩ : Cell) ∈ l) ∧ ((⟨x, y⟩ : Cell) ∈ part (2 ^ lv) 1 l ↔ (⟨x + 2 ^ lv, y⟩ : Cell) ∈ l) ∧ ((⟨x, y⟩ : Cell) ∈ part (2 ^ lv) 2 l ↔ (⟨x, y + 2 ^ lv⟩ : Cell) ∈ l) ∧ ((⟨x, y⟩ : Cell) ∈ part (2 ^ lv) 3 l ↔ (⟨x + 2 ^ lv, y + 2 ^ lv⟩ : Cell) ∈ l) := by
 have hp := p2pos lv
 unfold inQ at hq
 have key : ∀ k (X Y : Int), qx (2 ^ lv) ⟨X, Y⟩ = k → qc (2 ^ lv) ⟨X, Y⟩ = ⟨x, y⟩ → (∀ c ∈ l, qx (2 ^ lv) c = k → qc (2 ^ lv) c = ⟨x, y⟩ → c = ⟨X, Y⟩) → ((⟨x, y⟩ : Cell) ∈ part (2 ^ lv) k l ↔ (⟨X, Y⟩ : Cell) ∈ l) := by
  intro k X Y h1 h2 h3
  unfold part
  rw [List.mem_map]
  constructor
  ·rintro ⟨c, hc, e⟩
   obtain ⟨hc1, hc2⟩ := List.mem_filter.1 hc
   have := h3 c hc1 (by simpa using hc2) e
   rwa [this] at hc1
  ·intro hm
   exact ⟨_, List.mem_filter.2 ⟨hm, by simp [h1]⟩, h2⟩
 refine ⟨key 0 x y ?_ ?_ ?_, key 1 _ _ ?_ ?_ ?_, key 2 _ _ ?_ ?_ ?_, key 3 _ _ ?_ ?_ ?_⟩
 all_goals simp only [qx, qc]
 all_goals first
  | (rintro ⟨cx, cy⟩ hc; have := hb _ hc; unfold inQ at this; simp only [Cell.mk.injEq] at *; intro h1 h2; revert h1 h2; split <;> split <;> intro h1 h2 <;> omega)
  | (split <;> split <;> omega)
  | (simp only [Cell.mk.injEq]; constructor <;> split <;> omega)
end R7
end Go.GL

set_option linter.unusedVariables false
namespace Go.GL
namespace R7
open R6
theorem build_nl (room : Int) (lv : Nat) (ns : List Node) : build room lv ns [] = empty ns room lv := by cases lv <;> rfl
theorem build_sc (room : Int) (lv : Nat) (ns : List Node) {l : List Cell} (h : l ≠ []) {a0 a1 a2 a3 : List Node} {m0 m1 m2 m3 : Int} (h0 : build room lv ns (part (2 ^ lv) 0 l) = (a0, m0, 0)) (h1 : build room lv a0 (part (2 ^ lv) 1 l) = (a1, m1, 0)) (h2 : build room lv a1 (part (2 ^ lv) 2 l) = (a2, m2, 0)) (h3 : build room lv a2 (part (2 ^ lv) 3 l) = (a3, m3, 0)) :
  build room (lv + 1) ns l = R6.put a3 room m0 m1 m2 m3 := by
 cases l with
 | nil => exact absurd rfl h
 | cons c l =>
  simp only [build, h0, h1, h2, h3]
  rfl
theorem al_put {ns ms : List Node} {lv : Nat} {a b c d m : Int} (h : Wf ns) (ha : IsN ns lv a) (hb : IsN ns lv b) (hc : IsN ns lv c) (hd : IsN ns lv d) (ok : PutOk ns a b c d ms m) (x y : Int) :
  al ms (lv + 1) m x y = if y < 2 ^ lv then (if x < 2 ^ lv then al ns lv a x y else al ns lv b (x - 2 ^ lv) y) else (if x < 2 ^ lv then al ns lv c x (y - 2 ^ lv) else al ns lv d (x - 2 ^ lv) (y - 2 ^ lv)) := by
 simp only [al, ok.nd, mk4]
 rw [al_pre h ok.pre _ _ _ _ ha, al_pre h ok.pre _ _ _ _ hb, al_pre h ok.pre _ _ _ _ hc, al_pre h ok.pre _ _ _ _ hd]
theorem build_ok {room : Int} {L : Nat} (hL : L ≤ 42) : ∀ (lv : Nat) (ns : List Node) (l : List Cell), lv ≤ L → Wf ns → (∀ c ∈ l, inQ lv c.x c.y) → ((ns.length + E ns L + l.length * lv : Nat) : Int) ≤ room →
  ∃ ms m, build room lv ns l = (ms, m, 0) ∧ Mk ns L (l.length * lv) lv ms m ∧ ∀ x y, inQ lv x y → al ms lv m x y = decide ((⟨x, y⟩ : Cell) ∈ l)
 | lv, ns, [], hlv, h, hb, hr => by
  obtain ⟨ms, m, e, ok, hp⟩ := empty_ok (room := room) hL h hlv (by simpa using hr)
  refine ⟨ms, m, by rw [build_nl]; exact e, ?_, fun x y _ => ?_⟩
  ·simpa using ok
  ·rw [al_dead ok.wf lv m x y ok.is hp]; simp
 | 0, ns, c :: l, hlv, h, hb, hr => by
  refine ⟨ns, 1, rfl, ⟨h, List.prefix_refl _, ⟨h.in1, by rw [h.nd1]; rfl⟩, by omega⟩, fun x y hq => ?_⟩
  have hc := hb c List.mem_cons_self
  unfold inQ at hq hc
  simp only [Int.pow_zero] at hq hc
  have e : (⟨x, y⟩ : Cell) = c := by cases c; simp only [Cell.mk.injEq] at *; omega
  rw [e]
  simp [al]
 | lv + 1, ns, c :: l, hlv, h, hb, hr => by
  have hne : c :: l ≠ [] := by simp
  generalize hls : c :: l = ls at *
  have hpl := part_sum (2 ^ lv) ls
  have hlpos : 1 ≤ ls.length := by rw [← hls]; simp
  have hpb := part_in hb
  have hmul : (part (2 ^ lv) 0 ls).length * lv + (part (2 ^ lv) 1 ls).length * lv + (part (2 ^ lv) 2 ls).length * lv + (part (2 ^ lv) 3 ls).length * lv = ls.length * lv := by rw [← Nat.add_mul, ← Nat.add_mul, ← Nat.add_mul, hpl]
  have hmul2 : ls.length * (lv + 1) = ls.length * lv + ls.length := Nat.mul_succ _ _
  rw [hmul2] at hr
  obtain ⟨a0, m0, e0, k0, s0⟩ := build_ok (room := room) hL lv ns (part (2 ^ lv) 0 ls) (by omega) h (hpb 0) (by omega)
  have l0 := k0.len
  obtain ⟨a1, m1, e1, k1, s1⟩ := build_ok (room := room) hL lv a0 (part (2 ^ lv) 1 ls) (by omega) k0.wf (hpb 1) (by omega)
  have l1 := k1.len
  obtain ⟨a2, m2, e2, k2, s2⟩ := build_ok (room := room) hL lv a1 (part (2 ^ lv) 2 ls) (by omega) k1.wf (hpb 2) (by omega)
  have l2 := k2.len
  obtain ⟨a3, m3, e3, k3, s3⟩ := build_ok (room := room) hL lv a2 (part (2 ^ lv) 3 ls) (by omega) k2.wf (hpb 3) (by omega)
  have l3 := k3.len
  have i0 : IsN a3 lv m0 := ((k0.is.pre k1.pre).pre k2.pre).pre k3.pre
  have i1 : IsN a3 lv m1 := (k1.is.pre k2.pre).pre k3.pre
  have i2 : IsN a3 lv m2 := k2.is.pre k3.pre
  have i3 : IsN a3 lv m3 := k3.is
  obtain ⟨ms, m, e, ok⟩ := put_ok k3.wf (room := room) (fit4_of (by omega) i0 i1 i2 i3) (.inr (by omega))
  refine ⟨ms, m, by rw [build_sc room lv ns hne e0 e1 e2 e3]; exact e, ⟨ok.wf, ((((k0.pre.trans k1.pre).trans k2.pre).trans k3.pre).trans ok.pre), ⟨ok.mem, by rw [ok.lv, i0.2]; omega⟩, ?_⟩, fun x y hq => ?_⟩
  ·have := E_pre ok.pre L
   have := ok.len
   omega
  ·rw [al_put k3.wf i0 i1 i2 i3 ok]
   obtain ⟨q0, q1, q2, q3⟩ := inQ_succ hq
   by_cases hy : y < 2 ^ lv
   ·rw [if_pos hy]
    by_cases hx : x < 2 ^ lv
    ·rw [if_pos hx, al_pre k2.wf k3.pre _ _ _ _ ((k0.is.pre k1.pre).pre k2.pre), al_pre k1.wf k2.pre _ _ _ _ (k0.is.pre k1.pre), al_pre k0.wf k1.pre _ _ _ _ k0.is, s0 _ _ (q0 hy hx)]
     exact decide_eq_decide.2 (mem_part hb (q0 hy hx)).1
    ·rw [if_neg hx, al_pre k2.wf k3.pre _ _ _ _ (k1.is.pre k2.pre), al_pre k1.wf k2.pre _ _ _ _ k1.is, s1 _ _ (q1 hy hx)]
     have := (mem_part hb (q1 hy hx)).2.1
     rw [show x - 2 ^ lv + 2 ^ lv = x by omega] at this
     exact decide_eq_decide.2 this
   ·rw [if_neg hy]
    by_cases hx : x < 2 ^ lv
    ·rw [if_pos hx, al_pre k2.wf k3.pre _ _ _ _ k2.is, s2 _ _ (q2 hy hx)]
     have := (mem_part hb (q2 hy hx)).2.2.1
     rw [show y - 2 ^ lv + 2 ^ lv = y by omega] at this
     exact decide_eq_decide.2 this
    ·rw [if_neg hx, s3 _ _ (q3 hy hx)]
     have := (mem_part hb (q3 hy hx)).2.2.2
     rw [show y - 2 ^ lv + 2 ^ lv = y by omega, show x - 2 ^ lv + 2 ^ lv = x by omega] at this
     exact decide_eq_decide.2 this
theorem side_succ (lv : Nat) : side ((lv + 1 : Nat) : Int) = 2 ^ lv := by
 unfold side
 have : (((lv + 1 : Nat) : Int) - 1).toNat = lv := by omega
 rw [this]
/-- What 'make' comes to. -/
theorem make_ok {ns : List Node} {room : Int} {l : List Cell} {lv : Nat} {L : Nat} (hL : L ≤ 42) (hlv : lv + 1 ≤ L) (h : R6.right ns room) (hl : R1.right l) (hb : ∀ c ∈ l, inL ((lv + 1 : Nat) : Int) c) (hr : ((ns.length + E ns L + l.length * (lv + 1) : Nat) : Int) ≤ room) :
  ∃ ms m, make ns room l ((lv + 1 : Nat) : Int) = (ms, m, 0) ∧ Mk ns L (l.length * (lv + 1)) (lv + 1) ms m ∧ ∀ c : Cell, inL ((lv + 1 : Nat) : Int) c → al ms (lv + 1) m (c.x + 2 ^ lv) (c.y + 2 ^ lv) = decide (c ∈ l) := by
 have hw := (right_iff.1 h).2
 have hs := side_succ lv
 have hp := p2pos lv
 have hcb : ∀ c ∈ corner (side ((lv + 1 : Nat) : Int)) l, inQ (lv + 1) c.x c.y := fun c hc => by
  obtain ⟨d, hd, rfl⟩ := List.mem_map.1 hc
  have := hb d hd
  unfold inL at this
  rw [hs] at this
  unfold inQ
  rw [p2s, hs]
  simp only
  omega
 obtain ⟨ms, m, e, ok, sem⟩ := build_ok (room := room) hL (lv + 1) ns (corner (side ((lv + 1 : Nat) : Int)) l) hlv hw hcb (by unfold corner; rw [List.length_map]; exact hr)
 have hlen : (corner (side ((lv + 1 : Nat) : Int)) l).length = l.length := by unfold corner; rw [List.length_map]
 rw [hlen] at ok
 refine ⟨ms, m, ?_, ok, fun c hc => ?_⟩
 ·unfold make
  rw [if_pos ⟨h, by omega, by omega, hl⟩, if_pos (fun i hi => ?_)]
  ·have e3 : ((lv + 1 : Nat) : Int).toNat = lv + 1 := by omega
   rw [e3, e]
   simp
  ·have e4 : R1.g l i = l[i] := by simp [R1.g, hi]
   rw [e4]; exact hb _ (List.getElem_mem hi)
 ·unfold inL at hc
  rw [hs] at hc
  rw [sem _ _ (by unfold inQ; rw [p2s]; omega)]
  refine decide_eq_decide.2 ?_
  unfold corner
  rw [List.mem_map, hs]
  constructor
  ·rintro ⟨d, hd, e⟩
   have : d = c := by cases d; cases c; simp only [Cell.mk.injEq] at *; omega
   rwa [this] at hd
  ·intro hc
   exact ⟨c, hc, rfl⟩
/-- What 'of' tells. -/
theorem mem_of {ns : List Node} (h : Wf ns) {lv : Nat} {n : Int} (hn : IsN ns (lv + 1) n) (c : Cell) : c ∈ of ns n ↔ inL ((lv + 1 : Nat) : Int) c ∧ al ns (lv + 1) n (c.x + 2 ^ lv) (c.y + 2 ^ lv) = true := by
 unfold of
 have hs := side_succ lv
 have e3 : ((lv + 1 : Nat) : Int).toNat = lv + 1 := by omega
 rw [hn.2, e3, mem_flat h _ _ _ _ hn, hs]
 simp only
 rw [show c.x - -2 ^ lv = c.x + 2 ^ lv by omega, show c.y - -2 ^ lv = c.y + 2 ^ lv by omega]
 unfold inQ inL
 rw [hs, p2s]
 constructor
 ·rintro ⟨q, k⟩; exact ⟨by omega, k⟩
 ·rintro ⟨q, k⟩; exact ⟨by omega, k⟩
end R7
end Go.GL

set_option linter.unusedVariables false
namespace Go.GL
open R6 R7
/-! ### What the laws' squares are -/
namespace RL
theorem new_wf : Wf [n0, n1] := ⟨by decide, rfl, rfl, fun i hi h2 => absurd hi (by simp; omega)⟩
theorem putRaw_ok {rm : Int} (h2 : 2 ≤ rm) (h3 : rm ≤ 100000) {ns : List Node} (h : Wf ns) (hl : (ns.length : Int) ≤ rm) (r : Five) : Wf (putRaw rm ns r) ∧ ((putRaw rm ns r).length : Int) ≤ rm ∧ ns <+: putRaw rm ns r := by
 unfold putRaw intern
 rw [if_pos (right_iff.2 ⟨⟨h2, h3, hl⟩, h⟩)]
 exact ⟨(put_wf h _ _ _ _ _).1, put_room hl _ _ _ _, (put_wf h _ _ _ _ _).2⟩
theorem foldl_ok {rm : Int} (h2 : 2 ≤ rm) (h3 : rm ≤ 100000) : ∀ (l : List Five) (ns : List Node), Wf ns → (ns.length : Int) ≤ rm → Wf (l.foldl (putRaw rm) ns) ∧ ((l.foldl (putRaw rm) ns).length : Int) ≤ rm
 | [], ns, h, hl => ⟨h, hl⟩
 | r :: l, ns, h, hl => by
  obtain ⟨a, b, _⟩ := putRaw_ok h2 h3 h hl r
  exact foldl_ok h2 h3 l _ a b
theorem store_ok {rm : Int} (h2 : 2 ≤ rm) (h3 : rm ≤ 100000) (l : List Five) : Wf (store rm l) ∧ ((store rm l).length : Int) ≤ rm := foldl_ok h2 h3 _ _ new_wf (by simpa using h2)
theorem cell16_bd (r : Cell) : -8 ≤ (cell16 r).x ∧ (cell16 r).x < 8 ∧ -8 ≤ (cell16 r).y ∧ (cell16 r).y < 8 := by
 have a := pk_bd (c := r.x) (n := 16) (by omega)
 have b := pk_bd (c := r.y) (n := 16) (by omega)
 unfold cell16
 simp only
 omega
theorem mem_set {raw : List Cell} {c : Cell} (h : c ∈ set raw) : -8 ≤ c.x ∧ c.x < 8 ∧ -8 ≤ c.y ∧ c.y < 8 := by
 unfold set at h
 rw [R1.mem_puts] at h
 obtain ⟨r, _, rfl⟩ := List.mem_map.1 h
 exact cell16_bd r
theorem set_le (raw : List Cell) : (set raw).length ≤ 60 := by
 have key : ∀ (l acc : List Cell), (l.foldl R1.put acc).length ≤ acc.length + l.length := by
  intro l
  induction l with
  | nil => intro acc; simp
  | cons c l ih =>
   intro acc
   have h1 := ih (R1.put acc c)
   have h2 := R1.put_len acc c
   simp only [List.foldl_cons, List.length_cons]
   omega
 have := key ((raw.take 60).map cell16) []
 rw [List.length_map, List.length_take] at this
 unfold set R1.puts
 simp only [List.length_nil] at this
 omega
theorem set_right (raw : List Cell) : R1.right (set raw) := R1.right_of (R1.puts_srt _) (fun c hc => by have := mem_set hc; unfold R1.inB; omega) (by have := set_le raw; omega)
theorem p8 {lv : Nat} (h : 3 ≤ lv) : (8:Int) ≤ 2 ^ lv := by
 have h2 : (2:Nat) ^ 3 ≤ 2 ^ lv := Nat.pow_le_pow_right (by omega) h
 have h3 : (2:Int) ^ lv = ((2 ^ lv : Nat) : Int) := by simp
 rw [h3]; omega
/-- The raw square: a node of the set's cells. -/
structure Sq (c : Int) (nodes : List Five) (raw : List Cell) (level : Int) (lv : Nat) (ms : List Node) (m : Int) : Prop where
 lv3 : 3 ≤ lv ∧ lv ≤ 6
 lve : ((lv + 1 : Nat) : Int) = 4 + pk level 4
 eq : square c nodes raw level = (ms, m, 0)
 wf : Wf ms
 is : IsN ms (lv + 1) m
 len : (ms.length : Int) ≤ room c + 427
 pre : store (room c) nodes <+: ms
 sem : ∀ d : Cell, inL ((lv + 1 : Nat) : Int) d → al ms (lv + 1) m (d.x + 2 ^ lv) (d.y + 2 ^ lv) = decide (d ∈ set raw)
theorem square_ok (c : Int) (nodes : List Five) (raw : List Cell) (level : Int) : ∃ lv ms m, Sq c nodes raw level lv ms m := by
 have hrm := room_bd c
 have hpk := pk_bd (c := level) (n := 4) (by omega)
 obtain ⟨hw, hl⟩ := store_ok (rm := room c) (by omega) (by omega) nodes
 obtain ⟨lv, hlv⟩ : ∃ lv : Nat, ((lv + 1 : Nat) : Int) = 4 + pk level 4 := ⟨(3 + pk level 4).toNat, by omega⟩
 have hs := side_succ lv
 have h8 := p8 (lv := lv) (by omega)
 have hlen := set_le raw
 have hE := E_le (store (room c) nodes) 7
 have hmul : (set raw).length * (lv + 1) ≤ 60 * 7 := Nat.mul_le_mul hlen (by omega)
 obtain ⟨ms, m, e, ok, sem⟩ := make_ok (room := room c + 500) (L := 7) (lv := lv) (by omega) (by omega) (right_iff.2 ⟨⟨by omega, by omega, by omega⟩, hw⟩) (set_right raw) (fun d hd => by have := mem_set hd; unfold inL; rw [hs]; omega) (by omega)
 refine ⟨lv, ms, m, ⟨by omega, hlv, ?_, ok.wf, ok.is, ?_, ok.pre, sem⟩⟩
 ·unfold square; rw [← hlv]; exact e
 ·have := ok.len; omega
end RL
/-! ### Sixteen and nine -/
namespace R8
theorem s16_is {ns : List Node} (h : Wf ns) {lv : Nat} {n : Int} (hn : IsN ns (lv + 2) n) : ∀ i : Int, 0 ≤ i → i < 16 → IsN ns lv (g (s16 ns n) i) := by
 obtain ⟨a, b, c, d⟩ := kids4 h hn
 obtain ⟨a0, a1, a2, a3⟩ := kids4 h a
 obtain ⟨b0, b1, b2, b3⟩ := kids4 h b
 obtain ⟨c0, c1, c2, c3⟩ := kids4 h c
 obtain ⟨d0, d1, d2, d3⟩ := kids4 h d
 intro i h0 h16
 obtain ⟨k, rfl⟩ : ∃ k : Nat, i = k := ⟨i.toNat, by omega⟩
 have hk : k < 16 := by omega
 unfold g s16
 rw [Int.toNat_natCast]
 match k, hk with
 | 0, _ => exact a0
 | 1, _ => exact a1
 | 2, _ => exact b0
 | 3, _ => exact b1
 | 4, _ => exact a2
 | 5, _ => exact a3
 | 6, _ => exact b2
 | 7, _ => exact b3
 | 8, _ => exact c0
 | 9, _ => exact c1
 | 10, _ => exact d0
 | 11, _ => exact d1
 | 12, _ => exact c2
 | 13, _ => exact c3
 | 14, _ => exact d2
 | 15, _ => exact d3
/-- A square of the sixteen. -/
def sqK (l : List Int) (y x : Int) : List Int := [g l (4 * y + x), g l (4 * y + x + 1), g l (4 * y + x + 4), g l (4 * y + x + 5)]
/-- A node that is a square of the sixteen. -/
structure IsSq (ms : List Node) (lv : Nat) (l : List Int) (y x m : Int) : Prop where
 is : IsN ms (lv + 1) m
 kids : (nd ms m).kids = sqK l y x
theorem IsSq.pre {ns ms : List Node} (hp : ns <+: ms) {lv : Nat} {l : List Int} {y x m : Int} (h : IsSq ns lv l y x m) : IsSq ms lv l y x m := ⟨h.is.pre hp, by rw [nd_pre hp h.is.1]; exact h.kids⟩
theorem putSq_ok {ns : List Node} {room : Int} {lv : Nat} (hl : lv + 1 ≤ 42) (h : Wf ns) {l : List Int} (hi : ∀ i : Int, 0 ≤ i → i < 16 → IsN ns lv (g l i)) {y x : Int} (hy : 0 ≤ y ∧ y ≤ 2) (hx : 0 ≤ x ∧ x ≤ 2) (hr : (ns.length : Int) < room) :
  ∃ ms m, putSq ns room l y x = (ms, m, 0) ∧ Wf ms ∧ ns <+: ms ∧ ms.length ≤ ns.length + 1 ∧ IsSq ms lv l y x m := by
 have i0 := hi (4 * y + x) (by omega) (by omega)
 obtain ⟨ms, m, e, ok⟩ := put_ok h (room := room) (fit4_of hl i0 (hi (4 * y + x + 1) (by omega) (by omega)) (hi (4 * y + x + 4) (by omega) (by omega)) (hi (4 * y + x + 5) (by omega) (by omega))) (.inr hr)
 exact ⟨ms, m, e, ok.wf, ok.pre, ok.len, ⟨ok.mem, by rw [ok.lv, i0.2]; omega⟩, ok.kids⟩
/-- Nine squares. -/
structure Nine9 (ns : List Node) (room : Int) (lv : Nat) (l : List Int) (ms : List Node) (q0 q1 q2 q3 q4 q5 q6 q7 q8 : Int) : Prop where
 wf : Wf ms
 pre : ns <+: ms
 len : ms.length ≤ ns.length + 9
 s0 : IsSq ms lv l 0 0 q0
 s1 : IsSq ms lv l 0 1 q1
 s2 : IsSq ms lv l 0 2 q2
 s3 : IsSq ms lv l 1 0 q3
 s4 : IsSq ms lv l 1 1 q4
 s5 : IsSq ms lv l 1 2 q5
 s6 : IsSq ms lv l 2 0 q6
 s7 : IsSq ms lv l 2 1 q7
 s8 : IsSq ms lv l 2 2 q8
theorem nine_ok {ns : List Node} {room : Int} {lv : Nat} {n : Int} (h : R6.right ns room) (hn : IsN ns (lv + 2) n) (hr : (ns.length : Int) + 9 ≤ room) :
  ∃ ms q0 q1 q2 q3 q4 q5 q6 q7 q8, nine ns room n = (ms, [q0, q1, q2, q3, q4, q5, q6, q7, q8], 0) ∧ Nine9 ns room lv (s16 ns n) ms q0 q1 q2 q3 q4 q5 q6 q7 q8 := by
 have hw := (right_iff.1 h).2
 have hlv := (hw.lvb hn.1).2
 rw [hn.2] at hlv
 have hi := s16_is hw hn
 generalize hl : s16 ns n = l at *
 obtain ⟨a0, q0, e0, w0, p0, l0, s0⟩ := putSq_ok (room := room) (by omega) hw hi (y := 0) (x := 0) (by omega) (by omega) (by omega)
 obtain ⟨a1, q1, e1, w1, p1, l1, s1⟩ := putSq_ok (room := room) (by omega) w0 (fun i a b => (hi i a b).pre p0) (y := 0) (x := 1) (by omega) (by omega) (by omega)
 obtain ⟨a2, q2, e2, w2, p2, l2, s2⟩ := putSq_ok (room := room) (by omega) w1 (fun i a b => ((hi i a b).pre p0).pre p1) (y := 0) (x := 2) (by omega) (by omega) (by omega)
 obtain ⟨a3, q3, e3, w3, p3, l3, s3⟩ := putSq_ok (room := room) (by omega) w2 (fun i a b => (((hi i a b).pre p0).pre p1).pre p2) (y := 1) (x := 0) (by omega) (by omega) (by omega)
 obtain ⟨a4, q4, e4, w4, p4, l4, s4⟩ := putSq_ok (room := room) (by omega) w3 (fun i a b => ((((hi i a b).pre p0).pre p1).pre p2).pre p3) (y := 1) (x := 1) (by omega) (by omega) (by omega)
 obtain ⟨a5, q5, e5, w5, p5, l5, s5⟩ := putSq_ok (room := room) (by omega) w4 (fun i a b => (((((hi i a b).pre p0).pre p1).pre p2).pre p3).pre p4) (y := 1) (x := 2) (by omega) (by omega) (by omega)
 obtain ⟨a6, q6, e6, w6, p6, l6, s6⟩ := putSq_ok (room := room) (by omega) w5 (fun i a b => ((((((hi i a b).pre p0).pre p1).pre p2).pre p3).pre p4).pre p5) (y := 2) (x := 0) (by omega) (by omega) (by omega)
 obtain ⟨a7, q7, e7, w7, p7, l7, s7⟩ := putSq_ok (room := room) (by omega) w6 (fun i a b => (((((((hi i a b).pre p0).pre p1).pre p2).pre p3).pre p4).pre p5).pre p6) (y := 2) (x := 1) (by omega) (by omega) (by omega)
 obtain ⟨a8, q8, e8, w8, p8, l8, s8⟩ := putSq_ok (room := room) (by omega) w7 (fun i a b => ((((((((hi i a b).pre p0).pre p1).pre p2).pre p3).pre p4).pre p5).pre p6).pre p7) (y := 2) (x := 2) (by omega) (by omega) (by omega)
 have t1 := p1
 have t2 := p2
 refine ⟨a8, q0, q1, q2, q3, q4, q5, q6, q7, q8, ?_, ⟨w8, ((((((((p0.trans p1).trans p2).trans p3).trans p4).trans p5).trans p6).trans p7).trans p8), by omega, ?_, ?_, ?_, ?_, ?_, ?_, ?_, ?_, s8⟩⟩
 ·unfold nine
  rw [if_pos ⟨h, hn.1, by rw [hn.2]; omega⟩]
  unfold all
  rw [hl]
  simp only [e0, e1, e2, e3, e4, e5, e6, e7, e8]
  simp
 ·exact ((((((((s0.pre p1).pre p2).pre p3).pre p4).pre p5).pre p6).pre p7).pre p8)
 ·exact (((((((s1.pre p2).pre p3).pre p4).pre p5).pre p6).pre p7).pre p8)
 ·exact ((((((s2.pre p3).pre p4).pre p5).pre p6).pre p7).pre p8)
 ·exact (((((s3.pre p4).pre p5).pre p6).pre p7).pre p8)
 ·exact ((((s4.pre p5).pre p6).pre p7).pre p8)
 ·exact (((s5.pre p6).pre p7).pre p8)
 ·exact ((s6.pre p7).pre p8)
 ·exact s7.pre p8
end R8
end Go.GL

set_option linter.unusedVariables false
namespace Go.GL
open R6 R7
namespace R8
theorem IsSq.k {ms : List Node} {lv : Nat} {l : List Int} {y x m : Int} (h : IsSq ms lv l y x m) : (nd ms m).k0 = g l (4 * y + x) ∧ (nd ms m).k1 = g l (4 * y + x + 1) ∧ (nd ms m).k2 = g l (4 * y + x + 4) ∧ (nd ms m).k3 = g l (4 * y + x + 5) := by
 have := h.kids
 unfold Node.kids sqK at this
 simpa using this
/-- The squares at the corners are the node's own quarters. -/
theorem corners {ns ms : List Node} (hw : Wf ms) (hp : ns <+: ms) (hns : Wf ns) {lv : Nat} {n : Int} (hn : IsN ns (lv + 2) n) {q0 q2 q6 q8 : Int} (s0 : IsSq ms lv (s16 ns n) 0 0 q0) (s2 : IsSq ms lv (s16 ns n) 0 2 q2) (s6 : IsSq ms lv (s16 ns n) 2 0 q6) (s8 : IsSq ms lv (s16 ns n) 2 2 q8) :
  q0 = (nd ns n).k0 ∧ q2 = (nd ns n).k1 ∧ q6 = (nd ns n).k2 ∧ q8 = (nd ns n).k3 := by
 obtain ⟨a, b, c, d⟩ := kids4 hns hn
 have key : ∀ {q k : Int}, IsN ms (lv + 1) q → IsN ns (lv + 1) k → (nd ms q).kids = (nd ns k).kids → q = k := fun hq hk e => by
  have hk' := hk.pre hp
  refine hw.uniq hq.1 hk'.1 (by rw [hq.2]; omega) (by rw [hk'.2]; omega) ?_
  rw [nd_pre hp hk.1]; exact e
 exact ⟨key s0.is a (by rw [s0.kids]; rfl), key s2.is b (by rw [s2.kids]; rfl), key s6.is c (by rw [s6.kids]; rfl), key s8.is d (by rw [s8.kids]; rfl)⟩
end R8
namespace RL
open R8
theorem sq_right {c : Int} {nodes : List Five} {raw : List Cell} {level : Int} {lv : Nat} {ms : List Node} {m : Int} (h : Sq c nodes raw level lv ms m) {k : Int} (hk : 0 ≤ k ∧ k ≤ 1000) : R6.right ms (room c + 500 + k) := by
 have := room_bd c
 have := h.len
 exact right_iff.2 ⟨⟨by omega, by omega, by omega⟩, h.wf⟩
end RL
end Go.GL

set_option linter.unusedVariables false
namespace Go.GL
open R6 R7
namespace R8
def b2i (b : Bool) : Int := if b = true then 1 else 0
/-- How many of the eight about a place are alive. -/
def cnt (f : Int → Int → Bool) (y x : Int) : Int := b2i (f (x - 1) (y - 1)) + b2i (f x (y - 1)) + b2i (f (x + 1) (y - 1)) + b2i (f (x - 1) y) + b2i (f (x + 1) y) + b2i (f (x - 1) (y + 1)) + b2i (f x (y + 1)) + b2i (f (x + 1) (y + 1))
/-- A place behind a generation. -/
def nx (f : Int → Int → Bool) (y x : Int) : Bool := R2.lives (f x y) (cnt f y x)
theorem g16_al {ns : List Node} (h : Wf ns) {n : Int} (hn : IsN ns 2 n) {x y : Int} (hx : 0 ≤ x ∧ x ≤ 3) (hy : 0 ≤ y ∧ y ≤ 3) : g (s16 ns n) (4 * y + x) = b2i (al ns 2 n x y) := by
 have hz := fun i a b => isN0 h (s16_is (lv := 0) h hn i a b)
 have key : ∀ k : Int, (k = 0 ∨ k = 1) → k = b2i (decide (k = 1)) := by rintro k (rfl | rfl) <;> rfl
 have e := key _ (hz (4 * y + x) (by omega) (by omega))
 rw [e]
 congr 1
 simp only [al]
 rcases (by omega : x = 0 ∨ x = 1 ∨ x = 2 ∨ x = 3) with rfl | rfl | rfl | rfl <;> rcases (by omega : y = 0 ∨ y = 1 ∨ y = 2 ∨ y = 3) with rfl | rfl | rfl | rfl <;> rfl
theorem b2i_one (b : Bool) : decide (b2i b = 1) = b := by cases b <;> rfl
theorem bit_nx {ns : List Node} (h : Wf ns) {n : Int} (hn : IsN ns 2 n) {x y : Int} (hx : 1 ≤ x ∧ x ≤ 2) (hy : 1 ≤ y ∧ y ≤ 2) : bit (s16 ns n) y x = b2i (nx (al ns 2 n) y x) := by
 unfold bit nx
 rw [g16_al h hn (by omega) (by omega), b2i_one]
 have e : about (s16 ns n) y x 9 = cnt (al ns 2 n) y x := by
  have gg : ∀ i : Int, ∀ X Y : Int, 0 ≤ X ∧ X ≤ 3 → 0 ≤ Y ∧ Y ≤ 3 → i = 4 * Y + X → g (s16 ns n) i = b2i (al ns 2 n X Y) := fun i X Y a b e => by rw [e]; exact g16_al h hn a b
  have hab : about (s16 ns n) y x 9 = (((((((((0 + g (s16 ns n) (4 * (y + ((0 : Nat) : Int) / 3 - 1) + x + ((0 : Nat) : Int) % 3 - 1)) + g (s16 ns n) (4 * (y + ((1 : Nat) : Int) / 3 - 1) + x + ((1 : Nat) : Int) % 3 - 1)) + g (s16 ns n) (4 * (y + ((2 : Nat) : Int) / 3 - 1) + x + ((2 : Nat) : Int) % 3 - 1)) + g (s16 ns n) (4 * (y + ((3 : Nat) : Int) / 3 - 1) + x + ((3 : Nat) : Int) % 3 - 1)) + 0) + g (s16 ns n) (4 * (y + ((5 : Nat) : Int) / 3 - 1) + x + ((5 : Nat) : Int) % 3 - 1)) + g (s16 ns n) (4 * (y + ((6 : Nat) : Int) / 3 - 1) + x + ((6 : Nat) : Int) % 3 - 1)) + g (s16 ns n) (4 * (y + ((7 : Nat) : Int) / 3 - 1) + x + ((7 : Nat) : Int) % 3 - 1)) + g (s16 ns n) (4 * (y + ((8 : Nat) : Int) / 3 - 1) + x + ((8 : Nat) : Int) % 3 - 1)) := rfl
  rw [hab, gg (4 * (y + ((0 : Nat) : Int) / 3 - 1) + x + ((0 : Nat) : Int) % 3 - 1) (x - 1) (y - 1) (by omega) (by omega) (by omega), gg (4 * (y + ((1 : Nat) : Int) / 3 - 1) + x + ((1 : Nat) : Int) % 3 - 1) x (y - 1) (by omega) (by omega) (by omega), gg (4 * (y + ((2 : Nat) : Int) / 3 - 1) + x + ((2 : Nat) : Int) % 3 - 1) (x + 1) (y - 1) (by omega) (by omega) (by omega), gg (4 * (y + ((3 : Nat) : Int) / 3 - 1) + x + ((3 : Nat) : Int) % 3 - 1) (x - 1) y (by omega) (by omega) (by omega), gg (4 * (y + ((5 : Nat) : Int) / 3 - 1) + x + ((5 : Nat) : Int) % 3 - 1) (x + 1) y (by omega) (by omega) (by omega), gg (4 * (y + ((6 : Nat) : Int) / 3 - 1) + x + ((6 : Nat) : Int) % 3 - 1) (x - 1) (y + 1) (by omega) (by omega) (by omega), gg (4 * (y + ((7 : Nat) : Int) / 3 - 1) + x + ((7 : Nat) : Int) % 3 - 1) x (y + 1) (by omega) (by omega) (by omega), gg (4 * (y + ((8 : Nat) : Int) / 3 - 1) + x + ((8 : Nat) : Int) % 3 - 1) (x + 1) (y + 1) (by omega) (by omega) (by omega)]
  unfold cnt
  omega
 rw [e]
 rfl
theorem isN_b2i {ns : List Node} (h : Wf ns) (b : Bool) : IsN ns 0 (b2i b) := by
 cases b
 ·exact ⟨h.in0, by rw [show b2i false = 0 from rfl, h.nd0]; rfl⟩
 ·exact ⟨h.in1, by rw [show b2i true = 1 from rfl, h.nd1]; rfl⟩
/-- What a step's node is. -/
structure Stp (ms : List Node) (f : Int → Int → Bool) (m : Int) : Prop where
 is : IsN ms 1 m
 kids : (nd ms m).kids = [b2i (nx f 1 1), b2i (nx f 1 2), b2i (nx f 2 1), b2i (nx f 2 2)]
theorem Stp.pre {ns ms : List Node} (hp : ns <+: ms) {f : Int → Int → Bool} {m : Int} (h : Stp ns f m) : Stp ms f m := ⟨h.is.pre hp, by rw [nd_pre hp h.is.1]; exact h.kids⟩
theorem step_eq {ns : List Node} {room n : Int} (h : R6.right ns room) (hn : IsN ns 2 n) : step ns room n = R6.put ns room (b2i (nx (al ns 2 n) 1 1)) (b2i (nx (al ns 2 n) 1 2)) (b2i (nx (al ns 2 n) 2 1)) (b2i (nx (al ns 2 n) 2 2)) := by
 have hw := (right_iff.1 h).2
 unfold step
 rw [if_pos ⟨⟨h, hn.1, by rw [hn.2]; decide⟩, by rw [hn.2]; rfl⟩]
 unfold one
 rw [bit_nx hw hn (by omega) (by omega), bit_nx hw hn (by omega) (by omega), bit_nx hw hn (by omega) (by omega), bit_nx hw hn (by omega) (by omega)]
theorem step_ok {ns : List Node} {room n : Int} (h : R6.right ns room) (hn : IsN ns 2 n) (hr : (ns.length : Int) < room) : ∃ ms m, step ns room n = (ms, m, 0) ∧ Wf ms ∧ ns <+: ms ∧ ms.length ≤ ns.length + 1 ∧ Stp ms (al ns 2 n) m := by
 have hw := (right_iff.1 h).2
 obtain ⟨ms, m, e, ok⟩ := put_ok hw (room := room) (fit4_of (lv := 0) (by omega) (isN_b2i hw (nx (al ns 2 n) 1 1)) (isN_b2i hw (nx (al ns 2 n) 1 2)) (isN_b2i hw (nx (al ns 2 n) 2 1)) (isN_b2i hw (nx (al ns 2 n) 2 2))) (.inr hr)
 refine ⟨ms, m, by rw [step_eq h hn]; exact e, ok.wf, ok.pre, ok.len, ⟨ok.mem, ?_⟩, ok.kids⟩
 rw [ok.lv, (isN_b2i hw _).2]; rfl
theorem step_again {ns : List Node} {room n m : Int} (h : R6.right ns room) (hn : IsN ns 2 n) (hm : Stp ns (al ns 2 n) m) : step ns room n = (ns, m, 0) := by
 have hw := (right_iff.1 h).2
 rw [step_eq h hn]
 exact put_again hw (fit4_of (lv := 0) (by omega) (isN_b2i hw _) (isN_b2i hw _) (isN_b2i hw _) (isN_b2i hw _)) hm.is.1 (by rw [hm.is.2]; decide) hm.kids
theorem Stp.uniq {ns : List Node} (h : Wf ns) {f f' : Int → Int → Bool} {m m' : Int} (a : Stp ns f m) (b : Stp ns f' m') (e : ∀ y x, nx f y x = nx f' y x) : m = m' := by
 refine h.uniq a.is.1 b.is.1 (by rw [a.is.2]; decide) (by rw [b.is.2]; decide) ?_
 rw [a.kids, b.kids, e, e, e, e]
theorem nx_turn (f : Int → Int → Bool) (y x : Int) : nx (fun a b => f (3 - a) (3 - b)) y x = nx f (3 - y) (3 - x) := by
 unfold nx cnt
 simp only
 congr 1
 rw [show 3 - (x - 1) = 3 - x + 1 by omega, show 3 - (x + 1) = 3 - x - 1 by omega, show 3 - (y - 1) = 3 - y + 1 by omega, show 3 - (y + 1) = 3 - y - 1 by omega]
 omega
/-- Only what is of the sixteen counts. -/
theorem nx_congr {f f' : Int → Int → Bool} (h : ∀ x y, 0 ≤ x ∧ x ≤ 3 → 0 ≤ y ∧ y ≤ 3 → f x y = f' x y) {y x : Int} (hx : 1 ≤ x ∧ x ≤ 2) (hy : 1 ≤ y ∧ y ≤ 2) : nx f y x = nx f' y x := by
 unfold nx cnt
 rw [h x y (by omega) (by omega), h (x - 1) (y - 1) (by omega) (by omega), h x (y - 1) (by omega) (by omega), h (x + 1) (y - 1) (by omega) (by omega), h (x - 1) y (by omega) (by omega), h (x + 1) y (by omega) (by omega), h (x - 1) (y + 1) (by omega) (by omega), h x (y + 1) (by omega) (by omega), h (x + 1) (y + 1) (by omega) (by omega)]
end R8
namespace RL
def cell4 (r : Cell) : Cell := ⟨pk r.x 4 - 2, pk r.y 4 - 2⟩
def turn (c : Cell) : Cell := ⟨-1 - c.x, -1 - c.y⟩
def small (raw : List Cell) : List Cell := R1.puts ((raw.take 16).map cell4)
def smallT (raw : List Cell) : List Cell := R1.puts ((raw.take 16).map fun r => turn (cell4 r))
theorem cell4_bd (r : Cell) : -2 ≤ (cell4 r).x ∧ (cell4 r).x < 2 ∧ -2 ≤ (cell4 r).y ∧ (cell4 r).y < 2 := by
 have a := pk_bd (c := r.x) (n := 4) (by omega)
 have b := pk_bd (c := r.y) (n := 4) (by omega)
 unfold cell4
 simp only
 omega
theorem puts_le (l : List Cell) : (R1.puts l).length ≤ l.length := by
 have key : ∀ (l acc : List Cell), (l.foldl R1.put acc).length ≤ acc.length + l.length := by
  intro l
  induction l with
  | nil => intro acc; simp
  | cons c l ih =>
   intro acc
   have h1 := ih (R1.put acc c)
   have h2 := R1.put_len acc c
   simp only [List.foldl_cons, List.length_cons]
   omega
 simpa [R1.puts] using key l []
theorem small_le (raw : List Cell) : (small raw).length ≤ 16 := by
 have := puts_le ((raw.take 16).map cell4)
 rw [List.length_map, List.length_take] at this
 unfold small; omega
theorem smallT_le (raw : List Cell) : (smallT raw).length ≤ 16 := by
 have := puts_le ((raw.take 16).map fun r => turn (cell4 r))
 rw [List.length_map, List.length_take] at this
 unfold smallT; omega
theorem mem_small {raw : List Cell} {c : Cell} (h : c ∈ small raw) : -2 ≤ c.x ∧ c.x < 2 ∧ -2 ≤ c.y ∧ c.y < 2 := by
 unfold small at h
 rw [R1.mem_puts] at h
 obtain ⟨r, _, rfl⟩ := List.mem_map.1 h
 exact cell4_bd r
theorem mem_smallT {raw : List Cell} {c : Cell} : c ∈ smallT raw ↔ turn c ∈ small raw := by
 unfold smallT small
 rw [R1.mem_puts, R1.mem_puts, List.mem_map, List.mem_map]
 have tt : ∀ c : Cell, turn (turn c) = c := fun c => by cases c; simp only [turn, Cell.mk.injEq]; omega
 constructor
 ·rintro ⟨r, hr, rfl⟩; exact ⟨r, hr, by rw [tt]⟩
 ·rintro ⟨r, hr, e⟩; exact ⟨r, hr, by rw [e, tt]⟩
theorem small_right (raw : List Cell) : R1.right (small raw) := R1.right_of (R1.puts_srt _) (fun c hc => by have := mem_small hc; unfold R1.inB; omega) (by have := small_le raw; omega)
theorem turn_bd {c : Cell} (h : -2 ≤ (turn c).x ∧ (turn c).x < 2 ∧ -2 ≤ (turn c).y ∧ (turn c).y < 2) : -2 ≤ c.x ∧ c.x < 2 ∧ -2 ≤ c.y ∧ c.y < 2 := by unfold turn at h; simp only at h; omega
theorem smallT_right (raw : List Cell) : R1.right (smallT raw) := R1.right_of (R1.puts_srt _) (fun c hc => by have := turn_bd (mem_small (mem_smallT.1 hc)); unfold R1.inB; omega) (by have := smallT_le raw; omega)
/-- A square of the level 2 of some cells. -/
theorem make2 {ns : List Node} {room : Int} {l : List Cell} (h : R6.right ns room) (hl : R1.right l) (hb : ∀ c ∈ l, -2 ≤ c.x ∧ c.x < 2 ∧ -2 ≤ c.y ∧ c.y < 2) (hn : l.length ≤ 16) (hr : (ns.length : Int) + 34 ≤ room) :
  ∃ ms m, make ns room l 2 = (ms, m, 0) ∧ Wf ms ∧ ns <+: ms ∧ ms.length ≤ ns.length + 34 ∧ IsN ms 2 m ∧ ∀ x y, 0 ≤ x ∧ x ≤ 3 → 0 ≤ y ∧ y ≤ 3 → al ms 2 m x y = decide ((⟨x - 2, y - 2⟩ : Cell) ∈ l) := by
 have hs : side ((1 + 1 : Nat) : Int) = 2 := by rw [side_succ]; rfl
 have hE := E_le ns 2
 obtain ⟨ms, m, e, ok, sem⟩ := make_ok (room := room) (L := 2) (lv := 1) (by omega) (by omega) h hl (fun c hc => by have := hb c hc; unfold inL; rw [hs]; omega) (by omega)
 refine ⟨ms, m, e, ok.wf, ok.pre, by have := ok.len; omega, ok.is, fun x y hx hy => ?_⟩
 have := sem ⟨x - 2, y - 2⟩ (by unfold inL; rw [hs]; simp only; omega)
 simp only [Int.pow_one] at this
 rw [show x - 2 + 2 = x by omega, show y - 2 + 2 = y by omega] at this
 exact this
end RL
end Go.GL

set_option linter.unusedVariables false
namespace Go.GL
open R6 R7
namespace R8
theorem s16_pre {ns ms : List Node} (h : Wf ns) (hp : ns <+: ms) {lv : Nat} {n : Int} (hn : IsN ns (lv + 2) n) : s16 ms n = s16 ns n := by
 obtain ⟨a, b, c, d⟩ := kids4 h hn
 unfold s16
 rw [nd_pre hp hn.1, nd_pre hp a.1, nd_pre hp b.1, nd_pre hp c.1, nd_pre hp d.1]
theorem putSq_again {ns : List Node} {room : Int} {lv : Nat} (hl : lv + 1 ≤ 42) (h : Wf ns) {l : List Int} (hi : ∀ i : Int, 0 ≤ i → i < 16 → IsN ns lv (g l i)) {y x m : Int} (hy : 0 ≤ y ∧ y ≤ 2) (hx : 0 ≤ x ∧ x ≤ 2) (hm : IsSq ns lv l y x m) : putSq ns room l y x = (ns, m, 0) :=
 put_again h (fit4_of hl (hi (4 * y + x) (by omega) (by omega)) (hi (4 * y + x + 1) (by omega) (by omega)) (hi (4 * y + x + 4) (by omega) (by omega)) (hi (4 * y + x + 5) (by omega) (by omega))) hm.is.1 (by rw [hm.is.2]; omega) hm.kids
theorem centre_again {ns : List Node} {room n m : Int} {lv : Nat} (h : R6.right ns room) (hn : IsN ns (lv + 2) n) (hm : IsSq ns lv (s16 ns n) 1 1 m) : centre ns room n = (ns, m, 0) := by
 have hw := (right_iff.1 h).2
 have hlv := (hw.lvb hn.1).2
 rw [hn.2] at hlv
 unfold centre
 rw [if_pos ⟨h, hn.1, by rw [hn.2]; omega⟩]
 exact putSq_again (by omega) hw (s16_is hw hn) (by omega) (by omega) hm
theorem centre_ok {ns : List Node} {room n : Int} {lv : Nat} (h : R6.right ns room) (hn : IsN ns (lv + 2) n) (hr : (ns.length : Int) < room) : ∃ ms m, centre ns room n = (ms, m, 0) ∧ Wf ms ∧ ns <+: ms ∧ ms.length ≤ ns.length + 1 ∧ IsSq ms lv (s16 ns n) 1 1 m := by
 have hw := (right_iff.1 h).2
 have hlv := (hw.lvb hn.1).2
 rw [hn.2] at hlv
 obtain ⟨ms, m, e, ok⟩ := putSq_ok (room := room) (by omega) hw (s16_is hw hn) (y := 1) (x := 1) (by omega) (by omega) hr
 refine ⟨ms, m, ?_, ok⟩
 unfold centre
 rw [if_pos ⟨h, hn.1, by rw [hn.2]; omega⟩]
 exact e
theorem nine_again {ns : List Node} {room n : Int} {lv : Nat} (h : R6.right ns room) (hn : IsN ns (lv + 2) n) {q0 q1 q2 q3 q4 q5 q6 q7 q8 : Int} (s0 : IsSq ns lv (s16 ns n) 0 0 q0) (s1 : IsSq ns lv (s16 ns n) 0 1 q1) (s2 : IsSq ns lv (s16 ns n) 0 2 q2) (s3 : IsSq ns lv (s16 ns n) 1 0 q3) (s4 : IsSq ns lv (s16 ns n) 1 1 q4) (s5 : IsSq ns lv (s16 ns n) 1 2 q5) (s6 : IsSq ns lv (s16 ns n) 2 0 q6) (s7 : IsSq ns lv (s16 ns n) 2 1 q7) (s8 : IsSq ns lv (s16 ns n) 2 2 q8) :
  nine ns room n = (ns, [q0, q1, q2, q3, q4, q5, q6, q7, q8], 0) := by
 have hw := (right_iff.1 h).2
 have hlv := (hw.lvb hn.1).2
 rw [hn.2] at hlv
 have hi := s16_is hw hn
 have hb : lv + 1 ≤ 42 := by omega
 unfold nine
 rw [if_pos ⟨h, hn.1, by rw [hn.2]; omega⟩]
 unfold all
 have e := fun {y x m : Int} (hy : 0 ≤ y ∧ y ≤ 2) (hx : 0 ≤ x ∧ x ≤ 2) (hm : IsSq ns lv (s16 ns n) y x m) => putSq_again (room := room) hb hw hi hy hx hm
 simp only [e (by omega) (by omega) s0, e (by omega) (by omega) s1, e (by omega) (by omega) s2, e (by omega) (by omega) s3, e (by omega) (by omega) s4, e (by omega) (by omega) s5, e (by omega) (by omega) s6, e (by omega) (by omega) s7, e (by omega) (by omega) s8]
 simp
end R8
namespace RL
open R8
/-- Asked twice. -/
theorem twice_ok (c : Int) (nodes : List Five) (raw : List Cell) (level : Int) (sm : List Cell) : ∃ (s t a d : List Node) (n two k : Int) (q0 q1 q2 q3 q4 q5 q6 q7 q8 : Int),
  (square c nodes raw level = (s, n, 0) ∧ make s (room c + 500 + 200) (small sm) 2 = (t, two, 0) ∧ nine t (room c + 500 + 200) n = (a, [q0, q1, q2, q3, q4, q5, q6, q7, q8], 0) ∧ centre a (room c + 500 + 200) n = (a, q4, 0) ∧ R8.step a (room c + 500 + 200) two = (d, k, 0) ∧ nine d (room c + 500 + 200) n = (d, [q0, q1, q2, q3, q4, q5, q6, q7, q8], 0) ∧ centre d (room c + 500 + 200) n = (d, q4, 0) ∧ R8.step d (room c + 500 + 200) two = (d, k, 0))
  ∧ (R6.Mod s ∧ s.length ≤ 1000 ∧ t.length ≤ 1000 ∧ a.length ≤ 1000 ∧ d.length ≤ 1000) := by
 have hrm := room_bd c
 obtain ⟨lv, s, n, sq⟩ := square_ok c nodes raw level
 have hsl := sq.len
 obtain ⟨lv', rfl⟩ : ∃ k, lv = k + 1 := ⟨lv - 1, by have := sq.lv3; omega⟩
 have hrs := sq_right sq (k := 200) (by omega)
 obtain ⟨t, two, e1, w1, p1, l1, k1, f1⟩ := make2 hrs (small_right sm) (fun c => mem_small) (small_le sm) (by omega)
 have hrt : R6.right t (room c + 500 + 200) := right_iff.2 ⟨⟨by omega, by omega, by omega⟩, w1⟩
 have hn1 := sq.is.pre p1
 obtain ⟨a, q0, q1, q2, q3, q4, q5, q6, q7, q8, e2, ok⟩ := nine_ok (room := room c + 500 + 200) hrt hn1 (by omega)
 have la := ok.len
 have hra : R6.right a (room c + 500 + 200) := right_iff.2 ⟨⟨by omega, by omega, by omega⟩, ok.wf⟩
 have hn2 := hn1.pre ok.pre
 have es := s16_pre w1 ok.pre hn1
 have e3 : centre a (room c + 500 + 200) n = (a, q4, 0) := centre_again hra hn2 (by rw [es]; exact ok.s4)
 have ht2 := k1.pre ok.pre
 obtain ⟨d, k, e4, w4, p4, l4, k4⟩ := step_ok (room := room c + 500 + 200) hra ht2 (by omega)
 have hrd : R6.right d (room c + 500 + 200) := right_iff.2 ⟨⟨by omega, by omega, by omega⟩, w4⟩
 have hn3 := hn2.pre p4
 have es2 : s16 d n = s16 t n := by rw [s16_pre ok.wf p4 hn2, es]
 have e5 : nine d (room c + 500 + 200) n = (d, [q0, q1, q2, q3, q4, q5, q6, q7, q8], 0) := nine_again hrd hn3 (by rw [es2]; exact ok.s0.pre p4) (by rw [es2]; exact ok.s1.pre p4) (by rw [es2]; exact ok.s2.pre p4) (by rw [es2]; exact ok.s3.pre p4) (by rw [es2]; exact ok.s4.pre p4) (by rw [es2]; exact ok.s5.pre p4) (by rw [es2]; exact ok.s6.pre p4) (by rw [es2]; exact ok.s7.pre p4) (by rw [es2]; exact ok.s8.pre p4)
 have e6 : centre d (room c + 500 + 200) n = (d, q4, 0) := centre_again hrd hn3 (by rw [es2]; exact ok.s4.pre p4)
 have e7 : R8.step d (room c + 500 + 200) two = (d, k, 0) := step_again hrd (ht2.pre p4) ⟨k4.is, by
  have hk := k4.kids
  rw [nx_congr (f' := al a 2 two) (fun x y _ _ => al_pre ok.wf p4 2 two x y ht2) (by omega) (by omega), nx_congr (f' := al a 2 two) (fun x y _ _ => al_pre ok.wf p4 2 two x y ht2) (by omega) (by omega), nx_congr (f' := al a 2 two) (fun x y _ _ => al_pre ok.wf p4 2 two x y ht2) (by omega) (by omega), nx_congr (f' := al a 2 two) (fun x y _ _ => al_pre ok.wf p4 2 two x y ht2) (by omega) (by omega)]
  exact hk⟩
 exact ⟨s, t, a, d, n, two, k, q0, q1, q2, q3, q4, q5, q6, q7, q8, ⟨sq.eq, e1, e2, e3, e4, e5, e6, e7⟩, sq.wf.mod, by omega, by omega, by omega, by omega⟩
end RL
end Go.GL

set_option linter.unusedVariables false
namespace Go.GL
open R6 R7
namespace R7
theorem flat_len (ns : List Node) : ∀ (lv : Nat) (n : Int) (o : Cell), (flat ns lv n o).length ≤ 4 ^ lv
 | 0, n, o => by unfold flat; split <;> simp
 | lv + 1, n, o => by
  unfold flat
  split
  ·simp
  ·simp only [List.length_append]
   have a := flat_len ns lv (nd ns n).k0 o
   have b := flat_len ns lv (nd ns n).k1 ⟨o.x + 2 ^ lv, o.y⟩
   have c := flat_len ns lv (nd ns n).k2 ⟨o.x, o.y + 2 ^ lv⟩
   have d := flat_len ns lv (nd ns n).k3 ⟨o.x + 2 ^ lv, o.y + 2 ^ lv⟩
   rw [Nat.pow_succ]; omega
def kid (ns : List Node) (n j : Int) : Int := (nd ns n).kids.getD j.toNat default
theorem al_kid (ns : List Node) {lv : Nat} {n x y : Int} (hq : inQ lv x y) {a b : Int} (ha : a = 0 ∨ a = 1) (hb : b = 0 ∨ b = 1) : al ns (lv + 1) n (x + a * 2 ^ lv) (y + b * 2 ^ lv) = al ns lv (kid ns n (2 * b + a)) x y := by
 unfold inQ at hq
 simp only [al]
 rcases ha with rfl | rfl <;> rcases hb with rfl | rfl <;> simp only [Int.zero_mul, Int.one_mul, Int.add_zero]
 ·rw [if_pos (by omega), if_pos (by omega)]; rfl
 ·rw [if_neg (by omega), if_pos (by omega), show y + 2 ^ lv - 2 ^ lv = y by omega]; rfl
 ·rw [if_pos (by omega), if_neg (by omega), show x + 2 ^ lv - 2 ^ lv = x by omega]; rfl
 ·rw [if_neg (by omega), if_neg (by omega), show x + 2 ^ lv - 2 ^ lv = x by omega, show y + 2 ^ lv - 2 ^ lv = y by omega]; rfl
end R7
namespace R8
theorem g_kid (ns : List Node) (n : Int) {a b c d : Int} (ha : a = 0 ∨ a = 1) (hb : b = 0 ∨ b = 1) (hc : c = 0 ∨ c = 1) (hd : d = 0 ∨ d = 1) : g (s16 ns n) (4 * (2 * b + d) + (2 * a + c)) = kid ns (kid ns n (2 * b + a)) (2 * d + c) := by
 rcases ha with rfl | rfl <;> rcases hb with rfl | rfl <;> rcases hc with rfl | rfl <;> rcases hd with rfl | rfl <;> rfl
theorem al16 (ns : List Node) {lv : Nat} {n x y : Int} (hq : inQ lv x y) {X Y : Int} (hX : 0 ≤ X ∧ X ≤ 3) (hY : 0 ≤ Y ∧ Y ≤ 3) : al ns (lv + 2) n (x + X * 2 ^ lv) (y + Y * 2 ^ lv) = al ns lv (g (s16 ns n) (4 * Y + X)) x y := by
 obtain ⟨a, c, ha, hc, rfl⟩ : ∃ a c : Int, (a = 0 ∨ a = 1) ∧ (c = 0 ∨ c = 1) ∧ X = 2 * a + c := ⟨X / 2, X % 2, by omega, by omega, by omega⟩
 obtain ⟨b, d, hb, hd, rfl⟩ : ∃ b d : Int, (b = 0 ∨ b = 1) ∧ (d = 0 ∨ d = 1) ∧ Y = 2 * b + d := ⟨Y / 2, Y % 2, by omega, by omega, by omega⟩
 rw [g_kid ns n ha hb hc hd, ← al_kid ns hq hc hd]
 have hq2 : inQ (lv + 1) (x + c * 2 ^ lv) (y + d * 2 ^ lv) := by
  unfold inQ at *
  rw [p2s]
  rcases hc with rfl | rfl <;> rcases hd with rfl | rfl <;> omega
 rw [← al_kid ns hq2 ha hb, p2s]
 congr 1
 ·rcases ha with rfl | rfl <;> rcases hc with rfl | rfl <;> omega
 ·rcases hb with rfl | rfl <;> rcases hd with rfl | rfl <;> omega
theorem IsSq.kid {ms : List Node} {lv : Nat} {l : List Int} {y x m : Int} (h : IsSq ms lv l y x m) {a b : Int} (ha : a = 0 ∨ a = 1) (hb : b = 0 ∨ b = 1) : R7.kid ms m (2 * b + a) = g l (4 * (y + b) + (x + a)) := by
 unfold R7.kid
 rw [h.kids]
 unfold sqK
 rcases ha with rfl | rfl <;> rcases hb with rfl | rfl
 ·show g l (4 * y + x) = _; congr 1; omega
 ·show g l (4 * y + x + 4) = _; congr 1; omega
 ·show g l (4 * y + x + 1) = _; congr 1; omega
 ·show g l (4 * y + x + 5) = _; congr 1; omega
/-- A square of the sixteen stands for what stands there. -/
theorem sq_al {ns ms : List Node} (h : Wf ns) (hp : ns <+: ms) {lv : Nat} {n : Int} (hn : IsN ns (lv + 2) n) {y0 x0 q : Int} (hy : 0 ≤ y0 ∧ y0 ≤ 2) (hx : 0 ≤ x0 ∧ x0 ≤ 2) (hs : IsSq ms lv (s16 ns n) y0 x0 q) {u v : Int} (hq : inQ (lv + 1) u v) :
  al ms (lv + 1) q u v = al ns (lv + 2) n (u + x0 * 2 ^ lv) (v + y0 * 2 ^ lv) := by
 have hpos := p2pos lv
 unfold inQ at hq
 rw [p2s] at hq
 obtain ⟨a, x, ha, hxa, rfl⟩ : ∃ a x : Int, (a = 0 ∨ a = 1) ∧ (0 ≤ x ∧ x < 2 ^ lv) ∧ u = x + a * 2 ^ lv := by
  by_cases h1 : u < 2 ^ lv
  ·exact ⟨0, u, .inl rfl, by omega, by omega⟩
  ·exact ⟨1, u - 2 ^ lv, .inr rfl, by omega, by omega⟩
 obtain ⟨b, y, hb, hyb, rfl⟩ : ∃ b y : Int, (b = 0 ∨ b = 1) ∧ (0 ≤ y ∧ y < 2 ^ lv) ∧ v = y + b * 2 ^ lv := by
  by_cases h1 : v < 2 ^ lv
  ·exact ⟨0, v, .inl rfl, by omega, by omega⟩
  ·exact ⟨1, v - 2 ^ lv, .inr rfl, by omega, by omega⟩
 have hq2 : inQ lv x y := ⟨by omega, by omega, by omega, by omega⟩
 rw [al_kid ms hq2 ha hb, hs.kid ha hb]
 have hX : 0 ≤ x0 + a ∧ x0 + a ≤ 3 := by omega
 have hY : 0 ≤ y0 + b ∧ y0 + b ≤ 3 := by omega
 rw [al_pre h hp lv _ _ _ (s16_is h hn _ (by omega) (by omega)), ← al16 ns hq2 hX hY]
 congr 1
 ·rw [Int.add_mul]; omega
 ·rw [Int.add_mul]; omega
end R8
namespace RL
open R8
theorem mem_crop {l : List Cell} {x y half : Int} {d : Cell} : d ∈ crop l x y half ↔ cropIn half d ∧ (⟨d.x + x, d.y + y⟩ : Cell) ∈ l := by
 unfold crop
 rw [R1.mem_puts, List.mem_filter, List.mem_map]
 constructor
 ·rintro ⟨⟨c, hc, rfl⟩, h⟩
  refine ⟨by simpa using h, ?_⟩
  simp only
  rw [show c.x - x + x = c.x by omega, show c.y - y + y = c.y by omega]
  exact hc
 ·rintro ⟨h, hc⟩
  refine ⟨⟨_, hc, ?_⟩, by simpa using h⟩
  cases d
  simp only [Cell.mk.injEq]
  omega
theorem crop_le (l : List Cell) (x y half : Int) : (crop l x y half).length ≤ l.length := by
 unfold crop
 have h1 := puts_le ((l.map fun c => (⟨c.x - x, c.y - y⟩ : Cell)).filter fun c => decide (cropIn half c))
 have h2 := List.length_filter_le (fun c => decide (cropIn half c)) (l.map fun c => (⟨c.x - x, c.y - y⟩ : Cell))
 rw [List.length_map] at h2
 omega
theorem crop_congr {l m : List Cell} (h : ∀ c, c ∈ l ↔ c ∈ m) (x y half : Int) : crop l x y half = crop m x y half :=
 R1.srt_ext (R1.puts_srt _) (R1.puts_srt _) fun d => by
  have a := mem_crop (l := l) (x := x) (y := y) (half := half) (d := d)
  have b := mem_crop (l := m) (x := x) (y := y) (half := half) (d := d)
  rw [a, b, h]
theorem mul3 {h : Int} (hh : 0 < h) {x0 : Int} (hx : 0 ≤ x0 ∧ x0 ≤ 2) : -h ≤ (x0 - 1) * h ∧ (x0 - 1) * h ≤ h ∧ x0 * h = (x0 - 1) * h + h := by
 rcases (by omega : x0 = 0 ∨ x0 = 1 ∨ x0 = 2) with rfl | rfl | rfl <;> omega
/-- What a square of the nine stands for. -/
theorem crop_of {ns ms : List Node} (h : Wf ns) (h' : Wf ms) (hp : ns <+: ms) {lv : Nat} {n : Int} (hn : IsN ns (lv + 2) n) {y0 x0 q : Int} (hy : 0 ≤ y0 ∧ y0 ≤ 2) (hx : 0 ≤ x0 ∧ x0 ≤ 2) (hs : IsSq ms lv (s16 ns n) y0 x0 q) :
  crop (R7.of ns n) ((x0 - 1) * 2 ^ lv) ((y0 - 1) * 2 ^ lv) (2 ^ lv) = R1.puts (R7.of ms q) := by
 have hpos := p2pos lv
 obtain ⟨a1, a2, a3⟩ := mul3 hpos hx
 obtain ⟨b1, b2, b3⟩ := mul3 hpos hy
 refine R1.srt_ext (R1.puts_srt _) (R1.puts_srt _) fun d => ?_
 have key := mem_crop (l := R7.of ns n) (x := (x0 - 1) * 2 ^ lv) (y := (y0 - 1) * 2 ^ lv) (half := 2 ^ lv) (d := d)
 rw [key, R1.mem_puts, mem_of h hn, mem_of h' hs.is]
 unfold inL cropIn
 rw [side_succ, side_succ, p2s]
 simp only
 generalize (x0 - 1) * 2 ^ lv = X at *
 generalize (y0 - 1) * 2 ^ lv = Y at *
 constructor
 ·rintro ⟨c1, c2, c3⟩
  refine ⟨by omega, ?_⟩
  rw [sq_al h hp hn hy hx hs (by unfold inQ; rw [p2s]; omega)]
  rw [show d.x + 2 ^ lv + x0 * 2 ^ lv = d.x + X + 2 ^ lv * 2 by omega, show d.y + 2 ^ lv + y0 * 2 ^ lv = d.y + Y + 2 ^ lv * 2 by omega]
  exact c3
 ·rintro ⟨c1, c2⟩
  refine ⟨by omega, by omega, ?_⟩
  rw [sq_al h hp hn hy hx hs (by unfold inQ; rw [p2s]; omega)] at c2
  rw [show d.x + X + 2 ^ lv * 2 = d.x + 2 ^ lv + x0 * 2 ^ lv by omega, show d.y + Y + 2 ^ lv * 2 = d.y + 2 ^ lv + y0 * 2 ^ lv by omega]
  exact c2
/-- The square's cells are the raw set. -/
theorem Sq.mem {c : Int} {nodes : List Five} {raw : List Cell} {level : Int} {lv : Nat} {ms : List Node} {m : Int} (h : Sq c nodes raw level lv ms m) (d : Cell) : d ∈ R7.of ms m ↔ d ∈ set raw := by
 rw [mem_of h.wf h.is]
 constructor
 ·rintro ⟨h1, h2⟩
  rw [h.sem d h1] at h2
  simpa using h2
 ·intro hd
  have h8 := p8 (lv := lv) h.lv3.1
  have hb := mem_set hd
  have hin : inL ((lv + 1 : Nat) : Int) d := by unfold inL; rw [side_succ]; omega
  exact ⟨hin, by rw [h.sem d hin]; simpa using hd⟩
end RL
end Go.GL

set_option linter.unusedVariables false
namespace Go.GL
open R6 R7
/-! ### A leap stands for what stands in the middle behind so many generations -/
namespace R9
/-- One generation of all cells. -/
def gen (f : Int → Int → Bool) : Int → Int → Bool := fun x y => R8.nx f y x
def gens : Nat → (Int → Int → Bool) → Int → Int → Bool
 | 0, f => f
 | m + 1, f => gens m (gen f)
theorem gens_add : ∀ (a b : Nat) (f : Int → Int → Bool), gens (a + b) f = gens b (gens a f)
 | 0, b, f => by rw [Nat.zero_add]; rfl
 | a + 1, b, f => by
  rw [show a + 1 + b = (a + b) + 1 by omega]
  show gens (a + b) (gen f) = gens b (gens a (gen f))
  exact gens_add a b (gen f)
/-- A node stands for a part of the plane. -/
def Std (ns : List Node) (lv : Nat) (n : Int) (f : Int → Int → Bool) (ox oy : Int) : Prop := IsN ns lv n ∧ ∀ x y, inQ lv x y → al ns lv n x y = f (x + ox) (y + oy)
theorem Std.pre {ns ms : List Node} (h : Wf ns) (hp : ns <+: ms) {lv : Nat} {n : Int} {f : Int → Int → Bool} {ox oy : Int} (hs : Std ns lv n f ox oy) : Std ms lv n f ox oy :=
 ⟨hs.1.pre hp, fun x y hq => by rw [al_pre h hp lv n x y hs.1]; exact hs.2 x y hq⟩
theorem Std.back {ns ms : List Node} (h : Wf ns) (hp : ns <+: ms) {lv : Nat} {n : Int} {f : Int → Int → Bool} {ox oy : Int} (hn : IsN ns lv n) (hs : Std ms lv n f ox oy) : Std ns lv n f ox oy :=
 ⟨hn, fun x y hq => by rw [← al_pre h hp lv n x y hn]; exact hs.2 x y hq⟩
theorem Std.self {ns : List Node} {lv : Nat} {n : Int} (hn : IsN ns lv n) : Std ns lv n (al ns lv n) 0 0 := ⟨hn, fun x y _ => by rw [Int.add_zero, Int.add_zero]⟩
theorem Std.at {ns : List Node} {lv : Nat} {n : Int} {f : Int → Int → Bool} {ox oy ox' oy' : Int} (h : Std ns lv n f ox oy) (hx : ox = ox') (hy : oy = oy') : Std ns lv n f ox' oy' := by
 subst hx
 subst hy
 exact h
/-- Four that stand side by side. -/
theorem std_put {ns : List Node} (h : Wf ns) {room q0 q1 q2 q3 : Int} {lv : Nat} {f : Int → Int → Bool} {ox oy : Int} (h0 : Std ns lv q0 f ox oy) (h1 : Std ns lv q1 f (ox + 2 ^ lv) oy) (h2 : Std ns lv q2 f ox (oy + 2 ^ lv)) (h3 : Std ns lv q3 f (ox + 2 ^ lv) (oy + 2 ^ lv)) (he : (put ns room q0 q1 q2 q3).2.2 = 0) :
  Std (put ns room q0 q1 q2 q3).1 (lv + 1) (put ns room q0 q1 q2 q3).2.1 f ox oy := by
 have hf : fit4 ns q0 q1 q2 q3 := Decidable.byContradiction fun hf => by
  unfold put at he; rw [if_neg hf] at he; cases he
 have hr : 0 ≤ R6.at_ ns [q0, q1, q2, q3] ∨ (ns.length : Int) < room := Decidable.byContradiction fun hr => by
  unfold put at he
  rw [if_pos hf, if_neg (by omega), if_pos (by omega)] at he
  cases he
 obtain ⟨ms, m, e, ok⟩ := put_ok h hf hr
 rw [e]
 refine ⟨⟨ok.mem, by rw [ok.lv, h0.1.2]; omega⟩, fun x y hq => ?_⟩
 have hk := ok.nd
 show al ms (lv + 1) m x y = _
 simp only [al]
 rw [hk]
 show (if y < 2 ^ lv then (if x < 2 ^ lv then al ms lv q0 x y else al ms lv q1 (x - 2 ^ lv) y) else (if x < 2 ^ lv then al ms lv q2 x (y - 2 ^ lv) else al ms lv q3 (x - 2 ^ lv) (y - 2 ^ lv))) = _
 obtain ⟨a, b, c, d⟩ := inQ_succ hq
 by_cases hy : y < 2 ^ lv
 ·rw [if_pos hy]
  by_cases hx : x < 2 ^ lv
  ·rw [if_pos hx, al_pre h ok.pre lv _ _ _ h0.1, h0.2 _ _ (a hy hx)]
  ·rw [if_neg hx, al_pre h ok.pre lv _ _ _ h1.1, h1.2 _ _ (b hy hx)]
   congr 1
   omega
 ·rw [if_neg hy]
  by_cases hx : x < 2 ^ lv
  ·rw [if_pos hx, al_pre h ok.pre lv _ _ _ h2.1, h2.2 _ _ (c hy hx)]
   congr 1
   omega
  ·rw [if_neg hx, al_pre h ok.pre lv _ _ _ h3.1, h3.2 _ _ (d hy hx)]
   congr 1 <;> omega
/-- The sixteen. -/
theorem std_s16 {ns : List Node} (h : Wf ns) {lv : Nat} {n : Int} {f : Int → Int → Bool} {ox oy : Int} (hs : Std ns (lv + 2) n f ox oy) {X Y : Int} (hX : 0 ≤ X ∧ X ≤ 3) (hY : 0 ≤ Y ∧ Y ≤ 3) : Std ns lv (R8.g (R8.s16 ns n) (4 * Y + X)) f (ox + X * 2 ^ lv) (oy + Y * 2 ^ lv) := by
 refine ⟨s16_isN h hs.1 _ (by omega) (by omega), fun x y hq => ?_⟩
 rw [← R8.al16 ns hq hX hY, hs.2 _ _ ?_]
 ·congr 1 <;> omega
 ·unfold inQ at *
  have hpos := p2pos lv
  rw [p2s, p2s]
  have e0 : X = 0 ∨ X = 1 ∨ X = 2 ∨ X = 3 := by omega
  have e1 : Y = 0 ∨ Y = 1 ∨ Y = 2 ∨ Y = 3 := by omega
  rcases e0 with rfl | rfl | rfl | rfl <;> rcases e1 with rfl | rfl | rfl | rfl <;> omega
/-- A square of the sixteen. -/
theorem std_sq {ns ms : List Node} (h : Wf ns) (hm : Wf ms) (hp : ns <+: ms) {room : Int} {lv : Nat} {n : Int} {f : Int → Int → Bool} {ox oy : Int} (hs : Std ns (lv + 2) n f ox oy) {y x : Int} (hy : 0 ≤ y ∧ y ≤ 2) (hx : 0 ≤ x ∧ x ≤ 2) (he : (R8.putSq ms room (R8.s16 ns n) y x).2.2 = 0) :
  Std (R8.putSq ms room (R8.s16 ns n) y x).1 (lv + 1) (R8.putSq ms room (R8.s16 ns n) y x).2.1 f (ox + x * 2 ^ lv) (oy + y * 2 ^ lv) := by
 have k := fun {X Y : Int} (hX : 0 ≤ X ∧ X ≤ 3) (hY : 0 ≤ Y ∧ Y ≤ 3) => (std_s16 h hs hX hY).pre h hp
 unfold R8.putSq at he ⊢
 have k1 := k (X := x + 1) (Y := y) (by omega) (by omega)
 have k2 := k (X := x) (Y := y + 1) (by omega) (by omega)
 have k3 := k (X := x + 1) (Y := y + 1) (by omega) (by omega)
 rw [show 4 * y + (x + 1) = 4 * y + x + 1 by omega] at k1
 rw [show 4 * (y + 1) + x = 4 * y + x + 4 by omega] at k2
 rw [show 4 * (y + 1) + (x + 1) = 4 * y + x + 5 by omega] at k3
 rw [Int.add_mul, Int.one_mul, ← Int.add_assoc] at k1 k2 k3
 refine std_put hm (k (by omega) (by omega)) k1 k2 ?_ he
 rw [Int.add_mul, Int.one_mul, ← Int.add_assoc] at k3
 exact k3
theorem midS_std {room : Int} {s : LS} (h : Lk room s) {lv : Nat} {n : Int} {f : Int → Int → Bool} {ox oy : Int} (hs : Std s.ns (lv + 2) n f ox oy) (he : (midS room s n).2.2 = 0) : Std (midS room s n).1.ns (lv + 1) (midS room s n).2.1 f (ox + 2 ^ lv) (oy + 2 ^ lv) := by
 have := std_sq (room := room) h.wf h.wf (List.prefix_refl _) hs (y := 1) (x := 1) (by omega) (by omega) he
 rw [Int.one_mul] at this
 exact this
theorem gen_at (f : Int → Int → Bool) (ox oy x y : Int) : R8.nx (fun a b => f (a + ox) (b + oy)) y x = gen f (x + ox) (y + oy) := by
 unfold gen R8.nx R8.cnt
 dsimp only
 rw [show x - 1 + ox = x + ox - 1 by omega, show y - 1 + oy = y + oy - 1 by omega, show x + 1 + ox = x + ox + 1 by omega, show y + 1 + oy = y + oy + 1 by omega]
theorem std_b2i {ns : List Node} (h : Wf ns) {b : Bool} {f : Int → Int → Bool} {ox oy : Int} (he : f ox oy = b) : Std ns 0 (R8.b2i b) f ox oy := by
 refine ⟨R8.isN_b2i h b, fun x y hq => ?_⟩
 unfold inQ at hq
 have e1 : x = 0 := by have := hq.2.1; simp at this; omega
 have e2 : y = 0 := by have := hq.2.2.2; simp at this; omega
 subst e1
 subst e2
 rw [Int.zero_add, Int.zero_add, he]
 exact R8.b2i_one b
theorem oneS_std {room : Int} {s : LS} (h : Lk room s) {n : Int} {f : Int → Int → Bool} {ox oy : Int} (hs : Std s.ns 2 n f ox oy) (he : (oneS room s n).2.2 = 0) : Std (oneS room s n).1.ns 1 (oneS room s n).2.1 (gen f) (ox + 1) (oy + 1) := by
 have key : ∀ x y : Int, 1 ≤ x ∧ x ≤ 2 → 1 ≤ y ∧ y ≤ 2 → R8.bit (R8.s16 s.ns n) y x = R8.b2i (gen f (x + ox) (y + oy)) := fun x y hx hy => by
  rw [R8.bit_nx h.wf hs.1 hx hy, ← gen_at]
  congr 1
  refine R8.nx_congr (fun a b ha hb => hs.2 a b ?_) hx hy
  unfold inQ
  have : (2 : Int) ^ 2 = 4 := rfl
  omega
 have he2 : (R6.put s.ns room (R8.bit (R8.s16 s.ns n) 1 1) (R8.bit (R8.s16 s.ns n) 1 2) (R8.bit (R8.s16 s.ns n) 2 1) (R8.bit (R8.s16 s.ns n) 2 2)).2.2 = 0 := he
 show Std (R6.put s.ns room (R8.bit (R8.s16 s.ns n) 1 1) (R8.bit (R8.s16 s.ns n) 1 2) (R8.bit (R8.s16 s.ns n) 2 1) (R8.bit (R8.s16 s.ns n) 2 2)).1 1 (R6.put s.ns room (R8.bit (R8.s16 s.ns n) 1 1) (R8.bit (R8.s16 s.ns n) 1 2) (R8.bit (R8.s16 s.ns n) 2 1) (R8.bit (R8.s16 s.ns n) 2 2)).2.1 _ _ _
 rw [key 1 1 (by omega) (by omega), key 2 1 (by omega) (by omega), key 1 2 (by omega) (by omega), key 2 2 (by omega) (by omega)] at he2 ⊢
 have p0 : (2 : Int) ^ 0 = 1 := rfl
 refine std_put h.wf (lv := 0) (std_b2i h.wf ?_) (std_b2i h.wf ?_) (std_b2i h.wf ?_) (std_b2i h.wf ?_) he2
 ·congr 1 <;> omega
 ·rw [p0]; congr 1 <;> omega
 ·rw [p0]; congr 1 <;> omega
 ·rw [p0]; congr 1 <;> omega
end R9
end Go.GL

set_option linter.unusedVariables false
namespace Go.GL
open R6 R7
namespace R9
/-- The nine. -/
theorem all_std {ns : List Node} {room : Int} (h : R6.right ns room) {lv : Nat} {n : Int} {f : Int → Int → Bool} {ox oy : Int} (hs : Std ns (lv + 2) n f ox oy) (he : (R8.all ns room n).2.2 = 0) :
  ∀ i : Nat, i < 9 → Std (R8.all ns room n).1 (lv + 1) ((R8.all ns room n).2.1.getD i default) f (ox + ((i % 3 : Nat) : Int) * 2 ^ lv) (oy + ((i / 3 : Nat) : Int) * 2 ^ lv) := by
 have hw := (right_iff.1 h).2
 unfold R8.all at he ⊢
 dsimp only at he ⊢
 have key := fun {ms : List Node} (hr : R6.right ms room) (hp : ns <+: ms) {y x : Int} (hy : 0 ≤ y ∧ y ≤ 2) (hx : 0 ≤ x ∧ x ≤ 2) (he : (R8.putSq ms room (R8.s16 ns n) y x).2.2 = 0) => std_sq (room := room) hw (right_iff.1 hr).2 hp hs hy hx he
 have kr := fun {ms : List Node} (hr : R6.right ms room) (y x : Int) => right_put hr (R8.g (R8.s16 ns n) (4 * y + x)) (R8.g (R8.s16 ns n) (4 * y + x + 1)) (R8.g (R8.s16 ns n) (4 * y + x + 4)) (R8.g (R8.s16 ns n) (4 * y + x + 5))
 have kr : ∀ {ms : List Node}, R6.right ms room → ∀ y x : Int, R6.right (R8.putSq ms room (R8.s16 ns n) y x).1 room ∧ ms <+: (R8.putSq ms room (R8.s16 ns n) y x).1 := fun hr y x => kr hr y x
 generalize R8.s16 ns n = l at *
 by_cases e0 : (R8.putSq ns room l 0 0).2.2 = 0
 case neg => rw [if_pos e0] at he; exact absurd he e0
 rw [if_neg (by simpa using e0)] at he ⊢
 have i0 := key h (List.prefix_refl _) (by omega) (by omega) e0
 obtain ⟨r0, p0⟩ := kr h 0 0
 generalize R8.putSq ns room l 0 0 = P0 at *
 by_cases e1 : (R8.putSq P0.1 room l 0 1).2.2 = 0
 case neg => rw [if_pos e1] at he; exact absurd he e1
 rw [if_neg (by simpa using e1)] at he ⊢
 have i1 := key r0 p0 (by omega) (by omega) e1
 obtain ⟨r1, p1⟩ := kr r0 0 1
 generalize R8.putSq P0.1 room l 0 1 = P1 at *
 have t1 := p0.trans p1
 by_cases e2 : (R8.putSq P1.1 room l 0 2).2.2 = 0
 case neg => rw [if_pos e2] at he; exact absurd he e2
 rw [if_neg (by simpa using e2)] at he ⊢
 have i2 := key r1 t1 (by omega) (by omega) e2
 obtain ⟨r2, p2⟩ := kr r1 0 2
 generalize R8.putSq P1.1 room l 0 2 = P2 at *
 have t2 := t1.trans p2
 by_cases e3 : (R8.putSq P2.1 room l 1 0).2.2 = 0
 case neg => rw [if_pos e3] at he; exact absurd he e3
 rw [if_neg (by simpa using e3)] at he ⊢
 have i3 := key r2 t2 (by omega) (by omega) e3
 obtain ⟨r3, p3⟩ := kr r2 1 0
 generalize R8.putSq P2.1 room l 1 0 = P3 at *
 have t3 := t2.trans p3
 by_cases e4 : (R8.putSq P3.1 room l 1 1).2.2 = 0
 case neg => rw [if_pos e4] at he; exact absurd he e4
 rw [if_neg (by simpa using e4)] at he ⊢
 have i4 := key r3 t3 (by omega) (by omega) e4
 obtain ⟨r4, p4⟩ := kr r3 1 1
 generalize R8.putSq P3.1 room l 1 1 = P4 at *
 have t4 := t3.trans p4
 by_cases e5 : (R8.putSq P4.1 room l 1 2).2.2 = 0
 case neg => rw [if_pos e5] at he; exact absurd he e5
 rw [if_neg (by simpa using e5)] at he ⊢
 have i5 := key r4 t4 (by omega) (by omega) e5
 obtain ⟨r5, p5⟩ := kr r4 1 2
 generalize R8.putSq P4.1 room l 1 2 = P5 at *
 have t5 := t4.trans p5
 by_cases e6 : (R8.putSq P5.1 room l 2 0).2.2 = 0
 case neg => rw [if_pos e6] at he; exact absurd he e6
 rw [if_neg (by simpa using e6)] at he ⊢
 have i6 := key r5 t5 (by omega) (by omega) e6
 obtain ⟨r6, p6⟩ := kr r5 2 0
 generalize R8.putSq P5.1 room l 2 0 = P6 at *
 have t6 := t5.trans p6
 by_cases e7 : (R8.putSq P6.1 room l 2 1).2.2 = 0
 case neg => rw [if_pos e7] at he; exact absurd he e7
 rw [if_neg (by simpa using e7)] at he ⊢
 have i7 := key r6 t6 (by omega) (by omega) e7
 obtain ⟨r7, p7⟩ := kr r6 2 1
 generalize R8.putSq P6.1 room l 2 1 = P7 at *
 have t7 := t6.trans p7
 by_cases e8 : (R8.putSq P7.1 room l 2 2).2.2 = 0
 case neg => rw [if_pos e8] at he; exact absurd he e8
 rw [if_neg (by simpa using e8)] at he ⊢
 have i8 := key r7 t7 (by omega) (by omega) e8
 obtain ⟨r8, p8⟩ := kr r7 2 2
 generalize R8.putSq P7.1 room l 2 2 = P8 at *
 have w0 := (right_iff.1 r0).2
 have w1 := (right_iff.1 r1).2
 have w2 := (right_iff.1 r2).2
 have w3 := (right_iff.1 r3).2
 have w4 := (right_iff.1 r4).2
 have w5 := (right_iff.1 r5).2
 have w6 := (right_iff.1 r6).2
 have w7 := (right_iff.1 r7).2
 intro i hi
 match i, hi with
 | 0, _ => exact i0.pre w0 (((((((p1.trans p2).trans p3).trans p4).trans p5).trans p6).trans p7).trans p8)
 | 1, _ => exact i1.pre w1 ((((((p2.trans p3).trans p4).trans p5).trans p6).trans p7).trans p8)
 | 2, _ => exact i2.pre w2 (((((p3.trans p4).trans p5).trans p6).trans p7).trans p8)
 | 3, _ => exact i3.pre w3 ((((p4.trans p5).trans p6).trans p7).trans p8)
 | 4, _ => exact i4.pre w4 (((p5.trans p6).trans p7).trans p8)
 | 5, _ => exact i5.pre w5 ((p6.trans p7).trans p8)
 | 6, _ => exact i6.pre w6 (p7.trans p8)
 | 7, _ => exact i7.pre w7 p8
 | 8, _ => exact i8
/-- What is kept is true. -/
def MS (s : LS) : Prop := ∀ p ∈ s.mm, ∃ k : Nat, (0 ≤ p.2.1 ∧ p.2.1 ≤ k) ∧ IsN s.ns (k + 2) p.1 ∧ IsN s.ns (k + 1) p.2.2 ∧ ∀ f ox oy, Std s.ns (k + 2) p.1 f ox oy → Std s.ns (k + 1) p.2.2 (gens (2 ^ p.2.1.toNat) f) (ox + 2 ^ k) (oy + 2 ^ k)
theorem MS.pre {s : LS} {ms : List Node} (hw : Wf s.ns) (h : MS s) (hp : s.ns <+: ms) : MS ⟨ms, s.mm⟩ := fun p hm => by
 obtain ⟨k, h1, h2, h3, h4⟩ := h p hm
 exact ⟨k, h1, h2.pre hp, h3.pre hp, fun f ox oy hs => (h4 f ox oy (hs.back hw hp h2)).pre hw hp⟩
theorem mapS_std {room : Int} {f : LS → Int → L9} (C D : Nat → List Node → Int → Prop) (hC : ∀ i ns ms q, Wf ns → ns <+: ms → C i ns q → C i ms q) (hD : ∀ i ns ms q, Wf ns → ns <+: ms → D i ns q → D i ms q)
  (hf : ∀ i s q, Lk room s → MS s → C i s.ns q → (f s q).2.2 = 0 → Lk room (f s q).1 ∧ s.ns <+: (f s q).1.ns ∧ MS (f s q).1 ∧ D i (f s q).1.ns (f s q).2.1) : ∀ (qs : List Int) (b : Nat) (s : LS), Lk room s → MS s → (∀ i, i < qs.length → C (b + i) s.ns (qs.getD i default)) → (mapS f s qs).2.2 = 0 →
  Lk room (mapS f s qs).1 ∧ s.ns <+: (mapS f s qs).1.ns ∧ MS (mapS f s qs).1 ∧ (mapS f s qs).2.1.length = qs.length ∧ ∀ i, i < qs.length → D (b + i) (mapS f s qs).1.ns ((mapS f s qs).2.1.getD i default)
 | [], b, s, h, hm, _, _ => ⟨h, List.prefix_refl _, hm, rfl, fun i hi => absurd hi (Nat.not_lt_zero _)⟩
 | q :: qs, b, s, h, hm, hq, he => by
  unfold mapS at he ⊢
  by_cases h0 : (f s q).2.2 = 0
  ·rw [if_neg (by simpa using h0)] at he ⊢
   obtain ⟨g1, g2, g3, g4⟩ := hf b s q h hm (hq 0 (by simp)) h0
   obtain ⟨a1, a2, a3, a4, a5⟩ := mapS_std C D hC hD hf qs (b + 1) (f s q).1 g1 g3 (fun i hi => hC _ _ _ _ h.wf g2 (by
    have := hq (i + 1) (by simp only [List.length_cons]; omega)
    rw [show b + 1 + i = b + (i + 1) by omega]
    exact this)) he
   refine ⟨a1, g2.trans a2, a3, by simp [a4], fun i hi => ?_⟩
   cases i with
   | zero => exact hD _ _ _ _ g1.wf a2 g4
   | succ i =>
    have := a5 i (by simp only [List.length_cons] at hi; omega)
    rw [show b + (i + 1) = b + 1 + i by omega]
    exact this
  ·rw [if_pos h0] at he
   exact absurd he h0
/-- What a leap that is right does. -/
def LpOk (room : Int) (k : Nat) (lp : LS → Int → Int → L9) : Prop := ∀ s q j, Lk room s → MS s → IsN s.ns (k + 2) q → 0 ≤ j ∧ j ≤ (k : Int) → (lp s q j).2.2 = 0 →
 Lk room (lp s q j).1 ∧ s.ns <+: (lp s q j).1.ns ∧ MS (lp s q j).1 ∧ ∀ f ox oy, Std s.ns (k + 2) q f ox oy → Std (lp s q j).1.ns (k + 1) (lp s q j).2.1 (gens (2 ^ j.toNat) f) (ox + 2 ^ k) (oy + 2 ^ k)
theorem p2s' (k : Nat) : (2 : Int) ^ (k + 1) = 2 * 2 ^ k := by rw [p2s]; omega
theorem half_std {room : Int} {k : Nat} {lp : LS → Int → Int → L9} (hlp : LpOk room k lp) {full : Bool} {s : LS} {n j : Int} {f : Int → Int → Bool} {ox oy : Int} (h : Lk room s) (hm : MS s) (hs : Std s.ns (k + 3) n f ox oy) (hj : full = true → j = k + 1) (he : (half lp room full s n j).2.2 = 0) :
  Lk room (half lp room full s n j).1 ∧ s.ns <+: (half lp room full s n j).1.ns ∧ MS (half lp room full s n j).1 ∧ (half lp room full s n j).2.1.length = 9 ∧ ∀ i : Nat, i < 9 → Std (half lp room full s n j).1.ns (k + 1) ((half lp room full s n j).2.1.getD i default) (if full = true then gens (2 ^ k) f else f) (ox + ((i % 3 : Nat) : Int) * 2 ^ (k + 1) + 2 ^ k) (oy + ((i / 3 : Nat) : Int) * 2 ^ (k + 1) + 2 ^ k) := by
 unfold half at he ⊢
 by_cases e0 : (R8.all s.ns room n).2.2 = 0
 case neg => rw [if_pos e0] at he; exact absurd he e0
 rw [if_neg (by simpa using e0)] at he ⊢
 obtain ⟨r0, p0, l0, _⟩ := all_gd h.right hs.1 e0
 have hall := all_std h.right hs e0
 obtain ⟨m1, m2, m3, m4, m5⟩ := mapS_std (room := room) (f := halfF lp room full j) (fun i ns q => Std ns (k + 2) q f (ox + ((i % 3 : Nat) : Int) * 2 ^ (k + 1)) (oy + ((i / 3 : Nat) : Int) * 2 ^ (k + 1)))
  (fun i ns q => Std ns (k + 1) q (if full = true then gens (2 ^ k) f else f) (ox + ((i % 3 : Nat) : Int) * 2 ^ (k + 1) + 2 ^ k) (oy + ((i / 3 : Nat) : Int) * 2 ^ (k + 1) + 2 ^ k))
  (fun i ns ms q hw hp hq => hq.pre hw hp) (fun i ns ms q hw hp hq => hq.pre hw hp) (fun i t q ht hmt hq he => by
   unfold halfF at he ⊢
   cases full
   ·have he : (midS room t q).2.2 = 0 := he
    show Lk room (midS room t q).1 ∧ t.ns <+: (midS room t q).1.ns ∧ MS (midS room t q).1 ∧ Std (midS room t q).1.ns (k + 1) (midS room t q).2.1 f _ _
    have g := midS_gd ht hq.1 he
    exact ⟨g.lk, g.pre, hmt.pre ht.wf g.pre, midS_std ht hq he⟩
   ·have hj1 : j - 1 = (k : Int) := by have := hj rfl; omega
    have he : (lp t q (j - 1)).2.2 = 0 := he
    show Lk room (lp t q (j - 1)).1 ∧ t.ns <+: (lp t q (j - 1)).1.ns ∧ MS (lp t q (j - 1)).1 ∧ Std (lp t q (j - 1)).1.ns (k + 1) (lp t q (j - 1)).2.1 (gens (2 ^ k) f) _ _
    rw [hj1] at he ⊢
    obtain ⟨g1, g2, g3, g4⟩ := hlp t q k ht hmt hq.1 ⟨by omega, by omega⟩ he
    exact ⟨g1, g2, g3, g4 _ _ _ hq⟩) (R8.all s.ns room n).2.1 0 ⟨(R8.all s.ns room n).1, s.mm⟩ ⟨r0, h.mem.pre p0⟩ (hm.pre h.wf p0) (fun i hi => by rw [Nat.zero_add]; exact hall i (by omega)) he
 exact ⟨m1, p0.trans m2, m3, by rw [m4, l0], fun i hi => by have := m5 i (by omega); rwa [Nat.zero_add] at this⟩
theorem getD_g {l : List Int} {i : Nat} : R8.g l (i : Int) = l.getD i default := rfl
theorem far_std {room : Int} {k : Nat} {lp : LS → Int → Int → L9} (hlp : LpOk room k lp) {s : LS} {n j : Int} {f : Int → Int → Bool} {ox oy : Int} (h : Lk room s) (hm : MS s) (hs : Std s.ns (k + 3) n f ox oy) (hj : 0 ≤ j ∧ j ≤ (k : Int) + 1) (he : (far lp room (decide (j = k + 1)) s n j).2.2 = 0) :
  MS (far lp room (decide (j = k + 1)) s n j).1 ∧ Std (far lp room (decide (j = k + 1)) s n j).1.ns (k + 2) (far lp room (decide (j = k + 1)) s n j).2.1 (gens (2 ^ j.toNat) f) (ox + 2 ^ (k + 1)) (oy + 2 ^ (k + 1)) := by
 obtain ⟨full, hfull⟩ : ∃ full, decide (j = (k : Int) + 1) = full := ⟨_, rfl⟩
 have hf1 : full = true → j = k + 1 := fun e => by rw [e] at hfull; exact of_decide_eq_true hfull
 have hf2 : ¬ full = true → j ≤ k := fun e => by
  have : full = false := by simpa using e
  rw [this] at hfull
  have := of_decide_eq_false hfull
  omega
 rw [hfull] at he ⊢
 unfold far at he ⊢
 have hpk := p2s' k
 refine bindM_gd (P := fun r => MS r.1 ∧ Std r.1.ns (k + 2) r.2.1 _ _ _) he fun e1 he => ?_
 obtain ⟨r1, p1, n1, l1, i1⟩ := half_std (full := full) hlp h hm hs hf1 e1
 generalize half lp room full s n j = R1 at *
 generalize hF1 : (if full = true then gens (2 ^ k) f else f) = f1 at *
 refine bindM_gd (P := fun r => MS r.1 ∧ Std r.1.ns (k + 2) r.2.1 _ _ _) he fun e2 he => ?_
 obtain ⟨r2, p2, n2, l2, i2⟩ := mapS_std (room := room) (f := fourP room R1.2.1) (fun i ns q => q = ((3 * (i / 2) + i % 2 : Nat) : Int) ∧ i < 4 ∧ ∀ i' : Nat, i' < 9 → Std ns (k + 1) (R1.2.1.getD i' default) f1 (ox + ((i' % 3 : Nat) : Int) * 2 ^ (k + 1) + 2 ^ k) (oy + ((i' / 3 : Nat) : Int) * 2 ^ (k + 1) + 2 ^ k))
  (fun i ns q => Std ns (k + 2) q f1 (ox + ((i % 2 : Nat) : Int) * 2 ^ (k + 1) + 2 ^ k) (oy + ((i / 2 : Nat) : Int) * 2 ^ (k + 1) + 2 ^ k))
  (fun i ns ms q hw hp hq => ⟨hq.1, hq.2.1, fun i' hi' => (hq.2.2 i' hi').pre hw hp⟩) (fun i ns ms q hw hp hq => hq.pre hw hp) (fun i t q ht hmt hq he => by
   obtain ⟨rfl, hi4, hst⟩ := hq
   have he2 : (put t.ns room (R8.g R1.2.1 ((3 * (i / 2) + i % 2 : Nat) : Int)) (R8.g R1.2.1 (((3 * (i / 2) + i % 2 : Nat) : Int) + 1)) (R8.g R1.2.1 (((3 * (i / 2) + i % 2 : Nat) : Int) + 3)) (R8.g R1.2.1 (((3 * (i / 2) + i % 2 : Nat) : Int) + 4))).2.2 = 0 := he
   have g := putS_gd ht (hst (3 * (i / 2) + i % 2) (by omega)).1 he
   refine ⟨g.lk, g.pre, hmt.pre ht.wf g.pre, ?_⟩
   have h0 := hst (3 * (i / 2) + i % 2) (by omega)
   have h1 := hst (3 * (i / 2) + i % 2 + 1) (by omega)
   have h2 := hst (3 * (i / 2) + i % 2 + 3) (by omega)
   have h3 := hst (3 * (i / 2) + i % 2 + 4) (by omega)
   refine std_put ht.wf (h0.at ?_ ?_) (h1.at ?_ ?_) (h2.at ?_ ?_) (h3.at ?_ ?_) he2
   all_goals
    match i, hi4 with
    | 0, _ => simp only [Nat.reduceDiv, Nat.reduceMod, Nat.reduceMul, Nat.reduceAdd] <;> omega
    | 1, _ => simp only [Nat.reduceDiv, Nat.reduceMod, Nat.reduceMul, Nat.reduceAdd] <;> omega
    | 2, _ => simp only [Nat.reduceDiv, Nat.reduceMod, Nat.reduceMul, Nat.reduceAdd] <;> omega
    | 3, _ => simp only [Nat.reduceDiv, Nat.reduceMod, Nat.reduceMul, Nat.reduceAdd] <;> omega) fourE 0 R1.1 r1 n1 (fun i hi => by
   have hi4 : i < 4 := hi
   rw [Nat.zero_add]
   refine ⟨?_, hi4, i1⟩
   match i, hi4 with
   | 0, _ => rfl
   | 1, _ => rfl
   | 2, _ => rfl
   | 3, _ => rfl) e2
 have l2 : (mapS (fourP room R1.2.1) R1.1 fourE).2.1.length = 4 := l2
 generalize mapS (fourP room R1.2.1) R1.1 fourE = R2 at *
 refine bindM_gd (P := fun r => MS r.1 ∧ Std r.1.ns (k + 2) r.2.1 _ _ _) he fun e3 he => ?_
 obtain ⟨j', hj'⟩ : ∃ j', (if full = true then j - 1 else j) = j' := ⟨_, rfl⟩
 have hjb : 0 ≤ j' ∧ j' ≤ (k : Int) := by
  rw [← hj']
  by_cases e : full = true
  ·have := hf1 e
   rw [if_pos e]
   omega
  ·have := hf2 e
   rw [if_neg e]
   omega
 have hgen : gens (2 ^ j'.toNat) f1 = gens (2 ^ j.toNat) f := by
  rw [← hj', ← hF1]
  by_cases e : full = true
  ·have hjk := hf1 e
   rw [if_pos e, if_pos e, ← gens_add, show (j - 1).toNat = k by omega, show j.toNat = k + 1 by omega, Nat.pow_succ]
   congr 1
   omega
  ·rw [if_neg e, if_neg e]
 rw [hj'] at e3 he ⊢
 obtain ⟨r3, p3, n3, l3, i3⟩ := mapS_std (room := room) (f := lastF lp j') (fun i ns q => Std ns (k + 2) q f1 (ox + ((i % 2 : Nat) : Int) * 2 ^ (k + 1) + 2 ^ k) (oy + ((i / 2 : Nat) : Int) * 2 ^ (k + 1) + 2 ^ k))
  (fun i ns q => Std ns (k + 1) q (gens (2 ^ j.toNat) f) (ox + ((i % 2 : Nat) : Int) * 2 ^ (k + 1) + 2 ^ (k + 1)) (oy + ((i / 2 : Nat) : Int) * 2 ^ (k + 1) + 2 ^ (k + 1)))
  (fun i ns ms q hw hp hq => hq.pre hw hp) (fun i ns ms q hw hp hq => hq.pre hw hp) (fun i t q ht hmt hq he => by
   have he : (lp t q j').2.2 = 0 := he
   show Lk room (lp t q j').1 ∧ t.ns <+: (lp t q j').1.ns ∧ MS (lp t q j').1 ∧ Std (lp t q j').1.ns (k + 1) (lp t q j').2.1 _ _ _
   obtain ⟨g1, g2, g3, g4⟩ := hlp t q j' ht hmt hq.1 hjb he
   have := g4 _ _ _ hq
   rw [hgen] at this
   exact ⟨g1, g2, g3, this.at (by omega) (by omega)⟩) R2.2.1 0 R2.1 r2 n2 (fun i hi => by
   rw [Nat.zero_add]
   have := i2 i (by rw [l2] at hi; exact hi)
   rwa [Nat.zero_add] at this) e3
 rw [l2] at l3 i3
 generalize mapS (lastF lp j') R2.1 R2.2.1 = R3 at *
 have he2 : (put R3.1.ns room (R8.g R3.2.1 ((0 : Nat) : Int)) (R8.g R3.2.1 ((1 : Nat) : Int)) (R8.g R3.2.1 ((2 : Nat) : Int)) (R8.g R3.2.1 ((3 : Nat) : Int))).2.2 = 0 := he
 have h0 := i3 0 (by omega)
 have h1 := i3 1 (by omega)
 have h2 := i3 2 (by omega)
 have h3 := i3 3 (by omega)
 have g := putS_gd r3 (lv := k + 1) h0.1 he
 refine ⟨n3.pre r3.wf g.pre, ?_⟩
 refine std_put r3.wf (h0.at ?_ ?_) (h1.at ?_ ?_) (h2.at ?_ ?_) (h3.at ?_ ?_) he2
 all_goals (simp only [Nat.reduceDiv, Nat.reduceMod, Nat.zero_add]; omega)
theorem keep_std {room : Int} {s : LS} {n j : Int} {r : L9} {k : Nat} (h : Lk room s) (hj : 0 ≤ j ∧ j ≤ (k : Int)) (hn : IsN s.ns (k + 2) n) (he : (keep n j r).2.2 = 0) (hg : r.2.2 = 0 → Gd room s r (k + 1)) (hm : r.2.2 = 0 → MS r.1) (hf : r.2.2 = 0 → ∀ f ox oy, Std s.ns (k + 2) n f ox oy → Std r.1.ns (k + 1) r.2.1 (gens (2 ^ j.toNat) f) (ox + 2 ^ k) (oy + 2 ^ k)) :
  MS (keep n j r).1 ∧ ∀ f ox oy, Std s.ns (k + 2) n f ox oy → Std (keep n j r).1.ns (k + 1) (keep n j r).2.1 (gens (2 ^ j.toNat) f) (ox + 2 ^ k) (oy + 2 ^ k) := by
 unfold keep at he ⊢
 by_cases e : r.2.2 = 0
 case neg => rw [if_pos e] at he; exact absurd he e
 rw [if_neg (by simpa using e)]
 obtain ⟨a, b, c⟩ := hg e
 refine ⟨fun p hp => ?_, hf e⟩
 rcases List.mem_append.1 hp with hp | hp
 ·exact hm e p hp
 ·rw [List.mem_singleton.1 hp]
  exact ⟨k, hj, hn.pre b, c, fun f ox oy hs => hf e f ox oy (hs.back h.wf b hn)⟩
theorem leap_ok {room : Int} : ∀ k, LpOk room k (leap room k)
 | 0, s, n, j, h, hm, hn, hj, he => by
  have g := leap_gd 0 s n j h hn he
  refine ⟨g.lk, g.pre, ?_⟩
  unfold leap at he ⊢
  cases hl : look9 s.mm n j with
  | some to =>
   refine ⟨hm, fun f ox oy hs => ?_⟩
   obtain ⟨k', h1, h2, h3, h4⟩ := hm _ (look9_mem hl)
   have e : k' = 0 := by
    have a := h2.2
    have b := hn.2
    simp only at a
    omega
   subst e
   exact h4 f ox oy hs
  | none =>
   rw [hl] at he
   refine keep_std h hj hn he (fun e => oneS_gd h e) (fun e => hm.pre h.wf (oneS_gd h e).pre) fun e f ox oy hs => ?_
   obtain rfl : j = 0 := by omega
   exact oneS_std h hs e
 | k + 1, s, n, j, h, hm, hn, hj, he => by
  have g := leap_gd (k + 1) s n j h hn he
  refine ⟨g.lk, g.pre, ?_⟩
  unfold leap at he ⊢
  cases hl : look9 s.mm n j with
  | some to =>
   refine ⟨hm, fun f ox oy hs => ?_⟩
   obtain ⟨k', h1, h2, h3, h4⟩ := hm _ (look9_mem hl)
   have e : k' = k + 1 := by
    have a := h2.2
    have b := hn.2
    simp only at a
    omega
   subst e
   exact h4 f ox oy hs
  | none =>
   rw [hl] at he
   have hjk : 0 ≤ j ∧ j ≤ (k : Int) + 1 := by omega
   exact keep_std h hj hn he (fun e => far_gd (fun s q j hs hq he => leap_gd k s q j hs hq he) h hn e) (fun e => (far_std (leap_ok k) h hm (Std.self hn) hjk e).1) fun e f ox oy hs => (far_std (leap_ok k) h hm hs hjk e).2
end R9
end Go.GL

set_option linter.unusedVariables false
namespace Go.GL
open R6 R7
/-! ### What errors a leap may tell -/
namespace R9
def Er (e : Int) : Prop := e = 0 ∨ e = 40
theorem put_er {ns : List Node} (h : Wf ns) {room q0 q1 q2 q3 : Int} {lv : Nat} (hl : lv + 1 ≤ 42) (h0 : IsN ns lv q0) (h1 : IsN ns lv q1) (h2 : IsN ns lv q2) (h3 : IsN ns lv q3) : Er (put ns room q0 q1 q2 q3).2.2 := by
 have hf : fit4 ns q0 q1 q2 q3 := fit4_of hl h0 h1 h2 h3
 unfold put
 rw [if_pos hf]
 split
 ·exact .inl rfl
 ·split
  ·exact .inr rfl
  ·exact .inl rfl
theorem putSq_er {ns : List Node} {room : Int} (h : R6.right ns room) {lv : Nat} (hl : lv + 1 ≤ 42) {l : List Int} (hi : ∀ i : Int, 0 ≤ i → i < 16 → IsN ns lv (R8.g l i)) {y x : Int} (hy : 0 ≤ y ∧ y ≤ 2) (hx : 0 ≤ x ∧ x ≤ 2) : Er (R8.putSq ns room l y x).2.2 :=
 put_er (right_iff.1 h).2 hl (hi _ (by omega) (by omega)) (hi _ (by omega) (by omega)) (hi _ (by omega) (by omega)) (hi _ (by omega) (by omega))
theorem all_er {ns : List Node} {room : Int} (h : R6.right ns room) {lv : Nat} {n : Int} (hl : lv + 1 ≤ 42) (hn : IsN ns (lv + 2) n) : Er (R8.all ns room n).2.2 := by
 have hi := s16_isN (right_iff.1 h).2 hn
 unfold R8.all
 dsimp only
 generalize R8.s16 ns n = l at *
 have key := fun {ms : List Node} (hr : R6.right ms room) (hp : ns <+: ms) {y x : Int} (hy : 0 ≤ y ∧ y ≤ 2) (hx : 0 ≤ x ∧ x ≤ 2) => putSq_er (room := room) hr hl (fun i a b => (hi i a b).pre hp) hy hx
 have kr : ∀ {ms : List Node}, R6.right ms room → ∀ y x : Int, R6.right (R8.putSq ms room l y x).1 room ∧ ms <+: (R8.putSq ms room l y x).1 := fun hr y x => right_put hr _ _ _ _
 have i0 := key h (List.prefix_refl _) (y := 0) (x := 0) (by omega) (by omega)
 obtain ⟨r0, p0⟩ := kr h 0 0
 generalize R8.putSq ns room l 0 0 = P0 at *
 split
 ·exact i0
 have i1 := key r0 p0 (y := 0) (x := 1) (by omega) (by omega)
 obtain ⟨r1, p1⟩ := kr r0 0 1
 generalize R8.putSq P0.1 room l 0 1 = P1 at *
 have t1 := p0.trans p1
 split
 ·exact i1
 have i2 := key r1 t1 (y := 0) (x := 2) (by omega) (by omega)
 obtain ⟨r2, p2⟩ := kr r1 0 2
 generalize R8.putSq P1.1 room l 0 2 = P2 at *
 have t2 := t1.trans p2
 split
 ·exact i2
 have i3 := key r2 t2 (y := 1) (x := 0) (by omega) (by omega)
 obtain ⟨r3, p3⟩ := kr r2 1 0
 generalize R8.putSq P2.1 room l 1 0 = P3 at *
 have t3 := t2.trans p3
 split
 ·exact i3
 have i4 := key r3 t3 (y := 1) (x := 1) (by omega) (by omega)
 obtain ⟨r4, p4⟩ := kr r3 1 1
 generalize R8.putSq P3.1 room l 1 1 = P4 at *
 have t4 := t3.trans p4
 split
 ·exact i4
 have i5 := key r4 t4 (y := 1) (x := 2) (by omega) (by omega)
 obtain ⟨r5, p5⟩ := kr r4 1 2
 generalize R8.putSq P4.1 room l 1 2 = P5 at *
 have t5 := t4.trans p5
 split
 ·exact i5
 have i6 := key r5 t5 (y := 2) (x := 0) (by omega) (by omega)
 obtain ⟨r6, p6⟩ := kr r5 2 0
 generalize R8.putSq P5.1 room l 2 0 = P6 at *
 have t6 := t5.trans p6
 split
 ·exact i6
 have i7 := key r6 t6 (y := 2) (x := 1) (by omega) (by omega)
 obtain ⟨r7, p7⟩ := kr r6 2 1
 generalize R8.putSq P6.1 room l 2 1 = P7 at *
 have t7 := t6.trans p7
 split
 ·exact i7
 have i8 := key r7 t7 (y := 2) (x := 2) (by omega) (by omega)
 generalize R8.putSq P7.1 room l 2 2 = P8 at *
 split
 ·exact i8
 ·exact .inl rfl
theorem mapS_er {room : Int} {f : LS → Int → L9} {C : List Node → Int → Prop} {lv : Nat} (hC : ∀ ns ms q, ns <+: ms → C ns q → C ms q) (hf : ∀ s q, Lk room s → C s.ns q → Er (f s q).2.2 ∧ ((f s q).2.2 = 0 → Gd room s (f s q) lv)) : ∀ (qs : List Int) (s : LS), Lk room s → (∀ q ∈ qs, C s.ns q) → Er (mapS f s qs).2.2
 | [], s, h, _ => .inl rfl
 | q :: qs, s, h, hq => by
  obtain ⟨e1, e2⟩ := hf s q h (hq q List.mem_cons_self)
  unfold mapS
  by_cases h0 : (f s q).2.2 = 0
  ·rw [if_neg (by simpa using h0)]
   have g := e2 h0
   exact mapS_er hC hf qs (f s q).1 g.lk (fun x hx => hC _ _ _ g.pre (hq x (List.mem_cons_of_mem _ hx)))
  ·rw [if_pos h0]
   exact e1
theorem bindM_er {r : LS × List Int × Int} {f : LS → List Int → L9} (h : Er r.2.2) (hf : r.2.2 = 0 → Er (f r.1 r.2.1).2.2) : Er (bindM r f).2.2 := by
 by_cases e : r.2.2 = 0
 ·rw [bindM_ok e]; exact hf e
 ·rw [bindM_err e]; exact h
theorem far_er {room : Int} {k : Nat} {lp : LS → Int → Int → L9} (hk : k + 3 ≤ 42) (hlp : ∀ s q j, Lk room s → IsN s.ns (k + 2) q → (lp s q j).2.2 = 0 → Gd room s (lp s q j) (k + 1)) (hle : ∀ s q j, Lk room s → IsN s.ns (k + 2) q → Er (lp s q j).2.2) {full : Bool} {s : LS} {n j : Int} (h : Lk room s) (hn : IsN s.ns (k + 3) n) : Er (far lp room full s n j).2.2 := by
 unfold far
 refine bindM_er ?_ fun e1 => ?_
 ·unfold half
  by_cases e0 : (R8.all s.ns room n).2.2 = 0
  ·rw [if_neg (by simpa using e0)]
   obtain ⟨r0, p0, l0, i0⟩ := all_gd h.right hn e0
   refine mapS_er (room := room) (f := halfF lp room full j) (C := fun ns q => IsN ns (k + 2) q) (lv := k + 1) isN_mono (fun s q hs hq => ?_) (R8.all s.ns room n).2.1 ⟨(R8.all s.ns room n).1, s.mm⟩ ⟨r0, h.mem.pre p0⟩ i0
   unfold halfF
   cases full
   ·exact ⟨putSq_er (lv := k) hs.right (by omega) (s16_isN hs.wf hq) (y := 1) (x := 1) (by omega) (by omega), fun he => midS_gd hs hq he⟩
   ·exact ⟨hle s q (j - 1) hs hq, fun he => hlp s q (j - 1) hs hq he⟩
  ·rw [if_pos e0]
   exact all_er h.right (lv := k + 1) (by omega) hn
 obtain ⟨r1, p1, l1, i1⟩ := half_gd hlp h hn rfl e1
 generalize half lp room full s n j = R1 at *
 refine bindM_er ?_ fun e2 => ?_
 ·refine mapS_er (room := room) (f := fourP room R1.2.1) (C := fun ns k' => (0 ≤ k' ∧ k' ≤ 4) ∧ ∀ q ∈ R1.2.1, IsN ns (k + 1) q) (lv := k + 2) (fun _ _ _ hp hq => ⟨hq.1, fun q h => (hq.2 q h).pre hp⟩) (fun s q hs hq => ?_) fourE R1.1 r1 (fun q hq => ?_)
  ·have hm := fun (i : Int) (a : 0 ≤ i) (b : i ≤ 8) => hq.2 _ (g_mem (l := R1.2.1) a (by rw [l1]; omega))
   exact ⟨put_er hs.wf (lv := k + 1) (by omega) (hm _ (by omega) (by omega)) (hm _ (by omega) (by omega)) (hm _ (by omega) (by omega)) (hm _ (by omega) (by omega)), fun he => putS_gd hs (hm _ (by omega) (by omega)) he⟩
  ·simp only [fourE, List.mem_cons, List.not_mem_nil, or_false] at hq
   exact ⟨by omega, i1⟩
 obtain ⟨r2, p2, l2, i2⟩ := four_gd r1 l1 i1 e2
 generalize mapS (fourP room R1.2.1) R1.1 fourE = R2 at *
 refine bindM_er ?_ fun e3 => ?_
 ·exact mapS_er (room := room) (f := lastF lp (if full = true then j - 1 else j)) (C := fun ns q => IsN ns (k + 2) q) (lv := k + 1) isN_mono (fun s q hs hq => ⟨hle s q _ hs hq, fun he => hlp s q _ hs hq he⟩) R2.2.1 R2.1 r2 i2
 obtain ⟨r3, p3, l3, i3⟩ := last_gd hlp (j := if full = true then j - 1 else j) r2 i2 e3
 generalize mapS (lastF lp (if full = true then j - 1 else j)) R2.1 R2.2.1 = R3 at *
 have hm := fun (i : Int) (a : 0 ≤ i) (b : i ≤ 3) => i3 _ (g_mem (l := R3.2.1) a (by rw [l3, l2]; omega))
 exact put_er r3.wf (lv := k + 1) (by omega) (hm _ (by omega) (by omega)) (hm _ (by omega) (by omega)) (hm _ (by omega) (by omega)) (hm _ (by omega) (by omega))
theorem keep_er {n j : Int} {r : L9} (h : Er r.2.2) : Er (keep n j r).2.2 := by
 unfold keep
 split
 ·exact h
 ·exact .inl rfl
theorem leap_er {room : Int} : ∀ (k : Nat) (s : LS) (n j : Int), k + 2 ≤ 42 → Lk room s → IsN s.ns (k + 2) n → Er (leap room k s n j).2.2
 | 0, s, n, j, hk, h, hn => by
  unfold leap
  cases hl : look9 s.mm n j with
  | some to => exact .inl rfl
  | none =>
   refine keep_er ?_
   have hb : ∀ y x, IsN s.ns 0 (R8.bit (R8.s16 s.ns n) y x) := fun y x => by
    rcases bit_01 (R8.s16 s.ns n) y x with e | e <;> rw [e]
    ·exact ⟨h.wf.in0, by rw [h.wf.nd0]; rfl⟩
    ·exact ⟨h.wf.in1, by rw [h.wf.nd1]; rfl⟩
   exact put_er h.wf (lv := 0) (by omega) (hb 1 1) (hb 1 2) (hb 2 1) (hb 2 2)
 | k + 1, s, n, j, hk, h, hn => by
  unfold leap
  cases hl : look9 s.mm n j with
  | some to => exact .inl rfl
  | none => exact keep_er (far_er (by omega) (fun s q j hs hq he => leap_gd k s q j hs hq he) (fun s q j hs hq => leap_er k s q j (by omega) hs hq) h hn)
end R9
end Go.GL

set_option linter.unusedVariables false
namespace Go.GL
open R6 R7
namespace R9
theorem out_ok {ns : List Node} {r : L9} (h : r.2.2 = 0) : out ns r = (r.1.ns, r.2.1, 0) := if_neg (by simpa using h)
theorem out_bad {ns : List Node} {r : L9} (h : r.2.2 ≠ 0) : out ns r = (ns, 0, r.2.2) := if_pos h
theorem lk_nil {ns : List Node} {room : Int} (h : R6.right ns room) : Lk room (⟨ns, []⟩ : LS) := ⟨h, fun p hp => by cases hp⟩
theorem ms_nil (ns : List Node) : MS (⟨ns, []⟩ : LS) := fun p hp => by cases hp
/-- What a leap tells. -/
structure LeapR (ns : List Node) (room : Int) (k : Nat) (n j : Int) (p : List Node × Int × Int) : Prop where
 er : Er p.2.2
 right : R6.right p.1 room
 pre : ns <+: p.1
 is : p.2.2 = 0 → IsN p.1 (k + 1) p.2.1
 std : p.2.2 = 0 → ∀ f ox oy, Std ns (k + 2) n f ox oy → Std p.1 (k + 1) p.2.1 (gens (2 ^ j.toNat) f) (ox + 2 ^ k) (oy + 2 ^ k)
theorem leapT_ok {ns : List Node} {room n j : Int} {k : Nat} (h : R6.right ns room) (hn : IsN ns (k + 2) n) (hj : 0 ≤ j ∧ j ≤ (k : Int)) : LeapR ns room k n j (leapT ns room n j) := by
 have hw := (right_iff.1 h).2
 have hlb := (hw.lvb hn.1).2
 rw [hn.2] at hlb
 have e : leapT ns room n j = out ns (leap room k ⟨ns, []⟩ n j) := by
  unfold leapT
  rw [if_pos ⟨⟨h, hn.1, by rw [hn.2]; omega⟩, hj.1, by rw [hn.2]; omega⟩, lvS_is (s := ⟨ns, []⟩) hn]
 have her := leap_er (room := room) k ⟨ns, []⟩ n j (by omega) (lk_nil h) hn
 rw [e]
 by_cases e0 : (leap room k ⟨ns, []⟩ n j).2.2 = 0
 ·rw [out_ok e0]
  obtain ⟨g1, g2, g3, g4⟩ := leap_ok k ⟨ns, []⟩ n j (lk_nil h) (ms_nil ns) hn hj e0
  exact ⟨.inl rfl, g1.right, g2, fun _ => (leap_gd k ⟨ns, []⟩ n j (lk_nil h) hn e0).is, fun _ => g4⟩
 ·rw [out_bad e0]
  exact ⟨her, h, List.prefix_refl _, fun h => absurd h e0, fun h => absurd h e0⟩
/-- The cells that a node in the middle stands for. -/
theorem mem_std {ns : List Node} (h : Wf ns) {lv : Nat} {n : Int} {f : Int → Int → Bool} (hs : Std ns (lv + 1) n f (-2 ^ lv) (-2 ^ lv)) (c : Cell) : c ∈ R7.of ns n ↔ inL ((lv + 1 : Nat) : Int) c ∧ f c.x c.y = true := by
 rw [mem_of h hs.1]
 constructor
 ·rintro ⟨h1, h2⟩
  refine ⟨h1, ?_⟩
  rw [hs.2 _ _ ?_] at h2
  ·rwa [show c.x + 2 ^ lv + -2 ^ lv = c.x by omega, show c.y + 2 ^ lv + -2 ^ lv = c.y by omega] at h2
  ·unfold inL at h1
   rw [side_succ] at h1
   unfold inQ
   rw [p2s]
   omega
 ·rintro ⟨h1, h2⟩
  refine ⟨h1, ?_⟩
  rw [hs.2 _ _ ?_]
  ·rwa [show c.x + 2 ^ lv + -2 ^ lv = c.x by omega, show c.y + 2 ^ lv + -2 ^ lv = c.y by omega]
  ·unfold inL at h1
   rw [side_succ] at h1
   unfold inQ
   rw [p2s]
   omega
/-- A set, as a part of the plane. -/
def pl (l : List Cell) : Int → Int → Bool := fun x y => decide ((⟨x, y⟩ : Cell) ∈ l)
theorem std_make {ns : List Node} {lv : Nat} {m : Int} {l : List Cell} (hn : IsN ns (lv + 1) m) (h : ∀ c : Cell, inL ((lv + 1 : Nat) : Int) c → al ns (lv + 1) m (c.x + 2 ^ lv) (c.y + 2 ^ lv) = decide (c ∈ l)) : Std ns (lv + 1) m (pl l) (-2 ^ lv) (-2 ^ lv) := by
 refine ⟨hn, fun x y hq => ?_⟩
 have := h ⟨x - 2 ^ lv, y - 2 ^ lv⟩ (by
  unfold inQ at hq
  rw [p2s] at hq
  unfold inL
  rw [side_succ]
  simp only
  omega)
 simp only at this
 rw [show x - 2 ^ lv + 2 ^ lv = x by omega, show y - 2 ^ lv + 2 ^ lv = y by omega] at this
 rw [this]
 unfold pl
 rw [show x + -2 ^ lv = x - 2 ^ lv by omega, show y + -2 ^ lv = y - 2 ^ lv by omega]
theorem of_le {ns : List Node} {lv : Nat} {n : Int} (hn : IsN ns lv n) : (R7.of ns n).length ≤ 4 ^ lv := by
 have := flat_len ns lv n ⟨-side (nd ns n).lv, -side (nd ns n).lv⟩
 unfold R7.of
 rw [show (nd ns n).lv.toNat = lv by rw [hn.2]; omega]
 exact this
end R9
namespace RL
def cropF (l : List Cell) (half : Int) : List Cell := l.filter fun c => decide (((-half ≤ c.x ∧ c.x < half) ∧ -half ≤ c.y) ∧ c.y < half)
def hset (raw : List Cell) : List Cell := R1.puts ((raw.take 40).map cell16)
theorem hset_le (raw : List Cell) : (hset raw).length ≤ 40 := by
 unfold hset
 have h := puts_le ((raw.take 40).map cell16)
 rw [List.length_map, List.length_take] at h
 omega
theorem mem_hset {raw : List Cell} {c : Cell} (h : c ∈ hset raw) : -8 ≤ c.x ∧ c.x < 8 ∧ -8 ≤ c.y ∧ c.y < 8 := by
 unfold hset at h
 rw [R1.mem_puts] at h
 obtain ⟨r, _, rfl⟩ := List.mem_map.1 h
 exact cell16_bd r
theorem hset_right (raw : List Cell) : R1.right (hset raw) := R1.right_of (R1.puts_srt _) (fun c hc => by have := mem_hset hc; unfold R1.inB; omega) (by have := hset_le raw; omega)
theorem new9_right {room : Int} (h2 : 2 ≤ room) (h3 : room ≤ 100000) : R6.right [n0, n1] room := R6.right_iff.2 ⟨⟨h2, h3, by simpa using h2⟩, new_wf⟩
/-- Made of a set, about the middle. -/
theorem make9 {room : Int} (h2 : 1000 ≤ room) (h3 : room ≤ 100000) {l : List Cell} {lv : Nat} (hlv : lv + 1 ≤ 5) (hl : R1.right l) (hn : l.length ≤ 60) (hb : ∀ c ∈ l, R7.inL ((lv + 1 : Nat) : Int) c) {ns : List Node} (hr : R6.right ns room) (hlen : ns.length ≤ 500) :
  ∃ ms m, R7.make ns room l ((lv + 1 : Nat) : Int) = (ms, m, 0) ∧ R6.right ms room ∧ ns <+: ms ∧ ms.length ≤ ns.length + 400 ∧ R9.Std ms (lv + 1) m (R9.pl l) (-2 ^ lv) (-2 ^ lv) := by
 have hE := R7.E_le ns 6
 have hmul : l.length * (lv + 1) ≤ 60 * 5 := Nat.mul_le_mul hn hlv
 obtain ⟨ms, m, e, ok, sem⟩ := R7.make_ok (room := room) (L := 6) (lv := lv) (by omega) (by omega) hr hl hb (by omega)
 have hlen2 := ok.len
 refine ⟨ms, m, e, R6.right_iff.2 ⟨⟨by omega, by omega, by omega⟩, ok.wf⟩, ok.pre, by omega, R9.std_make ok.is sem⟩
end RL
end Go.GL

set_option linter.unusedVariables false
namespace Go.GL
open Go.Proofs
theorem num_int : NumTy Try.prog 3 1 := NumTy.int
theorem num_2 : NumTy Try.prog 46 2 := NumTy.arr num_int (by decide)
theorem num_4 : NumTy Try.prog 33 4 := NumTy.arr num_int (by decide)
theorem num_5 : NumTy Try.prog 69 5 := NumTy.arr num_int (by decide)
theorem num_cell : NumTy Try.prog 48 2 := NumTy.str (ns := [1, 1]) (by exact ⟨num_int, num_int, trivial⟩) (by decide)
theorem num_node : NumTy Try.prog 35 6 := NumTy.str (ns := [1, 4, 1]) (by exact ⟨num_int, num_4, num_int, trivial⟩) (by decide)
theorem laid : laidOutB Try.prog = true := by kernel_rfl
theorem own : ownKnob Try.prog.godebug = none := by kernel_rfl
end Go.GL

set_option linter.unusedVariables false
namespace Go.GL
open R6 R7
/-! ### A run stands for what is there behind so many generations -/
namespace R9
/-- All that is alive is so near. -/
def Supp (f : Int → Int → Bool) (a : Int) : Prop := ∀ x y, f x y = true → -a ≤ x ∧ x < a ∧ -a ≤ y ∧ y < a
theorem Supp.le {f : Int → Int → Bool} {a b : Int} (h : Supp f a) (hab : a ≤ b) : Supp f b := fun x y hf => by
 have := h x y hf
 omega
theorem gen_live {f : Int → Int → Bool} {x y : Int} (h : gen f x y = true) : ∃ i j : Int, (-1 ≤ i ∧ i ≤ 1) ∧ (-1 ≤ j ∧ j ≤ 1) ∧ f (x + i) (y + j) = true := by
 apply Classical.byContradiction
 intro hc
 have key : ∀ i j : Int, -1 ≤ i ∧ i ≤ 1 → -1 ≤ j ∧ j ≤ 1 → f (x + i) (y + j) = false := fun i j hi hj => by
  cases e : f (x + i) (y + j)
  ·rfl
  ·exact absurd ⟨i, j, hi, hj, e⟩ hc
 have a1 := key (-1) (-1) (by omega) (by omega)
 have a2 := key 0 (-1) (by omega) (by omega)
 have a3 := key 1 (-1) (by omega) (by omega)
 have a4 := key (-1) 0 (by omega) (by omega)
 have a5 := key 0 0 (by omega) (by omega)
 have a6 := key 1 0 (by omega) (by omega)
 have a7 := key (-1) 1 (by omega) (by omega)
 have a8 := key 0 1 (by omega) (by omega)
 have a9 := key 1 1 (by omega) (by omega)
 rw [Int.add_zero] at a2 a4 a5 a6 a8
 rw [Int.add_zero] at a5
 unfold gen R8.nx R8.cnt at h
 rw [show x - 1 = x + -1 by omega, show y - 1 = y + -1 by omega, a1, a2, a3, a4, a5, a6, a7, a8, a9] at h
 exact absurd h (by decide)
theorem gen_supp {f : Int → Int → Bool} {a : Int} (h : Supp f a) : Supp (gen f) (a + 1) := fun x y hg => by
 obtain ⟨i, j, hi, hj, hf⟩ := gen_live hg
 have := h _ _ hf
 omega
theorem gens_supp : ∀ (m : Nat) {f : Int → Int → Bool} {a : Int}, Supp f a → Supp (gens m f) (a + m)
 | 0, f, a, h => by rw [show a + ((0 : Nat) : Int) = a by omega]; exact h
 | m + 1, f, a, h => by
  have := gens_supp m (gen_supp h)
  rw [show a + ((m + 1 : Nat) : Int) = a + 1 + (m : Int) by omega]
  exact this
/-- A node of the level k + 2 in the middle, and nothing outside. -/
def Ctr (ns : List Node) (k : Nat) (n : Int) (f : Int → Int → Bool) : Prop := Std ns (k + 2) n f (-2 ^ (k + 1)) (-2 ^ (k + 1)) ∧ Supp f (2 ^ (k + 1))
theorem Ctr.pre {ns ms : List Node} (h : Wf ns) (hp : ns <+: ms) {k : Nat} {n : Int} {f : Int → Int → Bool} (hs : Ctr ns k n f) : Ctr ms k n f := ⟨hs.1.pre h hp, hs.2⟩
/-- The edge is dead: all is nearer. -/
theorem unedged {ns : List Node} (h : Wf ns) {k : Nat} {n : Int} {f : Int → Int → Bool} (hs : Ctr ns (k + 1) n f) (he : ¬ edged ns n = true) : Supp f (2 ^ (k + 1)) := by
 obtain ⟨h1, h2⟩ := hs
 intro x y hf
 have hb := h2 x y hf
 have hpos := p2pos (k + 1)
 have hp2 : (2 : Int) ^ (k + 1 + 1) = 2 * 2 ^ (k + 1) := p2s' (k + 1)
 rw [hp2] at hb h1
 generalize hh : (2 : Int) ^ (k + 1) = H at *
 have key : ∀ X Y : Int, (0 ≤ X ∧ X ≤ 3) → (0 ≤ Y ∧ Y ≤ 3) → (4 * Y + X) ∈ ([0, 1, 2, 3, 4, 7, 8, 11, 12, 13, 14, 15] : List Int) → (-(2 * H) + X * H ≤ x ∧ x < -(2 * H) + X * H + H) → (-(2 * H) + Y * H ≤ y ∧ y < -(2 * H) + Y * H + H) → False := by
  intro X Y hX hY hm hx hy
  have hst := std_s16 (lv := k + 1) h h1 hX hY
  rw [hh] at hst
  have hpop : (nd ns (R8.g (R8.s16 ns n) (4 * Y + X))).pop = 0 := by
   apply Decidable.byContradiction
   intro hp
   exact he (List.any_eq_true.2 ⟨_, hm, decide_eq_true hp⟩)
  have ha := al_dead h (k + 1) _ (x - (-(2 * H) + X * H)) (y - (-(2 * H) + Y * H)) hst.1 hpop
  rw [hst.2 _ _ (by unfold inQ; rw [hh]; omega)] at ha
  rw [show x - (-(2 * H) + X * H) + (-(2 * H) + X * H) = x by omega, show y - (-(2 * H) + Y * H) + (-(2 * H) + Y * H) = y by omega, hf] at ha
  exact nomatch ha
 have ix : (-(2 * H) ≤ x ∧ x < -H) ∨ (-H ≤ x ∧ x < 0) ∨ (0 ≤ x ∧ x < H) ∨ (H ≤ x ∧ x < 2 * H) := by omega
 have iy : (-(2 * H) ≤ y ∧ y < -H) ∨ (-H ≤ y ∧ y < 0) ∨ (0 ≤ y ∧ y < H) ∨ (H ≤ y ∧ y < 2 * H) := by omega
 rcases ix with ix | ix | ix | ix <;> rcases iy with iy | iy | iy | iy
 ·exact (key 0 0 (by omega) (by omega) (by decide) (by omega) (by omega)).elim
 ·exact (key 0 1 (by omega) (by omega) (by decide) (by omega) (by omega)).elim
 ·exact (key 0 2 (by omega) (by omega) (by decide) (by omega) (by omega)).elim
 ·exact (key 0 3 (by omega) (by omega) (by decide) (by omega) (by omega)).elim
 ·exact (key 1 0 (by omega) (by omega) (by decide) (by omega) (by omega)).elim
 ·omega
 ·omega
 ·exact (key 1 3 (by omega) (by omega) (by decide) (by omega) (by omega)).elim
 ·exact (key 2 0 (by omega) (by omega) (by decide) (by omega) (by omega)).elim
 ·omega
 ·omega
 ·exact (key 2 3 (by omega) (by omega) (by decide) (by omega) (by omega)).elim
 ·exact (key 3 0 (by omega) (by omega) (by decide) (by omega) (by omega)).elim
 ·exact (key 3 1 (by omega) (by omega) (by decide) (by omega) (by omega)).elim
 ·exact (key 3 2 (by omega) (by omega) (by decide) (by omega) (by omega)).elim
 ·exact (key 3 3 (by omega) (by omega) (by decide) (by omega) (by omega)).elim
theorem midS_mm (room : Int) (s : LS) (n : Int) : (midS room s n).1.mm = s.mm := rfl
theorem putS_ms {room : Int} {s : LS} (h : Lk room s) (hm : MS s) {q0 q1 q2 q3 : Int} : MS (putS room s q0 q1 q2 q3).1 := hm.pre h.wf (right_put h.right q0 q1 q2 q3).2
theorem mid_ctr {room : Int} {s : LS} (h : Lk room s) {k : Nat} {n : Int} {f : Int → Int → Bool} (hs : Ctr s.ns (k + 1) n f) (he : ¬ edged s.ns n = true) (h0 : (midS room s n).2.2 = 0) : Ctr (midS room s n).1.ns k (midS room s n).2.1 f := by
 refine ⟨(midS_std h hs.1 h0).at ?_ ?_, unedged h.wf hs he⟩ <;> (rw [p2s' (k + 1)]; omega)
/-- Trimmed. -/
theorem trim_ctr {room : Int} : ∀ (k : Nat) (s : LS) (n : Int) (f : Int → Int → Bool), k + 2 ≤ 42 → Lk room s → MS s → Ctr s.ns k n f →
  Er (trim room k s n).2.2 ∧ ((trim room k s n).2.2 = 0 → Lk room (trim room k s n).1 ∧ s.ns <+: (trim room k s n).1.ns ∧ MS (trim room k s n).1 ∧ ∃ k', k' ≤ k ∧ Ctr (trim room k s n).1.ns k' (trim room k s n).2.1 f ∧ (k' = 0 ∨ edged (trim room k s n).1.ns (trim room k s n).2.1 = true))
 | 0, s, n, f, _, h, hm, hs => ⟨.inl rfl, fun _ => ⟨h, List.prefix_refl _, hm, 0, Nat.le_refl _, hs, .inl rfl⟩⟩
 | k + 1, s, n, f, hk, h, hm, hs => by
  unfold trim
  by_cases e : edged s.ns n = true
  ·rw [if_pos e]
   exact ⟨.inl rfl, fun _ => ⟨h, List.prefix_refl _, hm, k + 1, Nat.le_refl _, hs, .inr e⟩⟩
  rw [if_neg e]
  by_cases e1 : (midS room s n).2.2 = 0
  ·rw [if_neg (by simpa using e1)]
   have g := midS_gd (lv := k + 1) h hs.1.1 e1
   obtain ⟨a1, a2⟩ := trim_ctr k (midS room s n).1 (midS room s n).2.1 f (by omega) g.lk (putS_ms h hm) (mid_ctr h hs e e1)
   refine ⟨a1, fun h0 => ?_⟩
   obtain ⟨b1, b2, b3, k', b4, b5, b6⟩ := a2 h0
   exact ⟨b1, g.pre.trans b2, b3, k', by omega, b5, b6⟩
  ·rw [if_pos e1]
   exact ⟨putSq_er (lv := k + 1) h.right (by omega) (s16_isN h.wf hs.1.1) (y := 1) (x := 1) (by omega) (by omega), fun h0 => absurd h0 e1⟩
/-! #### grown -/
def nil2 : Int → Int → Bool := fun _ _ => false
theorem std_dead {ns : List Node} {lv : Nat} {d : Int} {f : Int → Int → Bool} {ox oy : Int} (hd : Std ns lv d nil2 0 0) (hf : ∀ x y, inQ lv x y → f (x + ox) (y + oy) = false) : Std ns lv d f ox oy :=
 ⟨hd.1, fun x y hq => by rw [hd.2 x y hq, hf x y hq]; rfl⟩
theorem nil2_at {ns : List Node} {lv : Nat} {d : Int} (hd : Std ns lv d nil2 0 0) (ox oy : Int) : Std ns lv d nil2 ox oy := ⟨hd.1, fun x y hq => by rw [hd.2 x y hq]; rfl⟩
theorem emptyF_std {room : Int} : ∀ (k : Nat) (ns : List Node) (n : Int) (j : Nat), j + k ≤ 42 → R6.right ns room → Std ns j n nil2 0 0 → Er (emptyF room k ns n).2.2 ∧ ((emptyF room k ns n).2.2 = 0 → Std (emptyF room k ns n).1 (j + k) (emptyF room k ns n).2.1 nil2 0 0)
 | 0, ns, n, j, _, h, hn => ⟨.inl rfl, fun _ => hn⟩
 | k + 1, ns, n, j, hj, h, hn => by
  have hw := (right_iff.1 h).2
  have her := put_er (room := room) hw (lv := j) (by omega) hn.1 hn.1 hn.1 hn.1
  unfold emptyF
  by_cases e : (put ns room n n n n).2.2 = 0
  ·rw [if_neg (by simpa using e)]
   obtain ⟨a, b⟩ := right_put h n n n n
   have c := std_put hw hn (nil2_at hn _ _) (nil2_at hn _ _) (nil2_at hn _ _) e
   have := emptyF_std k _ _ (j + 1) (by omega) a c
   rw [show j + (k + 1) = j + 1 + k by omega]
   exact this
  ·rw [if_pos e]
   exact ⟨her, fun h0 => absurd h0 e⟩
theorem empty_std {room : Int} {ns : List Node} (h : R6.right ns room) {lv : Nat} (hl : lv ≤ 42) : Er (R7.empty ns room lv).2.2 ∧ ((R7.empty ns room lv).2.2 = 0 → Std (R7.empty ns room lv).1 lv (R7.empty ns room lv).2.1 nil2 0 0) := by
 have hw := (right_iff.1 h).2
 have := emptyF_std lv ns 0 0 (by omega) h ⟨⟨hw.in0, by rw [hw.nd0]; rfl⟩, fun x y _ => rfl⟩
 rw [Nat.zero_add] at this
 exact this
theorem std_kids {ns : List Node} (h : Wf ns) {lv : Nat} {n : Int} {f : Int → Int → Bool} {ox oy : Int} (hs : Std ns (lv + 1) n f ox oy) {q : Nat} (hq : q < 4) : Std ns lv ((nd ns n).kids.getD q default) f (ox + ((q % 2 : Nat) : Int) * 2 ^ lv) (oy + ((q / 2 : Nat) : Int) * 2 ^ lv) := by
 refine ⟨kids_getD h hs.1 hq, fun x y hxy => ?_⟩
 have hpos := p2pos lv
 have hk : ∀ a b : Int, (a = 0 ∨ a = 1) → (b = 0 ∨ b = 1) → al ns lv (R7.kid ns n (2 * b + a)) x y = f (x + (ox + a * 2 ^ lv)) (y + (oy + b * 2 ^ lv)) := fun a b ha hb => by
  rw [← al_kid ns hxy ha hb, hs.2 _ _ ?_]
  ·congr 1 <;> omega
  ·unfold inQ at hxy ⊢
   rw [p2s]
   rcases ha with rfl | rfl <;> rcases hb with rfl | rfl <;> omega
 match q, hq with
 | 0, _ => exact hk 0 0 (.inl rfl) (.inl rfl)
 | 1, _ => exact hk 1 0 (.inr rfl) (.inl rfl)
 | 2, _ => exact hk 0 1 (.inl rfl) (.inr rfl)
 | 3, _ => exact hk 1 1 (.inr rfl) (.inr rfl)
theorem bigK_std {ns : List Node} {lv : Nat} {d : Int} {kd : Nat → Int} {f : Int → Int → Bool} {H : Int} (hH : (2 : Int) ^ lv = H) (hd : Std ns lv d nil2 0 0) (hs : Supp f H) (hk : ∀ q : Nat, q < 4 → Std ns lv (kd q) f (-H + ((q % 2 : Nat) : Int) * H) (-H + ((q / 2 : Nat) : Int) * H)) {q i : Nat} (hq : q < 4) (hi : i < 4) :
  Std ns lv (bigK d q (kd q) i) f (-(2 * H) + ((q % 2 : Nat) : Int) * (2 * H) + ((i % 2 : Nat) : Int) * H) (-(2 * H) + ((q / 2 : Nat) : Int) * (2 * H) + ((i / 2 : Nat) : Int) * H) := by
 have hpos := p2pos lv
 rw [hH] at hpos
 unfold bigK
 split
 ·rename_i e
  refine (hk q hq).at ?_ ?_
  all_goals
   rcases (by omega : (q = 0 ∧ i = 3) ∨ (q = 1 ∧ i = 2) ∨ (q = 2 ∧ i = 1) ∨ (q = 3 ∧ i = 0)) with ⟨rfl, rfl⟩ | ⟨rfl, rfl⟩ | ⟨rfl, rfl⟩ | ⟨rfl, rfl⟩ <;> simp only [Nat.reduceDiv, Nat.reduceMod] <;> omega
 ·rename_i e
  refine std_dead hd fun x y hxy => ?_
  unfold inQ at hxy
  rw [hH] at hxy
  apply Decidable.byContradiction
  intro hne
  have hb := hs _ _ (Bool.of_not_eq_false hne)
  rcases (by omega : q = 0 ∨ q = 1 ∨ q = 2 ∨ q = 3) with rfl | rfl | rfl | rfl <;> rcases (by omega : i = 0 ∨ i = 1 ∨ i = 2 ∨ i = 3) with rfl | rfl | rfl | rfl <;> simp only [Nat.reduceDiv, Nat.reduceMod] at hb <;> omega
theorem grow_ctr {room : Int} {s : LS} (h : Lk room s) (hm : MS s) {k : Nat} {n : Int} {f : Int → Int → Bool} (hk : k + 3 ≤ 42) (hs : Ctr s.ns k n f) :
  Er (grow room s n).2.2 ∧ ((grow room s n).2.2 = 0 → Lk room (grow room s n).1 ∧ s.ns <+: (grow room s n).1.ns ∧ MS (grow room s n).1 ∧ Std (grow room s n).1.ns (k + 3) (grow room s n).2.1 f (-2 ^ (k + 2)) (-2 ^ (k + 2))) := by
 have hn := hs.1.1
 have hlv : (nd s.ns n).lv = k + 2 := by rw [hn.2]; omega
 have hp1 := p2s' (k + 1)
 rw [grow_eq, show ((nd s.ns n).lv - 1).toNat = k + 1 by omega, if_neg (by omega)]
 obtain ⟨er1, st1⟩ := empty_std h.right (lv := k + 1) (by omega)
 by_cases e1 : (R7.empty s.ns room (k + 1)).2.2 = 0
 case neg => rw [if_pos e1]; exact ⟨er1, fun h0 => absurd h0 e1⟩
 rw [if_neg (by simpa using e1)]
 obtain ⟨r1, p1, i1⟩ := empty_gd h.right e1
 have st1 := st1 e1
 have l1 : Lk room (⟨(R7.empty s.ns room (k + 1)).1, s.mm⟩ : LS) := ⟨r1, h.mem.pre p1⟩
 have m1 : MS (⟨(R7.empty s.ns room (k + 1)).1, s.mm⟩ : LS) := hm.pre h.wf p1
 have hkd : ∀ q : Nat, q < 4 → Std (R7.empty s.ns room (k + 1)).1 (k + 1) ((nd s.ns n).kids.getD q default) f (-2 ^ (k + 1) + ((q % 2 : Nat) : Int) * 2 ^ (k + 1)) (-2 ^ (k + 1) + ((q / 2 : Nat) : Int) * 2 ^ (k + 1)) := fun q hq => (std_kids h.wf hs.1 hq).pre h.wf p1
 generalize hD : (R7.empty s.ns room (k + 1)).2.1 = d at *
 generalize hT : (⟨(R7.empty s.ns room (k + 1)).1, s.mm⟩ : LS) = T at *
 have hTn : T.ns = (R7.empty s.ns room (k + 1)).1 := by rw [← hT]
 rw [← hTn] at st1 hkd p1 i1
 generalize hks : (nd s.ns n).kids = ks at *
 have hsup := hs.2
 generalize hH : (2 : Int) ^ (k + 1) = H at *
 have hMer : Er (mapS (growF room d ks) T k4).2.2 := mapS_er (room := room) (f := growF room d ks) (C := fun ns k' => IsN ns (k + 1) d ∧ IsN ns (k + 1) (ks.getD k'.toNat default)) (lv := k + 2) (fun _ _ _ hp hq => ⟨hq.1.pre hp, hq.2.pre hp⟩) (fun s q hs hq => ⟨put_er hs.wf (lv := k + 1) (by omega) (bigK_isN hq.1 hq.2 _ _) (bigK_isN hq.1 hq.2 _ _) (bigK_isN hq.1 hq.2 _ _) (bigK_isN hq.1 hq.2 _ _), fun he => growF_gd hs hq he⟩) k4 T l1 (fun q hq => by
  simp only [k4, List.mem_cons, List.not_mem_nil, or_false] at hq
  exact ⟨i1, (hkd q.toNat (by omega)).1⟩)
 by_cases e2 : (mapS (growF room d ks) T k4).2.2 = 0
 case neg => rw [bindM_err e2]; exact ⟨hMer, fun h0 => absurd h0 e2⟩
 rw [bindM_ok e2]
 obtain ⟨l2, p2, m2, n2, i2⟩ := mapS_std (room := room) (f := growF room d ks) (fun i ns q => q = (i : Int) ∧ i < 4 ∧ Std ns (k + 1) d nil2 0 0 ∧ ∀ q : Nat, q < 4 → Std ns (k + 1) (ks.getD q default) f (-H + ((q % 2 : Nat) : Int) * H) (-H + ((q / 2 : Nat) : Int) * H))
  (fun i ns q => Std ns (k + 2) q f (-(2 * H) + ((i % 2 : Nat) : Int) * (2 * H)) (-(2 * H) + ((i / 2 : Nat) : Int) * (2 * H)))
  (fun i ns ms q hw hp hq => ⟨hq.1, hq.2.1, hq.2.2.1.pre hw hp, fun q h => (hq.2.2.2 q h).pre hw hp⟩) (fun i ns ms q hw hp hq => hq.pre hw hp) (fun i t q ht hmt hq he => by
   obtain ⟨rfl, hi4, hd, hkk⟩ := hq
   have g := growF_gd ht ⟨hd.1, (hkk i hi4).1⟩ he
   have hb := fun {i' : Nat} (h' : i' < 4) => bigK_std (kd := fun q => ks.getD q default) hH hd hsup hkk hi4 h'
   refine ⟨g.lk, g.pre, putS_ms ht hmt, ?_⟩
   have b0 := hb (i' := 0) (by omega)
   have b1 := hb (i' := 1) (by omega)
   have b2 := hb (i' := 2) (by omega)
   have b3 := hb (i' := 3) (by omega)
   refine std_put (lv := k + 1) ht.wf (b0.at ?_ ?_) (b1.at ?_ ?_) (b2.at ?_ ?_) (b3.at ?_ ?_) he
   all_goals (simp only [Nat.reduceDiv, Nat.reduceMod]; omega)) k4 0 T l1 m1 (fun i hi => by
   have hi4 : i < 4 := hi
   rw [Nat.zero_add]
   refine ⟨?_, hi4, st1, hkd⟩
   match i, hi4 with
   | 0, _ => rfl
   | 1, _ => rfl
   | 2, _ => rfl
   | 3, _ => rfl) e2
 have n2 : (mapS (growF room d ks) T k4).2.1.length = 4 := n2
 generalize mapS (growF room d ks) T k4 = R2 at *
 have h0 := i2 0 (by decide)
 have h1 := i2 1 (by decide)
 have h2 := i2 2 (by decide)
 have h3 := i2 3 (by decide)
 simp only [Nat.zero_add, Nat.reduceDiv, Nat.reduceMod] at h0 h1 h2 h3
 have her := put_er (room := room) l2.wf (lv := k + 2) (by omega) h0.1 h1.1 h2.1 h3.1
 refine ⟨her, fun he => ?_⟩
 have he : (putS room R2.1 (R8.g R2.2.1 0) (R8.g R2.2.1 1) (R8.g R2.2.1 2) (R8.g R2.2.1 3)).2.2 = 0 := he
 have g := putS_gd l2 (lv := k + 2) h0.1 he
 refine ⟨g.lk, (p1.trans p2).trans g.pre, putS_ms l2 m2, ?_⟩
 have hp2 : (2 : Int) ^ (k + 2) = 2 * H := hp1
 refine std_put (lv := k + 2) l2.wf (h0.at ?_ ?_) (h1.at ?_ ?_) (h2.at ?_ ?_) (h3.at ?_ ?_) he
 all_goals (rw [hp2]; omega)
theorem grow_ctr' {room : Int} {s : LS} (h : Lk room s) (hm : MS s) {k : Nat} {n : Int} {f : Int → Int → Bool} (hk : k + 3 ≤ 42) (hs : Ctr s.ns k n f) :
  Er (grow room s n).2.2 ∧ ((grow room s n).2.2 = 0 → Lk room (grow room s n).1 ∧ s.ns <+: (grow room s n).1.ns ∧ MS (grow room s n).1 ∧ Ctr (grow room s n).1.ns (k + 1) (grow room s n).2.1 f) := by
 obtain ⟨h1, h2⟩ := grow_ctr h hm hk hs
 refine ⟨h1, fun h0 => ?_⟩
 obtain ⟨a, b, c, d⟩ := h2 h0
 have hp := p2s' (k + 1)
 have hpos := p2pos (k + 1)
 exact ⟨a, b, c, d, hs.2.le (by show (2 : Int) ^ (k + 1) ≤ 2 ^ (k + 1 + 1); omega)⟩
end R9
end Go.GL

set_option linter.unusedVariables false
namespace Go.GL
open R6 R7
namespace R9
/-- An answer without an error. -/
def OkS (room : Int) (s : LS) (r : L9) : Prop := Lk room r.1 ∧ s.ns <+: r.1.ns ∧ MS r.1
theorem OkS.trans {room : Int} {s t : LS} {r : L9} (h : OkS room t r) (hp : s.ns <+: t.ns) : OkS room s r := ⟨h.1, hp.trans h.2.1, h.2.2⟩
theorem bindS_er {r : L9} {f : LS → Int → L9} (h : Er r.2.2) (hf : r.2.2 = 0 → Er (f r.1 r.2.1).2.2) : Er (bindS r f).2.2 := by
 by_cases e : r.2.2 = 0
 ·rw [bindS_ok e]; exact hf e
 ·rw [bindS_err e]; exact h
theorem bindS_zero {r : L9} {f : LS → Int → L9} (h : (bindS r f).2.2 = 0) : r.2.2 = 0 ∧ (f r.1 r.2.1).2.2 = 0 ∧ bindS r f = f r.1 r.2.1 := by
 by_cases e : r.2.2 = 0
 ·rw [bindS_ok e] at h ⊢
  exact ⟨e, h, rfl⟩
 ·rw [bindS_err e] at h
  exact absurd h e
theorem growTo_ctr {room : Int} {j : Nat} (hj : j + 3 ≤ 42) : ∀ (i : Nat) (s : LS) (n : Int) (k : Nat) (f : Int → Int → Bool), Lk room s → MS s → Ctr s.ns k n f →
  Er (growTo room (j : Int) i s n).2.2 ∧ ((growTo room (j : Int) i s n).2.2 = 0 → OkS room s (growTo room (j : Int) i s n) ∧ ∃ k', k ≤ k' ∧ (k' ≤ k ∨ k' ≤ j + 1) ∧ (j + 1 ≤ k' ∨ k + i ≤ k') ∧ Ctr (growTo room (j : Int) i s n).1.ns k' (growTo room (j : Int) i s n).2.1 f)
 | 0, s, n, k, f, h, hm, hs => ⟨.inl rfl, fun _ => ⟨⟨h, List.prefix_refl _, hm⟩, k, Nat.le_refl _, .inl (Nat.le_refl _), .inr (Nat.le_refl _), hs⟩⟩
 | i + 1, s, n, k, f, h, hm, hs => by
  have hlv : (nd s.ns n).lv = ((k + 2 : Nat) : Int) := hs.1.1.2
  unfold growTo
  by_cases hl : (nd s.ns n).lv < (j : Int) + 3
  ·rw [if_pos hl]
   obtain ⟨g1, g2⟩ := grow_ctr' h hm (by omega) hs
   refine ⟨bindS_er g1 fun e => ?_, fun e => ?_⟩
   ·obtain ⟨a, b, c, d⟩ := g2 e
    exact (growTo_ctr hj i _ _ (k + 1) f a c d).1
   ·obtain ⟨e1, e2, e3⟩ := bindS_zero e
    obtain ⟨a, b, c, d⟩ := g2 e1
    obtain ⟨x, k', y1, y2, y3, y4⟩ := (growTo_ctr hj i _ _ (k + 1) f a c d).2 e2
    rw [e3]
    exact ⟨x.trans b, k', by omega, by omega, by omega, y4⟩
  ·rw [if_neg hl]
   exact ⟨.inl rfl, fun _ => ⟨⟨h, List.prefix_refl _, hm⟩, k, Nat.le_refl _, .inl (Nat.le_refl _), .inl (by omega), hs⟩⟩
theorem pow_le2 {a b : Nat} (h : a ≤ b) : (2 : Int) ^ a ≤ 2 ^ b := by
 induction b with
 | zero =>
  obtain rfl : a = 0 := by omega
  exact Int.le_refl _
 | succ b ih =>
  by_cases e : a = b + 1
  ·rw [e]; exact Int.le_refl _
  ·have := ih (by omega)
   have h2 := p2pos b
   rw [p2s' b]
   omega
theorem trimS_ctr {room : Int} {s : LS} {k : Nat} {n : Int} {f : Int → Int → Bool} (hk : k + 2 ≤ 42) (h : Lk room s) (hm : MS s) (hs : Ctr s.ns k n f) :
  Er (trimS room s n).2.2 ∧ ((trimS room s n).2.2 = 0 → OkS room s (trimS room s n) ∧ ∃ k', k' ≤ k ∧ Ctr (trimS room s n).1.ns k' (trimS room s n).2.1 f ∧ (k' = 0 ∨ edged (trimS room s n).1.ns (trimS room s n).2.1 = true)) := by
 unfold trimS
 rw [lvS_is hs.1.1]
 obtain ⟨a, b⟩ := trim_ctr k s n f hk h hm hs
 refine ⟨a, fun e => ?_⟩
 obtain ⟨c1, c2, c3, c4⟩ := b e
 exact ⟨⟨c1, c2, c3⟩, c4⟩
theorem power_ctr {room : Int} {s : LS} {k j : Nat} {n : Int} {f : Int → Int → Bool} (hk : k + 4 ≤ 42) (hj : j + 3 ≤ 42) (h : Lk room s) (hm : MS s) (hs : Ctr s.ns k n f) :
  Er (power room s n (j : Int)).2.2 ∧ ((power room s n (j : Int)).2.2 = 0 → OkS room s (power room s n (j : Int)) ∧ ((trimS room s n).2.2 = 0 ∧ (trimS room s n).1.ns <+: (power room s n (j : Int)).1.ns) ∧ ∃ k', (k' ≤ k + 1 ∨ k' ≤ j) ∧ Ctr (power room s n (j : Int)).1.ns k' (power room s n (j : Int)).2.1 (gens (2 ^ j) f)) := by
 obtain ⟨t1, t2⟩ := trimS_ctr (by omega) h hm hs
 unfold power
 -- grown twice
 have G1 : Er (bindS (trimS room s n) (grow room)).2.2 ∧ ((bindS (trimS room s n) (grow room)).2.2 = 0 → OkS room s (bindS (trimS room s n) (grow room)) ∧ ((trimS room s n).2.2 = 0 ∧ (trimS room s n).1.ns <+: (bindS (trimS room s n) (grow room)).1.ns) ∧ ∃ k1, k1 ≤ k ∧ Ctr (bindS (trimS room s n) (grow room)).1.ns (k1 + 1) (bindS (trimS room s n) (grow room)).2.1 f ∧ Supp f (2 ^ (k1 + 1))) := by
  refine ⟨bindS_er t1 fun e => ?_, fun e => ?_⟩
  ·obtain ⟨a, k1, b1, b2, _⟩ := t2 e
   exact (grow_ctr' a.1 a.2.2 (by omega) b2).1
  ·obtain ⟨e1, e2, e3⟩ := bindS_zero e
   obtain ⟨a, k1, b1, b2, _⟩ := t2 e1
   obtain ⟨c1, c2, c3, c4⟩ := (grow_ctr' a.1 a.2.2 (by omega) b2).2 e2
   rw [e3]
   exact ⟨⟨c1, a.2.1.trans c2, c3⟩, ⟨e1, c2⟩, k1, b1, c4, b2.2⟩
 generalize hR1 : bindS (trimS room s n) (grow room) = R1 at *
 have G2 : Er (bindS R1 (grow room)).2.2 ∧ ((bindS R1 (grow room)).2.2 = 0 → OkS room s (bindS R1 (grow room)) ∧ ((trimS room s n).2.2 = 0 ∧ (trimS room s n).1.ns <+: (bindS R1 (grow room)).1.ns) ∧ ∃ k1, k1 ≤ k ∧ Ctr (bindS R1 (grow room)).1.ns (k1 + 2) (bindS R1 (grow room)).2.1 f ∧ Supp f (2 ^ (k1 + 1))) := by
  refine ⟨bindS_er G1.1 fun e => ?_, fun e => ?_⟩
  ·obtain ⟨a, _, k1, b1, b2, _⟩ := G1.2 e
   exact (grow_ctr' a.1 a.2.2 (by omega) b2).1
  ·obtain ⟨e1, e2, e3⟩ := bindS_zero e
   obtain ⟨a, ⟨a1, a2⟩, k1, b1, b2, b3⟩ := G1.2 e1
   obtain ⟨c1, c2, c3, c4⟩ := (grow_ctr' a.1 a.2.2 (by omega) b2).2 e2
   rw [e3]
   exact ⟨⟨c1, a.2.1.trans c2, c3⟩, ⟨a1, a2.trans c2⟩, k1, b1, c4, b3⟩
 generalize hR2 : bindS R1 (grow room) = R2 at *
 have G3 : Er (bindS R2 (growTo room (j : Int) 64)).2.2 ∧ ((bindS R2 (growTo room (j : Int) 64)).2.2 = 0 → OkS room s (bindS R2 (growTo room (j : Int) 64)) ∧ ((trimS room s n).2.2 = 0 ∧ (trimS room s n).1.ns <+: (bindS R2 (growTo room (j : Int) 64)).1.ns) ∧ ∃ k1 k2, k1 ≤ k ∧ k1 + 2 ≤ k2 ∧ (k2 ≤ k1 + 2 ∨ k2 ≤ j + 1) ∧ j + 1 ≤ k2 ∧ Ctr (bindS R2 (growTo room (j : Int) 64)).1.ns k2 (bindS R2 (growTo room (j : Int) 64)).2.1 f ∧ Supp f (2 ^ (k1 + 1))) := by
  refine ⟨bindS_er G2.1 fun e => ?_, fun e => ?_⟩
  ·obtain ⟨a, _, k1, b1, b2, _⟩ := G2.2 e
   exact (growTo_ctr hj 64 _ _ (k1 + 2) f a.1 a.2.2 b2).1
  ·obtain ⟨e1, e2, e3⟩ := bindS_zero e
   obtain ⟨a, ⟨a1, a2⟩, k1, b1, b2, b3⟩ := G2.2 e1
   obtain ⟨c, k2, d1, d2, d3, d4⟩ := (growTo_ctr hj 64 _ _ (k1 + 2) f a.1 a.2.2 b2).2 e2
   rw [e3]
   exact ⟨c.trans a.2.1, ⟨a1, a2.trans c.2.1⟩, k1, k2, b1, d1, d2, by omega, d4, b3⟩
 generalize hR3 : bindS R2 (growTo room (j : Int) 64) = R3 at *
 refine ⟨bindS_er G3.1 fun e => ?_, fun e => ?_⟩
 ·obtain ⟨a, _, k1, k2, b1, b2, b3, b4, b5, _⟩ := G3.2 e
  show Er (leap room (lvS R3.1 R3.2.1) R3.1 R3.2.1 (j : Int)).2.2
  rw [lvS_is b5.1.1]
  exact leap_er k2 _ _ _ (by have := (a.1.wf.lvb b5.1.1.1).2; rw [b5.1.1.2] at this; omega) a.1 b5.1.1
 ·obtain ⟨e1, e2, e3⟩ := bindS_zero e
  obtain ⟨a, ⟨a1, a2⟩, k1, k2, b1, b2, b3, b4, b5, b6⟩ := G3.2 e1
  rw [e3]
  have e2 : (leap room (lvS R3.1 R3.2.1) R3.1 R3.2.1 (j : Int)).2.2 = 0 := e2
  show OkS room s (leap room (lvS R3.1 R3.2.1) R3.1 R3.2.1 (j : Int)) ∧ (_ ∧ _ <+: (leap room (lvS R3.1 R3.2.1) R3.1 R3.2.1 (j : Int)).1.ns) ∧ ∃ k', (k' ≤ k + 1 ∨ k' ≤ j) ∧ Ctr (leap room (lvS R3.1 R3.2.1) R3.1 R3.2.1 (j : Int)).1.ns k' (leap room (lvS R3.1 R3.2.1) R3.1 R3.2.1 (j : Int)).2.1 (gens (2 ^ j) f)
  rw [lvS_is b5.1.1] at e2 ⊢
  obtain ⟨c1, c2, c3, c4⟩ := leap_ok k2 _ _ _ a.1 a.2.2 b5.1.1 (by omega) e2
  refine ⟨⟨c1, a.2.1.trans c2, c3⟩, ⟨a1, a2.trans c2⟩, k2 - 1, by omega, ?_⟩
  have c5 := c4 _ _ _ b5.1
  rw [Int.toNat_natCast] at c5
  obtain ⟨m, rfl⟩ : ∃ m, k2 = m + 1 := ⟨k2 - 1, by omega⟩
  have hp := p2s' (m + 1)
  refine ⟨c5.at (by show _ = -2 ^ (m + 1); omega) (by show _ = -2 ^ (m + 1); omega), ?_⟩
  have s1 := gens_supp (2 ^ j) b6
  refine s1.le ?_
  have q1 := pow_le2 (a := k1 + 1) (b := m) (by omega)
  have q2 := pow_le2 (a := j) (b := m) (by omega)
  have q3 := p2s' m
  have q4 : ((2 ^ j : Nat) : Int) = (2 : Int) ^ j := by rw [Int.natCast_pow]; rfl
  show (2 : Int) ^ (k1 + 1) + ((2 ^ j : Nat) : Int) ≤ 2 ^ (m + 1)
  omega
/-- How many generations. -/
def total : List Nat → Nat
 | [] => 0
 | j :: js => 2 ^ j + total js
theorem runL_ctr {room : Int} : ∀ (js : List Nat) (s : LS) (n : Int) (k B : Nat) (f : Int → Int → Bool), (∀ j ∈ js, j ≤ B) → k ≤ B → B + js.length + 4 ≤ 42 → Lk room s → MS s → Ctr s.ns k n f →
  Er (runL room (js.map fun (j : Nat) => (j : Int)) s n).2.2 ∧ ((runL room (js.map fun (j : Nat) => (j : Int)) s n).2.2 = 0 → OkS room s (runL room (js.map fun (j : Nat) => (j : Int)) s n) ∧ ((trimS room s n).2.2 = 0 ∧ (trimS room s n).1.ns <+: (runL room (js.map fun (j : Nat) => (j : Int)) s n).1.ns) ∧
   ∃ k', k' ≤ B + js.length ∧ Ctr (runL room (js.map fun (j : Nat) => (j : Int)) s n).1.ns k' (runL room (js.map fun (j : Nat) => (j : Int)) s n).2.1 (gens (total js) f) ∧ (k' = 0 ∨ edged (runL room (js.map fun (j : Nat) => (j : Int)) s n).1.ns (runL room (js.map fun (j : Nat) => (j : Int)) s n).2.1 = true))
 | [], s, n, k, B, f, _, hk, hB, h, hm, hs => by
  obtain ⟨a, b⟩ := trimS_ctr (room := room) (by simp only [List.length_nil] at hB; omega) h hm hs
  refine ⟨a, fun e => ?_⟩
  have e : (trimS room s n).2.2 = 0 := e
  obtain ⟨c, k', d1, d2, d3⟩ := b e
  exact ⟨c, ⟨e, List.prefix_refl _⟩, k', by simp only [List.length_nil]; omega, d2, d3⟩
 | j :: js, s, n, k, B, f, hj, hk, hB, h, hm, hs => by
  have hjB := hj j List.mem_cons_self
  simp only [List.length_cons] at hB
  obtain ⟨a, b⟩ := power_ctr (room := room) (j := j) (by omega) (by omega) h hm hs
  show Er (bindS (power room s n (j : Int)) (runL room (js.map fun (j : Nat) => (j : Int)))).2.2 ∧ ((bindS (power room s n (j : Int)) (runL room (js.map fun (j : Nat) => (j : Int)))).2.2 = 0 → _)
  refine ⟨bindS_er a fun e => ?_, fun e => ?_⟩
  ·obtain ⟨c, _, k', d1, d2⟩ := b e
   exact (runL_ctr js _ _ k' (B + 1) _ (fun x hx => by have := hj x (List.mem_cons_of_mem _ hx); omega) (by omega) (by omega) c.1 c.2.2 d2).1
  ·obtain ⟨e1, e2, e3⟩ := bindS_zero e
   obtain ⟨c, ⟨t1, t2⟩, k', d1, d2⟩ := b e1
   obtain ⟨x1, x2, k2, x3, x4, x5⟩ := (runL_ctr js _ _ k' (B + 1) _ (fun x hx => by have := hj x (List.mem_cons_of_mem _ hx); omega) (by omega) (by omega) c.1 c.2.2 d2).2 e2
   have e4 : runL room ((j :: js).map fun (j : Nat) => (j : Int)) s n = runL room (js.map fun (j : Nat) => (j : Int)) (power room s n (j : Int)).1 (power room s n (j : Int)).2.1 := e3
   rw [e4]
   refine ⟨x1.trans c.2.1, ⟨t1, t2.trans x1.2.1⟩, k2, by simp only [List.length_cons]; omega, ?_, x5⟩
   show Ctr _ k2 _ (gens (2 ^ j + total js) f)
   rw [gens_add]
   exact x4
/-! #### the bits -/
def bitsN (c : Int) (m : Nat) : List Nat := (List.range m).filter fun i => decide (c / 2 ^ i % 2 = 1)
theorem bits_eq (c : Int) : bits c = (bitsN c 62).map fun (j : Nat) => (j : Int) := rfl
theorem total_app : ∀ (a b : List Nat), total (a ++ b) = total a + total b
 | [], b => by rw [List.nil_append]; show _ = 0 + _; omega
 | x :: a, b => by
  show 2 ^ x + total (a ++ b) = 2 ^ x + total a + total b
  rw [total_app a b]
  omega
theorem total_bits {c : Int} (h0 : 0 ≤ c) : ∀ m : Nat, (total (bitsN c m) : Int) = c % 2 ^ m
 | 0 => by show (0 : Int) = c % 1; omega
 | m + 1 => by
  have ih := total_bits h0 m
  have hpos := p2pos m
  have hd := Int.mul_ediv_add_emod c (2 ^ m)
  have hm0 := Int.emod_nonneg c (b := 2 ^ m) (by omega)
  have hm1 := Int.emod_lt_of_pos c hpos
  have key : c % 2 ^ (m + 1) = c % 2 ^ m + 2 ^ m * (c / 2 ^ m % 2) := by
   have hq := Int.mul_ediv_add_emod (c / 2 ^ m) 2
   have h2 : c / 2 ^ m % 2 = 0 ∨ c / 2 ^ m % 2 = 1 := by omega
   refine ((Int.ediv_emod_unique (a := c) (b := 2 ^ (m + 1)) (r := c % 2 ^ m + 2 ^ m * (c / 2 ^ m % 2)) (q := c / 2 ^ m / 2) (p2pos (m + 1))).2 ⟨?_, ?_, ?_⟩).2
   ·rw [p2s m, Int.mul_assoc]
    have : 2 ^ m * (c / 2 ^ m % 2) + 2 ^ m * (2 * (c / 2 ^ m / 2)) = 2 ^ m * (c / 2 ^ m) := by
     rw [← Int.mul_add]
     congr 1
     omega
    omega
   ·rcases h2 with e | e <;> rw [e] <;> omega
   ·rw [p2s' m]
    rcases h2 with e | e <;> rw [e] <;> omega
  unfold bitsN at ih ⊢
  rw [List.range_succ, List.filter_append, total_app, key]
  by_cases e : c / 2 ^ m % 2 = 1
  ·have : ([m].filter fun i => decide (c / 2 ^ i % 2 = 1)) = [m] := by rw [List.filter_cons, if_pos (decide_eq_true e)]; rfl
   rw [this, e]
   show ((total _ + (2 ^ m + 0) : Nat) : Int) = _
   rw [Int.natCast_add, ih, Nat.add_zero, Int.natCast_pow]
   show _ + (2 : Int) ^ m = _
   omega
  ·have : ([m].filter fun i => decide (c / 2 ^ i % 2 = 1)) = [] := by rw [List.filter_cons, if_neg (fun h => e (of_decide_eq_true h))]; rfl
   have e0 : c / 2 ^ m % 2 = 0 := by omega
   rw [this, e0]
   show ((total _ + 0 : Nat) : Int) = _
   rw [Nat.add_zero, ih]
   omega
theorem bits_le {c : Int} {K : Nat} (h0 : 0 ≤ c) (hc : c < 2 ^ K) : (∀ j ∈ bitsN c 62, j < K) ∧ (bitsN c 62).length ≤ K := by
 have h1 : ∀ j ∈ bitsN c 62, j < K := fun j hj => by
  have h2 := of_decide_eq_true (List.mem_filter.1 hj).2
  rcases Nat.lt_or_ge j K with h | h
  ·exact h
  ·have h3 : c / 2 ^ j = 0 := Int.ediv_eq_zero_of_lt h0 (by have := pow_le2 h; omega)
   rw [h3] at h2
   exact absurd h2 (by decide)
 exact ⟨h1, nodup_len K _ ((List.nodup_range (n := 62)).filter _) h1⟩
end R9
end Go.GL

set_option linter.unusedVariables false
namespace Go.GL
open R6 R7
namespace R9
/-- Trimmed. -/
def Trd (ns : List Node) (k : Nat) (n : Int) : Prop := k = 0 ∨ edged ns n = true
theorem edged_pre {ns ms : List Node} (h : Wf ns) (hp : ns <+: ms) {k : Nat} {n : Int} (hn : IsN ns (k + 2) n) : edged ms n = edged ns n := by
 unfold edged
 rw [R8.s16_pre h hp hn]
 have hi := s16_isN h hn
 have key : ∀ i : Int, 0 ≤ i → i < 16 → nd ms (R8.g (R8.s16 ns n) i) = nd ns (R8.g (R8.s16 ns n) i) := fun i a b => nd_pre hp (hi i a b).1
 simp only [List.any_cons, List.any_nil]
 rw [key 0 (by omega) (by omega), key 1 (by omega) (by omega), key 2 (by omega) (by omega), key 3 (by omega) (by omega), key 4 (by omega) (by omega), key 7 (by omega) (by omega), key 8 (by omega) (by omega), key 11 (by omega) (by omega), key 12 (by omega) (by omega), key 13 (by omega) (by omega), key 14 (by omega) (by omega), key 15 (by omega) (by omega)]
theorem Trd.pre {ns ms : List Node} (h : Wf ns) (hp : ns <+: ms) {k : Nat} {n : Int} (hn : IsN ns (k + 2) n) (ht : Trd ns k n) : Trd ms k n := ht.imp id fun e => by rw [edged_pre h hp hn]; exact e
theorem alive {ns : List Node} (h : Wf ns) : ∀ (lv : Nat) (n : Int), IsN ns lv n → (nd ns n).pop ≠ 0 → ∃ x y, inQ lv x y ∧ al ns lv n x y = true
 | 0, n, hn, hp => by
  rcases isN0 h hn with rfl | rfl
  ·exact absurd (by rw [h.nd0]; rfl) hp
  ·exact ⟨0, 0, ⟨by omega, by decide, by omega, by decide⟩, rfl⟩
 | lv + 1, n, hn, hp => by
  obtain ⟨a, b, c, d⟩ := kids4 h hn
  have hpos := p2pos lv
  have hk : ∀ (q : Int) (a b : Int), (a = 0 ∨ a = 1) → (b = 0 ∨ b = 1) → R7.kid ns n (2 * b + a) = q → (∃ x y, inQ lv x y ∧ al ns lv q x y = true) → ∃ x y, inQ (lv + 1) x y ∧ al ns (lv + 1) n x y = true := by
   rintro q a b ha hb hq ⟨x, y, h1, h2⟩
   refine ⟨x + a * 2 ^ lv, y + b * 2 ^ lv, ?_, ?_⟩
   ·unfold inQ at h1 ⊢
    rw [p2s]
    rcases ha with rfl | rfl <;> rcases hb with rfl | rfl <;> omega
   ·rw [al_kid ns h1 ha hb, hq]
    exact h2
  have hd := fun hc => hp ((dead_kids h hn).2 hc)
  by_cases e0 : (nd ns (nd ns n).k0).pop = 0
  ·by_cases e1 : (nd ns (nd ns n).k1).pop = 0
   ·by_cases e2 : (nd ns (nd ns n).k2).pop = 0
    ·exact hk _ 1 1 (.inr rfl) (.inr rfl) rfl (alive h lv _ d fun e3 => hd ⟨e0, e1, e2, e3⟩)
    ·exact hk _ 0 1 (.inl rfl) (.inr rfl) rfl (alive h lv _ c e2)
   ·exact hk _ 1 0 (.inr rfl) (.inl rfl) rfl (alive h lv _ b e1)
  ·exact hk _ 0 0 (.inl rfl) (.inl rfl) rfl (alive h lv _ a e0)
/-- The edge is not dead: some is so far. -/
theorem edged_far {ns : List Node} (h : Wf ns) {k : Nat} {n : Int} {f : Int → Int → Bool} (hs : Ctr ns (k + 1) n f) (he : edged ns n = true) : ¬ Supp f (2 ^ (k + 1)) := by
 intro hsup
 obtain ⟨h1, h2⟩ := hs
 have hp2 : (2 : Int) ^ (k + 1 + 1) = 2 * 2 ^ (k + 1) := p2s' (k + 1)
 have hpos := p2pos (k + 1)
 rw [hp2] at h1
 generalize hh : (2 : Int) ^ (k + 1) = H at *
 obtain ⟨i, hi, hp⟩ := List.any_eq_true.1 he
 have hp := of_decide_eq_true hp
 obtain ⟨X, Y, hX, hY, rfl, hout⟩ : ∃ X Y : Int, (0 ≤ X ∧ X ≤ 3) ∧ (0 ≤ Y ∧ Y ≤ 3) ∧ i = 4 * Y + X ∧ (X = 0 ∨ X = 3 ∨ Y = 0 ∨ Y = 3) := by
  simp only [List.mem_cons, List.not_mem_nil, or_false] at hi
  exact ⟨i % 4, i / 4, by omega, by omega, by omega, by omega⟩
 have hst := std_s16 (lv := k + 1) h h1 hX hY
 rw [hh] at hst
 obtain ⟨x, y, hq, ha⟩ := alive h (k + 1) _ hst.1 hp
 rw [hst.2 x y hq] at ha
 have hb := hsup _ _ ha
 unfold inQ at hq
 rw [hh] at hq
 rcases (by omega : X = 0 ∨ X = 1 ∨ X = 2 ∨ X = 3) with rfl | rfl | rfl | rfl <;> rcases (by omega : Y = 0 ∨ Y = 1 ∨ Y = 2 ∨ Y = 3) with rfl | rfl | rfl | rfl <;> omega
/-- The same, trimmed, is the same node. -/
theorem canon {ns : List Node} (h : Wf ns) {n m : Int} {k l : Nat} {f : Int → Int → Bool} (h1 : Ctr ns k n f) (t1 : Trd ns k n) (h2 : Ctr ns l m f) (t2 : Trd ns l m) : n = m := by
 have key : ∀ {a b : Nat} {u : Int}, a < b → Supp f (2 ^ (a + 1)) → Ctr ns b u f → Trd ns b u → False := fun {a b u} hab hsu hc ht => by
  obtain ⟨b', rfl⟩ : ∃ b', b = b' + 1 := ⟨b - 1, by omega⟩
  rcases ht with e | e
  ·omega
  ·exact edged_far h hc e (hsu.le (pow_le2 (by omega)))
 rcases Nat.lt_trichotomy k l with e | e | e
 ·exact (key e h1.2 h2 t2).elim
 ·subst e
  exact al_inj h (k + 2) n m h1.1.1 h2.1.1 fun x y hq => by rw [h1.1.2 x y hq, h2.1.2 x y hq]
 ·exact (key e h2.2 h1 t1).elim
theorem put_kids {ns : List Node} (h : Wf ns) {room q0 q1 q2 q3 : Int} (he : (put ns room q0 q1 q2 q3).2.2 = 0) : (nd (put ns room q0 q1 q2 q3).1 (put ns room q0 q1 q2 q3).2.1).kids = [q0, q1, q2, q3] := by
 have hf : fit4 ns q0 q1 q2 q3 := Decidable.byContradiction fun hf => by
  unfold put at he; rw [if_neg hf] at he; cases he
 have hr : 0 ≤ R6.at_ ns [q0, q1, q2, q3] ∨ (ns.length : Int) < room := Decidable.byContradiction fun hr => by
  unfold put at he
  rw [if_pos hf, if_neg (by omega), if_pos (by omega)] at he
  cases he
 obtain ⟨ms, m, e, ok⟩ := put_ok h hf hr
 rw [e]
 exact ok.kids
/-- What was trimmed is trimmed again, to the same. -/
theorem trim_again {room : Int} : ∀ (k : Nat) (s t : LS) (n : Int), k + 2 ≤ 42 → Lk room s → IsN s.ns (k + 2) n → (trim room k s n).2.2 = 0 → Lk room t → (trim room k s n).1.ns <+: t.ns → trim room k t n = (t, (trim room k s n).2.1, 0)
 | 0, s, t, n, _, _, _, _, _, _ => rfl
 | k + 1, s, t, n, hk, h, hn, he, ht, hp => by
  have hmono : s.ns <+: (trim room (k + 1) s n).1.ns := (trim_ge (k + 1) s n h hn he).pre
  have hst := hmono.trans hp
  have hed := edged_pre h.wf hst hn
  unfold trim at he hp ⊢
  rw [hed]
  by_cases e : edged s.ns n = true
  ·rw [if_pos e, if_pos e]
  ·rw [if_neg e] at he hp
   rw [if_neg e, if_neg e]
   by_cases e1 : (midS room s n).2.2 = 0
   case neg => rw [if_pos e1] at he; exact absurd he e1
   rw [if_neg (show ¬ (midS room s n).2.2 ≠ 0 by simpa using e1)] at he hp ⊢
   have g := midS_gd (lv := k + 1) h hn e1
   have hmt : (midS room s n).1.ns <+: t.ns := (trim_ge k _ _ g.lk g.is he).pre.trans hp
   have hks : (nd (midS room s n).1.ns (midS room s n).2.1).kids = [R8.g (R8.s16 s.ns n) 5, R8.g (R8.s16 s.ns n) 6, R8.g (R8.s16 s.ns n) 9, R8.g (R8.s16 s.ns n) 10] := put_kids h.wf e1
   have hi := s16_isN h.wf hn
   have hagain : midS room t n = (t, (midS room s n).2.1, 0) := by
    have : put t.ns room (R8.g (R8.s16 s.ns n) 5) (R8.g (R8.s16 s.ns n) 6) (R8.g (R8.s16 s.ns n) 9) (R8.g (R8.s16 s.ns n) 10) = (t.ns, (midS room s n).2.1, 0) := by
     refine put_again ht.wf (fit4_of (lv := k + 1) (by omega) ((hi 5 (by omega) (by omega)).pre hst) ((hi 6 (by omega) (by omega)).pre hst) ((hi 9 (by omega) (by omega)).pre hst) ((hi 10 (by omega) (by omega)).pre hst)) (g.is.pre hmt).1 ?_ ?_
     ·rw [(g.is.pre hmt).2]; omega
     ·rw [nd_pre hmt g.is.1]; exact hks
    unfold midS putS
    rw [R8.s16_pre h.wf hst hn]
    show (⟨(put t.ns room (R8.g (R8.s16 s.ns n) 5) (R8.g (R8.s16 s.ns n) 6) (R8.g (R8.s16 s.ns n) 9) (R8.g (R8.s16 s.ns n) 10)).1, t.mm⟩, (put t.ns room (R8.g (R8.s16 s.ns n) 5) (R8.g (R8.s16 s.ns n) 6) (R8.g (R8.s16 s.ns n) 9) (R8.g (R8.s16 s.ns n) 10)).2.1, (put t.ns room (R8.g (R8.s16 s.ns n) 5) (R8.g (R8.s16 s.ns n) 6) (R8.g (R8.s16 s.ns n) 9) (R8.g (R8.s16 s.ns n) 10)).2.2) = (t, (midS room s n).2.1, (0 : Int))
    rw [this]
   rw [hagain, if_neg (fun h => h rfl)]
   exact trim_again k (midS room s n).1 t (midS room s n).2.1 (by omega) g.lk g.is he ht hp
/-- What a run tells. -/
structure RunR (ns : List Node) (room : Int) (K : Nat) (n c : Int) (f : Int → Int → Bool) (p : List Node × Int × Int) : Prop where
 er : Er p.2.2
 right : R6.right p.1 room
 pre : ns <+: p.1
 ok : p.2.2 = 0 → ∃ k', k' ≤ K ∧ Ctr p.1 k' p.2.1 (gens c.toNat f) ∧ Trd p.1 k' p.2.1
 trim : p.2.2 = 0 → (trimS room ⟨ns, []⟩ n).2.2 = 0 ∧ (trimS room ⟨ns, []⟩ n).1.ns <+: p.1
theorem runT_ok {ns : List Node} {room n c : Int} {k B K : Nat} {f : Int → Int → Bool} (h : R6.right ns room) (hs : Ctr ns k n f) (h0 : 0 ≤ c) (hc : c < 2 ^ K) (hK : K ≤ B) (hk : k ≤ B) (hB : B + K + 4 ≤ 42) : RunR ns room (B + K) n c f (runT ns room n c) := by
 have hc62 : c < 4611686018427387904 := by
  have := pow_le2 (a := K) (b := 62) (by omega)
  have e : (2 : Int) ^ 62 = 4611686018427387904 := by decide
  omega
 have e : runT ns room n c = out ns (runL room (bits c) ⟨ns, []⟩ n) := by
  unfold runT
  rw [if_pos ⟨⟨h, hs.1.1.1, by rw [hs.1.1.2]; omega⟩, h0, by omega⟩]
 obtain ⟨b1, b2⟩ := bits_le h0 hc
 obtain ⟨a1, a2⟩ := runL_ctr (room := room) (bitsN c 62) ⟨ns, []⟩ n k B f (fun j hj => by have := b1 j hj; omega) hk (by omega) (lk_nil h) (ms_nil ns) hs
 rw [← bits_eq] at a1 a2
 have htot : total (bitsN c 62) = c.toNat := by
  have h1 := total_bits h0 62
  have e62 : (2 : Int) ^ 62 = 4611686018427387904 := by decide
  rw [e62, Int.emod_eq_of_lt h0 hc62] at h1
  omega
 rw [htot] at a2
 rw [e]
 by_cases e0 : (runL room (bits c) ⟨ns, []⟩ n).2.2 = 0
 ·rw [out_ok e0]
  obtain ⟨x1, x2, k', x3, x4, x5⟩ := a2 e0
  exact ⟨.inl rfl, x1.1.right, x1.2.1, fun _ => ⟨k', by omega, x4, x5⟩, fun _ => x2⟩
 ·rw [out_bad e0]
  exact ⟨a1, h, List.prefix_refl _, fun h => absurd h e0, fun h => absurd h e0⟩
theorem trimT_again {ns ms : List Node} {room n : Int} {k : Nat} (h : R6.right ns room) (hn : IsN ns (k + 2) n) (he : (trimS room ⟨ns, []⟩ n).2.2 = 0) (hm : R6.right ms room) (hp : (trimS room ⟨ns, []⟩ n).1.ns <+: ms) : trimS room ⟨ms, []⟩ n = (⟨ms, []⟩, (trimS room ⟨ns, []⟩ n).2.1, 0) := by
 have hw := (right_iff.1 h).2
 have hlb := (hw.lvb hn.1).2
 rw [hn.2] at hlb
 have hmono := (trimS_ge (lk_nil h) hn he).pre
 have hn2 : IsN ms (k + 2) n := hn.pre (hmono.trans hp)
 unfold trimS at he hp ⊢
 rw [lvS_is (s := ⟨ns, []⟩) hn] at he hp ⊢
 rw [lvS_is (s := ⟨ms, []⟩) hn2]
 exact trim_again k ⟨ns, []⟩ ⟨ms, []⟩ n (by omega) (lk_nil h) hn he (lk_nil hm) hp
/-! #### turned by half -/
def refl (f : Int → Int → Bool) : Int → Int → Bool := fun x y => f (-x) (-y)
theorem gen_refl (f : Int → Int → Bool) : gen (refl f) = refl (gen f) := by
 funext x y
 unfold gen refl R8.nx R8.cnt
 dsimp only
 rw [show -(x - 1) = -x + 1 by omega, show -(y - 1) = -y + 1 by omega, show -(x + 1) = -x - 1 by omega, show -(y + 1) = -y - 1 by omega]
 congr 1
 omega
theorem gens_refl : ∀ (m : Nat) (f : Int → Int → Bool), gens m (refl f) = refl (gens m f)
 | 0, f => rfl
 | m + 1, f => by
  show gens m (gen (refl f)) = refl (gens m (gen f))
  rw [gen_refl, gens_refl m]
end R9
end Go.GL

set_option linter.unusedVariables false
namespace Go.GL
open R6 R7
/-! ### What is dead -/
namespace R9
def Dd (ns : List Node) (lv : Nat) (q : Int) : Prop := IsN ns lv q ∧ (nd ns q).pop = 0
theorem Dd.pre {ns ms : List Node} (hp : ns <+: ms) {lv : Nat} {q : Int} (h : Dd ns lv q) : Dd ms lv q := ⟨h.1.pre hp, by rw [nd_pre hp h.1.1]; exact h.2⟩
/-- A dead node of each level. -/
structure DN (room : Int) (L : Nat) (ns : List Node) : Prop where
 right : R6.right ns room
 ex : ∀ i, i ≤ L → ∃ q, Dd ns i q
 len : ns.length ≤ L + 2
theorem DN.wf {room : Int} {L : Nat} {ns : List Node} (h : DN room L ns) : Wf ns := (right_iff.1 h.right).2
theorem kids_dd {ns : List Node} (h : Wf ns) {lv : Nat} {n : Int} (hn : Dd ns (lv + 1) n) : Dd ns lv (nd ns n).k0 ∧ Dd ns lv (nd ns n).k1 ∧ Dd ns lv (nd ns n).k2 ∧ Dd ns lv (nd ns n).k3 := by
 obtain ⟨a, b, c, d⟩ := kids4 h hn.1
 obtain ⟨e, f, g, i⟩ := (dead_kids h hn.1).1 hn.2
 exact ⟨⟨a, e⟩, ⟨b, f⟩, ⟨c, g⟩, ⟨d, i⟩⟩
/-- Four dead ones, side by side: found. -/
theorem put_dead {room : Int} {L : Nat} {ns : List Node} (h : DN room L ns) {lv : Nat} (hl : lv + 1 ≤ L) (h42 : lv + 1 ≤ 42) {q0 q1 q2 q3 : Int} (h0 : Dd ns lv q0) (h1 : Dd ns lv q1) (h2 : Dd ns lv q2) (h3 : Dd ns lv q3) : ∃ m, put ns room q0 q1 q2 q3 = (ns, m, 0) ∧ Dd ns (lv + 1) m := by
 obtain ⟨m, hm⟩ := h.ex (lv + 1) hl
 obtain ⟨a, b, c, d⟩ := kids_dd h.wf hm
 refine ⟨m, put_again h.wf (fit4_of h42 h0.1 h1.1 h2.1 h3.1) hm.1.1 (by rw [hm.1.2]; omega) ?_, hm⟩
 unfold Node.kids
 rw [dead_uniq h.wf a.1 h0.1 a.2 h0.2, dead_uniq h.wf b.1 h1.1 b.2 h1.2, dead_uniq h.wf c.1 h2.1 c.2 h2.2, dead_uniq h.wf d.1 h3.1 d.2 h3.2]
theorem s16_dd {ns : List Node} (h : Wf ns) {lv : Nat} {n : Int} (hn : Dd ns (lv + 2) n) : ∀ i : Int, 0 ≤ i → i < 16 → Dd ns lv (R8.g (R8.s16 ns n) i) := by
 obtain ⟨a, b, c, d⟩ := kids_dd h hn
 obtain ⟨a0, a1, a2, a3⟩ := kids_dd h a
 obtain ⟨b0, b1, b2, b3⟩ := kids_dd h b
 obtain ⟨c0, c1, c2, c3⟩ := kids_dd h c
 obtain ⟨d0, d1, d2, d3⟩ := kids_dd h d
 intro i h0 h16
 obtain ⟨k, rfl⟩ : ∃ k : Nat, i = k := ⟨i.toNat, by omega⟩
 have hk : k < 16 := by omega
 match k, hk with
 | 0, _ => exact a0
 | 1, _ => exact a1
 | 2, _ => exact b0
 | 3, _ => exact b1
 | 4, _ => exact a2
 | 5, _ => exact a3
 | 6, _ => exact b2
 | 7, _ => exact b3
 | 8, _ => exact c0
 | 9, _ => exact c1
 | 10, _ => exact d0
 | 11, _ => exact d1
 | 12, _ => exact c2
 | 13, _ => exact c3
 | 14, _ => exact d2
 | 15, _ => exact d3
/-- What is kept of dead ones is dead. -/
def MD (ns : List Node) (mm : Memo) : Prop := ∀ p ∈ mm, ∃ lv : Nat, IsN ns (lv + 2) p.1 ∧ IsN ns (lv + 1) p.2.2 ∧ ((nd ns p.1).pop = 0 → (nd ns p.2.2).pop = 0)
theorem MD.pre {ns ms : List Node} (hp : ns <+: ms) {mm : Memo} (h : MD ns mm) : MD ms mm := fun p hm => by
 obtain ⟨lv, a, b, c⟩ := h p hm
 exact ⟨lv, a.pre hp, b.pre hp, by rw [nd_pre hp a.1, nd_pre hp b.1]; exact c⟩
theorem mapS_dead {ns : List Node} {f : LS → Int → L9} {C : Int → Prop} {lv : Nat} (hf : ∀ mm q, MD ns mm → C q → ∃ mm' q', f ⟨ns, mm⟩ q = (⟨ns, mm'⟩, q', 0) ∧ Dd ns lv q' ∧ MD ns mm') : ∀ (qs : List Int) (mm : Memo), MD ns mm → (∀ q ∈ qs, C q) → ∃ mm' qs', mapS f ⟨ns, mm⟩ qs = (⟨ns, mm'⟩, qs', 0) ∧ qs'.length = qs.length ∧ (∀ q ∈ qs', Dd ns lv q) ∧ MD ns mm'
 | [], mm, hm, _ => ⟨mm, [], rfl, rfl, fun q hq => (nomatch hq), hm⟩
 | q :: qs, mm, hm, hq => by
  obtain ⟨mm1, q1, e1, d1, m1⟩ := hf mm q hm (hq q List.mem_cons_self)
  obtain ⟨mm2, qs2, e2, l2, d2, m2⟩ := mapS_dead hf qs mm1 m1 fun x hx => hq x (List.mem_cons_of_mem _ hx)
  refine ⟨mm2, q1 :: qs2, ?_, by simp [l2], fun x hx => ?_, m2⟩
  ·unfold mapS
   rw [e1, if_neg (fun h => h rfl)]
   show ((mapS f ⟨ns, mm1⟩ qs).1, q1 :: (mapS f ⟨ns, mm1⟩ qs).2.1, (mapS f ⟨ns, mm1⟩ qs).2.2) = _
   rw [e2]
  ·rcases List.mem_cons.1 hx with rfl | hx
   ·exact d1
   ·exact d2 x hx
theorem midS_dead {room : Int} {L : Nat} {ns : List Node} (h : DN room L ns) (hL : L ≤ 42) {lv : Nat} (hl : lv + 1 ≤ L) {n : Int} (hn : Dd ns (lv + 2) n) (mm : Memo) : ∃ q, midS room ⟨ns, mm⟩ n = (⟨ns, mm⟩, q, 0) ∧ Dd ns (lv + 1) q := by
 have hi := s16_dd h.wf hn
 obtain ⟨m, e, d⟩ := put_dead h hl (by omega) (hi 5 (by omega) (by omega)) (hi 6 (by omega) (by omega)) (hi 9 (by omega) (by omega)) (hi 10 (by omega) (by omega))
 refine ⟨m, ?_, d⟩
 unfold midS putS
 show ((⟨(put ns room _ _ _ _).1, mm⟩ : LS), (put ns room _ _ _ _).2.1, (put ns room _ _ _ _).2.2) = _
 rw [e]
theorem all_dead {room : Int} {L : Nat} {ns : List Node} (h : DN room L ns) (hL : L ≤ 42) {lv : Nat} (hl : lv + 1 ≤ L) {n : Int} (hn : Dd ns (lv + 2) n) : ∃ l, R8.all ns room n = (ns, l, 0) ∧ l.length = 9 ∧ ∀ q ∈ l, Dd ns (lv + 1) q := by
 have hi := s16_dd h.wf hn
 have key : ∀ y x : Int, 0 ≤ y ∧ y ≤ 2 → 0 ≤ x ∧ x ≤ 2 → ∃ m, R8.putSq ns room (R8.s16 ns n) y x = (ns, m, 0) ∧ Dd ns (lv + 1) m := fun y x hy hx =>
  put_dead h hl (by omega) (hi _ (by omega) (by omega)) (hi _ (by omega) (by omega)) (hi _ (by omega) (by omega)) (hi _ (by omega) (by omega))
 obtain ⟨m0, e0, d0⟩ := key 0 0 (by omega) (by omega)
 obtain ⟨m1, e1, d1⟩ := key 0 1 (by omega) (by omega)
 obtain ⟨m2, e2, d2⟩ := key 0 2 (by omega) (by omega)
 obtain ⟨m3, e3, d3⟩ := key 1 0 (by omega) (by omega)
 obtain ⟨m4, e4, d4⟩ := key 1 1 (by omega) (by omega)
 obtain ⟨m5, e5, d5⟩ := key 1 2 (by omega) (by omega)
 obtain ⟨m6, e6, d6⟩ := key 2 0 (by omega) (by omega)
 obtain ⟨m7, e7, d7⟩ := key 2 1 (by omega) (by omega)
 obtain ⟨m8, e8, d8⟩ := key 2 2 (by omega) (by omega)
 refine ⟨[m0, m1, m2, m3, m4, m5, m6, m7, m8], ?_, rfl, fun q hq => ?_⟩
 ·unfold R8.all
  simp only [e0, e1, e2, e3, e4, e5, e6, e7, e8, ne_eq, not_true_eq_false, if_false]
 ·simp only [List.mem_cons, List.not_mem_nil, or_false] at hq
  rcases hq with rfl | rfl | rfl | rfl | rfl | rfl | rfl | rfl | rfl <;> assumption
theorem bindM_eq {s : LS} {l : List Int} (f : LS → List Int → L9) : bindM (s, l, 0) f = f s l := bindM_ok rfl
def LpD (ns : List Node) (k : Nat) (lp : LS → Int → Int → L9) : Prop := ∀ mm q j, MD ns mm → Dd ns (k + 2) q → ∃ mm' q', lp ⟨ns, mm⟩ q j = (⟨ns, mm'⟩, q', 0) ∧ Dd ns (k + 1) q' ∧ MD ns mm'
theorem far_dead {room : Int} {L : Nat} {ns : List Node} (h : DN room L ns) (hL : L ≤ 42) {k : Nat} (hk : k + 3 ≤ L) {lp : LS → Int → Int → L9} (hlp : LpD ns k lp) {full : Bool} {n j : Int} (hn : Dd ns (k + 3) n) {mm : Memo} (hm : MD ns mm) :
  ∃ mm' q, far lp room full ⟨ns, mm⟩ n j = (⟨ns, mm'⟩, q, 0) ∧ Dd ns (k + 2) q ∧ MD ns mm' := by
 obtain ⟨l, e0, l0, d0⟩ := all_dead h hL (lv := k + 1) (by omega) hn
 obtain ⟨m1, l1, e1, n1, d1, x1⟩ := mapS_dead (f := halfF lp room full j) (C := fun q => Dd ns (k + 2) q) (lv := k + 1) (fun mm q hm hq => by
  unfold halfF
  cases full
  ·obtain ⟨q', e, d⟩ := midS_dead h hL (lv := k) (by omega) hq mm
   exact ⟨mm, q', e, d, hm⟩
  ·exact hlp mm q (j - 1) hm hq) l mm hm d0
 have eh : half lp room full ⟨ns, mm⟩ n j = (⟨ns, m1⟩, l1, 0) := by
  unfold half
  show (if (R8.all ns room n).2.2 ≠ 0 then _ else _) = _
  rw [e0, if_neg (fun h => h rfl)]
  exact e1
 unfold far
 rw [eh, bindM_eq]
 have g9 : ∀ i : Int, 0 ≤ i → i ≤ 8 → Dd ns (k + 1) (R8.g l1 i) := fun i a b => d1 _ (g_mem a (by rw [n1, l0]; omega))
 obtain ⟨m2, l2, e2, n2, d2, x2⟩ := mapS_dead (f := fourP room l1) (C := fun q => 0 ≤ q ∧ q ≤ 4) (lv := k + 2) (fun mm q hm hq => by
  obtain ⟨q', e, d⟩ := put_dead h (lv := k + 1) (by omega) (by omega) (g9 q (by omega) (by omega)) (g9 (q + 1) (by omega) (by omega)) (g9 (q + 3) (by omega) (by omega)) (g9 (q + 4) (by omega) (by omega))
  refine ⟨mm, q', ?_, d, hm⟩
  unfold fourP putS
  show ((⟨(put ns room _ _ _ _).1, mm⟩ : LS), (put ns room _ _ _ _).2.1, (put ns room _ _ _ _).2.2) = _
  rw [e]) fourE m1 x1 (fun q hq => by
  simp only [fourE, List.mem_cons, List.not_mem_nil, or_false] at hq
  omega)
 have n2 : l2.length = 4 := n2
 rw [e2, bindM_eq]
 obtain ⟨m3, l3, e3, n3, d3, x3⟩ := mapS_dead (f := lastF lp (if full = true then j - 1 else j)) (C := fun q => Dd ns (k + 2) q) (lv := k + 1) (fun mm q hm hq => hlp mm q _ hm hq) l2 m2 x2 d2
 rw [e3, bindM_eq]
 have g4 : ∀ i : Int, 0 ≤ i → i ≤ 3 → Dd ns (k + 1) (R8.g l3 i) := fun i a b => d3 _ (g_mem a (by rw [n3, n2]; omega))
 obtain ⟨q', e, d⟩ := put_dead h (lv := k + 1) (by omega) (by omega) (g4 0 (by omega) (by omega)) (g4 1 (by omega) (by omega)) (g4 2 (by omega) (by omega)) (g4 3 (by omega) (by omega))
 refine ⟨m3, q', ?_, d, x3⟩
 unfold put4 putS
 show ((⟨(put ns room _ _ _ _).1, m3⟩ : LS), (put ns room _ _ _ _).2.1, (put ns room _ _ _ _).2.2) = _
 rw [e]
theorem keep_dead {ns : List Node} {k : Nat} {n j : Int} (hn : Dd ns (k + 2) n) {r : L9} (h : ∃ mm' q, r = (⟨ns, mm'⟩, q, 0) ∧ Dd ns (k + 1) q ∧ MD ns mm') : ∃ mm' q, keep n j r = (⟨ns, mm'⟩, q, 0) ∧ Dd ns (k + 1) q ∧ MD ns mm' := by
 obtain ⟨mm', q, rfl, d, m⟩ := h
 refine ⟨mm' ++ [(n, j, q)], q, if_neg (fun h => h rfl), d, fun p hp => ?_⟩
 rcases List.mem_append.1 hp with hp | hp
 ·exact m p hp
 ·rw [List.mem_singleton.1 hp]
  exact ⟨k, hn.1, d.1, fun _ => d.2⟩
theorem found_dead {ns : List Node} {k : Nat} {n j to : Int} {mm : Memo} (hm : MD ns mm) (hn : Dd ns (k + 2) n) (hl : look9 mm n j = some to) : Dd ns (k + 1) to := by
 obtain ⟨lv, a, b, c⟩ := hm _ (look9_mem hl)
 have e : lv = k := by
  have h1 := a.2
  have h2 := hn.1.2
  simp only at h1
  omega
 subst e
 exact ⟨b, c hn.2⟩
theorem leap_dead {room : Int} {L : Nat} {ns : List Node} (h : DN room L ns) (hL : L ≤ 42) : ∀ k, k + 2 ≤ L → LpD ns k (leap room k)
 | 0, hk, mm, n, j, hm, hn => by
  unfold leap
  cases hl : look9 mm n j with
  | some to => exact ⟨mm, to, rfl, found_dead hm hn hl, hm⟩
  | none =>
   refine keep_dead hn ?_
   have hi := s16_dd h.wf hn
   have hz : ∀ i : Int, 0 ≤ i → i < 16 → R8.g (R8.s16 ns n) i = 0 := fun i a b => by
    have hd := hi i a b
    rcases isN0 h.wf hd.1 with e | e
    ·exact e
    ·have := hd.2
     rw [e, h.wf.nd1] at this
     cases this
   have hb : ∀ x y : Int, 1 ≤ x ∧ x ≤ 2 → 1 ≤ y ∧ y ≤ 2 → Dd ns 0 (R8.bit (R8.s16 ns n) y x) := fun x y hx hy => by
    rw [R8.bit_nx h.wf hn.1 hx hy]
    have e0 : ∀ a b : Int, 0 ≤ a ∧ a ≤ 3 → 0 ≤ b ∧ b ≤ 3 → al ns 2 n a b = false := fun a b _ _ => al_dead h.wf 2 n a b hn.1 hn.2
    have e1 := R8.nx_congr (f := al ns 2 n) (f' := nil2) (fun a b ha hb => e0 a b ha hb) hx hy
    rw [e1]
    have e2 : R8.nx nil2 y x = false := rfl
    rw [e2]
    exact ⟨⟨h.wf.in0, by rw [show R8.b2i false = 0 from rfl, h.wf.nd0]; rfl⟩, by rw [show R8.b2i false = 0 from rfl, h.wf.nd0]; rfl⟩
   obtain ⟨q', e, d⟩ := put_dead h (lv := 0) (by omega) (by omega) (hb 1 1 (by omega) (by omega)) (hb 2 1 (by omega) (by omega)) (hb 1 2 (by omega) (by omega)) (hb 2 2 (by omega) (by omega))
   refine ⟨mm, q', ?_, d, hm⟩
   unfold oneS R8.one
   show ((⟨(put ns room _ _ _ _).1, mm⟩ : LS), (put ns room _ _ _ _).2.1, (put ns room _ _ _ _).2.2) = _
   rw [e]
 | k + 1, hk, mm, n, j, hm, hn => by
  unfold leap
  cases hl : look9 mm n j with
  | some to => exact ⟨mm, to, rfl, found_dead hm hn hl, hm⟩
  | none => exact keep_dead hn (far_dead h hL hk (leap_dead h hL k (by omega)) hn hm)
theorem trim_dead {room : Int} {L : Nat} {ns : List Node} (h : DN room L ns) (hL : L ≤ 42) : ∀ k (n : Int) (mm : Memo), k + 2 ≤ L → Dd ns (k + 2) n → ∃ q, trim room k ⟨ns, mm⟩ n = (⟨ns, mm⟩, q, 0) ∧ Dd ns 2 q
 | 0, n, mm, _, hn => ⟨n, rfl, hn⟩
 | k + 1, n, mm, hk, hn => by
  have hi := s16_dd (lv := k + 1) h.wf hn
  have he : ¬ edged ns n = true := fun he => by
   obtain ⟨i, hm, hp⟩ := List.any_eq_true.1 he
   simp only [List.mem_cons, List.not_mem_nil, or_false] at hm
   exact of_decide_eq_true hp (hi i (by omega) (by omega)).2
  obtain ⟨q, e, d⟩ := midS_dead h hL (lv := k + 1) (by omega) hn mm
  obtain ⟨q2, e2, d2⟩ := trim_dead h hL k q mm (by omega) d
  refine ⟨q2, ?_, d2⟩
  unfold trim
  show (if edged ns n = true then _ else _) = _
  rw [if_neg he, e, if_neg (fun h => h rfl)]
  exact e2
theorem emptyF_dead {room : Int} {L : Nat} {ns : List Node} (h : DN room L ns) (hL : L ≤ 42) : ∀ (k : Nat) (n : Int) (j : Nat), j + k ≤ L → Dd ns j n → ∃ q, emptyF room k ns n = (ns, q, 0) ∧ Dd ns (j + k) q
 | 0, n, j, _, hn => ⟨n, rfl, hn⟩
 | k + 1, n, j, hj, hn => by
  obtain ⟨m, e, d⟩ := put_dead h (lv := j) (by omega) (by omega) hn hn hn hn
  obtain ⟨q, e2, d2⟩ := emptyF_dead h hL k m (j + 1) (by omega) d
  refine ⟨q, ?_, by rw [show j + (k + 1) = j + 1 + k by omega]; exact d2⟩
  unfold emptyF
  rw [e, if_neg (fun h => h rfl)]
  exact e2
/-- Four dead ones, side by side: found, or the next level's first. -/
theorem put_next {room : Int} {L : Nat} {ns : List Node} (h : DN room L ns) {lv : Nat} (hl : lv ≤ L) (h42 : lv + 1 ≤ 42) (hroom : (L : Int) + 3 ≤ room) {q0 q1 q2 q3 : Int} (h0 : Dd ns lv q0) (h1 : Dd ns lv q1) (h2 : Dd ns lv q2) (h3 : Dd ns lv q3) :
  ∃ ns' m L', put ns room q0 q1 q2 q3 = (ns', m, 0) ∧ ns <+: ns' ∧ L ≤ L' ∧ (L' ≤ L ∨ L' ≤ lv + 1) ∧ lv + 1 ≤ L' ∧ DN room L' ns' ∧ Dd ns' (lv + 1) m := by
 by_cases e : lv + 1 ≤ L
 ·obtain ⟨m, e1, d⟩ := put_dead h e h42 h0 h1 h2 h3
  exact ⟨ns, m, L, e1, List.prefix_refl _, Nat.le_refl _, .inl (Nat.le_refl _), e, h, d⟩
 ·obtain rfl : lv = L := by omega
  have hlen := h.len
  obtain ⟨ms, m, e1, ok⟩ := put_ok h.wf (room := room) (fit4_of h42 h0.1 h1.1 h2.1 h3.1) (.inr (by omega))
  have hr := right_put h.right q0 q1 q2 q3
  rw [e1] at hr
  have hm : Dd ms (lv + 1) m := by
   have is : IsN ms (lv + 1) m := ⟨ok.mem, by rw [ok.lv, h0.1.2]; omega⟩
   refine ⟨is, (dead_kids ok.wf is).2 ?_⟩
   rw [ok.nd]
   exact ⟨(h0.pre ok.pre).2, (h1.pre ok.pre).2, (h2.pre ok.pre).2, (h3.pre ok.pre).2⟩
  have hl2 := ok.len
  refine ⟨ms, m, lv + 1, e1, ok.pre, by omega, .inr (Nat.le_refl _), Nat.le_refl _, ⟨hr.1, fun i hi => ?_, by omega⟩, hm⟩
  by_cases ei : i = lv + 1
  ·rw [ei]; exact ⟨m, hm⟩
  ·obtain ⟨q, hq⟩ := h.ex i (by omega)
   exact ⟨q, hq.pre ok.pre⟩
theorem grow_dead {room : Int} {L : Nat} {ns : List Node} (h : DN room L ns) (hL : L ≤ 42) (hroom : (L : Int) + 3 ≤ room) {k : Nat} (hk : k + 2 ≤ L) (h42 : k + 3 ≤ 42) {n : Int} (hn : Dd ns (k + 2) n) (mm : Memo) :
  ∃ ns' q L', grow room ⟨ns, mm⟩ n = (⟨ns', mm⟩, q, 0) ∧ ns <+: ns' ∧ L ≤ L' ∧ (L' ≤ L ∨ L' ≤ k + 3) ∧ k + 3 ≤ L' ∧ DN room L' ns' ∧ Dd ns' (k + 3) q := by
 have hlv : (nd ns n).lv = k + 2 := by rw [hn.1.2]; omega
 have d0 : Dd ns 0 0 := ⟨⟨h.wf.in0, by rw [h.wf.nd0]; rfl⟩, by rw [h.wf.nd0]; rfl⟩
 obtain ⟨d, e1, hd⟩ := emptyF_dead h hL (k + 1) 0 0 (by omega) d0
 rw [Nat.zero_add] at hd
 have e1 : R7.empty ns room (k + 1) = (ns, d, 0) := e1
 obtain ⟨a, b, c, dd⟩ := kids_dd h.wf (lv := k + 1) hn
 have hks : ∀ q : Nat, q < 4 → Dd ns (k + 1) ((nd ns n).kids.getD q default) := fun q hq => by
  match q, hq with
  | 0, _ => exact a
  | 1, _ => exact b
  | 2, _ => exact c
  | 3, _ => exact dd
 have hbk : ∀ q i : Nat, q < 4 → Dd ns (k + 1) (bigK d q ((nd ns n).kids.getD q default) i) := fun q i hq => by
  unfold bigK
  split
  ·exact hks q hq
  ·exact hd
 rw [grow_eq]
 show ∃ ns' q L', (if 42 ≤ (nd ns n).lv then _ else if (R7.empty ns room ((nd ns n).lv - 1).toNat).2.2 ≠ 0 then _ else _) = _ ∧ _
 rw [show ((nd ns n).lv - 1).toNat = k + 1 by omega, if_neg (by omega), e1, if_neg (fun h => h rfl)]
 have hMm : ∀ mm : Memo, ∃ qs', mapS (growF room d (nd ns n).kids) ⟨ns, mm⟩ k4 = (⟨ns, mm⟩, qs', 0) ∧ qs'.length = 4 ∧ ∀ q ∈ qs', Dd ns (k + 2) q := by
  intro mm
  have one : ∀ q : Nat, q < 4 → ∃ m, growF room d (nd ns n).kids ⟨ns, mm⟩ (q : Int) = (⟨ns, mm⟩, m, 0) ∧ Dd ns (k + 2) m := fun q hq => by
   obtain ⟨m, e, hm⟩ := put_dead h (lv := k + 1) (by omega) (by omega) (hbk q 0 hq) (hbk q 1 hq) (hbk q 2 hq) (hbk q 3 hq)
   refine ⟨m, ?_, hm⟩
   show ((⟨(put ns room _ _ _ _).1, mm⟩ : LS), (put ns room _ _ _ _).2.1, (put ns room _ _ _ _).2.2) = _
   rw [Int.toNat_natCast, e]
  obtain ⟨m0, f0, g0⟩ := one 0 (by omega)
  obtain ⟨m1, f1, g1⟩ := one 1 (by omega)
  obtain ⟨m2, f2, g2⟩ := one 2 (by omega)
  obtain ⟨m3, f3, g3⟩ := one 3 (by omega)
  refine ⟨[m0, m1, m2, m3], ?_, rfl, fun q hq => ?_⟩
  ·have f0 : growF room d (nd ns n).kids ⟨ns, mm⟩ 0 = _ := f0
   have f1 : growF room d (nd ns n).kids ⟨ns, mm⟩ 1 = _ := f1
   have f2 : growF room d (nd ns n).kids ⟨ns, mm⟩ 2 = _ := f2
   have f3 : growF room d (nd ns n).kids ⟨ns, mm⟩ 3 = _ := f3
   unfold k4
   simp only [mapS, f0, f1, f2, f3, ne_eq, not_true_eq_false, if_false]
  ·simp only [List.mem_cons, List.not_mem_nil, or_false] at hq
   rcases hq with rfl | rfl | rfl | rfl <;> assumption
 obtain ⟨l, e2, n2, d2⟩ := hMm mm
 have g4 : ∀ i : Int, 0 ≤ i → i ≤ 3 → Dd ns (k + 2) (R8.g l i) := fun i a b => d2 _ (g_mem a (by rw [n2]; omega))
 obtain ⟨ns', m, L', e3, p, x1, x2, x3, x4, x5⟩ := put_next h (lv := k + 2) (by omega) (by omega) hroom (g4 0 (by omega) (by omega)) (g4 1 (by omega) (by omega)) (g4 2 (by omega) (by omega)) (g4 3 (by omega) (by omega))
 refine ⟨ns', m, L', ?_, p, x1, x2, x3, x4, x5⟩
 show bindM (mapS (growF room d (nd ns n).kids) ⟨ns, mm⟩ k4) (put4 room) = _
 rw [e2, bindM_eq]
 show ((⟨(put ns room _ _ _ _).1, mm⟩ : LS), (put ns room _ _ _ _).2.1, (put ns room _ _ _ _).2.2) = _
 rw [e3]
end R9
end Go.GL
