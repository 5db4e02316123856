/- Part 6: contracts of the functions that the law reaches: each answers as its model does. No condition beyond those that each theorem states. -/
import Derived.Test.YtcplhihffeociaaPart5
set_option linter.unusedVariables false
namespace Go.GL
theorem R9.Lk.good {room : Int} {s : R9.LS} (h : R9.Lk room s) : R6.Good s.ns room := h.right.good (by have := h.right.1.2.1; omega)
theorem R9.Lk.len2 {room : Int} {s : R9.LS} (h : R9.Lk room s) : 2 ≤ s.ns.length := h.wf.len
theorem R9.Lk.kid {room : Int} {s : R9.LS} (h : R9.Lk room s) {lv : Nat} {n : Int} (hn : R7.IsN s.ns (lv + 2) n) : R8.Kid s.ns n := h.right.kids hn.1 (by rw [hn.2]; omega)
/-- The first so many made. -/
theorem mapS_step {f : R9.LS → Int → R9.L9} {s : R9.LS} {qs : List Int} {i : Nat} (hi : i < qs.length) : R9.mapS f s (qs.drop i) = if (f s (qs.getD i default)).2.2 ≠ 0 then ((f s (qs.getD i default)).1, [], (f s (qs.getD i default)).2.2) else ((R9.mapS f (f s (qs.getD i default)).1 (qs.drop (i + 1))).1, (f s (qs.getD i default)).2.1 :: (R9.mapS f (f s (qs.getD i default)).1 (qs.drop (i + 1))).2.1, (R9.mapS f (f s (qs.getD i default)).1 (qs.drop (i + 1))).2.2) := by
 rw [List.drop_eq_getElem_cons hi, show qs.getD i default = qs[i] by simp [hi]]
 rfl
/-- The list in the middle of a round: what is made, and what is to be made. -/
def midL (res qs : List Int) : List Int := res ++ qs.drop res.length
theorem midL_at {res qs : List Int} (h : res.length < qs.length) : (midL res qs).getD res.length default = qs.getD res.length default := by
 unfold midL
 rw [List.getD_eq_getElem?_getD, List.getElem?_append_right (Nat.le_refl _), Nat.sub_self, List.getElem?_drop]
 simp
theorem midL_set {res qs : List Int} (h : res.length < qs.length) (v : Int) : (midL res qs).set res.length v = midL (res ++ [v]) qs := by
 unfold midL
 rw [List.set_append_right _ _ (Nat.le_refl _), Nat.sub_self, show qs.drop res.length = qs[res.length] :: qs.drop (res.length + 1) from List.drop_eq_getElem_cons h, List.set_cons_zero, List.append_assoc, List.length_append]
 rfl
theorem midL_done {res qs : List Int} (h : res.length = qs.length) : midL res qs = res := by unfold midL; rw [List.drop_of_length_le (by omega)]; simp
theorem mapS_next {f : R9.LS → Int → R9.L9} {t : R9.LS} {res qs : List Int} {i : Nat} {r : R9.LS × List Int × Int} (hl : res.length = i) (hi : i < qs.length) (hr : r = ((R9.mapS f t (qs.drop i)).1, res ++ (R9.mapS f t (qs.drop i)).2.1, (R9.mapS f t (qs.drop i)).2.2)) {R : R9.L9} (hR : f t (qs.getD i default) = R) :
  (R.2.2 = 0 → (res ++ [R.2.1]).length = i + 1 ∧ r = ((R9.mapS f R.1 (qs.drop (i + 1))).1, (res ++ [R.2.1]) ++ (R9.mapS f R.1 (qs.drop (i + 1))).2.1, (R9.mapS f R.1 (qs.drop (i + 1))).2.2)) ∧ (R.2.2 ≠ 0 → r.2.2 = R.2.2) := by
 rw [mapS_step hi, hR] at hr
 constructor
 ·intro h
  rw [if_neg (by simpa using h)] at hr
  exact ⟨by simp [hl], by rw [hr]; simp⟩
 ·intro h
  rw [if_pos h] at hr
  rw [hr]
theorem four_len {l : List Int} (h : l.length = 4) : ∃ q0 q1 q2 q3, l = [q0, q1, q2, q3] := by
 match l, h with
 | [a, b, c, d], _ => exact ⟨a, b, c, d, rfl⟩
theorem may_lk' {ns : List Node} {room n : Int} (h : R8.may ns room n 2) : R9.Lk room (⟨ns, []⟩ : R9.LS) ∧ ∃ k : Nat, R7.IsN ns (k + 2) n := by
 have h2 := h.2.2
 exact ⟨⟨h.1, fun p hp => by cases hp⟩, ((R6.nd ns n).lv - 2).toNat, ⟨h.2.1, by omega⟩⟩
end Go.GL


namespace Go.GL
instance : Enc (Int × Int × Int) := ⟨fun p => [.int .i64 p.1, .int .i64 p.2.1, .int .i64 p.2.2], 3, fun _ => rfl, fun _ => rfl⟩
end Go.GL


namespace Go.GL
open Go.Proofs
attribute [local irreducible] wpList Code.wp Exit.then Exit.inBlock Ends Tri TriH OpV OpG FnC epf wpAnyH
variable {A : List Asrt} {I : List Chunk}
/-- The document's leaper, as it lies in the heap. -/
abbrev LgA (bl : Nat) (a : Option Addr) (cap len : Nat) (room : Int) (ad : Option Addr) (cd : Nat) (mm : R9.Memo) (e : Int) (A : List Asrt) : List Asrt :=
 Box bl [.slice a len cap, .int .i64 room, .slice ad mm.length cd, .int .i64 e] 104 :: Row ad cd mm.length 123 3 (encs mm) :: A
/-- What its functions tell and leave behind. -/
def LgR (bl : Nat) (r : R9.L9) (room : Int) (A : List Asrt) (I : List Chunk) : Value → List Asrt → List Chunk → Prop :=
 fun v A' I' => ∃ a' cap' ad' cd' ns' mm' m, v = .int .i64 m ∧ A' = LgA bl a' cap' (List.length ns') room ad' cd' mm' r.2.2 A ∧ StA I' a' cap' (ns' : List Node) ∧ (r.2.2 = 0 → ns' = r.1.ns ∧ mm' = r.1.mm ∧ m = r.2.1) ∧ I ⊆ I'
theorem er_pick (e : Int) (M : R9.L9) : ∃ R : R9.L9, (e = 0 → M = R) ∧ (e ≠ 0 → R.2.2 = e) := by
 by_cases h : e = 0
 ·exact ⟨M, fun _ => rfl, fun x => absurd h x⟩
 ·exact ⟨(M.1, 0, e), fun x => absurd x h, fun _ => rfl⟩
theorem er_zero {e : Int} {R : R9.L9} (h : e ≠ 0 → R.2.2 = e) (h0 : R.2.2 = 0) : e = 0 := Decidable.byContradiction fun x => x (by rw [← h x]; exact h0)
set_option maxHeartbeats 1000000 in
set_option maxRecDepth 100000 in
theorem ref09_put {ns : List Node} {mm : R9.Memo} {a ad : Option Addr} {cap cd bl : Nat} {room e q0 q1 q2 q3 : Int} {r : R9.L9} (hs : StA I a cap ns) (h0 : e = 0 → R6.Good ns room ∧ R9.putS room ⟨ns, mm⟩ q0 q1 q2 q3 = r) (h1 : e ≠ 0 → r.2.2 = e) :
  FnC Try.prog 78 [pt bl 0, int4V q0 q1 q2 q3].toArray (LgA bl a cap ns.length room ad cd mm e A) I (LgR bl r room A I) := by
 skip
 refine fn_enter2 Try.func78 rfl Try.ntmps78 rfl fun w0 => ?_
 refine tS (tR ?_)
 refine tri_g (opg_box_agg rfl) rfl ?_
 rintro _ _ _ ⟨b3, rfl, rfl, rfl⟩
 refine tA rfl rfl (tN (tT (tS (tS (tR (tM rfl rfl ?_))))))
 refine tri_v (opv_nilCheck rfl) rfl ?_
 refine yF rfl ?_
 refine yL rfl rfl ?_
 refine tri_v (opv_neq rfl rfl) rfl ?_
 refine tN (tT ?_)
 refine tri_cond_dec rfl (fun h => ?_) (fun h => ?_)
 ·refine tS (tR (tA rfl rfl (tN (tT (tri_ret (tri_then_ret ?_))))))
  refine tri_end (LgA bl a cap ns.length room ad cd mm e A) Suf.h rfl (.cons (rv_tmp rfl) .nil) ⟨a, cap, ad, cd, ns, mm, 0, rfl, by rw [h1 h], hs, fun x => absurd (er_zero h1 x) h, fun _ h => h⟩
 refine tri_skip (tT (tS ?_))
 refine tri_draw [0, 1, 2, 3, 4, 5, 6, 7, 8, 9, 10, 11, 12, 13] rfl [] rfl mixed ?_
 refine yM rfl rfl (yn rfl rfl (yf rfl rfl ?_))
 refine th_take rfl rfl (by kernel_rfl)  (opv_loadA rfl rfl rfl) ?_
 refine th_take rfl rfl (by kernel_rfl)  (opv_loadA rfl rfl rfl) ?_
 obtain ⟨hg, hr⟩ := h0 (Decidable.not_not.1 h)
 have er1 : R6.put ns room q0 q1 q2 q3 = (r.1.ns, r.2.1, r.2.2) := by rw [← hr]; rfl
 have er4 : r.1.mm = mm := by rw [← hr]; rfl
 refine th_two (j := 10) [5, 6, 7, 8, 9, 11, 12, 13] (by kernel_rfl) rfl ?_ ?_
 ·refine (step_m rfl rfl (opg_call (xs := [_, _]) rfl (ref06_putSq hs hg er1)) ?_)
  rintro _ _ I2 ⟨a2, c2, rfl, hs2, rfl, hI⟩
  refine ⟨Suf.h, (by assumption), ?_⟩
  refine yM rfl rfl (yE rfl rfl rfl (yE rfl rfl rfl (yE rfl rfl rfl ?_)))
  refine th_one (by kernel_rfl) (step_m rfl rfl opg_alloc ?_)
  rintro _ _ _ ⟨b5, rfl, rfl, rfl⟩
  refine ⟨Suf.h, (by assumption), ?_⟩
  refine th_one (by kernel_rfl) (step_m rfl rfl (opg_store rfl rfl rfl rfl rfl rfl) ?_)
  rintro _ _ _ ⟨rfl, rfl⟩
  refine ⟨Suf.h, (by assumption), ?_⟩
  refine yA rfl rfl (yA rfl rfl (yD (tT (tS (tR (tM rfl rfl ?_))))))
  refine yB rfl rfl ?_
  refine tri_v (opv_nilCheck rfl) rfl ?_
  refine yF rfl ?_
  refine yG rfl rfl rfl rfl rfl rfl ?_
  rintro _ _ _ ⟨rfl, rfl⟩
  refine tN (tT (tS (tR (tM rfl rfl (tM rfl rfl ?_)))))
  refine tri_v (opv_nilCheck rfl) rfl ?_
  refine yF rfl ?_
  refine yG rfl rfl rfl rfl rfl rfl ?_
  rintro _ _ _ ⟨rfl, rfl⟩
  refine tN (tT (tS (tR (tM rfl rfl (tA rfl rfl (tN (tT ?_)))))))
  refine tri_ret ?_
  refine tri_end (LgA bl a2 c2 r.1.ns.length room ad cd mm r.2.2 A) Suf.h rfl (.cons (rv_tmp rfl) .nil) ⟨a2, c2, ad, cd, r.1.ns, mm, r.2.1, rfl, rfl, hs2, fun x => ⟨rfl, er4.symm, rfl⟩, hI⟩
 ·refine (step_m rfl rfl opg_alloc ?_)
  rintro _ _ _ ⟨b5, rfl, rfl, rfl⟩
  refine ⟨Suf.h, (fun _ h => h), ?_⟩
  refine th_one (by kernel_rfl) (step_m rfl rfl (opg_call (xs := [_, _]) rfl (ref06_putSq hs hg er1)) ?_)
  rintro _ _ I2 ⟨a2, c2, rfl, hs2, rfl, hI⟩
  refine ⟨Suf.h, (by assumption), ?_⟩
  refine yM rfl rfl (yE rfl rfl rfl (yE rfl rfl rfl (yE rfl rfl rfl ?_)))
  refine th_one (by kernel_rfl) (step_m rfl rfl (opg_store rfl rfl rfl rfl rfl rfl) ?_)
  rintro _ _ _ ⟨rfl, rfl⟩
  refine ⟨Suf.h, (by assumption), ?_⟩
  refine yA rfl rfl (yA rfl rfl (yD (tT (tS (tR (tM rfl rfl ?_))))))
  refine yB rfl rfl ?_
  refine tri_v (opv_nilCheck rfl) rfl ?_
  refine yF rfl ?_
  refine yG rfl rfl rfl rfl rfl rfl ?_
  rintro _ _ _ ⟨rfl, rfl⟩
  refine tN (tT (tS (tR (tM rfl rfl (tM rfl rfl ?_)))))
  refine tri_v (opv_nilCheck rfl) rfl ?_
  refine yF rfl ?_
  refine yG rfl rfl rfl rfl rfl rfl ?_
  rintro _ _ _ ⟨rfl, rfl⟩
  refine tN (tT (tS (tR (tM rfl rfl (tA rfl rfl (tN (tT ?_)))))))
  refine tri_ret ?_
  refine tri_end (LgA bl a2 c2 r.1.ns.length room ad cd mm r.2.2 A) Suf.h rfl (.cons (rv_tmp rfl) .nil) ⟨a2, c2, ad, cd, r.1.ns, mm, r.2.1, rfl, rfl, hs2, fun x => ⟨rfl, er4.symm, rfl⟩, hI⟩
end Go.GL


namespace Go.GL
open Go.Proofs
attribute [local irreducible] wpList Code.wp Exit.then Exit.inBlock Ends Tri TriH OpV OpG FnC epf wpAnyH
variable {A : List Asrt} {I : List Chunk}
namespace R9
/-- A round of the document's, that goes on behind an error. -/
structure MP (room : Int) (f : LS → Int → L9) (qs dest : List Int) (r : LS × List Int × Int) (rF : Int) (base : List Node) (Q : Prop) (i : Nat) (t : LS) (l : List Int) (e : Int) : Prop where
 len : l.length = qs.length
 ok : e = 0 → (∃ res, res.length = i ∧ l = midL res dest ∧ r = ((mapS f t (qs.drop i)).1, res ++ (mapS f t (qs.drop i)).2.1, (mapS f t (qs.drop i)).2.2)) ∧ Lk room t ∧ Kn t.mm ∧ base <+: t.ns ∧ (r.2.2 ≠ 0 → rF = r.2.2) ∧ Q
 er : e ≠ 0 → rF = e
theorem MP.step {room : Int} {f : LS → Int → L9} {qs dest : List Int} {r : LS × List Int × Int} {rF : Int} {base : List Node} {Q : Prop} {i : Nat} {t : LS} {l : List Int} {e : Int} (h : MP room f qs dest r rF base Q i t l e) (hd : dest.length = qs.length) (hi : i < qs.length) {R : L9} {lv : Nat} (hR : e = 0 → f t (qs.getD i default) = R) (hRe : e ≠ 0 → R.2.2 = e) (hg : e = 0 → R.2.2 = 0 → Gd room t R lv ∧ Kn R.1.mm) {t' : LS} {m : Int} (hm : R.2.2 = 0 → t' = R.1 ∧ m = R.2.1) : MP room f qs dest r rF base Q (i + 1) t' (l.set i m) R.2.2 := by
 refine ⟨by rw [List.length_set]; exact h.len, fun e0 => ?_, fun e0 => ?_⟩
 ·have e1 : e = 0 := er_zero hRe e0
  obtain ⟨⟨res, h1, h2, h3⟩, h4, h5, h6, h7⟩ := h.ok e1
  obtain ⟨rfl, rfl⟩ := hm e0
  obtain ⟨g, kn⟩ := hg e1 e0
  have nx := (mapS_next h1 hi h3 (hR e1)).1 e0
  exact ⟨⟨res ++ [R.2.1], nx.1, by rw [h2, ← h1]; exact midL_set (by omega) _, nx.2⟩, g.lk, kn, h6.trans g.pre, h7.1, h7.2⟩
 ·by_cases e1 : e = 0
  ·obtain ⟨⟨res, h1, h2, h3⟩, h4, h5, h6, h7⟩ := h.ok e1
   have nx := (mapS_next h1 hi h3 (hR e1)).2 e0
   rw [← nx]
   exact h7.1 (by rw [nx]; exact e0)
  ·rw [hRe e1]; exact h.er e1
theorem MP.last {room : Int} {f : LS → Int → L9} {qs dest : List Int} {r : LS × List Int × Int} {rF : Int} {base : List Node} {Q : Prop} {i : Nat} {t : LS} {l : List Int} {e : Int} (h : MP room f qs dest r rF base Q i t l e) (hd : dest.length = qs.length) (hi : i = qs.length) (h0 : e = 0) : r = (t, l, 0) := by
 obtain ⟨⟨res, h1, h2, h3⟩, _⟩ := h.ok h0
 subst hi
 rw [h3, List.drop_of_length_le (Nat.le_refl _), h2, midL_done (by omega)]
 simp [mapS]
theorem MP.at {room : Int} {f : LS → Int → L9} {qs : List Int} {r : LS × List Int × Int} {rF : Int} {base : List Node} {Q : Prop} {i : Nat} {t : LS} {l : List Int} {e : Int} (h : MP room f qs qs r rF base Q i t l e) (hi : i < qs.length) (h0 : e = 0) : l.getD i default = qs.getD i default := by
 obtain ⟨⟨res, h1, h2, h3⟩, _⟩ := h.ok h0
 rw [h2, ← h1]
 exact midL_at (by omega)
theorem MP.start {room : Int} {f : LS → Int → L9} {qs dest : List Int} {r : LS × List Int × Int} {rF : Int} {Q : Prop} {t : LS} {e : Int} (hd : dest.length = qs.length) (hr : e = 0 → mapS f t qs = r) (hlk : e = 0 → Lk room t ∧ Kn t.mm) (h7 : e = 0 → r.2.2 ≠ 0 → rF = r.2.2) (hq : e = 0 → Q) (her : e ≠ 0 → rF = e) : MP room f qs dest r rF t.ns Q 0 t dest e :=
 ⟨hd, fun h0 => ⟨⟨[], rfl, rfl, by rw [List.drop_zero]; exact (hr h0).symm⟩, (hlk h0).1, (hlk h0).2, List.prefix_refl _, h7 h0, hq h0⟩, her⟩
end R9
theorem ref08_middleR {ns : List Node} {a : Option Addr} {cap : Nat} {room n : Int} {p : List Node × Int × Int} (hs : StA I a cap ns) (hg : R6.Good ns room) (hk : R8.Kid ns n) (he : R8.putSq ns room (R8.s16 ns n) 1 1 = p) :
  FnC Try.prog 57 [storeV a ns.length cap room, .int .i64 n].toArray A I (StoreR p room A I) := by
 subst he
 exact ref08_middle hs hg hk
def LgSpec (k : Nat) : Prop := ∀ (A : List Asrt) (I : List Chunk) (ns : List Node) (mm : R9.Memo) (a ad : Option Addr) (cap cd bl : Nat) (room e n j : Int) (r : R9.L9), StA I a cap ns → (e = 0 → R9.Lk room ⟨ns, mm⟩ ∧ R9.Kn mm ∧ R7.IsN ns (k + 2) n ∧ R9.leap room k ⟨ns, mm⟩ n j = r) → (e ≠ 0 → r.2.2 = e) → 0 ≤ j ∧ j ≤ 1000000 →
 FnC Try.prog 38 [pt bl 0, .int .i64 n, .int .i64 j].toArray (LgA bl a cap ns.length room ad cd mm e A) I (LgR bl r room A I)
set_option maxHeartbeats 2000000 in
set_option maxRecDepth 100000 in
theorem ref09_far {k : Nat} (ih : LgSpec k) {ns : List Node} {mm : R9.Memo} {a ad : Option Addr} {cap cd bl : Nat} {room n j : Int} {full : Bool} {r : R9.L9} (hs : StA I a cap ns) (h : R9.Lk room ⟨ns, mm⟩) (hkn : R9.Kn mm) (hn : R7.IsN ns (k + 3) n) (hj : 0 ≤ j ∧ j ≤ 1000000) (hfull : full = true → 1 ≤ j)
  (hr : R9.far (R9.leap room k) room full ⟨ns, mm⟩ n j = r) :
  FnC Try.prog 59 [pt bl 0, .int .i64 n, .int .i64 j, .bool full].toArray (LgA bl a cap ns.length room ad cd mm 0 A) I (LgR bl r room A I) := by
 have hk := h.kid hn
 have hg := h.good
 simp only at hk hg
 skip
 skip
 refine fn_enter4 Try.func59 rfl Try.ntmps59 rfl fun w0 => ?_
 refine tS (tR (tA rfl rfl (tN (tT (tS (tR (tM rfl rfl ?_)))))))
 refine tri_v (opv_nilCheck rfl) rfl ?_
 refine yF rfl ?_
 refine yB rfl rfl ?_
 refine tM rfl rfl ?_
 obtain ⟨X, hX⟩ : ∃ X, R8.all ns room n = X := ⟨_, rfl⟩
 refine tri_g (opg_call (xs := [_, _]) rfl (ref08_all hs hg hk)) rfl ?_
 rintro _ _ I1 ⟨a1, c1, q0, q1, q2, q3, q4, q5, q6, q7, q8, hq, rfl, hs1, rfl, hI1⟩
 rw [hX] at hq hs1
 rw [hX]
 obtain ⟨r1, hr1⟩ : ∃ r1, R9.half (R9.leap room k) room full ⟨ns, mm⟩ n j = r1 := ⟨_, rfl⟩
 unfold R9.far at hr
 rw [hr1] at hr
 have hxg := fun e : X.2.2 = 0 => R9.all_gd h.right hn (by rw [hX]; exact e)
 simp only at hxg
 rw [hX, hq] at hxg
 have hr1' := hr1
 unfold R9.half at hr1'
 simp only at hr1'
 rw [hX, hq] at hr1'
 have hF1 : r1.2.2 ≠ 0 → r.2.2 = r1.2.2 := fun e => by rw [← hr, R9.bindM_err e]
 refine tM rfl rfl ?_
 refine tri_v (opv_extract rfl rfl) rfl ?_
 refine tri_v (opv_extract rfl rfl) rfl ?_
 refine tri_v (opv_extract rfl rfl) rfl ?_
 refine tri_g opg_alloc rfl ?_
 rintro _ _ _ ⟨b9, rfl, rfl, rfl⟩
 refine tri_g opg_alloc rfl ?_
 rintro _ _ _ ⟨b10, rfl, rfl, rfl⟩
 refine yG rfl rfl rfl rfl rfl rfl ?_
 rintro _ _ _ ⟨rfl, rfl⟩
 refine yG rfl rfl rfl rfl rfl rfl ?_
 rintro _ _ _ ⟨rfl, rfl⟩
 refine tA rfl rfl (tN (tT (tS (tR (tM rfl rfl ?_)))))
 refine yB rfl rfl ?_
 refine tri_v (opv_nilCheck rfl) rfl ?_
 refine yF rfl ?_
 refine yG rfl rfl rfl rfl rfl rfl ?_
 rintro _ _ _ ⟨rfl, rfl⟩
 refine tN (tT (tS (tR (tM rfl rfl (tM rfl rfl ?_)))))
 refine tri_v (opv_nilCheck rfl) rfl ?_
 refine yF rfl ?_
 refine yG rfl rfl rfl rfl rfl rfl ?_
 rintro _ _ _ ⟨rfl, rfl⟩
 refine tN (tT (tS (tS (tR (tA rfl rfl (tN (tT ?_)))))))
 refine tri_perm (A := ?a1_0 :: ?a1_1 :: ?a1_2 :: ?a1_3 :: ?T1) (B := ?a1_2 :: ?a1_3 :: ?a1_0 :: ?a1_1 :: ?T1) (by exact permL [2, 3, 0, 1] [?a1_0, ?a1_1, ?a1_2, ?a1_3] ?T1 (by decide) rfl) ?_
 rw [show ([.int .i64 q0, .int .i64 q1, .int .i64 q2, .int .i64 q3, .int .i64 q4, .int .i64 q5, .int .i64 q6, .int .i64 q7, .int .i64 q8] : List Value) = ints [q0, q1, q2, q3, q4, q5, q6, q7, q8] from rfl]
 generalize hqs : ([q0, q1, q2, q3, q4, q5, q6, q7, q8] : List Int) = qs at *
 have hl9 : qs.length = 9 := by rw [← hqs]; rfl
 have hmp0 : R9.MP room (R9.halfF (R9.leap room k) room full j) qs qs r1 r.2.2 X.1 (∀ q ∈ qs, R7.IsN X.1 (k + 2) q) 0 ⟨X.1, mm⟩ qs X.2.2 := R9.MP.start (t := ⟨X.1, mm⟩) rfl (fun e => by rw [if_neg (by simpa using e)] at hr1'; exact hr1') (fun e => ⟨⟨(hxg e).1, h.mem.pre (hxg e).2.1⟩, hkn⟩) (fun _ => hF1) (fun e => (hxg e).2.2.2) (fun e => by
  rw [if_pos e] at hr1'
  rw [hF1 (by rw [← hr1']; exact e), ← hr1'])
 refine tri_cut (fun F' A' J => ∃ (t : R9.LS) (a' : Option Addr) (cap' : Nat) (ad' : Option Addr) (cd' : Nat) (l : List Int) (e : Int), F' = [(0, pt bl 0), (2, .int .i64 j), (3, .bool full), (10, pt b10 0)] ∧ A' = LgA bl a' cap' t.ns.length room ad' cd' t.mm e (Box b10 (ints l) 80 :: Box b9 [.slice a1 X.1.length c1, .int .i64 room] 26 :: A) ∧ StA J a' cap' t.ns ∧ I1 ⊆ J ∧ l.length = 9 ∧ (e = 0 → r1 = (t, l, 0) ∧ R9.Lk room t ∧ R9.Kn t.mm) ∧ (e ≠ 0 → r.2.2 = e)) ?_ ?_
 ·refine tri_block ?_
  refine tri_sub (F' := [(0, pt bl 0), (2, .int .i64 j), (3, .bool full), (10, pt b10 0), (12, .int .i64 (0 : Nat))]) ⟨rfl, rfl, rfl, rfl, rfl, trivial⟩ ?_
  refine loop_ind (G := Nat × R9.LS × List Int × Int × Option Addr × Nat × Option Addr × Nat × List Chunk) (fun g => 9 - g.1) (fun g => g.1 ≤ 9 ∧ R9.MP room (R9.halfF (R9.leap room k) room full j) qs qs r1 r.2.2 X.1 (∀ q ∈ qs, R7.IsN X.1 (k + 2) q) g.1 g.2.1 g.2.2.1 g.2.2.2.1 ∧ StA g.2.2.2.2.2.2.2.2 g.2.2.2.2.1 g.2.2.2.2.2.1 g.2.1.ns ∧ I1 ⊆ g.2.2.2.2.2.2.2.2) (fun g => [(0, pt bl 0), (2, .int .i64 j), (3, .bool full), (10, pt b10 0), (12, .int .i64 (g.1 : Nat))]) (fun g => LgA bl g.2.2.2.2.1 g.2.2.2.2.2.1 g.2.1.ns.length room g.2.2.2.2.2.2.1 g.2.2.2.2.2.2.2.1 g.2.1.mm g.2.2.2.1 (Box b10 (ints g.2.2.1) 80 :: Box b9 [.slice a1 X.1.length c1, .int .i64 room] 26 :: A)) (fun g => g.2.2.2.2.2.2.2.2) ?_ (0, ⟨X.1, mm⟩, qs, X.2.2, a1, c1, ad, cd, I1) ⟨by omega, hmp0, hs1, fun _ h => h⟩
  rintro ⟨i, t, l, e, a2, c2, ad2, cd2, I2⟩ ⟨hi, hmp, hs2, hI2⟩ K hK
  simp only at hi hmp hs2 hI2 hK ⊢
  have hll := hmp.len
  rw [hl9] at hll
  skip
  refine tS (tS (tR (tM rfl rfl (yC rfl rfl (tM rfl rfl ?_)))))
  refine tri_split rfl rfl (fun h9 => ?_) (fun h9 => ?_)
  ·refine yR rfl rfl (tM rfl rfl (yR rfl rfl ?_))
   refine tri_v (opv_nilCheck rfl) rfl ?_
   refine yR rfl rfl (yF rfl (yR rfl rfl ?_))
   refine yL rfl rfl ?_
   refine yR rfl rfl ?_
   refine tri_v (opv_eql rfl rfl) rfl ?_
   refine tri_v (opv_pick_t rfl rfl) rfl ?_
   refine tN (tT ?_)
   refine tri_cond_dec rfl (fun he => ?_) (fun he => ?_)
   ·have hi9 : i < 9 := by omega
    have ei : 0 + ((i : Nat) : Int).toNat * 1 = i := by omega
    obtain ⟨_, hlk, hkt, hpre, _, hQ⟩ := hmp.ok he
    have hat := hmp.at (by omega) he
    have hqn : R7.IsN t.ns (k + 2) (l.getD i default) := by
     rw [hat]
     exact (hQ _ (by simp [show i < qs.length by omega])).pre hpre
    refine tri_skip (tT (tS (tri_block (tS (tS (tR (tM rfl rfl ?_)))))))
    refine tN (tT ?_)
    refine tri_cond rfl (fun hf => ?_) (fun hf => ?_)
    ·have hf1 : full = true := by simpa using hf
     have hj1 := hfull hf1
     obtain ⟨R, hR⟩ : ∃ R, R9.leap room k t (l.getD i default) (j - 1) = R := ⟨_, rfl⟩
     have hgd := fun e : R.2.2 = 0 => R9.leap_gd k t _ (j - 1) hlk hqn (by rw [hR]; exact e)
     have hkd := fun e : R.2.2 = 0 => R9.leap_kn k t _ (j - 1) hlk hqn (by omega) (by rw [hR]; exact e) hkt
     rw [hR] at hgd hkd
     refine tS (tR (tM rfl rfl (tM rfl rfl (tM rfl rfl ?_))))
     refine tri_v (opv_indexAddrA rfl rfl (by omega) (by omega)) rfl ?_
     refine tri_v (opv_loadIX rfl rfl (by omega)) rfl ?_
     refine tM rfl rfl ?_
     refine tri_v (opv_sub rfl rfl (w64 (by omega) (by omega))) rfl ?_
     rw [ei]
     refine tri_g (opg_call (xs := [_, _, _]) rfl (ih _ _ t.ns t.mm _ _ _ _ _ room e _ (j - 1) R hs2 (fun _ => ⟨hlk, hkt, hqn, hR⟩) (fun x => absurd he x) (by omega))) rfl ?_
     rintro _ _ I3 ⟨a3, c3, ad3, cd3, ns3, mm3, m3, rfl, rfl, hs3, hm3, hI3⟩
     refine tri_v (opv_indexAddrA rfl rfl (by omega) (by omega)) rfl ?_
     refine tri_g (opg_storeIX rfl rfl (by omega)) rfl ?_
     rintro _ _ _ ⟨rfl, rfl⟩
     rw [ei]
     refine tN (tT ?_)
     refine tri_exit ?_
     refine tri_then_exit ?_
     refine tri_inBlock_hit rfl ?_
     refine tT (tR (tM rfl rfl ?_))
     refine yU rfl rfl ?_
     refine tA rfl rfl (tN (tT ?_))
     refine tri_sub ?_ (hK (i + 1, ⟨ns3, mm3⟩, l.set i m3, R.2.2, a3, c3, ad3, cd3, I3) ⟨by simp only; omega, hmp.step rfl (by omega) (fun _ => by unfold R9.halfF; rw [if_pos hf1, ← hat]; exact hR) (fun x => absurd he x) (fun _ x => ⟨hgd x, hkd x⟩) (fun x => ⟨by rw [(hm3 x).1, (hm3 x).2.1], (hm3 x).2.2⟩), hs3, fun _ h => hI3 (hI2 h)⟩ (by simp only; omega))
     exact ⟨rfl, rfl, rfl, rfl, rfl, trivial⟩
    ·have hf1 : ¬ full = true := by simpa using hf
     obtain ⟨R, hR⟩ : ∃ R, R9.midS room t (l.getD i default) = R := ⟨_, rfl⟩
     have hgd := fun e : R.2.2 = 0 => R9.midS_gd (lv := k) hlk hqn (by rw [hR]; exact e)
     rw [hR] at hgd
     have er1 : R8.putSq t.ns room (R8.s16 t.ns (l.getD i default)) 1 1 = (R.1.ns, R.2.1, R.2.2) := by rw [← hR]; rfl
     have er4 : R.1.mm = t.mm := by rw [← hR]; rfl
     refine tri_skip (tT (tS ?_))
     refine tri_cut (fun F' A' J => ∃ b13 a3 c3, F' = [(0, pt bl 0), (2, .int .i64 j), (3, .bool full), (10, pt b10 0), (12, .int .i64 (i : Nat)), (13, pt b13 0), (14, .int .i64 R.2.1), (15, .int .i64 R.2.2)] ∧ A' = Box b13 [.slice a3 R.1.ns.length c3, .int .i64 room] 26 :: LgA bl a2 c2 t.ns.length room ad2 cd2 t.mm e (Box b10 (ints l) 80 :: Box b9 [.slice a1 X.1.length c1, .int .i64 room] 26 :: A) ∧ StA J a3 c3 R.1.ns ∧ I2 ⊆ J) ?_ ?_
     ·refine tri_draw [0, 1, 2, 3, 4, 5, 6, 7, 8, 9, 10, 11, 12, 13, 14, 15] rfl [] rfl mixed ?_
      refine yM rfl rfl (yn rfl rfl (yf rfl rfl ?_))
      refine th_take rfl rfl (by kernel_rfl)  (opv_loadA rfl rfl rfl) ?_
      refine yM rfl rfl ?_
      refine th_take rfl rfl (by kernel_rfl)  (opv_indexAddrA rfl rfl (by omega) (by omega)) ?_
      refine th_take rfl rfl (by kernel_rfl)  (opv_loadIX rfl rfl (by omega)) ?_
      rw [ei]
      refine th_two (j := 12) [7, 8, 9, 10, 11, 13, 14, 15] (by kernel_rfl) rfl ?_ ?_
      ·refine (step_m rfl rfl (opg_call (xs := [_, _]) rfl (ref08_middleR hs2 hlk.good (hlk.kid hqn) er1)) ?_)
       rintro _ _ I3 ⟨a3, c3, rfl, hs3, rfl, hI3⟩
       refine ⟨Suf.h, (by assumption), ?_⟩
       refine yM rfl rfl (yE rfl rfl rfl (yE rfl rfl rfl (yE rfl rfl rfl ?_)))
       refine th_one (by kernel_rfl) (step_m rfl rfl opg_alloc ?_)
       rintro _ _ _ ⟨b13, rfl, rfl, rfl⟩
       refine ⟨Suf.h, (by assumption), ?_⟩
       refine th_one (by kernel_rfl) (step_m rfl rfl (opg_store rfl rfl rfl rfl rfl rfl) ?_)
       rintro _ _ _ ⟨rfl, rfl⟩
       refine ⟨Suf.h, (by assumption), ?_⟩
       refine yA rfl rfl (yA rfl rfl (yD ?_))
       exact tri_cutEnd _ ⟨b13, a3, c3, rfl, rfl, hs3, hI3⟩ ⟨rfl, rfl, rfl, rfl, rfl, rfl, rfl, rfl, trivial⟩
      ·refine (step_m rfl rfl opg_alloc ?_)
       rintro _ _ _ ⟨b13, rfl, rfl, rfl⟩
       refine ⟨Suf.h, (fun _ h => h), ?_⟩
       refine th_one (by kernel_rfl) (step_m rfl rfl (opg_call (xs := [_, _]) rfl (ref08_middleR hs2 hlk.good (hlk.kid hqn) er1)) ?_)
       rintro _ _ I3 ⟨a3, c3, rfl, hs3, rfl, hI3⟩
       refine ⟨Suf.h, (by assumption), ?_⟩
       refine yM rfl rfl (yE rfl rfl rfl (yE rfl rfl rfl (yE rfl rfl rfl ?_)))
       refine th_one (by kernel_rfl) (step_m rfl rfl (opg_store rfl rfl rfl rfl rfl rfl) ?_)
       rintro _ _ _ ⟨rfl, rfl⟩
       refine ⟨Suf.h, (by assumption), ?_⟩
       refine yA rfl rfl (yA rfl rfl (yD ?_))
       exact tri_cutEnd _ ⟨b13, a3, c3, rfl, rfl, hs3, hI3⟩ ⟨rfl, rfl, rfl, rfl, rfl, rfl, rfl, rfl, trivial⟩
     rintro _ _ I3 ⟨b13, a3, c3, rfl, rfl, hs3, hI3⟩
     skip
     refine tT (tS (tR (tM rfl rfl ?_)))
     refine yB rfl rfl ?_
     refine tri_v (opv_nilCheck rfl) rfl ?_
     refine yF rfl ?_
     refine yG rfl rfl rfl rfl rfl rfl ?_
     rintro _ _ _ ⟨rfl, rfl⟩
     refine tN (tT (tS (tR (tM rfl rfl (tM rfl rfl ?_)))))
     refine tri_v (opv_nilCheck rfl) rfl ?_
     refine yF rfl ?_
     refine yG rfl rfl rfl rfl rfl rfl ?_
     rintro _ _ _ ⟨rfl, rfl⟩
     refine tN (tT (tR (tM rfl rfl (tM rfl rfl ?_))))
     refine tri_v (opv_indexAddrA rfl rfl (by omega) (by omega)) rfl ?_
     skip
     refine tri_g (opg_storeIX rfl rfl (by omega)) rfl ?_
     rintro _ _ _ ⟨rfl, rfl⟩
     rw [ei]
     refine tN (tri_inBlock (tT (tR (tM rfl rfl ?_))))
     refine yU rfl rfl ?_
     refine tA rfl rfl (tN (tT ?_))
     refine tri_drop ?_
     rw [← er4]
     refine tri_sub ?_ (hK (i + 1, R.1, l.set i R.2.1, R.2.2, a3, c3, ad2, cd2, I3) ⟨by simp only; omega, hmp.step rfl (by omega) (fun _ => by unfold R9.halfF; rw [if_neg hf1, ← hat]; exact hR) (fun x => absurd he x) (fun _ x => ⟨hgd x, by rw [er4]; exact hkt⟩) (fun x => ⟨rfl, rfl⟩), hs3, fun _ h => hI3 (hI2 h)⟩ (by simp only; omega))
     exact ⟨rfl, rfl, rfl, rfl, rfl, trivial⟩
   ·refine tri_exit ?_
    refine tri_then_exit (tri_then_exit ?_)
    refine tri_inBlock_hit rfl ?_
    exact tri_cutEnd _ ⟨t, a2, c2, ad2, cd2, l, e, rfl, rfl, hs2, hI2, hll, fun x => absurd x he, hmp.er⟩ ⟨rfl, rfl, rfl, rfl, trivial⟩
  ·refine tri_guard_skip rfl rfl rfl rfl (tri_guard_skip rfl rfl rfl rfl (tri_guard_skip rfl rfl rfl rfl (tri_guard_skip rfl rfl rfl rfl (tri_guard_skip rfl rfl rfl rfl ?_))))
   refine tri_v (opv_pick_f rfl rfl) rfl ?_
   refine tN (tT ?_)
   refine tri_cond_false rfl ?_
   refine tri_exit ?_
   refine tri_then_exit (tri_then_exit ?_)
   refine tri_inBlock_hit rfl ?_
   exact tri_cutEnd _ ⟨t, a2, c2, ad2, cd2, l, e, rfl, rfl, hs2, hI2, hll, fun x => ⟨hmp.last rfl (by omega) x, (hmp.ok x).2.1, (hmp.ok x).2.2.1⟩, hmp.er⟩ ⟨rfl, rfl, rfl, rfl, trivial⟩
 rintro _ _ I2 ⟨t, a2, c2, ad2, cd2, l, e, rfl, rfl, hs2, hI2, hll, hok, her⟩
 skip
 refine tT (tS (tR ?_))
 refine tri_g opg_alloc rfl ?_
 rintro _ _ _ ⟨b16, rfl, rfl, rfl⟩
 refine tN (tT (tS (tS (tR (tA rfl rfl (tN (tT ?_)))))))
 refine tri_block ?_
 obtain ⟨r2, hr2⟩ : ∃ r2, R9.mapS (R9.fourP room l) t R9.fourE = r2 := ⟨_, rfl⟩
 have hr' : e = 0 → (R9.bindM r2 fun t l => R9.bindM (R9.mapS (R9.lastF (R9.leap room k) (if full = true then j - 1 else j)) t l) (R9.put4 room)) = r := fun x => by
  rw [(hok x).1, R9.bindM_ok rfl] at hr
  simp only at hr
  rw [hr2] at hr
  exact hr
 have hgl : e = 0 → ∀ q ∈ l, R7.IsN t.ns (k + 1) q := fun x => by
  have := R9.half_gd (fun s q j hs hq he => R9.leap_gd k s q j hs hq he) h hn hr1 (by rw [(hok x).1])
  rw [(hok x).1] at this
  exact this.2.2.2
 have hmp0 : R9.MP room (R9.fourP room l) R9.fourE [0, 0, 0, 0] r2 r.2.2 t.ns (R9.Lk room t ∧ (∀ q ∈ l, R7.IsN t.ns (k + 1) q) ∧ (R9.bindM r2 fun t l => R9.bindM (R9.mapS (R9.lastF (R9.leap room k) (if full = true then j - 1 else j)) t l) (R9.put4 room)) = r) 0 t [0, 0, 0, 0] e := R9.MP.start rfl (fun _ => hr2) (fun x => (hok x).2) (fun x y => by rw [← hr' x, R9.bindM_err y]) (fun x => ⟨(hok x).2.1, hgl x, hr' x⟩) her
 skip
 refine tri_perm (A := ?a2_0 :: ?a2_1 :: ?a2_2 :: ?a2_3 :: ?a2_4 :: ?T2) (B := ?a2_1 :: ?a2_2 :: ?a2_0 :: ?a2_3 :: ?a2_4 :: ?T2) (by exact permL [1, 2, 0, 3, 4] [?a2_0, ?a2_1, ?a2_2, ?a2_3, ?a2_4] ?T2 (by decide) rfl) ?_
 refine tri_sub (F' := [(0, pt bl 0), (2, .int .i64 j), (3, .bool full), (10, pt b10 0), (16, pt b16 0), (17, .int .i64 (0 : Nat))]) ⟨rfl, rfl, rfl, rfl, rfl, rfl, trivial⟩ ?_
 refine loop_ind (G := Nat × R9.LS × List Int × Int × Option Addr × Nat × Option Addr × Nat × List Chunk) (fun g => 4 - g.1) (fun g => g.1 ≤ 4 ∧ R9.MP room (R9.fourP room l) R9.fourE [0, 0, 0, 0] r2 r.2.2 t.ns (R9.Lk room t ∧ (∀ q ∈ l, R7.IsN t.ns (k + 1) q) ∧ (R9.bindM r2 fun t l => R9.bindM (R9.mapS (R9.lastF (R9.leap room k) (if full = true then j - 1 else j)) t l) (R9.put4 room)) = r) g.1 g.2.1 g.2.2.1 g.2.2.2.1 ∧ StA g.2.2.2.2.2.2.2.2 g.2.2.2.2.1 g.2.2.2.2.2.1 g.2.1.ns ∧ I2 ⊆ g.2.2.2.2.2.2.2.2) (fun g => [(0, pt bl 0), (2, .int .i64 j), (3, .bool full), (10, pt b10 0), (16, pt b16 0), (17, .int .i64 (g.1 : Nat))]) (fun g => LgA bl g.2.2.2.2.1 g.2.2.2.2.2.1 g.2.1.ns.length room g.2.2.2.2.2.2.1 g.2.2.2.2.2.2.2.1 g.2.1.mm g.2.2.2.1 (Box b16 (ints g.2.2.1) 41 :: Box b10 (ints l) 80 :: Box b9 [.slice a1 X.1.length c1, .int .i64 room] 26 :: A)) (fun g => g.2.2.2.2.2.2.2.2) ?_ (0, t, [0, 0, 0, 0], e, a2, c2, ad2, cd2, I2) ⟨by omega, hmp0, hs2, fun _ h => h⟩
 clear hmp0 hok her hs2
 rintro ⟨i, t3, l3, e3, a3, c3, ad3, cd3, I3⟩ ⟨hi, hmp, hs3, hI3⟩ K hK
 simp only at hi hmp hs3 hI3 hK ⊢
 have hl3 : l3.length = 4 := hmp.len
 skip
 refine tS (tS (tR (tM rfl rfl (yC rfl rfl (tN (tT ?_))))))
 refine tri_cond_dec rfl (fun h4 => ?_) (fun h4 => ?_)
 ·have hi4 : i < 4 := by omega
  have ei : 0 + ((i : Nat) : Int).toNat * 1 = i := by omega
  have ekk : R9.fourE.getD i default = (i : Int) / 2 * 3 + (i : Int) % 2 := by
   rcases (by omega : i = 0 ∨ i = 1 ∨ i = 2 ∨ i = 3) with rfl | rfl | rfl | rfl <;> rfl
  have eg : ∀ x : Int, l.getD (0 + x.toNat * 1) default = R8.g l x := fun x => by rw [show 0 + x.toNat * 1 = x.toNat by omega]; rfl
  obtain ⟨R, hR0, hRe⟩ := er_pick e3 (R9.fourP room l t3 (R9.fourE.getD i default))
  have hgd := fun (x : e3 = 0) (y : R.2.2 = 0) => R9.putS_gd (lv := k + 1) (hmp.ok x).2.1 (((hmp.ok x).2.2.2.2.2.2.1 _ (R9.g_mem (i := R9.fourE.getD i default) (by rw [ekk]; omega) (by rw [ekk, hll]; omega))).pre (hmp.ok x).2.2.2.1) (show (R9.fourP room l t3 (R9.fourE.getD i default)).2.2 = 0 by rw [hR0 x]; exact y)
  have hgd' : e3 = 0 → R.2.2 = 0 → R9.Gd room t3 R (k + 2) ∧ R9.Kn R.1.mm := fun x y => by
   have := hgd x y
   refine ⟨?_, ?_⟩
   ·rw [← hR0 x]; exact this
   ·rw [← hR0 x]; exact (hmp.ok x).2.2.1
  have e4 : R9.fourP room l t3 (R9.fourE.getD i default) = R9.putS room t3 (l.getD (0 + ((i : Int) / 2 * 3 + (i : Int) % 2).toNat * 1) default) (l.getD (0 + ((i : Int) / 2 * 3 + (i : Int) % 2 + 1).toNat * 1) default) (l.getD (0 + ((i : Int) / 2 * 3 + (i : Int) % 2 + 3).toNat * 1) default) (l.getD (0 + ((i : Int) / 2 * 3 + (i : Int) % 2 + 4).toNat * 1) default) := by
   rw [eg, eg, eg, eg, ekk]; rfl
  refine tri_skip (tT (tS (tri_block (tS (tR (tM rfl rfl ?_))))))
  refine tri_v (opv_quoE rfl rfl (by omega) (by omega) (by omega)) rfl ?_
  refine tri_v (opv_mul rfl rfl (w64 (by omega) (by omega))) rfl ?_
  refine tM rfl rfl ?_
  refine tri_v (opv_remE rfl rfl (by omega) (by omega)) rfl ?_
  refine yU rfl rfl ?_
  refine tA rfl rfl (tN (tT ?_))
  skip
  refine tri_draw [0, 1, 2, 3, 4, 5, 6, 7, 8, 9, 10, 11, 12, 13, 14, 15, 16, 17, 18, 19, 20] rfl [_, _, _] rfl mixed ?_
  refine yM rfl rfl (yM rfl rfl (yM rfl rfl ?_))
  refine th_take rfl rfl (by kernel_rfl)  (opv_indexAddrA rfl rfl (by omega) (by omega)) ?_
  refine th_take rfl rfl (by kernel_rfl)  (opv_loadIX rfl rfl (by omega)) ?_
  refine yM rfl rfl ?_
  refine th_take rfl rfl (by kernel_rfl)  (opv_add rfl rfl (w64 (by omega) (by omega))) ?_
  refine th_take rfl rfl (by kernel_rfl)  (opv_indexAddrA rfl rfl (by omega) (by omega)) ?_
  refine th_take rfl rfl (by kernel_rfl)  (opv_loadIX rfl rfl (by omega)) ?_
  refine yM rfl rfl ?_
  refine th_take rfl rfl (by kernel_rfl)  (opv_add rfl rfl (w64 (by omega) (by omega))) ?_
  refine th_take rfl rfl (by kernel_rfl)  (opv_indexAddrA rfl rfl (by omega) (by omega)) ?_
  refine th_take rfl rfl (by kernel_rfl)  (opv_loadIX rfl rfl (by omega)) ?_
  refine yM rfl rfl ?_
  refine th_take rfl rfl (by kernel_rfl)  (opv_add rfl rfl (w64 (by omega) (by omega))) ?_
  refine th_take rfl rfl (by kernel_rfl)  (opv_indexAddrA rfl rfl (by omega) (by omega)) ?_
  refine th_take rfl rfl (by kernel_rfl)  (opv_loadIX rfl rfl (by omega)) ?_
  refine th_take rfl rfl (by kernel_rfl)  (opv_buildA rfl rfl) ?_
  refine th_one (by kernel_rfl) (step_m rfl rfl (opg_call (xs := [_, _]) rfl (ref09_put (r := R) hs3 (fun x => ⟨(hmp.ok x).2.1.good, e4.symm.trans (hR0 x)⟩) hRe)) ?_)
  rintro _ _ I4 ⟨a4, c4, ad4, cd4, ns4, mm4, m4, rfl, rfl, hs4, hm4, hI4⟩
  refine ⟨Suf.h, (by assumption), ?_⟩
  refine th_take rfl rfl (by kernel_rfl)  (opv_indexAddrA rfl rfl (by omega) (by omega)) ?_
  refine th_one (by kernel_rfl) (step_m rfl rfl (opg_storeIX rfl rfl (by omega)) ?_)
  rintro _ _ _ ⟨rfl, rfl⟩
  refine ⟨Suf.h, (by assumption), ?_⟩
  rw [ei]
  refine yD (tri_inBlock (tT (tR (tM rfl rfl ?_))))
  refine yU rfl rfl ?_
  refine tA rfl rfl (tN (tT ?_))
  refine tri_sub ?_ (hK (i + 1, ⟨ns4, mm4⟩, l3.set i m4, R.2.2, a4, c4, ad4, cd4, I4) ⟨by simp only; omega, hmp.step rfl hi4 hR0 hRe hgd' (fun x => ⟨by rw [(hm4 x).1, (hm4 x).2.1], (hm4 x).2.2⟩), hs4, fun _ h => hI4 (hI3 h)⟩ (by simp only; omega))
  exact ⟨rfl, rfl, rfl, rfl, rfl, rfl, trivial⟩
 ·have hr2' := fun x => hmp.last rfl (by show i = 4; omega) x
  have hg2 : e3 = 0 → ∀ q ∈ l3, R7.IsN t3.ns (k + 2) q := fun x => by
   obtain ⟨q1, q2, q3⟩ := (hmp.ok x).2.2.2.2.2
   have := R9.four_gd q1 hll q2 (by rw [hr2, hr2' x])
   rw [hr2, hr2' x] at this
   exact this.2.2.2
  obtain ⟨j', hj'⟩ : ∃ j', (if full = true then j - 1 else j) = j' := ⟨_, rfl⟩
  rw [hj'] at hmp
  have hjb : 0 ≤ j' ∧ j' ≤ 1000000 := by
   rw [← hj']
   split
   ·rename_i x; have := hfull x; omega
   ·omega
  obtain ⟨r3, hr3⟩ : ∃ r3, R9.mapS (R9.lastF (R9.leap room k) j') t3 l3 = r3 := ⟨_, rfl⟩
  have hr'' : e3 = 0 → R9.bindM r3 (R9.put4 room) = r := fun x => by
   have := (hmp.ok x).2.2.2.2.2.2.2
   rw [hr2' x, R9.bindM_ok rfl] at this
   simp only at this
   rw [hr3] at this
   exact this
  have hmp3 : R9.MP room (R9.lastF (R9.leap room k) j') l3 l3 r3 r.2.2 t3.ns ((∀ q ∈ l3, R7.IsN t3.ns (k + 2) q) ∧ R9.bindM r3 (R9.put4 room) = r) 0 t3 l3 e3 := R9.MP.start rfl (fun _ => hr3) (fun x => ⟨(hmp.ok x).2.1, (hmp.ok x).2.2.1⟩) (fun x y => by rw [← hr'' x, R9.bindM_err y]) (fun x => ⟨hg2 x, hr'' x⟩) hmp.er
  clear hmp hr2' hg2 hr'' hK
  refine tri_exit ?_
  refine tri_then_exit (tri_then_exit ?_)
  refine tri_inBlock_hit rfl ?_
  refine tT (tS (tS (tR (tA rfl rfl (tN (tT (tri_block ?_)))))))
  refine tri_sub (F' := [(0, pt bl 0), (2, .int .i64 j), (3, .bool full), (16, pt b16 0), (19, .int .i64 (0 : Nat))]) ⟨rfl, rfl, rfl, rfl, rfl, trivial⟩ ?_
  refine loop_ind (G := Nat × R9.LS × List Int × Int × Option Addr × Nat × Option Addr × Nat × List Chunk) (fun g => 4 - g.1) (fun g => g.1 ≤ 4 ∧ R9.MP room (R9.lastF (R9.leap room k) j') l3 l3 r3 r.2.2 t3.ns ((∀ q ∈ l3, R7.IsN t3.ns (k + 2) q) ∧ R9.bindM r3 (R9.put4 room) = r) g.1 g.2.1 g.2.2.1 g.2.2.2.1 ∧ StA g.2.2.2.2.2.2.2.2 g.2.2.2.2.1 g.2.2.2.2.2.1 g.2.1.ns ∧ I3 ⊆ g.2.2.2.2.2.2.2.2) (fun g => [(0, pt bl 0), (2, .int .i64 j), (3, .bool full), (16, pt b16 0), (19, .int .i64 (g.1 : Nat))]) (fun g => LgA bl g.2.2.2.2.1 g.2.2.2.2.2.1 g.2.1.ns.length room g.2.2.2.2.2.2.1 g.2.2.2.2.2.2.2.1 g.2.1.mm g.2.2.2.1 (Box b16 (ints g.2.2.1) 41 :: Box b10 (ints l) 80 :: Box b9 [.slice a1 X.1.length c1, .int .i64 room] 26 :: A)) (fun g => g.2.2.2.2.2.2.2.2) ?_ (0, t3, l3, e3, a3, c3, ad3, cd3, I3) ⟨by omega, hmp3, hs3, fun _ h => h⟩
  clear hmp3 hs3
  rintro ⟨i, t4, l4, e4, a4, c4, ad4, cd4, I4⟩ ⟨hi, hmp, hs4, hI4⟩ K2 hK
  simp only at hi hmp hs4 hI4 hK ⊢
  have hl4 : l4.length = 4 := by rw [hmp.len]; exact hl3
  skip
  refine tS (tS (tR (tM rfl rfl (yC rfl rfl (tN (tT ?_))))))
  refine tri_cond_dec rfl (fun h5 => ?_) (fun h5 => ?_)
  ·have hi4 : i < 4 := by omega
   have ei : 0 + ((i : Nat) : Int).toNat * 1 = i := by omega
   obtain ⟨R, hR0, hRe⟩ := er_pick e4 (R9.leap room k t4 (l4.getD i default) j')
   have hat := fun x => hmp.at (by omega) x
   have hqn : e4 = 0 → R7.IsN t4.ns (k + 2) (l4.getD i default) := fun x => by
    rw [hat x]
    exact ((hmp.ok x).2.2.2.2.2.1 _ (by simp [show i < l3.length by omega])).pre (hmp.ok x).2.2.2.1
   have hR0' : e4 = 0 → R9.lastF (R9.leap room k) j' t4 (l3.getD i default) = R := fun x => by
    rw [← hat x]; exact hR0 x
   have hgd : e4 = 0 → R.2.2 = 0 → R9.Gd room t4 R (k + 1) ∧ R9.Kn R.1.mm := fun x y => by
    have h1 := R9.leap_gd k t4 _ j' (hmp.ok x).2.1 (hqn x) (by rw [hR0 x]; exact y)
    have h2 := R9.leap_kn k t4 _ j' (hmp.ok x).2.1 (hqn x) hjb (by rw [hR0 x]; exact y) (hmp.ok x).2.2.1
    rw [hR0 x] at h1 h2
    exact ⟨h1, h2⟩
   refine tri_skip (tT (tS (tri_block (tS (tR (tM rfl rfl (tN ?_)))))))
   refine tT ?_
   refine tri_cond rfl (fun hf => ?_) (fun hf => ?_)
   ·have hf1 : full = true := by simpa using hf
    rw [if_pos hf1] at hj'
    refine tR (tM rfl rfl (tM rfl rfl (tM rfl rfl ?_)))
    refine tri_v (opv_indexAddrA rfl rfl (by omega) (by omega)) rfl ?_
    refine tri_v (opv_loadIX rfl rfl (by omega)) rfl ?_
    refine tM rfl rfl ?_
    refine tri_v (opv_sub rfl rfl (w64 (by omega) (by omega))) rfl ?_
    rw [ei, hj']
    refine tri_g (opg_call (xs := [_, _, _]) rfl (ih _ _ t4.ns t4.mm _ _ _ _ _ room e4 _ j' R hs4 (fun x => ⟨(hmp.ok x).2.1, (hmp.ok x).2.2.1, hqn x, hR0 x⟩) hRe hjb)) rfl ?_
    rintro _ _ I5 ⟨a5, c5, ad5, cd5, ns5, mm5, m5, rfl, rfl, hs5, hm5, hI5⟩
    refine tri_v (opv_indexAddrA rfl rfl (by omega) (by omega)) rfl ?_
    refine tri_g (opg_storeIX rfl rfl (by omega)) rfl ?_
    rintro _ _ _ ⟨rfl, rfl⟩
    rw [ei]
    refine tN (tri_inBlock (tT (tR (tM rfl rfl ?_))))
    refine yU rfl rfl ?_
    refine tA rfl rfl (tN (tT ?_))
    refine tri_sub ?_ (hK (i + 1, ⟨ns5, mm5⟩, l4.set i m5, R.2.2, a5, c5, ad5, cd5, I5) ⟨by simp only; omega, hmp.step rfl (by omega) hR0' hRe hgd (fun x => ⟨by rw [(hm5 x).1, (hm5 x).2.1], (hm5 x).2.2⟩), hs5, fun _ h => hI5 (hI4 h)⟩ (by simp only; omega))
    exact ⟨rfl, rfl, rfl, rfl, rfl, trivial⟩
   ·have hf1 : ¬ full = true := by simpa using hf
    rw [if_neg hf1] at hj'
    refine tR (tM rfl rfl (tM rfl rfl (tM rfl rfl ?_)))
    refine tri_v (opv_indexAddrA rfl rfl (by omega) (by omega)) rfl ?_
    refine tri_v (opv_loadIX rfl rfl (by omega)) rfl ?_
    refine tM rfl rfl ?_
    rw [ei, hj']
    refine tri_g (opg_call (xs := [_, _, _]) rfl (ih _ _ t4.ns t4.mm _ _ _ _ _ room e4 _ j' R hs4 (fun x => ⟨(hmp.ok x).2.1, (hmp.ok x).2.2.1, hqn x, hR0 x⟩) hRe hjb)) rfl ?_
    rintro _ _ I5 ⟨a5, c5, ad5, cd5, ns5, mm5, m5, rfl, rfl, hs5, hm5, hI5⟩
    refine tri_v (opv_indexAddrA rfl rfl (by omega) (by omega)) rfl ?_
    refine tri_g (opg_storeIX rfl rfl (by omega)) rfl ?_
    rintro _ _ _ ⟨rfl, rfl⟩
    rw [ei]
    refine tN (tri_inBlock (tT (tR (tM rfl rfl ?_))))
    refine yU rfl rfl ?_
    refine tA rfl rfl (tN (tT ?_))
    rw [← hj']
    refine tri_sub ?_ (hK (i + 1, ⟨ns5, mm5⟩, l4.set i m5, R.2.2, a5, c5, ad5, cd5, I5) ⟨by simp only; omega, hmp.step rfl (by omega) hR0' hRe hgd (fun x => ⟨by rw [(hm5 x).1, (hm5 x).2.1], (hm5 x).2.2⟩), hs5, fun _ h => hI5 (hI4 h)⟩ (by simp only; omega))
    exact ⟨rfl, rfl, rfl, rfl, rfl, trivial⟩
  ·have hr3' := fun x => hmp.last rfl (by omega) x
   obtain ⟨p0, p1, p2, p3, hp⟩ := four_len hl4
   have hput : e4 = 0 → R6.Good t4.ns room ∧ R9.putS room ⟨t4.ns, t4.mm⟩ p0 p1 p2 p3 = r := fun x => ⟨(hmp.ok x).2.1.good, by
    have := (hmp.ok x).2.2.2.2.2.2
    rw [hr3' x, R9.bindM_ok rfl, hp] at this
    exact this⟩
   rw [hp]
   refine tri_exit ?_
   refine tri_then_exit (tri_then_exit ?_)
   refine tri_inBlock_hit rfl ?_
   refine tT (tS (tR (tM rfl rfl ?_)))
   refine yB rfl rfl ?_
   refine tri_g (opg_call (xs := [_, _]) rfl (ref09_put (r := r) hs4 hput hmp.er)) rfl ?_
   rintro _ _ I5 ⟨a5, c5, ad5, cd5, ns5, mm5, m5, rfl, rfl, hs5, hm5, hI5⟩
   refine tA rfl rfl (tN (tT (tri_ret ?_)))
   refine tri_perm (A := ?a3_0 :: ?a3_1 :: ?a3_2 :: ?a3_3 :: ?a3_4 :: ?T3) (B := ?a3_2 :: ?a3_3 :: ?a3_4 :: ?a3_0 :: ?a3_1 :: ?T3) (by exact permL [2, 3, 4, 0, 1] [?a3_0, ?a3_1, ?a3_2, ?a3_3, ?a3_4] ?T3 (by decide) rfl) ?_
   refine tri_end (LgA bl a5 c5 ns5.length room ad5 cd5 mm5 r.2.2 A) Suf.h rfl (.cons (rv_tmp rfl) .nil) ⟨a5, c5, ad5, cd5, ns5, mm5, m5, rfl, rfl, hs5, hm5, fun _ h => hI5 (hI4 (hI3 (hI2 (hI1 h))))⟩
end Go.GL


namespace Go.GL
open Go.Proofs
attribute [local irreducible] wpList Code.wp Exit.then Exit.inBlock Ends Tri TriH OpV OpG FnC epf wpAnyH
variable {A : List Asrt} {I : List Chunk}
namespace R9
def leapM (room : Int) : Nat → LS → Int → Int → L9
 | 0, s, n, _ => oneS room s n
 | k + 1, s, n, j => far (leap room k) room (decide (j = k + 1)) s n j
theorem leap_none {room : Int} {k : Nat} {s : LS} {n j : Int} (h : look9 s.mm n j = none) : leap room k s n j = keep n j (leapM room k s n j) := by
 cases k with
 | zero => unfold leap; rw [h]; rfl
 | succ k => unfold leap; rw [h]; rfl
theorem leap_some {room : Int} {k : Nat} {s : LS} {n j to : Int} (h : look9 s.mm n j = some to) : leap room k s n j = (s, to, 0) := by
 cases k with
 | zero => unfold leap; rw [h]
 | succ k => unfold leap; rw [h]
theorem leapM_gd {room : Int} {k : Nat} {s : LS} {n j : Int} (h : Lk room s) (hn : R7.IsN s.ns (k + 2) n) (hj : 0 ≤ j ∧ j ≤ 1000000) (hk : Kn s.mm) (he : (leapM room k s n j).2.2 = 0) : Gd room s (leapM room k s n j) (k + 1) ∧ Kn (leapM room k s n j).1.mm := by
 cases k with
 | zero => exact ⟨oneS_gd h he, hk⟩
 | succ k => exact ⟨far_gd (fun s q j hs hq he => leap_gd k s q j hs hq he) h hn he, far_kn (fun s q j hs hq he => leap_gd k s q j hs hq he) (fun s q j hs hq hj he => leap_kn k s q j hs hq hj he) h hn hj (fun e => by have := of_decide_eq_true e; omega) he hk⟩
theorem look9_drop {mm : Memo} {i : Nat} (hi : i < mm.length) (n j : Int) : look9 (mm.drop i) n j = if (mm.getD i default).1 = n ∧ (mm.getD i default).2.1 = j then some (mm.getD i default).2.2 else look9 (mm.drop (i + 1)) n j := by
 rw [List.drop_eq_getElem_cons hi, show mm.getD i default = mm[i] by simp [hi]]
 rfl
end R9
theorem ref08_oneR {ns : List Node} {a : Option Addr} {cap : Nat} {room n : Int} {p : List Node × Int × Int} (hs : StA I a cap ns) (hg : R6.Good ns room) (hk : R8.Kid ns n) (hb : ∀ i, 0 ≤ R8.g (R8.s16 ns n) i ∧ R8.g (R8.s16 ns n) i ≤ 1) (he : R8.one ns room n = p) :
  FnC Try.prog 54 [storeV a ns.length cap room, .int .i64 n].toArray A I (StoreR p room A I) := by
 subst he
 exact ref08_one hs hg hk hb
set_option maxHeartbeats 2000000 in
set_option maxRecDepth 100000 in
theorem ref09_leap_step {k : Nat} (ih : ∀ m, m < k → LgSpec m) : LgSpec k := by
 intro A I ns mm a ad cap cd bl room e n j r hs h0 h1 hj
 have hsl := hs.sl
 skip
 refine fn_enter3 Try.func38 rfl Try.ntmps38 rfl fun w0 => ?_
 refine tS (tR (tA rfl rfl (tN (tT (tS (tS (tR ?_)))))))
 refine tM rfl rfl ?_
 refine tri_v (opv_nilCheck rfl) rfl ?_
 refine yF rfl ?_
 refine yL rfl rfl ?_
 refine tri_v (opv_neq rfl rfl) rfl ?_
 refine tN (tT ?_)
 refine tri_cond_dec rfl (fun he => ?_) (fun he => ?_)
 ·refine tS (tR (tA rfl rfl (tN (tT (tri_ret (tri_then_ret ?_))))))
  refine tri_end (LgA bl a cap ns.length room ad cd mm e A) Suf.h rfl (.cons (rv_tmp rfl) .nil) ⟨a, cap, ad, cd, ns, mm, 0, rfl, by rw [h1 he], hs, fun x => absurd (er_zero h1 x) he, fun _ h => h⟩
 refine tri_skip (tT (tS (tS (tR (tA rfl rfl (tN (tT ?_)))))))
 refine tri_block ?_
 have he0 : e = 0 := Decidable.not_not.1 he
 obtain ⟨hlk, hkn, hn, hr⟩ := h0 he0
 subst he0
 have hmm := hkn.len hlk.mem (by have := hlk.right.1; simp only at this ⊢; omega)
 simp only at hmm
 have hlv : (R6.nd ns n).lv = (k + 2 : Nat) := hn.2
 obtain ⟨hn0, hn1⟩ := hn.1
 refine tri_sub (F' := [(0, pt bl 0), (1, .int .i64 n), (2, .int .i64 j), (7, .int .i64 (0 : Nat))]) ⟨rfl, rfl, rfl, rfl, trivial⟩ ?_
 refine loop_ind (G := Nat) (fun i => mm.length - i) (fun i => i ≤ mm.length ∧ R9.look9 mm n j = R9.look9 (mm.drop i) n j) (fun i => [(0, pt bl 0), (1, .int .i64 n), (2, .int .i64 j), (7, .int .i64 (i : Nat))]) (fun _ => LgA bl a cap ns.length room ad cd mm 0 A) (fun _ => I) ?_ 0 ⟨by omega, rfl⟩
 rintro i ⟨hi, hlo⟩ K hK
 skip
 refine tS (tS (tR (tM rfl rfl (tM rfl rfl ?_))))
 refine tri_v (opv_nilCheck rfl) rfl ?_
 refine yF rfl ?_
 refine yL rfl rfl ?_
 refine tri_v (opv_len rfl) rfl ?_
 refine yC rfl rfl (tN (tT ?_))
 refine tri_cond_dec rfl (fun h2 => ?_) (fun h2 => ?_)
 ·have hlt : i < mm.length := by omega
  rw [R9.look9_drop hlt] at hlo
  refine tri_skip (tT (tS (tri_block (tS (tR (tM rfl rfl ?_))))))
  refine tri_v (opv_nilCheck rfl) rfl ?_
  refine yF rfl ?_
  refine yL rfl rfl ?_
  refine tM rfl rfl ?_
  refine tri_v (opv_indexAddrRN rfl rfl (by omega)) rfl ?_
  refine tri_v (opv_fieldAddrR rfl (by omega) rfl) rfl ?_
  refine tri_v (opv_loadRX1 rfl rfl (by omega) rfl rfl) rfl ?_
  refine tM rfl rfl ?_
  refine tri_v (opv_eql rfl rfl) rfl ?_
  refine tM rfl rfl ?_
  refine tri_split rfl rfl (fun h3 => ?_) (fun h3 => ?_)
  ·refine yR rfl rfl (tM rfl rfl (yR rfl rfl ?_))
   refine tri_v (opv_nilCheck rfl) rfl ?_
   refine yR rfl rfl (yF rfl (yR rfl rfl ?_))
   refine yL rfl rfl ?_
   refine yR rfl rfl (tM rfl rfl (yR rfl rfl ?_))
   refine tri_v (opv_indexAddrRN rfl rfl (by omega)) rfl ?_
   refine yR rfl rfl ?_
   refine tri_v (opv_fieldAddrR rfl (by omega) rfl) rfl ?_
   refine yR rfl rfl ?_
   refine tri_v (opv_loadRX1 rfl rfl (by omega) rfl rfl) rfl ?_
   refine yR rfl rfl (tM rfl rfl (yR rfl rfl ?_))
   refine tri_v (opv_eql rfl rfl) rfl ?_
   refine tri_v (opv_pick_t rfl rfl) rfl ?_
   refine tN (tT ?_)
   refine tri_cond_dec rfl (fun h4 => ?_) (fun h4 => ?_)
   ·rw [if_pos ⟨h3, h4⟩] at hlo
    rw [R9.leap_some hlo] at hr
    subst hr
    refine tS (tR (tM rfl rfl ?_))
    refine tri_v (opv_nilCheck rfl) rfl ?_
    refine yF rfl ?_
    refine yL rfl rfl ?_
    refine tM rfl rfl ?_
    refine tri_v (opv_indexAddrRN rfl rfl (by omega)) rfl ?_
    refine tri_v (opv_fieldAddrR rfl (by omega) rfl) rfl ?_
    refine tri_v (opv_loadRX1 rfl rfl (by omega) rfl rfl) rfl ?_
    refine tA rfl rfl (tN (tT (tri_ret (tri_inBlock_ret (tri_then_ret (tri_then_ret (tri_inBlock_ret ?_)))))))
    refine tri_then_ret ?_
    refine tri_end (LgA bl a cap ns.length room ad cd mm 0 A) Suf.h rfl (.cons (rv_tmp rfl) .nil) ⟨a, cap, ad, cd, ns, mm, _, rfl, rfl, hs, fun x => ⟨rfl, rfl, rfl⟩, fun _ h => h⟩
   ·rw [if_neg (fun x => h4 x.2)] at hlo
    refine tri_skip (tri_inBlock (tT (tR (tM rfl rfl ?_))))
    refine yU rfl rfl ?_
    refine tA rfl rfl (tN (tT ?_))
    refine tri_sub ?_ (hK (i + 1) ⟨by omega, hlo⟩ (by omega))
    exact ⟨rfl, rfl, rfl, rfl, trivial⟩
  ·rw [if_neg (fun x => h3 x.1)] at hlo
   refine tri_guard_skip rfl rfl rfl rfl (tri_guard_skip rfl rfl rfl rfl (tri_guard_skip rfl rfl rfl rfl (tri_guard_skip rfl rfl rfl rfl (tri_guard_skip rfl rfl rfl rfl (tri_guard_skip rfl rfl rfl rfl (tri_guard_skip rfl rfl rfl rfl (tri_guard_skip rfl rfl rfl rfl ?_)))))))
   refine tri_guard_skip rfl rfl rfl rfl (tri_guard_skip rfl rfl rfl rfl ?_)
   refine tri_v (opv_pick_f rfl rfl) rfl ?_
   refine tN (tT ?_)
   refine tri_cond_false rfl ?_
   refine tri_skip (tri_inBlock (tT (tR (tM rfl rfl ?_))))
   refine yU rfl rfl ?_
   refine tA rfl rfl (tN (tT ?_))
   refine tri_sub ?_ (hK (i + 1) ⟨by omega, hlo⟩ (by omega))
   exact ⟨rfl, rfl, rfl, rfl, trivial⟩
 ·rw [List.drop_of_length_le (by omega)] at hlo
  rw [R9.leap_none hlo] at hr
  obtain ⟨R, hR⟩ : ∃ R, R9.leapM room k ⟨ns, mm⟩ n j = R := ⟨_, rfl⟩
  rw [hR] at hr
  have hgd := fun x : R.2.2 = 0 => R9.leapM_gd hlk hn hj hkn (by rw [hR]; exact x)
  rw [hR] at hgd
  refine tri_exit ?_
  refine tri_then_exit (tri_then_exit ?_)
  refine tri_inBlock_hit rfl ?_
  refine tT (tS (tR (tM rfl rfl ?_)))
  refine tri_v (opv_nilCheck rfl) rfl ?_
  refine yF rfl (yF rfl ?_)
  refine yL rfl rfl ?_
  refine tM rfl rfl ?_
  refine tri_v (opv_indexAddrS rfl rfl (by omega) (by omega) (by assumption) rfl) rfl ?_
  refine tri_v (opv_fieldAddrE rfl (by assumption) (by omega) rfl) rfl ?_
  refine tri_v (opv_loadE1 rfl (by assumption) rfl (by omega) rfl rfl) rfl ?_
  refine tA rfl rfl (tN (tT (tS ?_)))
  skip
  refine tR (tA rfl rfl (tN (tT (tS (tS ?_)))))
  skip
  refine tR (tM rfl rfl ?_)
  refine tri_v (opv_eql rfl rfl) rfl ?_
  refine tN (tT ?_)
  refine tri_cut (fun F' A' J => ∃ (a3 : Option Addr) (c3 : Nat) (ad3 : Option Addr) (cd3 : Nat) (ns3 : List Node) (mm3 : R9.Memo) (m3 : Int), F' = [(0, pt bl 0), (1, .int .i64 n), (2, .int .i64 j), (9, .int .i64 m3)] ∧ A' = LgA bl a3 c3 ns3.length room ad3 cd3 mm3 R.2.2 A ∧ StA J a3 c3 ns3 ∧ I ⊆ J ∧ (R.2.2 = 0 → ns3 = R.1.ns ∧ mm3 = R.1.mm ∧ m3 = R.2.1)) ?_ ?_
  ·refine tri_cond_dec rfl (fun h5 => ?_) (fun h5 => ?_)
   ·have hk0 : k = 0 := by
     have h6 : (R6.nd ns n).lv = 2 := h5
     omega
    subst hk0
    have er1 : R8.one ns room n = (R.1.ns, R.2.1, R.2.2) := by rw [← hR]; rfl
    have er4 : R.1.mm = mm := by rw [← hR]; rfl
    have hgd := hlk.good
    have hkid := hlk.kid hn
    have hbit := hlk.right.bits hn.1 h5
    simp only at hgd hkid hbit
    refine tS (tR (tM rfl rfl ?_))
    refine tri_v (opv_nilCheck rfl) rfl ?_
    refine yF rfl ?_
    refine yB rfl rfl ?_
    refine tM rfl rfl ?_
    refine tri_g (opg_call (xs := [_, _]) rfl (ref08_oneR hs hgd hkid hbit er1)) rfl ?_
    rintro _ _ I3 ⟨a3, c3, rfl, hs3, rfl, hI3⟩
    refine tM rfl rfl ?_
    refine tri_v (opv_extract rfl rfl) rfl ?_
    refine tri_v (opv_extract rfl rfl) rfl ?_
    refine tri_v (opv_extract rfl rfl) rfl ?_
    refine tri_g opg_alloc rfl ?_
    rintro _ _ _ ⟨b10, rfl, rfl, rfl⟩
    refine yG rfl rfl rfl rfl rfl rfl ?_
    rintro _ _ _ ⟨rfl, rfl⟩
    refine tA rfl rfl (tA rfl rfl (tN (tT (tS (tR (tM rfl rfl ?_))))))
    refine yB rfl rfl ?_
    refine tri_v (opv_nilCheck rfl) rfl ?_
    refine yF rfl ?_
    refine yG rfl rfl rfl rfl rfl rfl ?_
    rintro _ _ _ ⟨rfl, rfl⟩
    refine tN (tT (tS (tR (tM rfl rfl (tM rfl rfl ?_)))))
    refine tri_v (opv_nilCheck rfl) rfl ?_
    refine yF rfl ?_
    refine yG rfl rfl rfl rfl rfl rfl ?_
    rintro _ _ _ ⟨rfl, rfl⟩
    refine tN (tT (tR (tM rfl rfl (tA rfl rfl (tN ?_)))))
    refine tri_drop ?_
    exact tri_cutEnd _ ⟨a3, c3, ad, cd, R.1.ns, mm, R.2.1, rfl, rfl, hs3, hI3, fun x => ⟨rfl, er4.symm, rfl⟩⟩ ⟨rfl, rfl, rfl, rfl, trivial⟩
   ·obtain ⟨k', rfl⟩ : ∃ k', k = k' + 1 := ⟨k - 1, by
     have h6 : (R6.nd ns n).lv ≠ 2 := h5
     omega⟩
    have efull : decide (j = (ns.getD n.toNat default).lv - 2) = decide (j = k' + 1) := decide_eq_decide.2 (by
     have h6 : (ns.getD n.toNat default).lv = (k' + 1 + 2 : Nat) := hlv
     rw [h6]; omega)
    have hlb := (hlk.wf.lvb hn.1).2
    have hlb' : (ns.getD n.toNat default).lv ≤ 42 := hlb
    have hlb2 : 0 ≤ (ns.getD n.toNat default).lv := (hlk.wf.lvb hn.1).1
    refine tR (tM rfl rfl (tM rfl rfl (tM rfl rfl (tM rfl rfl (tM rfl rfl ?_)))))
    refine tri_v (opv_sub rfl rfl (w64 (by omega) (by omega))) rfl ?_
    refine tri_v (opv_eql rfl rfl) rfl ?_
    rw [efull]
    refine tri_g (opg_call (xs := [_, _, _, _]) rfl (ref09_far (ih k' (by omega)) hs hlk hkn hn hj (fun e => by have := of_decide_eq_true e; omega) hR)) rfl ?_
    rintro _ _ I3 ⟨a3, c3, ad3, cd3, ns3, mm3, m3, rfl, rfl, hs3, hm3, hI3⟩
    refine tA rfl rfl (tN ?_)
    exact tri_cutEnd _ ⟨a3, c3, ad3, cd3, ns3, mm3, m3, rfl, rfl, hs3, hI3, hm3⟩ ⟨rfl, rfl, rfl, rfl, trivial⟩
  rintro _ _ I3 ⟨a3, c3, ad3, cd3, ns3, mm3, m3, rfl, rfl, hs3, hI3, hm3⟩
  skip
  refine tT (tS (tS (tR (tM rfl rfl ?_))))
  refine tri_v (opv_nilCheck rfl) rfl ?_
  refine yF rfl ?_
  refine yL rfl rfl ?_
  refine tri_v (opv_eql rfl rfl) rfl ?_
  refine tN (tT ?_)
  have hre : r.2.2 = R.2.2 := by
   rw [← hr]; unfold R9.keep
   split
   ·rfl
   ·rename_i x; exact (Decidable.not_not.1 x).symm
  skip
  refine tri_cond_dec rfl (fun x => ?_) (fun x => ?_)
  ·obtain ⟨e1, e2, e3⟩ := hm3 x
   obtain ⟨g1, g2⟩ := hgd x
   have hm4 := g2.len g1.lk.mem (by have := g1.lk.right.1; omega)
   rw [← e2] at hm4
   have hr' : r = (⟨R.1.ns, R.1.mm ++ [(n, j, R.2.1)]⟩, R.2.1, 0) := by rw [← hr]; unfold R9.keep; rw [if_neg (by simpa using x)]
   refine tR (tM rfl rfl (tM rfl rfl ?_))
   refine tri_v (opv_nilCheck rfl) rfl ?_
   refine yF rfl ?_
   refine yL rfl rfl ?_
   refine tM rfl rfl (tM rfl rfl (tM rfl rfl ?_))
   refine tri_v (opv_buildS rfl rfl) rfl ?_
   refine tri_g (opg_buildSlice rfl rfl rfl rfl) rfl ?_
   rintro _ _ _ ⟨b109, rfl, rfl, rfl⟩
   refine tri_g (opg_appendB rfl rfl rfl rfl (by omega) rfl) rfl ?_
   rintro _ _ _ ⟨a4, c4, rfl, rfl, rfl⟩
   refine tri_v (opv_nilCheck rfl) rfl ?_
   refine yF rfl ?_
   refine yG rfl rfl rfl rfl rfl rfl ?_
   rintro _ _ _ ⟨rfl, rfl⟩
   refine tN (tT (tS (tR (tM rfl rfl (tA rfl rfl (tN (tT ?_)))))))
   refine tri_ret ?_
   rw [show mm3.length + 1 = (mm3 ++ [(n, j, m3)]).length by simp]
   refine tri_perm (A := ?a1_0 :: ?a1_1 :: ?a1_2 :: ?T1) (B := ?a1_2 :: ?a1_0 :: ?a1_1 :: ?T1) (by exact permL [2, 0, 1] [?a1_0, ?a1_1, ?a1_2] ?T1 (by decide) rfl) ?_
   refine tri_rowEq (len' := (mm3 ++ [(n, j, m3)]).length) (cells' := encs (mm3 ++ [(n, j, m3)])) rfl (by rw [encs_append]; rfl) ?_
   refine tri_perm (A := ?a2_0 :: ?a2_1 :: ?a2_2 :: ?T2) (B := ?a2_1 :: ?a2_2 :: ?a2_0 :: ?T2) (by exact permL [1, 2, 0] [?a2_0, ?a2_1, ?a2_2] ?T2 (by decide) rfl) ?_
   refine tri_end (LgA bl a3 c3 ns3.length room a4 c4 (mm3 ++ [(n, j, m3)]) R.2.2 A) Suf.h rfl (.cons (rv_tmp rfl) .nil) ⟨a3, c3, a4, c4, ns3, mm3 ++ [(n, j, m3)], m3, rfl, by rw [hre], hs3, fun _ => ?_, hI3⟩
   rw [hr', e1, e2, e3]
   exact ⟨rfl, rfl, rfl⟩
  ·refine tri_skip (tT (tS (tR (tM rfl rfl (tA rfl rfl (tN (tT ?_)))))))
   refine tri_ret ?_
   refine tri_end (LgA bl a3 c3 ns3.length room ad3 cd3 mm3 R.2.2 A) Suf.h rfl (.cons (rv_tmp rfl) .nil) ⟨a3, c3, ad3, cd3, ns3, mm3, m3, rfl, by rw [hre], hs3, fun y => absurd (hre.symm.trans y) x, hI3⟩
theorem ref09_leap : ∀ k, LgSpec k := fun k => by
 induction k using Nat.strongRecOn with
 | ind k ih => exact ref09_leap_step ih
end Go.GL


namespace Go.GL
open Go.Proofs
attribute [local irreducible] wpList Code.wp Exit.then Exit.inBlock Ends Tri TriH OpV OpG FnC epf wpAnyH
variable {A : List Asrt} {I : List Chunk}
set_option maxHeartbeats 2000000 in
set_option maxRecDepth 100000 in
theorem ref09_leapT {ns : List Node} {a : Option Addr} {cap : Nat} {room n j : Int} (hs : StA I a cap ns) (hn : ns.length ≤ 1000000000) (hrg : R6.Rng ns) :
  FnC Try.prog 15 [storeV a ns.length cap room, .int .i64 n, .int .i64 j].toArray A I (StoreR (R9.leapT ns room n j) room A I) := by
 have hsl := hs.sl
 have bad : ¬ (R8.may ns room n 2 ∧ 0 ≤ j ∧ j ≤ (R6.nd ns n).lv - 2) → R9.leapT ns room n j = (ns, 0, 1) := fun h => if_neg h
 skip
 refine fn_enter3 Try.func15 rfl Try.ntmps15 rfl fun w0 => ?_
 refine tS (tR ?_)
 refine tri_g (opg_box_agg rfl) rfl ?_
 rintro _ _ _ ⟨b3, rfl, rfl, rfl⟩
 refine tri_g opg_alloc rfl ?_
 rintro _ _ _ ⟨b6, rfl, rfl, rfl⟩
 refine tA rfl rfl (tA rfl rfl (tN (tT (tS (tS (tR ?_))))))
 refine yB rfl rfl ?_
 refine tM rfl rfl ?_
 refine tri_g (opg_call (xs := [_, _, _]) rfl (ref08_may hsl hn hrg)) rfl ?_
 rintro _ _ _ ⟨rfl, rfl, rfl⟩
 refine tri_v (opv_notD rfl) rfl ?_
 refine tM rfl rfl ?_
 refine tri_split rfl rfl (fun g1 => ?_) (fun g1 => ?_)
 ·rw [bad fun x => g1 x.1]
  refine tri_guard_skip rfl rfl rfl rfl (tri_guard_skip rfl rfl rfl rfl ?_)
  refine tri_v (opv_pick_t rfl rfl) rfl ?_
  refine tM rfl rfl (tri_guard_skip rfl rfl rfl rfl (tri_guard_skip rfl rfl rfl rfl (tri_guard_skip rfl rfl rfl rfl (tri_guard_skip rfl rfl rfl rfl (tri_guard_skip rfl rfl rfl rfl (tri_guard_skip rfl rfl rfl rfl (tri_guard_skip rfl rfl rfl rfl ?_)))))))
  refine tri_guard_skip rfl rfl rfl rfl (tri_guard_skip rfl rfl rfl rfl ?_)
  refine tri_v (opv_pick_t rfl rfl) rfl ?_
  refine tN (tT ?_)
  refine tri_cond_true rfl ?_
  refine tS (tR ?_)
  refine yB rfl rfl ?_
  refine yG rfl rfl rfl rfl rfl rfl ?_
  rintro _ _ _ ⟨rfl, rfl⟩
  refine tA rfl rfl (tA rfl rfl (tN (tT (tri_ret (tri_then_ret ?_)))))
  refine tri_end A Suf.h rfl (.cons (rv_cellA rfl rfl rfl) (.cons (rv_tmp rfl) (.cons (rv_tmp rfl) .nil))) ⟨a, cap, rfl, hs, rfl, fun _ h => h⟩
 ·have hm : R8.may ns room n 2 := Decidable.not_not.1 g1
  obtain ⟨lk0, k, hnk⟩ := may_lk' hm
  have hlb := (lk0.wf.lvb hnk.1).2
  have hlb' : (ns.getD n.toNat default).lv ≤ 42 := hlb
  have hlv : (ns.getD n.toNat default).lv = (k + 2 : Nat) := hnk.2
  have hlv2 : (R6.nd ns n).lv = (k + 2 : Nat) := hnk.2
  obtain ⟨hn0, hn1⟩ := hnk.1
  refine yR rfl rfl (tM rfl rfl (yR rfl rfl (yC rfl rfl ?_)))
  refine tri_v (opv_pick_f rfl rfl) rfl ?_
  refine tM rfl rfl ?_
  refine tri_split rfl rfl (fun g2 => ?_) (fun g2 => ?_)
  ·rw [bad fun x => by omega]
   refine tri_guard_skip rfl rfl rfl rfl (tri_guard_skip rfl rfl rfl rfl (tri_guard_skip rfl rfl rfl rfl (tri_guard_skip rfl rfl rfl rfl (tri_guard_skip rfl rfl rfl rfl (tri_guard_skip rfl rfl rfl rfl (tri_guard_skip rfl rfl rfl rfl (tri_guard_skip rfl rfl rfl rfl ?_)))))))
   refine tri_guard_skip rfl rfl rfl rfl ?_
   refine tri_v (opv_pick_t rfl rfl) rfl ?_
   refine tN (tT ?_)
   refine tri_cond_true rfl ?_
   refine tS (tR ?_)
   refine yB rfl rfl ?_
   refine yG rfl rfl rfl rfl rfl rfl ?_
   rintro _ _ _ ⟨rfl, rfl⟩
   refine tA rfl rfl (tA rfl rfl (tN (tT (tri_ret (tri_then_ret ?_)))))
   refine tri_end A Suf.h rfl (.cons (rv_cellA rfl rfl rfl) (.cons (rv_tmp rfl) (.cons (rv_tmp rfl) .nil))) ⟨a, cap, rfl, hs, rfl, fun _ h => h⟩
  ·refine yR rfl rfl (tM rfl rfl (yR rfl rfl (yF rfl (yR rfl rfl ?_))))
   refine yL rfl rfl ?_
   refine yR rfl rfl (tM rfl rfl (yR rfl rfl ?_))
   refine tri_v (opv_indexAddrS rfl rfl (by omega) (by omega) (by assumption) rfl) rfl ?_
   refine yR rfl rfl ?_
   refine tri_v (opv_fieldAddrE rfl (by assumption) (by omega) rfl) rfl ?_
   refine yR rfl rfl ?_
   refine tri_v (opv_loadE1 rfl (by assumption) rfl (by omega) rfl rfl) rfl ?_
   refine yR rfl rfl ?_
   refine tri_v (opv_sub rfl rfl (w64 (by omega) (by omega))) rfl ?_
   refine yR rfl rfl ?_
   refine tri_v (opv_gtr rfl rfl) rfl ?_
   refine tri_v (opv_pick_f rfl rfl) rfl ?_
   refine tN (tT ?_)
   refine tri_cond_dec rfl (fun g3 => ?_) (fun g3 => ?_)
   ·rw [bad fun x => by omega]
    refine tS (tR ?_)
    refine yB rfl rfl ?_
    refine yG rfl rfl rfl rfl rfl rfl ?_
    rintro _ _ _ ⟨rfl, rfl⟩
    refine tA rfl rfl (tA rfl rfl (tN (tT (tri_ret (tri_then_ret ?_)))))
    refine tri_end A Suf.h rfl (.cons (rv_cellA rfl rfl rfl) (.cons (rv_tmp rfl) (.cons (rv_tmp rfl) .nil))) ⟨a, cap, rfl, hs, rfl, fun _ h => h⟩
   ·have hj : 0 ≤ j ∧ j ≤ (R6.nd ns n).lv - 2 := by omega
    obtain ⟨r, hr⟩ : ∃ r, R9.leap room k ⟨ns, []⟩ n j = r := ⟨_, rfl⟩
    have hrun : R9.leapT ns room n j = R9.out ns r := by
     rw [← hr, show k = R9.lvS ⟨ns, []⟩ n from (R9.lvS_is (s := ⟨ns, []⟩) hnk).symm]
     exact if_pos ⟨hm, hj⟩
    rw [hrun]
    refine tri_skip (tT (tS (tR ?_)))
    refine yB rfl rfl ?_
    refine tri_v (opv_buildS rfl rfl) rfl ?_
    refine tri_g (opg_box_agg rfl) rfl ?_
    rintro _ _ _ ⟨b33, rfl, rfl, rfl⟩
    refine tA rfl rfl (tN (tT (tS ?_)))
    refine tri_nilRow (E := 123) (sz := 3) ?_
    refine tri_perm (A := ?a1_0 :: ?a1_1 :: ?a1_2 :: ?a1_3 :: ?T1) (B := ?a1_1 :: ?a1_0 :: ?a1_2 :: ?a1_3 :: ?T1) (by exact permL [1, 0, 2, 3] [?a1_0, ?a1_1, ?a1_2, ?a1_3] ?T1 (by decide) rfl) ?_
    refine tR (tM rfl rfl (tM rfl rfl (tM rfl rfl ?_)))
    refine tri_g (opg_call (xs := [_, _, _]) rfl (ref09_leap k _ _ ns [] _ none _ 0 _ room 0 _ j r hs (fun _ => ⟨lk0, R9.Kn.nil, hnk, hr⟩) (fun x => absurd rfl x) (by omega))) rfl ?_
    rintro _ _ I3 ⟨a3, c3, ad3, cd3, ns3, mm3, m3, rfl, rfl, hs3, hm3, hI3⟩
    refine tA rfl rfl (tN (tT (tS (tS (tR (tM rfl rfl ?_))))))
    refine tri_v (opv_nilCheck rfl) rfl ?_
    refine yF rfl ?_
    refine yL rfl rfl ?_
    refine tri_v (opv_neq rfl rfl) rfl ?_
    refine tN (tT ?_)
    refine tri_cond_dec rfl (fun x3 => ?_) (fun x3 => ?_)
    ·refine tS ?_
     refine tri_perm (A := ?a2_0 :: ?a2_1 :: ?a2_2 :: ?a2_3 :: ?T2) (B := ?a2_2 :: ?a2_0 :: ?a2_1 :: ?a2_3 :: ?T2) (by exact permL [2, 0, 1, 3] [?a2_0, ?a2_1, ?a2_2, ?a2_3] ?T2 (by decide) rfl) ?_
     skip
     refine tri_draw [0, 1, 2, 3, 4, 5, 6, 7] rfl [_] rfl mixed ?_
     refine th_take rfl rfl (by kernel_rfl)  (opv_loadA rfl rfl rfl) ?_
     refine yM rfl rfl (yn rfl rfl (yf rfl rfl ?_))
     refine yl rfl rfl rfl ?_
     refine th_one (by kernel_rfl) (step_m rfl rfl (opg_store rfl rfl rfl rfl rfl rfl) ?_)
     rintro _ _ _ ⟨rfl, rfl⟩
     refine ⟨Suf.h, (fun _ h => h), ?_⟩
     refine yA rfl rfl (yA rfl rfl (yD (tT (tri_ret (tri_then_ret ?_)))))
     refine tri_end A Suf.h rfl (.cons (rv_cellA rfl rfl rfl) (.cons (rv_tmp rfl) (.cons (rv_tmp rfl) .nil))) ⟨a, cap, by rw [show R9.out ns r = (ns, 0, r.2.2) from if_pos x3]; rfl, ?_, rfl, hI3⟩
     rw [show R9.out ns r = (ns, 0, r.2.2) from if_pos x3]
     exact hs.mono hI3
    ·obtain ⟨rfl, rfl, rfl⟩ := hm3 (Decidable.not_not.1 x3)
     refine tri_skip (tT (tS (tR (tM rfl rfl ?_))))
     refine tri_v (opv_nilCheck rfl) rfl ?_
     refine yF rfl ?_
     refine yB rfl rfl ?_
     refine tM rfl rfl ?_
     refine yG rfl rfl rfl rfl rfl rfl ?_
     rintro _ _ _ ⟨rfl, rfl⟩
     refine tA rfl rfl (tA rfl rfl (tN (tT (tri_ret ?_))))
     refine tri_end A Suf.h rfl (.cons (rv_cellA rfl rfl rfl) (.cons (rv_tmp rfl) (.cons (rv_tmp rfl) .nil))) ⟨a3, c3, by rw [show R9.out ns r = (r.1.ns, r.2.1, 0) from if_neg x3]; rfl, ?_, rfl, hI3⟩
     rw [show R9.out ns r = (r.1.ns, r.2.1, 0) from if_neg x3]
     exact hs3
end Go.GL


namespace Go.GL
open Go.Proofs
attribute [local irreducible] wpList Code.wp Exit.then Exit.inBlock Ends Tri TriH OpV OpG FnC epf wpAnyH
variable {A : List Asrt} {I : List Chunk}
theorem ref09_leapS {ns ms : List Node} {a : Option Addr} {cap : Nat} {room n j m e : Int} (hs : StA I a cap ns) (hn : ns.length ≤ 1000000000) (hrg : R6.Rng ns) (h : R9.leapT ns room n j = (ms, m, e)) :
  FnC Try.prog 15 [storeV a ns.length cap room, .int .i64 n, .int .i64 j].toArray A I (fun v A' I' => ∃ a' cap', v = .tuple [storeV a' ms.length cap' room, .int .i64 m, .int .i64 e].toArray ∧ StA I' a' cap' ms ∧ A = A' ∧ I ⊆ I') := by
 have := ref09_leapT (A := A) (room := room) (n := n) (j := j) hs hn hrg
 rw [h] at this
 exact this
theorem pre_at {ns ms : List Node} (h : ns <+: ms) {i : Nat} (hi : i < ns.length) : ms.getD i default = ns.getD i default := by
 have := R6.nd_pre h (n := (i : Int)) ⟨by omega, by omega⟩
 exact this
set_option maxHeartbeats 4000000 in
set_option maxRecDepth 100000 in
theorem law21_shopsame {nodes : List Five} {raw : List Cell} {picks : List Int} {a a2 a6 : Option Addr} {cap cap2 cap6 : Nat} {c level j nw : Int} (h0 : I64 c) (hs0 : SlAt I a nodes) (hf : RL.Fs nodes) (hs : SlAt I a2 raw) (hc : RL.Cs raw) (hl : I64 level) (hji : I64 j) (hwi : I64 nw) (hsp : SlAt I a6 picks) (hk : Is picks) :
  FnC Try.prog 4 [.int .i64 c, .slice a nodes.length cap, .slice a2 raw.length cap2, .int .i64 level, .int .i64 j, .int .i64 nw, .slice a6 picks.length cap6].toArray A I (fun v A' I' => v = .bool true ∧ A = A' ∧ I ⊆ I') := by
 obtain ⟨k, ms, m, F⟩ := RL.fld c nodes raw level
 obtain ⟨rm, hrm⟩ : ∃ rm, RL.room c + 600 = rm := ⟨_, rfl⟩
 have hr := F.right
 rw [hrm] at hr
 have hlt := isN_lt21 F.std.1
 have hlv := isN_lv21 F.std.1
 have hk3 := F.k3
 have hlen : ms.length ≤ 1000000000 := by have := hr.1; omega
 have hpk := pk_bd (c := j) (n := (k : Int) + 1) (by omega)
 have hpw := pk_bd (c := nw) (n := 64) (by decide)
 have hg : ∀ {W : Int}, 1 ≤ W → W ≤ 64 → R21.good ms rm m (pk j ((k : Int) + 1)) W := fun h1 h2 => ⟨⟨hr, F.std.1.1, by rw [F.std.1.2]; omega⟩, hpk.1, by rw [F.std.1.2]; omega, h1, h2⟩
 have hkl : (R6.nd ms m).lv = (k : Int) + 2 := by rw [F.std.1.2]; omega
 have hrg : R6.Rng ms := hr.modTo.mod.rng9
 skip
 refine fn_enter7 Try.func4 rfl Try.ntmps4 rfl fun w0 => ?_
 refine tS (tR (tA rfl rfl (tN (tT (tS (tR ?_))))))
 refine tri_g (opg_call (xs := []) rfl (law21_awake)) rfl ?_
 rintro _ _ I0 ⟨rfl, rfl, hI0⟩
 refine tA rfl rfl (tN (tT (tS (tR (tM rfl rfl (tM rfl rfl (tM rfl rfl ?_)))))))
 refine tM rfl rfl ?_
 refine tri_g (opg_call (xs := [_, _, _, _]) rfl (law21_fieldR h0 (hs0.mono hI0) hf (hs.mono hI0) hc hl F.eq hrm)) rfl ?_
 rintro _ _ I1 ⟨a4, cap4, rfl, hs4, rfl, hI1⟩
 have hs4l := hs4.sl
 have hI01 : I ⊆ I1 := fun _ h => hI1 (hI0 h)
 refine tM rfl rfl ?_
 refine tri_v (opv_extract rfl rfl) rfl ?_
 refine tri_v (opv_extract rfl rfl) rfl ?_
 refine tri_g opg_alloc rfl ?_
 rintro _ _ _ ⟨b16, rfl, rfl, rfl⟩
 refine yG rfl rfl rfl rfl rfl rfl ?_
 rintro _ _ _ ⟨rfl, rfl⟩
 refine tA rfl rfl (tN (tT (tS (tR (tM rfl rfl (yF rfl ?_))))))
 refine yL rfl rfl ?_
 refine tM rfl rfl ?_
 refine tri_v (opv_indexAddrS rfl rfl (by omega) (by omega) (by assumption) rfl) rfl ?_
 refine tri_v (opv_fieldAddrE rfl (by assumption) (by omega) rfl) rfl ?_
 refine tri_v (opv_loadE1 rfl (by assumption) rfl (by omega) rfl rfl) rfl ?_
 refine tri_v (opv_sub rfl rfl (w64 (by omega) (by omega))) rfl ?_
 rw [show (ms.getD m.toNat default).lv - 1 = (k : Int) + 1 by omega]
 refine tri_g (opg_call (xs := [_, _]) rfl (law21_pick hji (by omega))) rfl ?_
 rintro _ _ _ ⟨rfl, rfl, rfl⟩
 generalize pk j ((k : Int) + 1) = e at *
 obtain ⟨rA, eA⟩ : ∃ r, R21.leap ms rm m e (1 + pk nw 64) picks = r := ⟨_, rfl⟩
 obtain ⟨h1, h2, h3, eH⟩ : ∃ h1 h2 h3, R9.leapT ms rm m e = (h1, h2, h3) := ⟨_, _, _, rfl⟩
 have pr := R21.leap_nine (picks := picks) (hg (W := 1 + pk nw 64) (by omega) (by omega)) hkl (R21.wk3 hk3)
 rw [eA, eH] at pr
 refine tA rfl rfl (tN (tT (tS ?_)))
 skip
 refine tri_cut (fun F' A' J => ∃ (b19 : Nat) (x5 : Option Addr) (y5 : Nat), (StA J x5 y5 rA.ns ∧ I1 ⊆ J) ∧ F' = [(15, .bool true), (16, pt b16 0), (17, .int .i64 m), (18, .int .i64 e), (19, pt b19 0), (20, .int .i64 rA.err)] ∧ A' = Box b19 [.slice x5 rA.ns.length y5, .int .i64 rA.room, .int .i64 rA.node, .int .i64 rA.steps, .int .i64 rA.tasks] 34 :: Box b16 [.slice a4 ms.length cap4, .int .i64 rm] 26 :: A) ?_ ?_
 ·refine tri_draw [0, 1, 2, 3, 6, 4, 5, 7, 8, 9, 10, 11, 12, 13] rfl [] rfl mixed ?_
  refine th_take rfl rfl (by kernel_rfl)  (opv_loadA rfl rfl rfl) ?_
  refine yM rfl rfl (yM rfl rfl (yM rfl rfl (yM rfl rfl ?_)))
  refine th_two (j := 11) [4, 5, 7, 8, 9, 10, 12, 13] (by kernel_rfl) rfl ?_ ?_
  ·refine (step_m rfl rfl (opg_call (xs := [_, _]) rfl (law21_pick hwi (by decide))) ?_)
   rintro _ _ _ ⟨rfl, rfl, rfl⟩
   refine ⟨Suf.h, (fun _ h => h), ?_⟩
   refine th_take rfl rfl (by kernel_rfl)  (opv_add rfl rfl (w64 (by omega) (by omega))) ?_
   refine th_two (j := 11) [7, 8, 9, 10, 12, 13] (by kernel_rfl) rfl ?_ ?_
   ·refine (step_m rfl rfl (opg_call (xs := [_, _, _, _, _]) rfl (shop_leapR hs4 hlen (hsp.mono hI01) hk eA)) ?_)
    rintro _ _ I2 ⟨x5, y5, rfl, hs5, rfl, hI2⟩
    refine ⟨Suf.h, hI2, ?_⟩
    refine yM rfl rfl (yE rfl rfl rfl (yE rfl rfl rfl ?_))
    refine th_one (by kernel_rfl) (step_m rfl rfl opg_alloc ?_)
    rintro _ _ _ ⟨b19, rfl, rfl, rfl⟩
    refine ⟨Suf.h, (by assumption), ?_⟩
    refine th_one (by kernel_rfl) (step_m rfl rfl (opg_store rfl rfl rfl rfl rfl rfl) ?_)
    rintro _ _ _ ⟨rfl, rfl⟩
    refine ⟨Suf.h, (by assumption), ?_⟩
    refine yA rfl rfl (yD ?_)
    exact tri_cutEnd _ ⟨_, x5, y5, ⟨hs5, hI2⟩, rfl, rfl⟩ ⟨rfl, rfl, rfl, rfl, rfl, rfl, trivial⟩
   ·refine (step_m rfl rfl opg_alloc ?_)
    rintro _ _ _ ⟨b19, rfl, rfl, rfl⟩
    refine ⟨Suf.h, (fun _ h => h), ?_⟩
    refine th_one (by kernel_rfl) (step_m rfl rfl (opg_call (xs := [_, _, _, _, _]) rfl (shop_leapR hs4 hlen (hsp.mono hI01) hk eA)) ?_)
    rintro _ _ I2 ⟨x5, y5, rfl, hs5, rfl, hI2⟩
    refine ⟨Suf.h, hI2, ?_⟩
    refine yM rfl rfl (yE rfl rfl rfl (yE rfl rfl rfl ?_))
    refine th_one (by kernel_rfl) (step_m rfl rfl (opg_store rfl rfl rfl rfl rfl rfl) ?_)
    rintro _ _ _ ⟨rfl, rfl⟩
    refine ⟨Suf.h, (by assumption), ?_⟩
    refine yA rfl rfl (yD ?_)
    exact tri_cutEnd _ ⟨_, x5, y5, ⟨hs5, hI2⟩, rfl, rfl⟩ ⟨rfl, rfl, rfl, rfl, rfl, rfl, trivial⟩
  ·refine (step_m rfl rfl opg_alloc ?_)
   rintro _ _ _ ⟨b19, rfl, rfl, rfl⟩
   refine ⟨Suf.h, (fun _ h => h), ?_⟩
   refine th_one (by kernel_rfl) (step_m rfl rfl (opg_call (xs := [_, _]) rfl (law21_pick hwi (by decide))) ?_)
   rintro _ _ _ ⟨rfl, rfl, rfl⟩
   refine ⟨Suf.h, (fun _ h => h), ?_⟩
   refine th_take rfl rfl (by kernel_rfl)  (opv_add rfl rfl (w64 (by omega) (by omega))) ?_
   refine th_one (by kernel_rfl) (step_m rfl rfl (opg_call (xs := [_, _, _, _, _]) rfl (shop_leapR hs4 hlen (hsp.mono hI01) hk eA)) ?_)
   rintro _ _ I2 ⟨x5, y5, rfl, hs5, rfl, hI2⟩
   refine ⟨Suf.h, hI2, ?_⟩
   refine yM rfl rfl (yE rfl rfl rfl (yE rfl rfl rfl ?_))
   refine th_one (by kernel_rfl) (step_m rfl rfl (opg_store rfl rfl rfl rfl rfl rfl) ?_)
   rintro _ _ _ ⟨rfl, rfl⟩
   refine ⟨Suf.h, (by assumption), ?_⟩
   refine yA rfl rfl (yD ?_)
   exact tri_cutEnd _ ⟨_, x5, y5, ⟨hs5, hI2⟩, rfl, rfl⟩ ⟨rfl, rfl, rfl, rfl, rfl, rfl, trivial⟩
 rintro _ _ I2 ⟨b19, x5, y5, ⟨hs5, hI2⟩, rfl, rfl⟩
 refine tT (tS (tR ?_))
 refine yB rfl rfl ?_
 refine tM rfl rfl (tM rfl rfl ?_)
 refine tri_g (opg_call (xs := [_, _, _]) rfl (ref09_leapS (hs4.mono hI2) hlen hrg eH)) rfl ?_
 rintro _ _ I3 ⟨x6, y6, rfl, hs6, rfl, hI3⟩
 have hI03 : I ⊆ I3 := fun _ h => hI3 (hI2 (hI01 h))
 refine tM rfl rfl ?_
 refine tri_v (opv_extract rfl rfl) rfl ?_
 refine tri_v (opv_extract rfl rfl) rfl ?_
 refine tri_v (opv_extract rfl rfl) rfl ?_
 refine tri_g opg_alloc rfl ?_
 rintro _ _ _ ⟨b21, rfl, rfl, rfl⟩
 refine yG rfl rfl rfl rfl rfl rfl ?_
 rintro _ _ _ ⟨rfl, rfl⟩
 refine tA rfl rfl (tA rfl rfl (tN (tT (tS (tS (tR (tM rfl rfl ?_)))))))
 refine tri_v (opv_neq rfl rfl) rfl ?_
 refine tN (tT ?_)
 refine tri_cond_dec rfl (fun hA0 => ?_) (fun hA0 => ?_)
 ·have h40 : rA.err = 40 ∧ h3 = 40 := by
   rcases pr with ⟨p1, p2⟩ | ⟨p1, _⟩
   ·rw [p1]
    exact ⟨rfl, p2⟩
   ·exact absurd p1.err hA0
  refine tS (tR (tM rfl rfl (tM rfl rfl ?_)))
  refine tri_bool 68 rfl (fun _ => ?_) (fun h => absurd h (by decide))
  refine yR rfl rfl (tM rfl rfl (yR rfl rfl ?_))
  refine tri_v (opv_eql rfl rfl) rfl ?_
  refine tri_v (opv_pick_t rfl rfl) rfl ?_
  refine tM rfl rfl ?_
  refine tri_true rfl rfl (h40.1) ?_
  refine yR rfl rfl (tM rfl rfl (yR rfl rfl ?_))
  refine tri_v (opv_eql rfl rfl) rfl ?_
  refine tri_v (opv_pick_t rfl rfl) rfl ?_
  refine tA rfl rfl (tN (tT (tri_ret (tri_then_ret ?_))))
  refine tri_end _ (⟨[_, _, _], rfl⟩) rfl (.cons (rv_tmp rfl) .nil) ⟨?_, rfl, hI03⟩
  exact congrArg Value.bool (decide_eq_true h40.2)
 ·have hA0 : rA.err = 0 := Decidable.not_not.1 hA0
  obtain ⟨hA, e0, eB⟩ : R21.LpS ms rm m e k rA ∧ h3 = 0 ∧ R9.leapT rA.ns rm m e = (rA.ns, rA.node, 0) := by
   rcases pr with ⟨p1, p2⟩ | h
   ·rw [p1] at hA0
    exact absurd hA0 (by decide)
   ·exact h
  have lA := hA.len
  have rtA := hA.right
  rw [← hA.rm] at rtA eB
  have hpre := hA.pre
  have hpl := hpre.length_le
  have sA := (hs5.mono hI3).sl
  have rgA : R6.Rng rA.ns := rtA.modTo.mod.rng9
  refine tri_skip (tT (tS (tR (yF rfl ?_))))
  refine yB rfl rfl ?_
  refine tM rfl rfl (tM rfl rfl ?_)
  refine tri_g (opg_call (xs := [_, _, _]) rfl (ref09_leapS (hs5.mono hI3) (by omega) rgA eB)) rfl ?_
  rintro _ _ I4 ⟨x7, y7, rfl, hs7, rfl, hI4⟩
  have sA4 := sA.mono hI4
  have sM4 := hs4l.mono fun _ h => hI4 (hI3 (hI2 h))
  have hI04 : I ⊆ I4 := fun _ h => hI4 (hI03 h)
  refine tM rfl rfl ?_
  refine tri_v (opv_extract rfl rfl) rfl ?_
  refine tri_v (opv_extract rfl rfl) rfl ?_
  refine tri_v (opv_extract rfl rfl) rfl ?_
  refine tri_g opg_alloc rfl ?_
  rintro _ _ _ ⟨b24, rfl, rfl, rfl⟩
  refine yG rfl rfl rfl rfl rfl rfl ?_
  rintro _ _ _ ⟨rfl, rfl⟩
  refine tA rfl rfl (tA rfl rfl (tN (tT (tS (tS (tR (tM rfl rfl ?_)))))))
  refine tri_v (opv_neq rfl rfl) rfl ?_
  refine tM rfl rfl ?_
  refine tri_false rfl rfl (fun h => h rfl) ?_
  refine yR rfl rfl (tM rfl rfl (yR rfl rfl ?_))
  refine tri_v (opv_neq rfl rfl) rfl ?_
  refine tri_v (opv_pick_f rfl rfl) rfl ?_
  refine tM rfl rfl ?_
  refine tri_false rfl rfl (fun h => h e0) ?_
  refine yR rfl rfl (tM rfl rfl (yR rfl rfl (yF rfl (yR rfl rfl ?_))))
  refine yL rfl rfl ?_
  refine yR rfl rfl ?_
  refine tri_v (opv_neq rfl rfl) rfl ?_
  refine tri_v (opv_pick_f rfl rfl) rfl ?_
  refine tM rfl rfl ?_
  refine tri_false rfl rfl (fun h => h rfl) ?_
  refine yR rfl rfl ?_
  refine yB rfl rfl ?_
  refine yR rfl rfl (yF rfl (yR rfl rfl ?_))
  refine yB rfl rfl ?_
  refine yR rfl rfl ?_
  refine tri_g (opg_call (xs := [_, _]) rfl (ref06_same hs7.sl sA4 (by omega))) rfl ?_
  rintro _ _ _ ⟨rfl, rfl, rfl⟩
  refine yR rfl rfl ?_
  refine tri_v (opv_notD rfl) rfl ?_
  refine tri_v (opv_pick_f rfl rfl) rfl ?_
  refine tM rfl rfl ?_
  refine tri_false rfl rfl (fun h => h ⟨rfl, rfl⟩) ?_
  refine yR rfl rfl (yF rfl (yR rfl rfl ?_))
  refine yB rfl rfl ?_
  refine yR rfl rfl ?_
  refine tri_g (opg_call (xs := [_]) rfl (ref06_right sA4 (by omega) rgA)) rfl ?_
  rintro _ _ _ ⟨rfl, rfl, rfl⟩
  refine yR rfl rfl ?_
  refine tri_v (opv_notD rfl) rfl ?_
  refine tri_v (opv_pick_f rfl rfl) rfl ?_
  refine tM rfl rfl ?_
  refine tri_false rfl rfl (fun h => h rtA) ?_
  refine yR rfl rfl (yF rfl (yR rfl rfl (yF rfl (yR rfl rfl ?_))))
  refine yL rfl rfl ?_
  refine yR rfl rfl ?_
  refine tri_v (opv_len rfl) rfl ?_
  refine yR rfl rfl (yF rfl (yR rfl rfl ?_))
  refine yL rfl rfl ?_
  refine yR rfl rfl ?_
  refine tri_v (opv_len rfl) rfl ?_
  refine yR rfl rfl (yC rfl rfl ?_)
  refine tri_v (opv_pick_f rfl rfl) rfl ?_
  refine tN (tT ?_)
  refine tri_cond_not rfl (by omega) ?_
  refine tri_skip (tT (tS (tS (tR (tA rfl rfl (tN (tT ?_)))))))
  refine tri_block ?_
  refine tri_sub (F' := [(15, .bool true), (16, pt b16 0), (19, pt b19 0), (27, .int .i64 (0 : Nat))]) ⟨rfl, rfl, rfl, rfl, trivial⟩ ?_
  refine loop_ind (G := Nat) (fun i => ms.length - i) (fun i => i ≤ ms.length) (fun i => [(15, .bool true), (16, pt b16 0), (19, pt b19 0), (27, .int .i64 (i : Nat))]) (fun _ => _) (fun _ => _) ?_ 0 (by omega)
  rintro i hi K hK
  skip
  refine tS (tS (tR (tM rfl rfl (yF rfl ?_))))
  refine yL rfl rfl ?_
  refine tri_v (opv_len rfl) rfl ?_
  refine yC rfl rfl (tN (tT ?_))
  refine tri_cond_dec rfl (fun h => ?_) (fun h => ?_)
  ·refine tri_skip (tT (tS (tri_block (tS ?_))))
   refine tri_draw [0, 1, 2, 3, 4, 5, 6, 7, 8, 9, 10, 11] rfl [] rfl mixed ?_
   refine yf rfl rfl (yf rfl rfl ?_)
   refine yl rfl rfl rfl ?_
   refine yM rfl rfl ?_
   refine th_take rfl rfl (by kernel_rfl)  (opv_indexAddrSN rfl rfl (by omega) (by assumption) rfl) ?_
   refine th_take rfl rfl (by kernel_rfl)  (opv_loadEA rfl (by assumption) rfl (by omega) rfl rfl) ?_
   refine yf rfl rfl ?_
   refine yl rfl rfl rfl ?_
   refine yM rfl rfl ?_
   refine th_take rfl rfl (by kernel_rfl)  (opv_indexAddrSN rfl rfl (by omega) (by assumption) rfl) ?_
   refine th_take rfl rfl (by kernel_rfl)  (opv_loadEA rfl (by assumption) rfl (by omega) rfl rfl) ?_
   refine th_take rfl rfl (by kernel_rfl)  (opv_neqI rfl rfl rfl rfl rfl rfl) ?_
   refine yD (tT ?_)
   refine tri_cond_not rfl ((fun h => Node.ne_iff'.2 h (pre_at hpre (by omega)))) ?_
   refine tri_skip (tri_inBlock (tT (tR (tM rfl rfl ?_))))
   refine yU rfl rfl ?_
   refine tA rfl rfl (tN (tT ?_))
   refine tri_sub ?_ (hK (i + 1) (by omega) (by omega))
   exact ⟨rfl, rfl, rfl, rfl, trivial⟩
  ·refine tri_exit ?_
   refine tri_then_exit (tri_then_exit ?_)
   refine tri_inBlock_hit rfl ?_
   refine tT (tS (tR (tM rfl rfl (tA rfl rfl (tN (tT (tri_ret ?_)))))))
   refine tri_end _ (⟨[_, _, _, _], rfl⟩) rfl (.cons (rv_tmp rfl) .nil) ⟨rfl, rfl, hI04⟩
end Go.GL


namespace Go.GL
open Go.Proofs
theorem num_int : NumTy Try.prog 3 1 := NumTy.int
theorem num_2 : NumTy Try.prog 49 2 := NumTy.arr num_int (by decide)
theorem num_5 : NumTy Try.prog 65 5 := NumTy.arr num_int (by decide)
theorem laid : laidOutB Try.prog = true := by kernel_rfl
theorem own : ownKnob Try.prog.godebug = none := by kernel_rfl
end Go.GL


namespace Go.GL
open Go.Proofs
theorem is_ok {l : List Int} (h : ∀ y ∈ l, DecOk y) : Is l := fun i hi => by
 obtain ⟨zs, h1, h2, h3⟩ := h _ (R11.getD_mem hi)
 rw [h3]
 match zs, h1 with
 | [a], _ => exact h2 a (by simp)
end Go.GL

