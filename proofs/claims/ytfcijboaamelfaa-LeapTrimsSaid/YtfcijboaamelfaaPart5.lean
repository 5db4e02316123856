/- Part 5: contracts of the functions that the law reaches: each answers as its model does. No condition beyond those that each theorem states. -/
import Derived.Test.YtfcijboaamelfaaPart4
set_option linter.unusedVariables false
namespace Go.GL
open Go.Proofs
attribute [local irreducible] wpList Code.wp Exit.then Exit.inBlock Ends Tri TriH OpV OpG FnC epf wpAnyH
variable {A : List Asrt} {I : List Chunk}
namespace R9
/-- A round of the document's, that goes on behind an error. -/
structure MP (room : Int) (f : LS → Int → L9) (qs dest : List Int) (r : LS × List Int × Int) (rF : Int) (base : List Node) (Q : Prop) (i : Nat) (t : LS) (l : List Int) (e : Int) : Prop where
 len : l.length = qs.length
 ok : e = 0 → (∃ res, res.length = i ∧ l = midL res dest ∧ r = ((mapS f t (qs.drop i)).1, res ++ (mapS f t (qs.drop i)).2.1, (mapS f t (qs.drop i)).2.2)) ∧ Lk room t ∧ Kn t.mm ∧ base <+: t.ns ∧ (r.2.2 ≠ 0 → rF = r.2.2) ∧ Q
 er : e ≠ 0 → rF = e
theorem MP.step {room : Int} {f : LS → Int → L9} {qs dest : List Int} {r : LS × List Int × Int} {rF : Int} {base : List Node} {Q : Prop} {i : Nat} {t : LS} {l : List Int} {e : Int} (h : MP room f qs dest r rF base Q i t l e) (hd : dest.length = qs.length) (hi : i < qs.length) {R : L9} {lv : Nat} (hR : e = 0 → f t (qs.getD i default) = R) (hRe : e ≠ 0 → R.2.2 = e) (hg : e = 0 → R.2.2 = 0 → Gd room t R lv ∧ Kn R.1.mm) {t' : LS} {m : Int} (hm : R.2.2 = 0 → t' = R.1 ∧ m = R.2.1) : MP room f qs dest r rF base Q (i + 1) t' (l.set i m) R.2.2 := by
 refine ⟨by rw [List.length_set]; exact h.len, fun e0 => ?_, fun e0 => ?_⟩
 ·have e1 : e = 0 := er_zero hRe e0
  obtain ⟨⟨res, h1, h2, h3⟩, h4, h5, h6, h7⟩ := h.ok e1
  obtain ⟨rfl, rfl⟩ := hm e0
  obtain ⟨g, kn⟩ := hg e1 e0
  have nx := (mapS_next h1 hi h3 (hR e1)).1 e0
  exact ⟨⟨res ++ [R.2.1], nx.1, by rw [h2, ← h1]; exact midL_set (by omega) _, nx.2⟩, g.lk, kn, h6.trans g.pre, h7.1, h7.2⟩
 ·by_cases e1 : e = 0
  ·obtain ⟨⟨res, h1, h2, h3⟩, h4, h5, h6, h7⟩ := h.ok e1
   have nx := (mapS_next h1 hi h3 (hR e1)).2 e0
   rw [← nx]
   exact h7.1 (by rw [nx]; exact e0)
  ·rw [hRe e1]; exact h.er e1
theorem MP.at {room : Int} {f : LS → Int → L9} {qs : List Int} {r : LS × List Int × Int} {rF : Int} {base : List Node} {Q : Prop} {i : Nat} {t : LS} {l : List Int} {e : Int} (h : MP room f qs qs r rF base Q i t l e) (hi : i < qs.length) (h0 : e = 0) : l.getD i default = qs.getD i default := by
 obtain ⟨⟨res, h1, h2, h3⟩, _⟩ := h.ok h0
 rw [h2, ← h1]
 exact midL_at (by omega)
theorem MP.start {room : Int} {f : LS → Int → L9} {qs dest : List Int} {r : LS × List Int × Int} {rF : Int} {Q : Prop} {t : LS} {e : Int} (hd : dest.length = qs.length) (hr : e = 0 → mapS f t qs = r) (hlk : e = 0 → Lk room t ∧ Kn t.mm) (h7 : e = 0 → r.2.2 ≠ 0 → rF = r.2.2) (hq : e = 0 → Q) (her : e ≠ 0 → rF = e) : MP room f qs dest r rF t.ns Q 0 t dest e :=
 ⟨hd, fun h0 => ⟨⟨[], rfl, rfl, by rw [List.drop_zero]; exact (hr h0).symm⟩, (hlk h0).1, (hlk h0).2, List.prefix_refl _, h7 h0, hq h0⟩, her⟩
end R9
def LgSpec (k : Nat) : Prop := ∀ (A : List Asrt) (I : List Chunk) (ns : List Node) (mm : R9.Memo) (a ad : Option Addr) (cap cd bl : Nat) (room e n j : Int) (r : R9.L9), StA I a cap ns → (e = 0 → R9.Lk room ⟨ns, mm⟩ ∧ R9.Kn mm ∧ R7.IsN ns (k + 2) n ∧ R9.leap room k ⟨ns, mm⟩ n j = r) → (e ≠ 0 → r.2.2 = e) → 0 ≤ j ∧ j ≤ 1000000 →
 FnC Try.prog 45 [pt bl 0, .int .i64 n, .int .i64 j].toArray (LgA bl a cap ns.length room ad cd mm e A) I (LgR bl r room A I)
end Go.GL


set_option linter.unusedVariables false
namespace Go.GL
open Go.Proofs
attribute [local irreducible] wpList Code.wp Exit.then Exit.inBlock Ends Tri TriH OpV OpG FnC epf wpAnyH
variable {A : List Asrt} {I : List Chunk}
namespace R9
def leapM (room : Int) : Nat → LS → Int → Int → L9
 | 0, s, n, _ => oneS room s n
 | k + 1, s, n, j => far (leap room k) room (decide (j = k + 1)) s n j
end R9
end Go.GL


set_option linter.unusedVariables false
namespace Go.GL
open Go.Proofs
attribute [local irreducible] wpList Code.wp Exit.then Exit.inBlock Ends Tri TriH OpV OpG FnC epf wpAnyH
variable {A : List Asrt} {I : List Chunk}
namespace R9
def mid (i : Nat) : Prop := 1 ≤ (i : Int) / 4 ∧ (i : Int) / 4 ≤ 2 ∧ 1 ≤ (i : Int) % 4 ∧ (i : Int) % 4 ≤ 2
instance (i : Nat) : Decidable (mid i) := inferInstanceAs (Decidable (_ ∧ _))
end R9
namespace R9
end R9
end Go.GL


set_option linter.unusedVariables false
namespace Go.GL
open Go.Proofs
attribute [local irreducible] wpList Code.wp Exit.then Exit.inBlock Ends Tri TriH OpV OpG FnC epf wpAnyH
variable {A : List Asrt} {I : List Chunk}
theorem ref07_emptyR {ns : List Node} {a : Option Addr} {cap lv : Nat} {room : Int} {p : List Node × Int × Int} (hs : StA I a cap ns) (hg : R6.Good ns room) (hlv : lv ≤ 1000) (he : R7.empty ns room lv = p) :
  FnC Try.prog 81 [storeV a ns.length cap room, .int .i64 (lv : Nat)].toArray A I (StoreR p room A I) := by
 subst he
 exact ref07_empty hs hg hlv
set_option maxHeartbeats 2000000 in
set_option maxRecDepth 100000 in
theorem ref07_larger {k : Nat} {ns : List Node} {mm : R9.Memo} {a : Option Addr} {cap : Nat} {room n : Int} {r : R9.L9} (hs : StA I a cap ns) (h : R9.Lk room ⟨ns, mm⟩) (hn : R7.IsN ns (k + 2) n) (hk42 : k + 2 < 42) (hr : R9.grow room ⟨ns, mm⟩ n = r) :
  FnC Try.prog 65 [storeV a ns.length cap room, .int .i64 n].toArray A I (StoreR (R9.out ns r) room A I) := by
 have hlv : (R6.nd ns n).lv = (k + 2 : Nat) := hn.2
 have hlv' : (ns.getD n.toNat default).lv = (k + 2 : Nat) := hn.2
 have hsl := hs.sl
 obtain ⟨hn0, hn1⟩ := hn.1
 rw [R9.grow_eq] at hr
 simp only at hr
 rw [show ((R6.nd ns n).lv - 1).toNat = k + 1 by omega, if_neg (by omega)] at hr
 obtain ⟨D, hD⟩ : ∃ D, R7.empty ns room (k + 1) = D := ⟨_, rfl⟩
 rw [hD] at hr
 have hDg := fun e : D.2.2 = 0 => R9.empty_gd (lv := k + 1) h.right (by simp only; rw [hD]; exact e)
 simp only at hDg
 rw [hD] at hDg
 have hgood := h.good
 simp only at hgood
 obtain ⟨ks, hks⟩ : ∃ ks, (R6.nd ns n).kids = ks := ⟨_, rfl⟩
 have hkl : ks.length = 4 := by rw [← hks]; rfl
 have hkid0 : ∀ q : Nat, q < 4 → R7.IsN ns (k + 1) (ks.getD q default) := fun q hq => by rw [← hks]; exact R9.kids_getD h.wf hn hq
 rw [hks] at hr
 skip
 skip
 refine fn_enter2 Try.func65 rfl Try.ntmps65 rfl fun w0 => ?_
 refine tS (tR ?_)
 refine tri_g (opg_box_agg rfl) rfl ?_
 rintro _ _ _ ⟨b2, rfl, rfl, rfl⟩
 refine tri_g opg_alloc rfl ?_
 rintro _ _ _ ⟨b4, rfl, rfl, rfl⟩
 refine tA rfl rfl (tA rfl rfl (tN (tT (tS ?_))))
 skip
 refine tR ?_
 refine tri_v (opv_fieldAddr rfl rfl) rfl ?_
 refine tri_v (opv_load1 rfl rfl rfl) rfl ?_
 refine tM rfl rfl ?_
 refine tri_v (opv_indexAddrS rfl rfl (by omega) (by omega) (by assumption) rfl) rfl ?_
 refine tri_v (opv_fieldAddrE rfl (by assumption) (by omega) rfl) rfl ?_
 refine tri_v (opv_loadEA rfl (by assumption) rfl (by omega) rfl rfl) rfl ?_
 refine tri_g opg_alloc rfl ?_
 rintro _ _ _ ⟨b7, rfl, rfl, rfl⟩
 refine tri_g (opg_store rfl rfl rfl rfl rfl rfl) rfl ?_
 rintro _ _ _ ⟨rfl, rfl⟩
 refine tN (tT (tS ?_))
 skip
 rw [show ([.int .i64 (ns.getD n.toNat default).k0, .int .i64 (ns.getD n.toNat default).k1, .int .i64 (ns.getD n.toNat default).k2, .int .i64 (ns.getD n.toNat default).k3] : List Value) = ints ks by rw [← hks]; rfl]
 refine tri_cut (fun F' A' J => ∃ b8 a3 c3, F' = [(1, .int .i64 n), (2, pt b2 0), (4, pt b4 0), (7, pt b7 0), (8, pt b8 0), (9, .int .i64 D.2.1), (10, .int .i64 D.2.2)] ∧ A' = Box b8 [.slice a3 D.1.length c3, .int .i64 room] 26 :: Box b7 (ints ks) 33 :: Box b4 [.slice none 0 0, .int .i64 0] 26 :: Box b2 [.slice a ns.length cap, .int .i64 room] 26 :: A ∧ StA J a3 c3 D.1 ∧ I ⊆ J) ?_ ?_
 ·refine tri_draw [0, 1, 2, 3, 4, 5, 6, 7, 8, 9, 10, 11, 12, 13, 14, 15, 16] rfl [] rfl mixed ?_
  refine th_take rfl rfl (by kernel_rfl)  (opv_loadA rfl rfl rfl) ?_
  refine th_take rfl rfl (by kernel_rfl)  (opv_fieldAddr rfl rfl) ?_
  refine th_take rfl rfl (by kernel_rfl)  (opv_load1 rfl rfl rfl) ?_
  refine th_take rfl rfl (by kernel_rfl)  (opv_move rfl) ?_
  refine th_take rfl rfl (by kernel_rfl)  (opv_indexAddrS rfl rfl (by omega) (by omega) (by assumption) rfl) ?_
  refine th_take rfl rfl (by kernel_rfl)  (opv_fieldAddrE rfl (by assumption) (by omega) rfl) ?_
  refine th_take rfl rfl (by kernel_rfl)  (opv_loadE1 rfl (by assumption) rfl (by omega) rfl rfl) ?_
  refine th_take rfl rfl (by kernel_rfl)  (opv_sub rfl rfl (w64 (by omega) (by omega))) ?_
  rw [show (ns.getD n.toNat default).lv - 1 = ((k + 1 : Nat) : Int) by omega]
  refine th_two (j := 13) [8, 9, 10, 11, 12, 14, 15, 16] (by kernel_rfl) rfl ?_ ?_
  ·refine (step_m rfl rfl (opg_call (xs := [_, _]) rfl (ref07_emptyR hs hgood (by omega) hD)) ?_)
   rintro _ _ I3 ⟨a3, c3, rfl, hs3, rfl, hI3⟩
   refine ⟨Suf.h, (by assumption), ?_⟩
   refine th_take rfl rfl (by kernel_rfl)  (opv_move rfl) ?_
   refine th_take rfl rfl (by kernel_rfl)  (opv_extract rfl rfl) ?_
   refine th_take rfl rfl (by kernel_rfl)  (opv_extract rfl rfl) ?_
   refine th_take rfl rfl (by kernel_rfl)  (opv_extract rfl rfl) ?_
   refine th_one (by kernel_rfl) (step_m rfl rfl opg_alloc ?_)
   rintro _ _ _ ⟨b8, rfl, rfl, rfl⟩
   refine ⟨Suf.h, (by assumption), ?_⟩
   refine th_one (by kernel_rfl) (step_m rfl rfl (opg_store rfl rfl rfl rfl rfl rfl) ?_)
   rintro _ _ _ ⟨rfl, rfl⟩
   refine ⟨Suf.h, (by assumption), ?_⟩
   refine th_take rfl rfl (by kernel_rfl)  (opv_assign rfl) ?_
   refine th_take rfl rfl (by kernel_rfl)  (opv_assign rfl) ?_
   refine th_done (by kernel_rfl) ?_
   exact tri_cutEnd _ ⟨b8, a3, c3, rfl, rfl, hs3, hI3⟩ ⟨rfl, rfl, rfl, rfl, rfl, rfl, rfl, trivial⟩
  ·refine (step_m rfl rfl opg_alloc ?_)
   rintro _ _ _ ⟨b8, rfl, rfl, rfl⟩
   refine ⟨Suf.h, (fun _ h => h), ?_⟩
   refine th_one (by kernel_rfl) (step_m rfl rfl (opg_call (xs := [_, _]) rfl (ref07_emptyR hs hgood (by omega) hD)) ?_)
   rintro _ _ I3 ⟨a3, c3, rfl, hs3, rfl, hI3⟩
   refine ⟨Suf.h, (by assumption), ?_⟩
   refine th_take rfl rfl (by kernel_rfl)  (opv_move rfl) ?_
   refine th_take rfl rfl (by kernel_rfl)  (opv_extract rfl rfl) ?_
   refine th_take rfl rfl (by kernel_rfl)  (opv_extract rfl rfl) ?_
   refine th_take rfl rfl (by kernel_rfl)  (opv_extract rfl rfl) ?_
   refine th_one (by kernel_rfl) (step_m rfl rfl (opg_store rfl rfl rfl rfl rfl rfl) ?_)
   rintro _ _ _ ⟨rfl, rfl⟩
   refine ⟨Suf.h, (by assumption), ?_⟩
   refine th_take rfl rfl (by kernel_rfl)  (opv_assign rfl) ?_
   refine th_take rfl rfl (by kernel_rfl)  (opv_assign rfl) ?_
   refine th_done (by kernel_rfl) ?_
   exact tri_cutEnd _ ⟨b8, a3, c3, rfl, rfl, hs3, hI3⟩ ⟨rfl, rfl, rfl, rfl, rfl, rfl, rfl, trivial⟩
 rintro _ _ I1 ⟨b8, a1, c1, rfl, rfl, hs1, hI1⟩
 skip
 refine tT (tS (tS (tR (tM rfl rfl ?_))))
 refine tri_v (opv_neq rfl rfl) rfl ?_
 refine tN (tT ?_)
 skip
 refine tri_cond_dec rfl (fun h2 => ?_) (fun h2 => ?_)
 ·rw [if_pos h2] at hr
  subst hr
  refine tS (tR ?_)
  refine tri_v (opv_loadA rfl rfl rfl) rfl ?_
  refine tM rfl rfl ?_
  refine tri_g (opg_store rfl rfl rfl rfl rfl rfl) rfl ?_
  rintro _ _ _ ⟨rfl, rfl⟩
  refine tA rfl rfl (tA rfl rfl (tN (tT (tri_ret (tri_then_ret ?_)))))
  refine tri_end A Suf.h rfl (.cons (rv_cellA rfl rfl rfl) (.cons (rv_tmp rfl) (.cons (rv_tmp rfl) .nil))) ⟨a, cap, by rw [show R9.out ns (⟨ns, mm⟩, 0, D.2.2) = (ns, 0, D.2.2) from if_pos h2]; rfl, ?_, rfl, hI1⟩
  rw [show R9.out ns (⟨ns, mm⟩, 0, D.2.2) = (ns, 0, D.2.2) from if_pos h2]
  exact hs.mono hI1
 skip
 have h2' : D.2.2 = 0 := Decidable.not_not.1 h2
 rw [if_neg h2] at hr
 obtain ⟨dr, dp, di⟩ := hDg h2'
 have lk1 : R9.Lk room (⟨D.1, mm⟩ : R9.LS) := ⟨dr, h.mem.pre dp⟩
 have hkid : ∀ q : Nat, q < 4 → R7.IsN D.1 (k + 1) (ks.getD q default) := fun q hq => (hkid0 q hq).pre dp
 obtain ⟨R2, hR2⟩ : ∃ R2, R9.mapS (R9.growF room D.2.1 ks) ⟨D.1, mm⟩ R9.k4 = R2 := ⟨_, rfl⟩
 rw [hR2] at hr
 refine tri_skip (tT (tS (tR ?_)))
 refine tri_g opg_alloc rfl ?_
 rintro _ _ _ ⟨b11, rfl, rfl, rfl⟩
 refine tN (tT (tS (tS (tR (tA rfl rfl (tN (tT ?_)))))))
 refine tri_block ?_
 refine tri_sub (F' := [(2, pt b2 0), (4, pt b4 0), (7, pt b7 0), (8, pt b8 0), (9, .int .i64 D.2.1), (11, pt b11 0), (12, .int .i64 (0 : Nat))]) ⟨rfl, rfl, rfl, rfl, rfl, rfl, rfl, trivial⟩ ?_
 refine loop_ind (G := Nat × R9.LS × List Int × Option Addr × Nat × List Chunk) (fun g => 4 - g.1) (fun g => g.1 ≤ 4 ∧ g.2.2.1.length = g.1 ∧ R2 = ((R9.mapS (R9.growF room D.2.1 ks) g.2.1 (R9.k4.drop g.1)).1, g.2.2.1 ++ (R9.mapS (R9.growF room D.2.1 ks) g.2.1 (R9.k4.drop g.1)).2.1, (R9.mapS (R9.growF room D.2.1 ks) g.2.1 (R9.k4.drop g.1)).2.2) ∧ R9.Lk room g.2.1 ∧ D.1 <+: g.2.1.ns ∧ StA g.2.2.2.2.2 g.2.2.2.1 g.2.2.2.2.1 g.2.1.ns ∧ I1 ⊆ g.2.2.2.2.2) (fun g => [(2, pt b2 0), (4, pt b4 0), (7, pt b7 0), (8, pt b8 0), (9, .int .i64 D.2.1), (11, pt b11 0), (12, .int .i64 (g.1 : Nat))]) (fun g => Box b11 (ints (midL g.2.2.1 [0, 0, 0, 0])) 33 :: Box b8 [.slice g.2.2.2.1 g.2.1.ns.length g.2.2.2.2.1, .int .i64 room] 26 :: Box b7 (ints ks) 33 :: Box b4 [.slice none 0 0, .int .i64 0] 26 :: Box b2 [.slice a ns.length cap, .int .i64 room] 26 :: A) (fun g => g.2.2.2.2.2) ?_ (0, ⟨D.1, mm⟩, [], a1, c1, I1) ⟨by omega, rfl, hR2.symm, lk1, List.prefix_refl _, hs1, fun _ h => h⟩
 rintro ⟨i, t, res, a2, c2, I2⟩ ⟨hi, hlen, hrr, hlk, hpre, hs2, hI2⟩ K hK
 simp only at hi hlen hrr hlk hpre hs2 hI2 hK ⊢
 have hml := midL_len (res := res) (qs := [0, 0, 0, 0]) (by simp only [List.length_cons, List.length_nil]; omega)
 simp only [List.length_cons, List.length_nil] at hml
 skip
 refine tS (tS (tR (tM rfl rfl ?_)))
 refine tri_v (opv_lss rfl rfl) rfl ?_
 refine tN (tT ?_)
 refine tri_cond_dec rfl (fun h4 => ?_) (fun h4 => ?_)
 ·have hi4 : i < 4 := by omega
  have ei : 0 + ((i : Nat) : Int).toNat * 1 = i := by omega
  have ekk : R9.k4.getD i default = (i : Int) := by
   rcases (by omega : i = 0 ∨ i = 1 ∨ i = 2 ∨ i = 3) with rfl | rfl | rfl | rfl <;> rfl
  have eset : ∀ v, (midL res [0, 0, 0, 0]).set (0 + ((i : Nat) : Int).toNat * 1) v = midL (res ++ [v]) [0, 0, 0, 0] := fun v => by
   rw [show 0 + ((i : Nat) : Int).toNat * 1 = i by omega, ← hlen]
   exact midL_set (res := res) (qs := [0, 0, 0, 0]) (by simp only [List.length_cons, List.length_nil]; omega) v
  obtain ⟨R, hR⟩ : ∃ R, R9.growF room D.2.1 ks t (R9.k4.getD i default) = R := ⟨_, rfl⟩
  have hnx := mapS_next (R := R) hlen (by show i < 4; omega) hrr hR
  rw [ekk] at hR
  have hgd := fun e : R.2.2 = 0 => R9.growF_gd (lv := k + 1) (k := (i : Int)) hlk ⟨di.pre hpre, by rw [Int.toNat_natCast]; exact (hkid i hi4).pre hpre⟩ (by rw [hR]; exact e)
  rw [hR] at hgd
  have er1 : R6.put t.ns room (R9.bigK D.2.1 i (ks.getD i default) 0) (R9.bigK D.2.1 i (ks.getD i default) 1) (R9.bigK D.2.1 i (ks.getD i default) 2) (R9.bigK D.2.1 i (ks.getD i default) 3) = (R.1.ns, R.2.1, R.2.2) := by rw [← hR]; rfl
  refine tri_skip (tT (tS (tri_block (tS (tR (tM rfl rfl (tM rfl rfl ?_)))))))
  refine tM rfl rfl (tM rfl rfl ?_)
  refine tri_v (opv_buildA rfl rfl) rfl ?_
  refine tri_g opg_alloc rfl ?_
  rintro _ _ _ ⟨b13, rfl, rfl, rfl⟩
  refine tri_g (opg_store rfl rfl rfl rfl rfl rfl) rfl ?_
  rintro _ _ _ ⟨rfl, rfl⟩
  refine tN (tT (tS ?_))
  rw [show ([.int .i64 D.2.1, .int .i64 D.2.1, .int .i64 D.2.1, .int .i64 D.2.1] : List Value) = ints [D.2.1, D.2.1, D.2.1, D.2.1] from rfl]
  refine tR (tM rfl rfl ?_)
  refine tri_v (opv_sub rfl rfl (w64 (by omega) (by omega))) rfl ?_
  refine tM rfl rfl ?_
  refine tri_v (opv_indexAddrA rfl rfl (by omega) (by omega)) rfl ?_
  refine tri_v (opv_loadIX rfl rfl (by omega)) rfl ?_
  refine tri_v (opv_indexAddrA rfl rfl (by omega) (by omega)) rfl ?_
  rw [ei]
  refine tri_g (opg_storeIX rfl rfl (by simp only [List.length_cons, List.length_nil]; omega)) rfl ?_
  rintro _ _ _ ⟨rfl, rfl⟩
  rw [bigK_set _ _ hi4]
  refine tN (tT (tS (tR ?_)))
  refine tri_v (opv_loadA rfl rfl rfl) rfl ?_
  refine tri_v (opv_loadA rfl rfl rfl) rfl ?_
  refine tri_g (opg_call (xs := [_, _]) rfl (ref06_putSq hs2 hlk.good er1)) rfl ?_
  rintro _ _ I3 ⟨a3, c3, rfl, hs3, rfl, hI3⟩
  refine tM rfl rfl ?_
  refine tri_v (opv_extract rfl rfl) rfl ?_
  refine tri_v (opv_extract rfl rfl) rfl ?_
  refine tri_v (opv_extract rfl rfl) rfl ?_
  refine tri_g opg_alloc rfl ?_
  rintro _ _ _ ⟨b14, rfl, rfl, rfl⟩
  refine tri_g (opg_store rfl rfl rfl rfl rfl rfl) rfl ?_
  rintro _ _ _ ⟨rfl, rfl⟩
  refine tA rfl rfl (tA rfl rfl (tN (tT (tS (tS (tR (tM rfl rfl ?_)))))))
  refine tri_v (opv_neq rfl rfl) rfl ?_
  refine tN (tT ?_)
  refine tri_cond_dec rfl (fun x2 => ?_) (fun x2 => ?_)
  ·have e2 := hnx.2 x2
   rw [R9.bindM_err (by rw [e2]; exact x2), e2] at hr
   subst hr
   refine tS (tR ?_)
   refine tri_v (opv_loadA rfl rfl rfl) rfl ?_
   refine tM rfl rfl ?_
   refine tri_g (opg_store rfl rfl rfl rfl rfl rfl) rfl ?_
   rintro _ _ _ ⟨rfl, rfl⟩
   refine tA rfl rfl (tA rfl rfl (tN (tT (tri_ret (tri_then_ret ?_)))))
   refine tri_inBlock_ret ?_
   refine tri_then_ret (tri_then_ret ?_)
   refine tri_inBlock_ret ?_
   refine tri_then_ret ?_
   refine tri_end A Suf.h rfl (.cons (rv_cellA rfl rfl rfl) (.cons (rv_tmp rfl) (.cons (rv_tmp rfl) .nil))) ⟨a, cap, by rw [show R9.out ns (R2.1, 0, R.2.2) = (ns, 0, R.2.2) from if_pos x2]; rfl, ?_, rfl, fun _ h => hI3 (hI2 (hI1 h))⟩
   rw [show R9.out ns (R2.1, 0, R.2.2) = (ns, 0, R.2.2) from if_pos x2]
   exact hs.mono fun _ h => hI3 (hI2 (hI1 h))
  ·have x2' : R.2.2 = 0 := Decidable.not_not.1 x2
   refine tri_skip (tT (tS (tR ?_)))
   refine tri_v (opv_loadA rfl rfl rfl) rfl ?_
   refine tri_g (opg_store rfl rfl rfl rfl rfl rfl) rfl ?_
   rintro _ _ _ ⟨rfl, rfl⟩
   refine tN (tT (tR (tM rfl rfl (tM rfl rfl ?_))))
   refine tri_v (opv_indexAddrA rfl rfl (by omega) (by omega)) rfl ?_
   refine tri_g (opg_storeIX rfl rfl (by omega)) rfl ?_
   rintro _ _ _ ⟨rfl, rfl⟩
   rw [eset]
   refine tN ?_
   refine tri_inBlock ?_
   refine tT (tR (tM rfl rfl ?_))
   refine tU rfl rfl (by omega) (by omega) rfl ?_
   refine tA rfl rfl (tN (tT ?_))
   refine tri_drop ?_
   refine tri_drop ?_
   refine tri_sub ?_ (hK (i + 1, R.1, res ++ [R.2.1], a3, c3, I3) ⟨by simp only; omega, (hnx.1 x2').1, (hnx.1 x2').2, (hgd x2').lk, hpre.trans (hgd x2').pre, hs3, fun _ h => hI3 (hI2 h)⟩ (by simp only; omega))
   exact ⟨rfl, rfl, rfl, rfl, rfl, rfl, rfl, trivial⟩
 ·have hi4 : i = 4 := by omega
  subst hi4
  have hR2' : R2 = (t, res, 0) := by rw [hrr]; simp [R9.k4, R9.mapS]
  rw [hR2', R9.bindM_ok rfl] at hr
  simp only at hr
  obtain ⟨p0, p1, p2, p3, hp⟩ := four_len hlen
  rw [midL_done (by rw [hlen]; rfl), hp]
  rw [hp] at hr
  have er1 : R6.put t.ns room p0 p1 p2 p3 = (r.1.ns, r.2.1, r.2.2) := by rw [← hr]; rfl
  refine tri_exit ?_
  refine tri_then_exit ?_
  refine tri_then_exit ?_
  refine tri_inBlock_hit rfl ?_
  refine tT (tS (tR ?_))
  refine tri_v (opv_loadA rfl rfl rfl) rfl ?_
  refine tri_v (opv_loadA rfl rfl rfl) rfl ?_
  refine tri_g (opg_call (xs := [_, _]) rfl (ref06_putSq hs2 hlk.good er1)) rfl ?_
  rintro _ _ I3 ⟨a3, c3, rfl, hs3, rfl, hI3⟩
  refine tM rfl rfl ?_
  refine tri_v (opv_extract rfl rfl) rfl ?_
  refine tri_v (opv_extract rfl rfl) rfl ?_
  refine tri_v (opv_extract rfl rfl) rfl ?_
  refine tri_g opg_alloc rfl ?_
  rintro _ _ _ ⟨b17, rfl, rfl, rfl⟩
  refine tri_g (opg_store rfl rfl rfl rfl rfl rfl) rfl ?_
  rintro _ _ _ ⟨rfl, rfl⟩
  refine tA rfl rfl (tA rfl rfl (tN (tT (tS (tS (tR (tM rfl rfl ?_)))))))
  refine tri_v (opv_neq rfl rfl) rfl ?_
  refine tN (tT ?_)
  refine tri_cond_dec rfl (fun x3 => ?_) (fun x3 => ?_)
  ·refine tS (tR ?_)
   refine tri_v (opv_loadA rfl rfl rfl) rfl ?_
   refine tM rfl rfl ?_
   refine tri_g (opg_store rfl rfl rfl rfl rfl rfl) rfl ?_
   rintro _ _ _ ⟨rfl, rfl⟩
   refine tA rfl rfl (tA rfl rfl (tN (tT (tri_ret (tri_then_ret ?_)))))
   refine tri_end A Suf.h rfl (.cons (rv_cellA rfl rfl rfl) (.cons (rv_tmp rfl) (.cons (rv_tmp rfl) .nil))) ⟨a, cap, by rw [show R9.out ns r = (ns, 0, r.2.2) from if_pos x3]; rfl, ?_, rfl, fun _ h => hI3 (hI2 (hI1 h))⟩
   rw [show R9.out ns r = (ns, 0, r.2.2) from if_pos x3]
   exact hs.mono fun _ h => hI3 (hI2 (hI1 h))
  ·refine tri_skip (tT (tS (tR ?_)))
   refine tri_v (opv_loadA rfl rfl rfl) rfl ?_
   refine tM rfl rfl ?_
   refine tri_g (opg_store rfl rfl rfl rfl rfl rfl) rfl ?_
   rintro _ _ _ ⟨rfl, rfl⟩
   refine tA rfl rfl (tA rfl rfl (tN (tT (tri_ret ?_))))
   refine tri_end A Suf.h rfl (.cons (rv_cellA rfl rfl rfl) (.cons (rv_tmp rfl) (.cons (rv_tmp rfl) .nil))) ⟨a3, c3, by rw [show R9.out ns r = (r.1.ns, r.2.1, 0) from if_neg x3]; rfl, ?_, rfl, fun _ h => hI3 (hI2 (hI1 h))⟩
   rw [show R9.out ns r = (r.1.ns, r.2.1, 0) from if_neg x3]
   exact hs3
end Go.GL


set_option linter.unusedVariables false
namespace Go.GL
open Go.Proofs
attribute [local irreducible] wpList Code.wp Exit.then Exit.inBlock Ends Tri TriH OpV OpG FnC epf wpAnyH
variable {A : List Asrt} {I : List Chunk}
theorem ref07_mayT {ns : List Node} {a : Option Addr} {cap : Nat} {room n : Int} (hs : SlAt I a ns) (hr : R6.right ns room) (hin : R6.inS ns n) (hl : 1 ≤ (R6.nd ns n).lv) :
  FnC Try.prog 64 [storeV a ns.length cap room, .int .i64 n].toArray A I (fun v A' I' => v = .bool true ∧ A = A' ∧ I = I') := by
 obtain ⟨hn0, hn1⟩ := hin
 have hl' : 1 ≤ (ns.getD n.toNat default).lv := hl
 have hn : ns.length ≤ 1000000000 := by have := hr.1; omega
 skip
 refine fn_enter2 Try.func64 rfl Try.ntmps64 rfl fun w0 => ?_
 refine tS (tR ?_)
 refine tri_g (opg_box_agg rfl) rfl ?_
 rintro _ _ _ ⟨b2, rfl, rfl, rfl⟩
 refine tA rfl rfl (tN (tT (tS (tR ?_))))
 refine tri_v (opv_loadA rfl rfl rfl) rfl ?_
 refine tri_g (opg_call (xs := [_]) rfl (ref06_right hs hn (R6.Mod.rng9 (R6.right_iff.1 hr).2.mod))) rfl ?_
 rintro _ _ _ ⟨rfl, rfl, rfl⟩
 refine tM rfl rfl ?_
 refine tri_true rfl rfl (hr) ?_
 refine tri_guard_run rfl rfl rfl (tM rfl rfl (tri_guard_run rfl rfl rfl ?_))
 refine tri_v (opv_geq rfl rfl) rfl ?_
 refine tri_v (opv_pick_t rfl rfl) rfl ?_
 refine tM rfl rfl ?_
 refine tri_true rfl rfl (hn0) ?_
 refine tri_guard_run rfl rfl rfl (tM rfl rfl (tri_guard_run rfl rfl rfl ?_))
 refine tri_v (opv_fieldAddr rfl rfl) rfl ?_
 refine tri_guard_run rfl rfl rfl ?_
 refine tri_v (opv_load1 rfl rfl rfl) rfl ?_
 refine tri_guard_run rfl rfl rfl ?_
 refine tri_v (opv_len rfl) rfl ?_
 refine tri_guard_run rfl rfl rfl ?_
 refine tri_v (opv_lss rfl rfl) rfl ?_
 refine tri_v (opv_pick_t rfl rfl) rfl ?_
 refine tM rfl rfl ?_
 refine tri_true rfl rfl (hn1) ?_
 refine tri_guard_run rfl rfl rfl ?_
 refine tri_v (opv_fieldAddr rfl rfl) rfl ?_
 refine tri_guard_run rfl rfl rfl ?_
 refine tri_v (opv_load1 rfl rfl rfl) rfl ?_
 refine tri_guard_run rfl rfl rfl (tM rfl rfl (tri_guard_run rfl rfl rfl ?_))
 refine tri_v (opv_indexAddrS rfl rfl (by omega) (by omega) (by assumption) rfl) rfl ?_
 refine tri_guard_run rfl rfl rfl ?_
 refine tri_v (opv_fieldAddrE rfl (by assumption) (by omega) rfl) rfl ?_
 refine tri_guard_run rfl rfl rfl ?_
 refine tri_v (opv_loadE1 rfl (by assumption) rfl (by omega) rfl rfl) rfl ?_
 refine tri_guard_run rfl rfl rfl ?_
 refine tri_v (opv_geq rfl rfl) rfl ?_
 refine tri_v (opv_pick_t rfl rfl) rfl ?_
 refine tA rfl rfl (tN (tT (tri_ret ?_)))
 refine tri_end A Suf.h rfl (.cons (rv_tmp rfl) .nil) ⟨congrArg Value.bool (decide_eq_true hl'), rfl, rfl⟩
theorem ref07_grow {k : Nat} {ns : List Node} {a : Option Addr} {cap : Nat} {room n : Int} {p : List Node × Int × Int} (hs : StA I a cap ns) (hr : R6.right ns room) (hn : R7.IsN ns (k + 2) n) (hk : k + 2 < 42) (h : R9.out ns (R9.grow room ⟨ns, []⟩ n) = p) :
  FnC Try.prog 34 [storeV a ns.length cap room, .int .i64 n].toArray A I (StoreR p room A I) := by
 subst h
 have hlv : (ns.getD n.toNat default).lv = (k + 2 : Nat) := hn.2
 obtain ⟨hn0, hn1⟩ := hn.1
 have hsl := hs.sl
 skip
 refine fn_enter2 Try.func34 rfl Try.ntmps34 rfl fun w0 => ?_
 refine tS (tR ?_)
 refine tri_g (opg_box_agg rfl) rfl ?_
 rintro _ _ _ ⟨b2, rfl, rfl, rfl⟩
 refine tri_g opg_alloc rfl ?_
 rintro _ _ _ ⟨b4, rfl, rfl, rfl⟩
 refine tA rfl rfl (tA rfl rfl (tN (tT (tS (tS (tR ?_))))))
 refine tri_v (opv_loadA rfl rfl rfl) rfl ?_
 refine tM rfl rfl ?_
 refine tri_g (opg_call (xs := [_, _]) rfl (ref07_mayT hsl hr hn.1 (show 1 ≤ (ns.getD n.toNat default).lv by omega))) rfl ?_
 rintro _ _ _ ⟨rfl, rfl, rfl⟩
 refine tri_v (opv_not rfl) rfl ?_
 refine tM rfl rfl ?_
 refine tri_bool 11 rfl (fun h => absurd h (by decide)) (fun _ => ?_)
 refine tri_guard_run rfl rfl rfl ?_
 refine tri_v (opv_fieldAddr rfl rfl) rfl ?_
 refine tri_guard_run rfl rfl rfl ?_
 refine tri_v (opv_load1 rfl rfl rfl) rfl ?_
 refine tri_guard_run rfl rfl rfl (tM rfl rfl (tri_guard_run rfl rfl rfl ?_))
 refine tri_v (opv_indexAddrS rfl rfl (by omega) (by omega) (by assumption) rfl) rfl ?_
 refine tri_guard_run rfl rfl rfl ?_
 refine tri_v (opv_fieldAddrE rfl (by assumption) (by omega) rfl) rfl ?_
 refine tri_guard_run rfl rfl rfl ?_
 refine tri_v (opv_loadE1 rfl (by assumption) rfl (by omega) rfl rfl) rfl ?_
 refine tri_guard_run rfl rfl rfl ?_
 refine tri_v (opv_geq rfl rfl) rfl ?_
 refine tri_v (opv_pick_f rfl rfl) rfl ?_
 refine tN (tT ?_)
 refine tri_cond_not rfl (by omega) ?_
 refine tri_skip (tT (tS (tR ?_)))
 refine tri_v (opv_loadA rfl rfl rfl) rfl ?_
 refine tM rfl rfl ?_
 refine tri_g (opg_call (xs := [_, _]) rfl (ref07_larger hs (R9.lk_nil hr) hn hk rfl)) rfl ?_
 rintro _ _ I3 ⟨a3, c3, rfl, hs3, rfl, hI3⟩
 refine tri_v (opv_extract rfl rfl) rfl ?_
 refine tri_v (opv_extract rfl rfl) rfl ?_
 refine tri_v (opv_extract rfl rfl) rfl ?_
 refine tri_g (opg_store rfl rfl rfl rfl rfl rfl) rfl ?_
 rintro _ _ _ ⟨rfl, rfl⟩
 refine tA rfl rfl (tA rfl rfl (tN (tT (tri_ret ?_))))
 refine tri_end A Suf.h rfl (.cons (rv_cellA rfl rfl rfl) (.cons (rv_tmp rfl) (.cons (rv_tmp rfl) .nil))) ⟨a3, c3, rfl, hs3, rfl, hI3⟩
theorem law09_fieldR {nodes : List Five} {raw : List Cell} {a a2 : Option Addr} {cap cap2 : Nat} {c level : Int} {p : List Node × Int × Int} (h0 : I64 c) (hs : SlAt I a nodes) (hf : RL.Fs nodes) (hs2 : SlAt I a2 raw) (hc : RL.Cs raw) (hl : I64 level) (h : RL.field c nodes raw level = p) :
  FnC Try.prog 13 [.int .i64 c, .slice a nodes.length cap, .slice a2 raw.length cap2, .int .i64 level].toArray A I (fun v A' I' => ∃ a' cap', v = .tuple [storeV a' p.1.length cap' (RL.room c + 600), .int .i64 p.2.1].toArray ∧ StA I' a' cap' p.1 ∧ A = A' ∧ I ⊆ I') := by
 subst h
 exact law09_field h0 hs hf hs2 hc hl
set_option maxHeartbeats 8000000 in
set_option maxRecDepth 100000 in
theorem law09_trims {nodes : List Five} {raw : List Cell} {a a2 : Option Addr} {cap cap2 : Nat} {c level times : Int} (h0 : I64 c) (hs : SlAt I a nodes) (hf : RL.Fs nodes) (hs2 : SlAt I a2 raw) (hc : RL.Cs raw) (hl : I64 level) (ht : I64 times) :
  FnC Try.prog 8 [.int .i64 c, .slice a nodes.length cap, .slice a2 raw.length cap2, .int .i64 level, .int .i64 times].toArray A I (fun v A' I' => v = .bool true ∧ A = A' ∧ I ⊆ I') := by
 obtain ⟨k, ms, m, eF, hk, hk3, hr, hml, hctr, hfl, hsrt⟩ := RL.field9 c nodes raw level
 have hrm := RL.room_bd c
 have hbt := pk_bd (c := times) (n := 9) (by omega)
 have wM := (R6.right_iff.1 hr).2
 obtain ⟨T, hT⟩ : ∃ T : Nat, pk times 9 = (T : Int) := ⟨(pk times 9).toNat, by omega⟩
 have eL := RL.of_ctr wM hctr hsrt (by omega) (by omega)
 generalize RL.fset (RL.fv level) raw = fs at *
 obtain ⟨room, hroom⟩ : ∃ r, RL.room c + 600 + 300 = r := ⟨_, rfl⟩
 rw [show RL.room c + 900 = room by omega] at hr
 have hlvM : (ms.getD m.toNat default).lv = ((k + 2 : Nat) : Int) := hctr.1.1.2
 have hofM := RL.ctr_le (by omega) hctr
 have ltM : 0 ≤ m ∧ m < ms.length := hctr.1.1.1
 skip
 refine fn_enter5 Try.func8 rfl Try.ntmps8 rfl fun w0 => ?_
 refine tS (tR (tA rfl rfl (tN (tT (tS (tR ?_))))))
 refine tri_g (opg_call (xs := []) rfl (law09_awake)) rfl ?_
 rintro _ _ I0 ⟨rfl, rfl, hI0⟩
 refine tA rfl rfl (tN (tT (tS (tR (tM rfl rfl (tM rfl rfl (tM rfl rfl ?_)))))))
 refine tM rfl rfl ?_
 refine tri_g (opg_call (xs := [_, _, _, _]) rfl (law09_fieldR h0 (hs.mono hI0) hf (hs2.mono hI0) hc hl eF)) rfl ?_
 rintro _ _ I1 ⟨x1, y1, rfl, hs1, rfl, hI1⟩
 refine tM rfl rfl ?_
 refine tri_v (opv_extract rfl rfl) rfl ?_
 refine tri_v (opv_extract rfl rfl) rfl ?_
 refine tri_g opg_alloc rfl ?_
 rintro _ _ _ ⟨b12, rfl, rfl, rfl⟩
 refine tri_g (opg_store rfl rfl rfl rfl rfl rfl) rfl ?_
 rintro _ _ _ ⟨rfl, rfl⟩
 refine tA rfl rfl (tN (tT (tS (tR ?_))))
 refine tri_v (opv_fieldAddr rfl rfl) rfl ?_
 refine tri_v (opv_load1 rfl rfl rfl) rfl ?_
 refine tU rfl rfl (by omega) (by omega) rfl ?_
 refine tri_v (opv_fieldAddr rfl rfl) rfl ?_
 refine tri_g (opg_store rfl rfl rfl rfl rfl rfl) rfl ?_
 rintro _ _ _ ⟨rfl, rfl⟩
 refine tN (tT (tS (tR ?_)))
 refine tri_v (opv_loadA rfl rfl rfl) rfl ?_
 refine tM rfl rfl ?_
 rw [hroom]
 refine tri_g (opg_call (xs := [_, _]) rfl (ref07_of hr hs1.sl hctr.1.1.1 (show 1 ≤ (R6.nd ms m).lv by rw [hctr.1.1.2]; omega) (by omega))) rfl ?_
 rintro _ _ I2 ⟨x2, y2, rfl, hs2', rfl, hI2⟩
 skip
 refine tri_g (opg_call (xs := [_]) rfl (ref01_of hs2' (by omega))) rfl ?_
 rintro _ _ I3 ⟨x3, y3, rfl, hs3, rfl, hI3⟩
 rw [eL] at hs3 ⊢
 have hs1 := (hs1.mono hI2).mono hI3
 have hI03 : I ⊆ I3 := fun _ h => hI3 (hI2 (hI1 (hI0 h)))
 refine tM rfl rfl ?_
 refine tri_v (opv_extract rfl rfl) rfl ?_
 refine tri_v (opv_extract rfl rfl) rfl ?_
 refine tA rfl rfl (tA rfl rfl (tN (tT (tS (tR ?_)))))
 refine tri_v (opv_loadA rfl rfl rfl) rfl ?_
 refine tri_g opg_alloc rfl ?_
 rintro _ _ _ ⟨b16, rfl, rfl, rfl⟩
 refine tri_g (opg_store rfl rfl rfl rfl rfl rfl) rfl ?_
 rintro _ _ _ ⟨rfl, rfl⟩
 refine tN (tT (tS (tR (tM rfl rfl (tA rfl rfl (tN (tT ?_)))))))
 refine tS (tS (tR (tA rfl rfl (tN (tT ?_)))))
 refine tri_cut (fun F' A' J => ∃ (gs : List Node) (g : Int) (x4 : Option Addr) (y4 : Nat), (StA J x4 y4 gs ∧ I3 ⊆ J ∧ R6.right gs room ∧ ms <+: gs ∧ (gs.length : Int) ≤ RL.room c + 160 + T * 18 ∧ R9.Ctr gs (k + T) g (R9.pl fs)) ∧ F' = [(11, .bool true), (13, .int .i64 m), (14, .slice x3 fs.length y3), (16, pt b16 0), (17, .int .i64 g)] ∧ A' = Box b16 [.slice x4 gs.length y4, .int .i64 room] 26 :: Box b12 [.slice x1 ms.length y1, .int .i64 room] 26 :: A) ?_ ?_
 ·refine tri_block ?_
  refine tri_sub (F' := [(4, .int .i64 times), (11, .bool true), (13, .int .i64 m), (14, .slice x3 fs.length y3), (16, pt b16 0), (17, .int .i64 m), (18, .int .i64 ((0 : Nat) : Int))]) ⟨rfl, rfl, rfl, rfl, rfl, rfl, rfl, trivial⟩ ?_
  refine loop_ind (G := Nat × List Node × Int × Option Addr × Nat × List Chunk) (fun g => T - g.1) (fun g => g.1 ≤ T ∧ StA g.2.2.2.2.2 g.2.2.2.1 g.2.2.2.2.1 g.2.1 ∧ I3 ⊆ g.2.2.2.2.2 ∧ R6.right g.2.1 room ∧ ms <+: g.2.1 ∧ (g.2.1.length : Int) ≤ RL.room c + 160 + g.1 * 18 ∧ R9.Ctr g.2.1 (k + g.1) g.2.2.1 (R9.pl fs)) (fun g => [(4, .int .i64 times), (11, .bool true), (13, .int .i64 m), (14, .slice x3 fs.length y3), (16, pt b16 0), (17, .int .i64 g.2.2.1), (18, .int .i64 (g.1 : Nat))]) (fun g => Box b16 [.slice g.2.2.2.1 g.2.1.length g.2.2.2.2.1, .int .i64 room] 26 :: Box b12 [.slice x1 ms.length y1, .int .i64 room] 26 :: A) (fun g => g.2.2.2.2.2) ?_ (0, ms, m, x1, y1, I3) ⟨by omega, hs1, fun _ h => h, hr, List.prefix_refl _, by simp only; omega, hctr⟩
  rintro ⟨i, gs, g, x4, y4, I4⟩ ⟨hi, hs4, hI4, hrG, hpG, hlG, hcG⟩ K hK
  simp only at hi hs4 hI4 hrG hpG hlG hcG hK ⊢
  skip
  refine tS (tS (tR (tM rfl rfl (tM rfl rfl ?_))))
  refine tri_g (opg_call (xs := [_, _]) rfl (law09_pick ht.1 ht.2 (by decide))) rfl ?_
  rintro _ _ _ ⟨rfl, rfl, rfl⟩
  refine tri_v (opv_lss rfl rfl) rfl ?_
  refine tN (tT ?_)
  refine tri_cond_dec rfl (fun h => ?_) (fun h => ?_)
  ·obtain ⟨p, hp⟩ : ∃ p, R9.out gs (R9.grow room ⟨gs, []⟩ g) = p := ⟨_, rfl⟩
   have hG := R9.growT_ok (k := k + i) (by omega) hrG hcG (by omega)
   rw [hp] at hG
   have hGe := hG.e
   have hGl := hG.len
   refine tri_skip (tT (tS (tri_block (tS (tR ?_)))))
   refine tri_v (opv_loadA rfl rfl rfl) rfl ?_
   refine tM rfl rfl ?_
   refine tri_g (opg_call (xs := [_, _]) rfl (ref07_grow hs4 hrG hcG.1.1 (by omega) hp)) rfl ?_
   rintro _ _ I5 ⟨x5, y5, rfl, hs5, rfl, hI5⟩
   refine tM rfl rfl ?_
   refine tri_v (opv_extract rfl rfl) rfl ?_
   refine tri_v (opv_extract rfl rfl) rfl ?_
   refine tri_v (opv_extract rfl rfl) rfl ?_
   refine tri_g opg_alloc rfl ?_
   rintro _ _ _ ⟨b19, rfl, rfl, rfl⟩
   refine tri_g (opg_store rfl rfl rfl rfl rfl rfl) rfl ?_
   rintro _ _ _ ⟨rfl, rfl⟩
   refine tA rfl rfl (tA rfl rfl (tN (tT (tS (tS (tR (tM rfl rfl ?_)))))))
   refine tri_v (opv_neq rfl rfl) rfl ?_
   refine tN (tT ?_)
   refine tri_cond_not rfl (by omega) ?_
   refine tri_skip (tT (tS (tR ?_)))
   refine tri_v (opv_loadA rfl rfl rfl) rfl ?_
   refine tri_g (opg_store rfl rfl rfl rfl rfl rfl) rfl ?_
   rintro _ _ _ ⟨rfl, rfl⟩
   refine tN (tT (tR (tM rfl rfl (tA rfl rfl (tN ?_)))))
   refine tri_inBlock ?_
   refine tT (tR (tM rfl rfl ?_))
   refine tU rfl rfl (by omega) (by omega) rfl ?_
   refine tA rfl rfl (tN (tT ?_))
   refine tri_drop (tri_sub ?_ (hK (i + 1, p.1, p.2.1, x5, y5, I5) ⟨by simp only; omega, hs5, fun _ h => hI5 (hI4 h), hG.right, hpG.trans hG.pre, by simp only; omega, hG.ctr⟩ (by simp only; omega)))
   exact ⟨rfl, rfl, rfl, rfl, rfl, rfl, rfl, trivial⟩
  ·have ei : i = T := by omega
   subst ei
   refine tri_exit ?_
   refine tri_then_exit ?_
   refine tri_then_exit ?_
   refine tri_inBlock_hit rfl ?_
   exact tri_cutEnd _ ⟨gs, g, x4, y4, ⟨hs4, hI4, hrG, hpG, hlG, hcG⟩, rfl, rfl⟩ ⟨rfl, rfl, rfl, rfl, rfl, trivial⟩
 rintro _ _ I4 ⟨gs, g, x4, y4, ⟨hs4, hI4, hrG, hpG, hlG, hcG⟩, rfl, rfl⟩
 have wG := (R6.right_iff.1 hrG).2
 have hA := R9.trimT_ok (k := k + T) (by omega) hrG hcG (by omega)
 obtain ⟨rA, eA⟩ : ∃ r, R9.trimT gs room g = r := ⟨_, rfl⟩
 rw [eA] at hA
 have wA := (R6.right_iff.1 hA.right).2
 obtain ⟨k', hk', cA, dA⟩ := hA.ctr
 have eBx := R9.trimT_trd hA.right cA dA
 obtain ⟨rB, eB⟩ : ∃ r, R9.trimT rA.1 room rA.2.1 = r := ⟨_, rfl⟩
 rw [eB] at eBx
 have hB1 : rB.1 = rA.1 := by rw [eBx]
 have hB2 : rB.2.1 = rA.2.1 := by rw [eBx]
 have hB3 : rB.2.2 = 0 := by rw [eBx]
 have hAl := hA.len
 have hAe := hA.e
 have hC := R9.trimT_ok (k := k) (by omega) hA.right (hctr.pre wM (hpG.trans hA.pre)) (by omega)
 obtain ⟨rC, eC⟩ : ∃ r, R9.trimT rA.1 room m = r := ⟨_, rfl⟩
 rw [eC] at hC
 have wC := (R6.right_iff.1 hC.right).2
 obtain ⟨k2, hk2, cC, dC⟩ := hC.ctr
 have hCe := hC.e
 have hCl := hC.len
 have hAC : rC.2.1 = rA.2.1 := R9.canon wC cC dC (cA.pre wA hC.pre) (dA.pre wA hC.pre cA.1.1)
 have ltA : 0 ≤ rA.2.1 ∧ rA.2.1 < rA.1.length := cA.1.1.1
 have lvA : (rA.1.getD rA.2.1.toNat default).lv = ((k' + 2 : Nat) : Int) := cA.1.1.2
 have leA : (R7.of rA.1 rA.2.1).length ≤ 67108864 := RL.ctr_le11 (by omega) cA
 have eLA := RL.of_ctr wA cA hsrt (by omega) (by omega)
 have lA9 : rA.1.length ≤ 1000000000 := by omega
 have lC9 : rC.1.length ≤ 1000000000 := by omega
 refine tT (tS (tR ?_))
 refine tri_v (opv_loadA rfl rfl rfl) rfl ?_
 refine tM rfl rfl ?_
 refine tri_g (opg_call (xs := [_, _]) rfl (leap_trimR hs4 (show gs.length ≤ 1000000000 by omega) eA)) rfl ?_
 rintro _ _ I5 ⟨x5, y5, rfl, hs5, rfl, hI5⟩
 refine tM rfl rfl ?_
 refine tri_v (opv_extract rfl rfl) rfl ?_
 refine tri_v (opv_extract rfl rfl) rfl ?_
 refine tri_v (opv_extract rfl rfl) rfl ?_
 refine tri_g opg_alloc rfl ?_
 rintro _ _ _ ⟨b22, rfl, rfl, rfl⟩
 refine tri_g (opg_store rfl rfl rfl rfl rfl rfl) rfl ?_
 rintro _ _ _ ⟨rfl, rfl⟩
 refine tA rfl rfl (tA rfl rfl (tN (tT (tS (tR ?_)))))
 refine tri_v (opv_loadA rfl rfl rfl) rfl ?_
 refine tM rfl rfl ?_
 refine tri_g (opg_call (xs := [_, _]) rfl (leap_trimR hs5 (show rA.1.length ≤ 1000000000 by omega) eB)) rfl ?_
 rintro _ _ I6 ⟨x6, y6, rfl, hs6, rfl, hI6⟩
 refine tM rfl rfl ?_
 refine tri_v (opv_extract rfl rfl) rfl ?_
 refine tri_v (opv_extract rfl rfl) rfl ?_
 refine tri_v (opv_extract rfl rfl) rfl ?_
 refine tri_g opg_alloc rfl ?_
 rintro _ _ _ ⟨b25, rfl, rfl, rfl⟩
 refine tri_g (opg_store rfl rfl rfl rfl rfl rfl) rfl ?_
 rintro _ _ _ ⟨rfl, rfl⟩
 refine tA rfl rfl (tA rfl rfl (tN (tT (tS (tR ?_)))))
 refine tri_v (opv_loadA rfl rfl rfl) rfl ?_
 refine tM rfl rfl ?_
 refine tri_g (opg_call (xs := [_, _]) rfl (leap_trimR (hs5.mono hI6) (show rA.1.length ≤ 1000000000 by omega) eC)) rfl ?_
 rintro _ _ I7 ⟨x7, y7, rfl, hs7, rfl, hI7⟩
 have nA : SlAt I7 x5 rA.1 := ((hs5.mono hI6).mono hI7).sl
 refine tM rfl rfl ?_
 refine tri_v (opv_extract rfl rfl) rfl ?_
 refine tri_v (opv_extract rfl rfl) rfl ?_
 refine tri_v (opv_extract rfl rfl) rfl ?_
 refine tri_g opg_alloc rfl ?_
 rintro _ _ _ ⟨b28, rfl, rfl, rfl⟩
 refine tri_g (opg_store rfl rfl rfl rfl rfl rfl) rfl ?_
 rintro _ _ _ ⟨rfl, rfl⟩
 refine tA rfl rfl (tA rfl rfl (tN (tT (tS (tS (tR (tM rfl rfl ?_)))))))
 refine tri_v (opv_neq rfl rfl) rfl ?_
 refine tM rfl rfl ?_
 refine tri_false rfl rfl (by omega) ?_
 refine tri_guard_run rfl rfl rfl (tM rfl rfl (tri_guard_run rfl rfl rfl ?_))
 refine tri_v (opv_neq rfl rfl) rfl ?_
 refine tri_v (opv_pick_f rfl rfl) rfl ?_
 refine tM rfl rfl ?_
 refine tri_false rfl rfl (by omega) ?_
 refine tri_guard_run rfl rfl rfl (tM rfl rfl (tri_guard_run rfl rfl rfl ?_))
 refine tri_v (opv_neq rfl rfl) rfl ?_
 refine tri_v (opv_pick_f rfl rfl) rfl ?_
 refine tM rfl rfl ?_
 refine tri_false rfl rfl (by omega) ?_
 refine tri_guard_run rfl rfl rfl (tM rfl rfl (tri_guard_run rfl rfl rfl ?_))
 refine tri_v (opv_fieldAddr rfl rfl) rfl ?_
 refine tri_guard_run rfl rfl rfl ?_
 refine tri_v (opv_load1 rfl rfl rfl) rfl ?_
 refine tri_guard_run rfl rfl rfl ?_
 refine tri_v (opv_len rfl) rfl ?_
 refine tri_guard_run rfl rfl rfl ?_
 refine tri_v (opv_geq rfl rfl) rfl ?_
 refine tri_v (opv_pick_f rfl rfl) rfl ?_
 refine tM rfl rfl ?_
 refine tri_false rfl rfl (by omega) ?_
 refine tri_guard_run rfl rfl rfl ?_
 refine tri_v (opv_fieldAddr rfl rfl) rfl ?_
 refine tri_guard_run rfl rfl rfl ?_
 refine tri_v (opv_load1 rfl rfl rfl) rfl ?_
 refine tri_guard_run rfl rfl rfl (tM rfl rfl (tri_guard_run rfl rfl rfl ?_))
 refine tri_v (opv_indexAddrS rfl rfl (by omega) (by omega) (by assumption) rfl) rfl ?_
 refine tri_guard_run rfl rfl rfl ?_
 refine tri_v (opv_fieldAddrE rfl (by assumption) (by omega) rfl) rfl ?_
 refine tri_guard_run rfl rfl rfl ?_
 refine tri_v (opv_loadE1 rfl (by assumption) rfl (by omega) rfl rfl) rfl ?_
 refine tri_guard_run rfl rfl rfl ?_
 refine tri_v (opv_lss rfl rfl) rfl ?_
 refine tri_v (opv_pick_f rfl rfl) rfl ?_
 refine tN (tT ?_)
 refine tri_cond_not rfl (by rw [lvA]; omega) ?_
 refine tri_skip (tT (tS (tR ?_)))
 refine tri_v (opv_loadA rfl rfl rfl) rfl ?_
 refine tM rfl rfl ?_
 refine tri_g (opg_call (xs := [_, _]) rfl (ref07_of hA.right nA cA.1.1.1 (show 1 ≤ (R6.nd rA.1 rA.2.1).lv by rw [cA.1.1.2]; omega) (by omega))) rfl ?_
 rintro _ _ I8 ⟨x8, y8, rfl, hs8, rfl, hI8⟩
 skip
 refine tri_g (opg_call (xs := [_]) rfl (ref01_of hs8 (by omega))) rfl ?_
 rintro _ _ I9 ⟨x9, y9, rfl, hs9, rfl, hI9⟩
 rw [eLA] at hs9 ⊢
 have hI39 : I3 ⊆ I9 := fun _ h => hI9 (hI8 (hI7 (hI6 (hI5 (hI4 h)))))
 have nA := (nA.mono hI8).mono hI9
 have hs3 := hs3.mono hI39
 have hI09 : I ⊆ I9 := fun _ h => hI39 (hI03 h)
 refine tM rfl rfl ?_
 refine tri_v (opv_extract rfl rfl) rfl ?_
 refine tri_v (opv_extract rfl rfl) rfl ?_
 refine tA rfl rfl (tA rfl rfl (tN (tT (tS (tR ?_)))))
 refine tri_v (opv_fieldAddr rfl rfl) rfl ?_
 refine tri_v (opv_load1 rfl rfl rfl) rfl ?_
 refine tM rfl rfl ?_
 refine tri_v (opv_indexAddrS rfl rfl (by omega) (by omega) (by assumption) rfl) rfl ?_
 refine tri_v (opv_fieldAddrE rfl (by assumption) (by omega) rfl) rfl ?_
 refine tri_v (opv_loadE1 rfl (by assumption) rfl (by omega) rfl rfl) rfl ?_
 refine tA rfl rfl (tN (tT (tS (tR (tA rfl rfl (tN (tT ?_)))))))
 refine tS (tS (tR (tA rfl rfl (tN (tT ?_)))))
 refine tri_cut (fun F' A' J => (J = I9) ∧ F' = [(11, .bool true), (14, .slice x3 fs.length y3), (22, pt b22 0), (23, .int .i64 rA.2.1), (25, pt b25 0), (26, .int .i64 rB.2.1), (28, pt b28 0), (29, .int .i64 rC.2.1), (31, .slice x9 fs.length y9), (33, .int .i64 (rA.1.getD rA.2.1.toNat default).lv), (34, .int .i64 ((k' : Nat) + 2 : Int))] ∧ A' = Box b28 [.slice x7 rC.1.length y7, .int .i64 room] 26 :: Box b25 [.slice x6 rB.1.length y6, .int .i64 room] 26 :: Box b22 [.slice x5 rA.1.length y5, .int .i64 room] 26 :: Box b16 [.slice x4 gs.length y4, .int .i64 room] 26 :: Box b12 [.slice x1 ms.length y1, .int .i64 room] 26 :: A) ?_ ?_
 ·refine tri_block ?_
  refine tri_sub (F' := [(11, .bool true), (14, .slice x3 fs.length y3), (22, pt b22 0), (23, .int .i64 rA.2.1), (25, pt b25 0), (26, .int .i64 rB.2.1), (28, pt b28 0), (29, .int .i64 rC.2.1), (31, .slice x9 fs.length y9), (33, .int .i64 (rA.1.getD rA.2.1.toNat default).lv), (34, .int .i64 ((0 : Nat) + 2 : Int)), (35, .int .i64 (0 : Nat))]) ⟨rfl, rfl, rfl, rfl, rfl, rfl, rfl, rfl, rfl, rfl, rfl, rfl, trivial⟩ ?_
  refine loop_ind (G := Nat × Nat) (fun g => fs.length - g.1) (fun g => g.1 ≤ fs.length ∧ g.2 ≤ k' ∧ ∀ j, j < g.1 → R7.inL ((g.2 : Int) + 2) (fs.getD j default)) (fun g => [(11, .bool true), (14, .slice x3 fs.length y3), (22, pt b22 0), (23, .int .i64 rA.2.1), (25, pt b25 0), (26, .int .i64 rB.2.1), (28, pt b28 0), (29, .int .i64 rC.2.1), (31, .slice x9 fs.length y9), (33, .int .i64 (rA.1.getD rA.2.1.toNat default).lv), (34, .int .i64 ((g.2 : Nat) + 2 : Int)), (35, .int .i64 (g.1 : Nat))]) (fun _ => _) (fun _ => _) ?_ (0, 0) ⟨by omega, by omega, fun j h => absurd h (by omega)⟩
  rintro ⟨i, L⟩ ⟨hi, hL, hin⟩ K hK
  simp only at hi hL hin hK ⊢
  skip
  refine tS (tS (tR (tM rfl rfl (tM rfl rfl ?_))))
  refine tri_v (opv_len rfl) rfl ?_
  refine tri_v (opv_lss rfl rfl) rfl ?_
  refine tN (tT ?_)
  refine tri_cond_dec rfl (fun h => ?_) (fun h => ?_)
  ·have hlt : i < fs.length := by omega
   have hci : fs.getD i default ∈ fs := by rw [List.getD_eq_getElem?_getD, List.getElem?_eq_getElem hlt]; exact List.getElem_mem hlt
   refine tri_skip (tT (tS ?_))
   refine tri_cut (fun F' A' J => ∃ M : Nat, (L ≤ M ∧ M ≤ k' ∧ R7.inL ((M : Int) + 2) (fs.getD i default) ∧ J = I9) ∧ F' = [(11, .bool true), (14, .slice x3 fs.length y3), (22, pt b22 0), (23, .int .i64 rA.2.1), (25, pt b25 0), (26, .int .i64 rB.2.1), (28, pt b28 0), (29, .int .i64 rC.2.1), (31, .slice x9 fs.length y9), (33, .int .i64 (rA.1.getD rA.2.1.toNat default).lv), (34, .int .i64 ((M : Nat) + 2 : Int)), (35, .int .i64 (i : Nat))] ∧ A' = Box b28 [.slice x7 rC.1.length y7, .int .i64 room] 26 :: Box b25 [.slice x6 rB.1.length y6, .int .i64 room] 26 :: Box b22 [.slice x5 rA.1.length y5, .int .i64 room] 26 :: Box b16 [.slice x4 gs.length y4, .int .i64 room] 26 :: Box b12 [.slice x1 ms.length y1, .int .i64 room] 26 :: A) ?_ ?_
   ·refine tri_block (tri_block ?_)
    refine tri_sub (F' := [(11, .bool true), (14, .slice x3 fs.length y3), (22, pt b22 0), (23, .int .i64 rA.2.1), (25, pt b25 0), (26, .int .i64 rB.2.1), (28, pt b28 0), (29, .int .i64 rC.2.1), (31, .slice x9 fs.length y9), (33, .int .i64 (rA.1.getD rA.2.1.toNat default).lv), (34, .int .i64 ((L : Nat) + 2 : Int)), (35, .int .i64 (i : Nat))]) ⟨rfl, rfl, rfl, rfl, rfl, rfl, rfl, rfl, rfl, rfl, rfl, rfl, trivial⟩ ?_
    refine loop_ind (G := Nat) (fun g => k' - g) (fun g => L ≤ g ∧ g ≤ k') (fun g => [(11, .bool true), (14, .slice x3 fs.length y3), (22, pt b22 0), (23, .int .i64 rA.2.1), (25, pt b25 0), (26, .int .i64 rB.2.1), (28, pt b28 0), (29, .int .i64 rC.2.1), (31, .slice x9 fs.length y9), (33, .int .i64 (rA.1.getD rA.2.1.toNat default).lv), (34, .int .i64 ((g : Nat) + 2 : Int)), (35, .int .i64 (i : Nat))]) (fun _ => _) (fun _ => _) ?_ L ⟨Nat.le_refl _, hL⟩
    rintro g ⟨hg1, hg2⟩ K' hK'
    skip
    refine tS (tS (tR (tM rfl rfl (tM rfl rfl (tM rfl rfl ?_)))))
    refine tri_v (opv_indexAddrSN rfl rfl (by omega) (by assumption) rfl) rfl ?_
    refine tri_v (opv_loadEA rfl (by assumption) rfl (by omega) rfl rfl) rfl ?_
    refine tri_g (opg_call (xs := [_, _]) rfl (ref07_in (lv := (g : Int) + 2) (c := fs.getD i default) (by omega) (by omega))) rfl ?_
    rintro _ _ _ ⟨rfl, rfl, rfl⟩
    refine tri_v (opv_notD rfl) rfl ?_
    refine tN (tT ?_)
    refine tri_cond_dec rfl (fun h3 => ?_) (fun h3 => ?_)
    ·have hgk := RL.least_lt cA hg2 hci h3
     refine tri_skip (tT (tri_block (tR (tM rfl rfl ?_))))
     refine tU rfl rfl (by omega) (by omega) rfl ?_
     refine tA rfl rfl (tN ?_)
     refine tri_inBlock ?_
     refine tT ?_
     refine tri_sub ?_ (hK' (g + 1) ⟨by omega, by omega⟩ (by omega))
     rw [show ((g + 1 : Nat) : Int) + 2 = (g : Int) + 2 + 1 by omega]
     exact ⟨rfl, rfl, rfl, rfl, rfl, rfl, rfl, rfl, rfl, rfl, rfl, rfl, trivial⟩
    ·refine tri_exit ?_
     refine tri_then_exit ?_
     refine tri_then_exit ?_
     refine tri_inBlock_hit rfl ?_
     refine tri_inBlock ?_
     exact tri_cutEnd _ ⟨g, ⟨hg1, hg2, Decidable.not_not.1 h3, rfl⟩, rfl, rfl⟩ ⟨rfl, rfl, rfl, rfl, rfl, rfl, rfl, rfl, rfl, rfl, rfl, rfl, trivial⟩
   rintro _ _ _ ⟨M, ⟨hM1, hM2, hM3, rfl⟩, rfl, rfl⟩
   refine tT (tR (tM rfl rfl ?_))
   refine tU rfl rfl (by omega) (by omega) rfl ?_
   refine tA rfl rfl (tN (tT ?_))
   refine tri_sub ?_ (hK (i + 1, M) ⟨by simp only; omega, hM2, fun j hj => ?_⟩ (by simp only; omega))
   ·exact ⟨rfl, rfl, rfl, rfl, rfl, rfl, rfl, rfl, rfl, rfl, rfl, rfl, trivial⟩
   ·simp only at hj
    rcases (by omega : j < i ∨ j = i) with h' | rfl
    ·exact RL.inL_le hM1 (hin j h')
    ·exact hM3
  ·have hLk : L = k' := RL.least_ok wA cA dA hL fun d hd => by
    obtain ⟨j, hj, rfl⟩ := List.mem_iff_getElem.1 hd
    have := hin j (by omega)
    rwa [show fs.getD j default = fs[j] by simp [hj]] at this
   subst hLk
   refine tri_exit ?_
   refine tri_then_exit ?_
   refine tri_then_exit ?_
   refine tri_inBlock_hit rfl ?_
   exact tri_cutEnd _ ⟨rfl, rfl, rfl⟩ ⟨rfl, rfl, rfl, rfl, rfl, rfl, rfl, rfl, rfl, rfl, rfl, trivial⟩
 rintro _ _ _ ⟨rfl, rfl, rfl⟩
 have nB := (((hs6.mono hI7).mono hI8).mono hI9).sl
 have nC := ((hs7.mono hI8).mono hI9).sl
 refine tT (tS (tR (tM rfl rfl (tM rfl rfl ?_))))
 refine tri_bool 151 rfl (fun _ => ?_) (fun h => absurd h (by decide))
 refine tri_guard_run rfl rfl rfl (tM rfl rfl (tri_guard_run rfl rfl rfl (tM rfl rfl (tri_guard_run rfl rfl rfl ?_))))
 refine tri_v (opv_eql rfl rfl) rfl ?_
 refine tri_v (opv_pick_t rfl rfl) rfl ?_
 refine tM rfl rfl ?_
 refine tri_true rfl rfl (hB2.symm) ?_
 refine tri_guard_run rfl rfl rfl (tM rfl rfl (tri_guard_run rfl rfl rfl (tM rfl rfl (tri_guard_run rfl rfl rfl ?_))))
 refine tri_v (opv_eql rfl rfl) rfl ?_
 refine tri_v (opv_pick_t rfl rfl) rfl ?_
 refine tM rfl rfl ?_
 refine tri_true rfl rfl (hAC.symm) ?_
 refine tri_guard_run rfl rfl rfl ?_
 refine tri_v (opv_loadA rfl rfl rfl) rfl ?_
 refine tri_guard_run rfl rfl rfl ?_
 refine tri_v (opv_loadA rfl rfl rfl) rfl ?_
 refine tri_guard_run rfl rfl rfl ?_
 refine tri_g (opg_call (xs := [_, _]) rfl (ref06_same nA nB lA9)) rfl ?_
 rintro _ _ _ ⟨rfl, rfl, rfl⟩
 refine tri_v (opv_pick_t rfl rfl) rfl ?_
 refine tM rfl rfl ?_
 refine tri_true rfl rfl (⟨rfl, hB1.symm⟩) ?_
 refine tri_guard_run rfl rfl rfl ?_
 refine tri_v (opv_loadA rfl rfl rfl) rfl ?_
 refine tri_guard_run rfl rfl rfl ?_
 refine tri_g (opg_call (xs := [_]) rfl (ref06_right nC lC9 (R6.Mod.rng9 wC.mod))) rfl ?_
 rintro _ _ _ ⟨rfl, rfl, rfl⟩
 refine tri_v (opv_pick_t rfl rfl) rfl ?_
 refine tM rfl rfl ?_
 refine tri_true rfl rfl (hC.right) ?_
 refine tri_guard_run rfl rfl rfl (tM rfl rfl (tri_guard_run rfl rfl rfl (tM rfl rfl (tri_guard_run rfl rfl rfl ?_))))
 refine tri_g (opg_call (xs := [_, _]) rfl (ref01_same hs9 hs3 (show fs.length ≤ 1000000000 by omega))) rfl ?_
 rintro _ _ _ ⟨rfl, rfl, rfl⟩
 refine tri_v (opv_pick_t rfl rfl) rfl ?_
 refine tM rfl rfl ?_
 refine tri_true rfl rfl (rfl) ?_
 refine tri_guard_run rfl rfl rfl (tM rfl rfl (tri_guard_run rfl rfl rfl (tM rfl rfl (tri_guard_run rfl rfl rfl ?_))))
 refine tri_v (opv_eql rfl rfl) rfl ?_
 refine tri_v (opv_pick_t rfl rfl) rfl ?_
 refine tA rfl rfl (tN (tT (tri_ret ?_)))
 refine tri_end _ (⟨[_, _, _, _, _], rfl⟩) rfl (.cons (rv_tmp rfl) .nil) ⟨?_, rfl, hI09⟩
 exact congrArg Value.bool (decide_eq_true (by rw [lvA]; omega))
end Go.GL

