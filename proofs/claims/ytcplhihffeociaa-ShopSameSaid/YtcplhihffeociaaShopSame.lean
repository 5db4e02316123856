/- The law ShopSame answers true, whatever it is called with, and leaves its arguments as they were. No condition. -/
import Derived.Test.YtcplhihffeociaaPart6
import Derived.Test.YtcplhihffeociaaRows
set_option linter.unusedVariables false
namespace Go.Proofs.Ytcplhihffeociaa.shopSame
open Go.ChangeShapes Go.WideShapes Go.ChangeAt Go.RowKit Go.GL
set_option maxRecDepth 100000 in
theorem lifted (os : Os) (started : os.Started) (H : Type) (enc : TypeId × Value → H) :
  ReturnsInHanded {} Try.checked os 4 .any (Rows.shopSameSpec.pre6 enc Try.prog Try.f4 Rows.shopSameRow.domain false) (Rows.shopSameSpec.post enc Try.prog Try.f4 false true false false) := by
 refine returnsInHanded_of_change (C := Try.checked) GL.own started (by kernel_rfl) Try.func4
  (ChangeSpec.witness6 (enc := enc) (C := Try.checked) false ⟨#[], #[.int .i64 0, .slice none 0 0, .slice none 0 0, .int .i64 0, .int .i64 0, .int .i64 0, .slice none 0 0], []⟩ 8 (by kernel_rfl) (by kernel_rfl) (by kernel_rfl) (by kernel_rfl)) ?_
 intro W base args ds gs before hval0 hW hcnd _
 have hval : ∀ (j : Nat) t v, Try.f4.params[j]? = some t → args[j]? = some v → Value.okWide Try.prog W .any base t v := hval0
 have hW' := hW
 obtain ⟨p, q, hA0, hV, rfl, hfz, hnd⟩ := hW
 have hA : DataW.TrodAll enc Try.prog W 0 (fun _ => true) true Try.f4.params.toList args.toList ds p := hA0
 rw [Try.params4] at hA hval
 obtain ⟨v0, vs0, d0, ds0, p0, q0, hargs, rfl, rfl, h0, r0⟩ := trodAll_cons hA
 obtain ⟨v1, vs1, d1, ds1, p1, q1, rfl, rfl, rfl, h1, r1⟩ := trodAll_cons r0
 obtain ⟨v2, vs2, d2, ds2, p2, q2, rfl, rfl, rfl, h2, r2⟩ := trodAll_cons r1
 obtain ⟨v3, vs3, d3, ds3, p3, q3, rfl, rfl, rfl, h3, r3⟩ := trodAll_cons r2
 obtain ⟨v4, vs4, d4, ds4, p4, q4, rfl, rfl, rfl, h4, r4⟩ := trodAll_cons r3
 obtain ⟨v5, vs5, d5, ds5, p5, q5, rfl, rfl, rfl, h5, r5⟩ := trodAll_cons r4
 obtain ⟨v6, vs6, d6, ds6, p6, q6, rfl, rfl, rfl, h6, r6⟩ := trodAll_cons r5
 obtain ⟨rfl, rfl, rfl⟩ := trodAll_nil r6
 obtain rfl : args = #[v0, v1, v2, v3, v4, v5, v6] := by cases args; simp_all
 obtain ⟨rfl, rfl⟩ := trodVars_none hV
 obtain ⟨n0, rfl, i0⟩ := open_i64 (hval 0 3 _ rfl rfl) h0
 obtain ⟨a1, cap1, x1, rfl, s1, k1, l1, m1⟩ := open_slv (α := GL.Five) num_5 (by decide) (hval 1 22 _ rfl rfl) h1
 obtain ⟨a2, cap2, x2, rfl, s2, k2, l2, m2⟩ := open_slv (α := GL.Cell) num_2 (by decide) (hval 2 23 _ rfl rfl) h2
 obtain ⟨n3, rfl, i3⟩ := open_i64 (hval 3 3 _ rfl rfl) h3
 obtain ⟨n4, rfl, i4⟩ := open_i64 (hval 4 3 _ rfl rfl) h4
 obtain ⟨n5, rfl, i5⟩ := open_i64 (hval 5 3 _ rfl rfl) h5
 obtain ⟨a6, cap6, x6, rfl, s6, k6, l6, m6⟩ := open_slv (α := Int) num_int (by decide) (hval 6 27 _ rfl rfl) h6
 clear hA0 hval0
 refine (calls_of_fnC (law21_shopsame i0 s1.sl (RL.fs_ok k1) s2.sl (RL.cs_ok k2) i3 i4 i5 s6.sl (is_ok k6))).mono fun e W' ⟨he, hB⟩ => ?_
 exact ⟨_, he, law_post (P := Try.prog) (tb := 4) laid (by rw [Try.params4]; decide +kernel) (by kernel_rfl) rfl hW' rfl rfl rfl hB⟩
theorem over : Rows.shopSameRow.holds Try.pinned (OpenSpec.ofChange Rows.shopSameSpec) :=
 OpenClaim.holds_of_wide 4 Try.f4 rfl rfl rfl rfl rfl rfl rfl ⟨rfl, rfl, rfl, rfl, rfl⟩ rfl rfl rfl rfl rfl (by kernel_rfl) Try.func4 (by kernel_rfl)
  (of_decide_eq_true (by kernel_rfl)) (by unfold Func.isWrapper; first | (rw [if_pos (by decide +kernel)]; kernel_rfl) | (rw [if_neg (by decide +kernel)]; exact ⟨rfl, rfl⟩))
  (fun os started H enc _ => lifted os started H enc)
theorem proved : Rows.ShopSameSaid :=
 over
end Go.Proofs.Ytcplhihffeociaa.shopSame

