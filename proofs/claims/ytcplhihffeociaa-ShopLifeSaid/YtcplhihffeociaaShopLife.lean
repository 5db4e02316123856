/- The law ShopLife answers true, whatever it is called with, and leaves its arguments as they were. No condition. -/
import Derived.Test.YtcplhihffeociaaPart5
import Derived.Test.YtcplhihffeociaaRows
set_option linter.unusedVariables false
namespace Go.Proofs.Ytcplhihffeociaa.shopLife
open Go.ChangeShapes Go.WideShapes Go.ChangeAt Go.RowKit Go.GL
set_option maxRecDepth 100000 in
theorem lifted (os : Os) (started : os.Started) (H : Type) (enc : TypeId × Value → H) :
  ReturnsInHanded {} Try.checked os 6 .any (Rows.shopLifeSpec.pre6 enc Try.prog Try.f6 Rows.shopLifeRow.domain false) (Rows.shopLifeSpec.post enc Try.prog Try.f6 false true false false) := by
 refine returnsInHanded_of_change (C := Try.checked) GL.own started (by kernel_rfl) Try.func6
  (ChangeSpec.witness6 (enc := enc) (C := Try.checked) false ⟨#[], #[.slice none 0 0, .int .i64 0, .int .i64 0, .int .i64 0, .slice none 0 0], []⟩ 8 (by kernel_rfl) (by kernel_rfl) (by kernel_rfl) (by kernel_rfl)) ?_
 intro W base args ds gs before hval0 hW hcnd _
 have hval : ∀ (j : Nat) t v, Try.f6.params[j]? = some t → args[j]? = some v → Value.okWide Try.prog W .any base t v := hval0
 have hW' := hW
 obtain ⟨p, q, hA0, hV, rfl, hfz, hnd⟩ := hW
 have hA : DataW.TrodAll enc Try.prog W 0 (fun _ => true) true Try.f6.params.toList args.toList ds p := hA0
 rw [Try.params6] at hA hval
 obtain ⟨v0, vs0, d0, ds0, p0, q0, hargs, rfl, rfl, h0, r0⟩ := trodAll_cons hA
 obtain ⟨v1, vs1, d1, ds1, p1, q1, rfl, rfl, rfl, h1, r1⟩ := trodAll_cons r0
 obtain ⟨v2, vs2, d2, ds2, p2, q2, rfl, rfl, rfl, h2, r2⟩ := trodAll_cons r1
 obtain ⟨v3, vs3, d3, ds3, p3, q3, rfl, rfl, rfl, h3, r3⟩ := trodAll_cons r2
 obtain ⟨v4, vs4, d4, ds4, p4, q4, rfl, rfl, rfl, h4, r4⟩ := trodAll_cons r3
 obtain ⟨rfl, rfl, rfl⟩ := trodAll_nil r4
 obtain rfl : args = #[v0, v1, v2, v3, v4] := by cases args; simp_all
 obtain ⟨rfl, rfl⟩ := trodVars_none hV
 obtain ⟨a0, cap0, x0, rfl, s0, k0, l0, m0⟩ := open_slv (α := GL.Cell) num_2 (by decide) (hval 0 23 _ rfl rfl) h0
 obtain ⟨n1, rfl, i1⟩ := open_i64 (hval 1 3 _ rfl rfl) h1
 obtain ⟨n2, rfl, i2⟩ := open_i64 (hval 2 3 _ rfl rfl) h2
 obtain ⟨n3, rfl, i3⟩ := open_i64 (hval 3 3 _ rfl rfl) h3
 obtain ⟨a4, cap4, x4, rfl, s4, k4, l4, m4⟩ := open_slv (α := Int) num_int (by decide) (hval 4 27 _ rfl rfl) h4
 clear hA0 hval0
 refine (calls_of_fnC (law21_life s0.sl (RL.cs_ok k0) i1 i2 i3 s4.sl (is_ok k4))).mono fun e W' ⟨he, hB⟩ => ?_
 exact ⟨_, he, law_post (P := Try.prog) (tb := 4) laid (by rw [Try.params6]; decide +kernel) (by kernel_rfl) rfl hW' rfl rfl rfl hB⟩
theorem over : Rows.shopLifeRow.holds Try.pinned (OpenSpec.ofChange Rows.shopLifeSpec) :=
 OpenClaim.holds_of_wide 6 Try.f6 rfl rfl rfl rfl rfl rfl rfl ⟨rfl, rfl, rfl, rfl, rfl⟩ rfl rfl rfl rfl rfl (by kernel_rfl) Try.func6 (by kernel_rfl)
  (of_decide_eq_true (by kernel_rfl)) (by unfold Func.isWrapper; first | (rw [if_pos (by decide +kernel)]; kernel_rfl) | (rw [if_neg (by decide +kernel)]; exact ⟨rfl, rfl⟩))
  (fun os started H enc _ => lifted os started H enc)
theorem proved : Rows.ShopLifeSaid :=
 over
end Go.Proofs.Ytcplhihffeociaa.shopLife

