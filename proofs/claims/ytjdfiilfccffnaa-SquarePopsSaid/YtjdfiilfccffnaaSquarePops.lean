/- The law SquarePops answers true, whatever it is called with, and leaves its arguments as they were. No condition. -/
import Derived.Test.YtjdfiilfccffnaaPart5
import Derived.Test.YtjdfiilfccffnaaRows
set_option linter.unusedVariables false
namespace Go.Proofs.Ytjdfiilfccffnaa.squarePops
open Go.ChangeShapes Go.WideShapes Go.ChangeAt Go.RowKit Go.GL
set_option maxRecDepth 100000 in
theorem lifted (os : Os) (started : os.Started) (H : Type) (enc : TypeId × Value → H) :
  ReturnsInHanded {} Try.checked os 9 .any (Rows.squarePopsSpec.pre6 enc Try.prog Try.f9 Rows.squarePopsRow.domain false) (Rows.squarePopsSpec.post enc Try.prog Try.f9 false true false false) := by
 refine returnsInHanded_of_change (C := Try.checked) GL.own started (by kernel_rfl) Try.func9
  (ChangeSpec.witness6 (enc := enc) (C := Try.checked) false ⟨#[], #[.int .i64 0, .slice none 0 0, .slice none 0 0, .int .i64 0], []⟩ 8 (by kernel_rfl) (by kernel_rfl) (by kernel_rfl) (by kernel_rfl)) ?_
 intro W base args ds gs before hval0 hW hcnd _
 have hval : ∀ (j : Nat) t v, Try.f9.params[j]? = some t → args[j]? = some v → Value.okWide Try.prog W .any base t v := hval0
 have hW' := hW
 obtain ⟨p, q, hA0, hV, rfl, hfz, hnd⟩ := hW
 have hA : DataW.TrodAll enc Try.prog W 0 (fun _ => true) true Try.f9.params.toList args.toList ds p := hA0
 rw [Try.params9] at hA hval
 obtain ⟨v0, vs0, d0, ds0, p0, q0, hargs, rfl, rfl, h0, r0⟩ := trodAll_cons hA
 obtain ⟨v1, vs1, d1, ds1, p1, q1, rfl, rfl, rfl, h1, r1⟩ := trodAll_cons r0
 obtain ⟨v2, vs2, d2, ds2, p2, q2, rfl, rfl, rfl, h2, r2⟩ := trodAll_cons r1
 obtain ⟨v3, vs3, d3, ds3, p3, q3, rfl, rfl, rfl, h3, r3⟩ := trodAll_cons r2
 obtain ⟨rfl, rfl, rfl⟩ := trodAll_nil r3
 obtain rfl : args = #[v0, v1, v2, v3] := by cases args; simp_all
 obtain ⟨rfl, rfl⟩ := trodVars_none hV
 obtain ⟨n0, rfl, i0⟩ := open_i64 (hval 0 3 _ rfl rfl) h0
 obtain ⟨a1, cap1, x1, rfl, s1, k1, l1, m1⟩ := open_slv (α := GL.Five) num_5 (by decide) (hval 1 22 _ rfl rfl) h1
 obtain ⟨a2, cap2, x2, rfl, s2, k2, l2, m2⟩ := open_slv (α := GL.Cell) num_2 (by decide) (hval 2 23 _ rfl rfl) h2
 obtain ⟨n3, rfl, i3⟩ := open_i64 (hval 3 3 _ rfl rfl) h3
 clear hA0 hval0
 refine (calls_of_fnC (law07_pops i0 s1.sl (RL.fs_ok k1) s2.sl (RL.cs_ok k2) i3)).mono fun e W' ⟨he, hB⟩ => ?_
 exact ⟨_, he, law_post (P := Try.prog) (tb := 4) laid (by rw [Try.params9]; decide +kernel) (by kernel_rfl) rfl hW' rfl rfl rfl hB⟩
theorem over : Rows.squarePopsRow.holds Try.pinned (OpenSpec.ofChange Rows.squarePopsSpec) :=
 OpenClaim.holds_of_wide 9 Try.f9 rfl rfl rfl rfl rfl rfl rfl ⟨rfl, rfl, rfl, rfl, rfl⟩ rfl rfl rfl rfl rfl (by kernel_rfl) Try.func9 (by kernel_rfl)
  (of_decide_eq_true (by kernel_rfl)) (by unfold Func.isWrapper; first | (rw [if_pos (by decide +kernel)]; kernel_rfl) | (rw [if_neg (by decide +kernel)]; exact ⟨rfl, rfl⟩))
  (fun os started H enc _ => lifted os started H enc)
theorem proved : Rows.SquarePopsSaid :=
 over
end Go.Proofs.Ytjdfiilfccffnaa.squarePops

