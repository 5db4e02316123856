/- The law LeapFar answers true, whatever it is called with, and leaves its arguments as they were. No condition. -/
import Derived.Test.YtfcijboaamelfaaPart4
import Derived.Test.YtfcijboaamelfaaRows
set_option linter.unusedVariables false
namespace Go.Proofs.Ytfcijboaamelfaa.leapFar
open Go.ChangeShapes Go.WideShapes Go.ChangeAt Go.RowKit Go.GL
set_option maxRecDepth 100000 in
theorem lifted (os : Os) (started : os.Started) (H : Type) (enc : TypeId × Value → H) :
  ReturnsInHanded {} Try.checked os 7 .any (Rows.leapFarSpec.pre6 enc Try.prog Try.f7 Rows.leapFarRow.domain false) (Rows.leapFarSpec.post enc Try.prog Try.f7 false true false false) := by
 refine returnsInHanded_of_change (C := Try.checked) GL.own started (by kernel_rfl) Try.func7
  (ChangeSpec.witness6 (enc := enc) (C := Try.checked) false ⟨#[], #[.int .i64 0], []⟩ 8 (by kernel_rfl) (by kernel_rfl) (by kernel_rfl) (by kernel_rfl)) ?_
 intro W base args ds gs before hval0 hW hcnd _
 have hval : ∀ (j : Nat) t v, Try.f7.params[j]? = some t → args[j]? = some v → Value.okWide Try.prog W .any base t v := hval0
 have hW' := hW
 obtain ⟨p, q, hA0, hV, rfl, hfz, hnd⟩ := hW
 have hA : DataW.TrodAll enc Try.prog W 0 (fun _ => true) true Try.f7.params.toList args.toList ds p := hA0
 rw [Try.params7] at hA hval
 obtain ⟨v0, vs0, d0, ds0, p0, q0, hargs, rfl, rfl, h0, r0⟩ := trodAll_cons hA
 obtain ⟨rfl, rfl, rfl⟩ := trodAll_nil r0
 obtain rfl : args = #[v0] := by cases args; simp_all
 obtain ⟨rfl, rfl⟩ := trodVars_none hV
 obtain ⟨n0, rfl, i0⟩ := open_i64 (hval 0 3 _ rfl rfl) h0
 clear hA0 hval0
 refine (calls_of_fnC (law09_far i0)).mono fun e W' ⟨he, hB⟩ => ?_
 exact ⟨_, he, law_post (P := Try.prog) (tb := 4) laid (by rw [Try.params7]; decide +kernel) (by kernel_rfl) rfl hW' rfl rfl rfl hB⟩
theorem over : Rows.leapFarRow.holds Try.pinned (OpenSpec.ofChange Rows.leapFarSpec) :=
 OpenClaim.holds_of_wide 7 Try.f7 rfl rfl rfl rfl rfl rfl rfl ⟨rfl, rfl, rfl, rfl, rfl⟩ rfl rfl rfl rfl rfl (by kernel_rfl) Try.func7 (by kernel_rfl)
  (of_decide_eq_true (by kernel_rfl)) (by unfold Func.isWrapper; first | (rw [if_pos (by decide +kernel)]; kernel_rfl) | (rw [if_neg (by decide +kernel)]; exact ⟨rfl, rfl⟩))
  (fun os started H enc _ => lifted os started H enc)
theorem proved : Rows.LeapFarSaid :=
 over
end Go.Proofs.Ytfcijboaamelfaa.leapFar

