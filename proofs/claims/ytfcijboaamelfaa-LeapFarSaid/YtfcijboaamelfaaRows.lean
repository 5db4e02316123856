/-
  No cell of these rows narrows 'for every input' (looked for: loops, veiled, ifaces, maps, wideKeys, modest, calm, conditions, laid).
  DERIVED. THE GIVEN ROWS OF THIS SEAT. 9 by the template 'for every input the law returns true; each argument reads behind the call as it read before'; 0 by the template 'total and deterministic' (their statements: YtfcijboaamelfaaTotals.lean).
  GIVEN WITH THE SEED: the statements are not yours to turn. If you find one false, say at which input.
  Laid BY PROGRAM, IN A SANDBOX (cutbox-rows.mjs): the forced cells as the released guide's own fill.sh prints them over the translation 9a4632c823b39128… (all of the seat's roots in one cut). By AI agents, Wed Nov 11 2026. No macro, syntax, notation, axiom, sorry.
-/
import Derived.Test.YtfcijboaamelfaaChecked
import GoSem.Claim
import GoSem.ClaimJoined
import GoSem.ClaimMapViews
import Derived.JoinedTies
import Derived.KernelRfl
namespace Go.Proofs.Ytfcijboaamelfaa
/- THE CELL 'sum', in the pinned program and in every row, IS THE sha256 OF THE DUMP (.gsa) THAT YtfcijboaamelfaaProg.lean LOADS. Nothing in Lean hashes anything: it is a label: what it is worth is what the hold of that sum in a sandbox is worth. -/
noncomputable def Try.pinned : Pinned := { name := "ytfcijboaamelfaa", sum := "9a4632c823b39128f83279224666b9e2e2293e899ccc110894aec9404c5797bc", checked := Try.checked }
namespace Rows
def none {H : Type} : Left H := { results := [], args := [] }

/-- 'gosperlaw09.LeapTells': WHATEVER THE INPUT: true; the input reads as it did. -/
def leapTellsSpec : ChangeSpec := { name := "leapTells", fn := fun _ => fun
  | [d1, d2, d3, d4, d5, d6, d7, d8] => { results := [.lit (.bool true)], args := [d1, d2, d3, d4, d5, d6, d7, d8] }
  | _ => none }
def leapTellsRow : OpenClaim := { program := "ytfcijboaamelfaa", sum := "9a4632c823b39128f83279224666b9e2e2293e899ccc110894aec9404c5797bc", func := "gosper/gosperlaw09.LeapTells", spec := "leapTells", unfollowed := true, recurses := true, plainKeys := false, apart := false }
def LeapTellsSaid : Prop := leapTellsRow.holds Try.pinned (OpenSpec.ofChange leapTellsSpec)

/-- ITS FALSE NEIGHBOUR: 'it returns false'. Refute it at one input. -/
def leapTellsWrong : ChangeSpec := { name := "leapTells", fn := fun _ => fun
  | [d1, d2, d3, d4, d5, d6, d7, d8] => { results := [.lit (.bool false)], args := [d1, d2, d3, d4, d5, d6, d7, d8] }
  | _ => none }
def LeapTellsWrongFalsely : Prop := leapTellsRow.holds Try.pinned (OpenSpec.ofChange leapTellsWrong)

/-- 'gosperlaw09.LeapStands': WHATEVER THE INPUT: true; the input reads as it did. -/
def leapStandsSpec : ChangeSpec := { name := "leapStands", fn := fun _ => fun
  | [d1, d2, d3, d4, d5, d6] => { results := [.lit (.bool true)], args := [d1, d2, d3, d4, d5, d6] }
  | _ => none }
def leapStandsRow : OpenClaim := { program := "ytfcijboaamelfaa", sum := "9a4632c823b39128f83279224666b9e2e2293e899ccc110894aec9404c5797bc", func := "gosper/gosperlaw09.LeapStands", spec := "leapStands", unfollowed := true, recurses := true, plainKeys := false, apart := false }
def LeapStandsSaid : Prop := leapStandsRow.holds Try.pinned (OpenSpec.ofChange leapStandsSpec)

/-- ITS FALSE NEIGHBOUR: 'it returns false'. Refute it at one input. -/
def leapStandsWrong : ChangeSpec := { name := "leapStands", fn := fun _ => fun
  | [d1, d2, d3, d4, d5, d6] => { results := [.lit (.bool false)], args := [d1, d2, d3, d4, d5, d6] }
  | _ => none }
def LeapStandsWrongFalsely : Prop := leapStandsRow.holds Try.pinned (OpenSpec.ofChange leapStandsWrong)

/-- 'gosperlaw09.LeapRuns': WHATEVER THE INPUT: true; the input reads as it did. -/
def leapRunsSpec : ChangeSpec := { name := "leapRuns", fn := fun _ => fun
  | [d1, d2] => { results := [.lit (.bool true)], args := [d1, d2] }
  | _ => none }
def leapRunsRow : OpenClaim := { program := "ytfcijboaamelfaa", sum := "9a4632c823b39128f83279224666b9e2e2293e899ccc110894aec9404c5797bc", func := "gosper/gosperlaw09.LeapRuns", spec := "leapRuns", unfollowed := true, recurses := true, plainKeys := false, apart := false }
def LeapRunsSaid : Prop := leapRunsRow.holds Try.pinned (OpenSpec.ofChange leapRunsSpec)

/-- ITS FALSE NEIGHBOUR: 'it returns false'. Refute it at one input. -/
def leapRunsWrong : ChangeSpec := { name := "leapRuns", fn := fun _ => fun
  | [d1, d2] => { results := [.lit (.bool false)], args := [d1, d2] }
  | _ => none }
def LeapRunsWrongFalsely : Prop := leapRunsRow.holds Try.pinned (OpenSpec.ofChange leapRunsWrong)

/-- 'gosperlaw09.LeapSteps': WHATEVER THE INPUT: true; the input reads as it did. -/
def leapStepsSpec : ChangeSpec := { name := "leapSteps", fn := fun _ => fun
  | [d1, d2, d3] => { results := [.lit (.bool true)], args := [d1, d2, d3] }
  | _ => none }
def leapStepsRow : OpenClaim := { program := "ytfcijboaamelfaa", sum := "9a4632c823b39128f83279224666b9e2e2293e899ccc110894aec9404c5797bc", func := "gosper/gosperlaw09.LeapSteps", spec := "leapSteps", unfollowed := true, recurses := true, plainKeys := false, apart := false }
def LeapStepsSaid : Prop := leapStepsRow.holds Try.pinned (OpenSpec.ofChange leapStepsSpec)

/-- ITS FALSE NEIGHBOUR: 'it returns false'. Refute it at one input. -/
def leapStepsWrong : ChangeSpec := { name := "leapSteps", fn := fun _ => fun
  | [d1, d2, d3] => { results := [.lit (.bool false)], args := [d1, d2, d3] }
  | _ => none }
def LeapStepsWrongFalsely : Prop := leapStepsRow.holds Try.pinned (OpenSpec.ofChange leapStepsWrong)

/-- 'gosperlaw09.LeapFar': WHATEVER THE INPUT: true; the input reads as it did. -/
def leapFarSpec : ChangeSpec := { name := "leapFar", fn := fun _ => fun
  | [d] => { results := [.lit (.bool true)], args := [d] }
  | _ => none }
def leapFarRow : OpenClaim := { program := "ytfcijboaamelfaa", sum := "9a4632c823b39128f83279224666b9e2e2293e899ccc110894aec9404c5797bc", func := "gosper/gosperlaw09.LeapFar", spec := "leapFar", unfollowed := true, recurses := true, plainKeys := false, apart := false }
def LeapFarSaid : Prop := leapFarRow.holds Try.pinned (OpenSpec.ofChange leapFarSpec)

/-- ITS FALSE NEIGHBOUR: 'it returns false'. Refute it at one input. -/
def leapFarWrong : ChangeSpec := { name := "leapFar", fn := fun _ => fun
  | [d] => { results := [.lit (.bool false)], args := [d] }
  | _ => none }
def LeapFarWrongFalsely : Prop := leapFarRow.holds Try.pinned (OpenSpec.ofChange leapFarWrong)

/-- 'gosperlaw09.LeapTrims': WHATEVER THE INPUT: true; the input reads as it did. -/
def leapTrimsSpec : ChangeSpec := { name := "leapTrims", fn := fun _ => fun
  | [d1, d2, d3, d4, d5] => { results := [.lit (.bool true)], args := [d1, d2, d3, d4, d5] }
  | _ => none }
def leapTrimsRow : OpenClaim := { program := "ytfcijboaamelfaa", sum := "9a4632c823b39128f83279224666b9e2e2293e899ccc110894aec9404c5797bc", func := "gosper/gosperlaw09.LeapTrims", spec := "leapTrims", unfollowed := true, recurses := true, plainKeys := false, apart := false }
def LeapTrimsSaid : Prop := leapTrimsRow.holds Try.pinned (OpenSpec.ofChange leapTrimsSpec)

/-- ITS FALSE NEIGHBOUR: 'it returns false'. Refute it at one input. -/
def leapTrimsWrong : ChangeSpec := { name := "leapTrims", fn := fun _ => fun
  | [d1, d2, d3, d4, d5] => { results := [.lit (.bool false)], args := [d1, d2, d3, d4, d5] }
  | _ => none }
def LeapTrimsWrongFalsely : Prop := leapTrimsRow.holds Try.pinned (OpenSpec.ofChange leapTrimsWrong)

/-- 'gosperlaw09.LeapHalves': WHATEVER THE INPUT: true; the input reads as it did. -/
def leapHalvesSpec : ChangeSpec := { name := "leapHalves", fn := fun _ => fun
  | [d] => { results := [.lit (.bool true)], args := [d] }
  | _ => none }
def leapHalvesRow : OpenClaim := { program := "ytfcijboaamelfaa", sum := "9a4632c823b39128f83279224666b9e2e2293e899ccc110894aec9404c5797bc", func := "gosper/gosperlaw09.LeapHalves", spec := "leapHalves", unfollowed := true, recurses := true, plainKeys := false, apart := false }
def LeapHalvesSaid : Prop := leapHalvesRow.holds Try.pinned (OpenSpec.ofChange leapHalvesSpec)

/-- ITS FALSE NEIGHBOUR: 'it returns false'. Refute it at one input. -/
def leapHalvesWrong : ChangeSpec := { name := "leapHalves", fn := fun _ => fun
  | [d] => { results := [.lit (.bool false)], args := [d] }
  | _ => none }
def LeapHalvesWrongFalsely : Prop := leapHalvesRow.holds Try.pinned (OpenSpec.ofChange leapHalvesWrong)

/-- 'gosperlaw09.LeapDead': WHATEVER THE INPUT: true; the input reads as it did. -/
def leapDeadSpec : ChangeSpec := { name := "leapDead", fn := fun _ => fun
  | [d1, d2, d3] => { results := [.lit (.bool true)], args := [d1, d2, d3] }
  | _ => none }
def leapDeadRow : OpenClaim := { program := "ytfcijboaamelfaa", sum := "9a4632c823b39128f83279224666b9e2e2293e899ccc110894aec9404c5797bc", func := "gosper/gosperlaw09.LeapDead", spec := "leapDead", unfollowed := true, recurses := true, plainKeys := false, apart := false }
def LeapDeadSaid : Prop := leapDeadRow.holds Try.pinned (OpenSpec.ofChange leapDeadSpec)

/-- ITS FALSE NEIGHBOUR: 'it returns false'. Refute it at one input. -/
def leapDeadWrong : ChangeSpec := { name := "leapDead", fn := fun _ => fun
  | [d1, d2, d3] => { results := [.lit (.bool false)], args := [d1, d2, d3] }
  | _ => none }
def LeapDeadWrongFalsely : Prop := leapDeadRow.holds Try.pinned (OpenSpec.ofChange leapDeadWrong)

/-- 'gosperlaw09.LeapMirror': WHATEVER THE INPUT: true; the input reads as it did. -/
def leapMirrorSpec : ChangeSpec := { name := "leapMirror", fn := fun _ => fun
  | [d1, d2] => { results := [.lit (.bool true)], args := [d1, d2] }
  | _ => none }
def leapMirrorRow : OpenClaim := { program := "ytfcijboaamelfaa", sum := "9a4632c823b39128f83279224666b9e2e2293e899ccc110894aec9404c5797bc", func := "gosper/gosperlaw09.LeapMirror", spec := "leapMirror", unfollowed := true, recurses := true, plainKeys := false, apart := false }
def LeapMirrorSaid : Prop := leapMirrorRow.holds Try.pinned (OpenSpec.ofChange leapMirrorSpec)

/-- ITS FALSE NEIGHBOUR: 'it returns false'. Refute it at one input. -/
def leapMirrorWrong : ChangeSpec := { name := "leapMirror", fn := fun _ => fun
  | [d1, d2] => { results := [.lit (.bool false)], args := [d1, d2] }
  | _ => none }
def LeapMirrorWrongFalsely : Prop := leapMirrorRow.holds Try.pinned (OpenSpec.ofChange leapMirrorWrong)

/- THE SECOND FORM. 'bulk': how many values and letters a reading holds, each counted each time it is reached (what is shared counts as often as it is met; a slice's spare places count too). A statement '..UptoSaid' is the law's where the arguments, and the package variables that the reading takes, are together of bulk at most 1048576: NARROWER than '..Said'. Prove '..Said' where nothing that the law and all that it calls make is longer than what came in: it says more and counts as full. Else prove '..UptoSaid'. A law counts once. -/
mutual
def uptoBulk {H : Type} : DataW H → Nat
  | .lit (.string bytes) => bytes.length + 1
  | .lit _ => 1
  | .nil => 1
  | .ptr d => uptoBulk d + 1
  | .slice elems spare => uptoBulkAll elems + uptoBulkAll spare + 1
  | .agg parts => uptoBulkAll parts + 1
  | .iface _ d => uptoBulk d + 1
  | .map entries => uptoBulkEntries entries + 1
  | .held _ => 1
def uptoBulkAll {H : Type} : List (DataW H) → Nat
  | [] => 0
  | d :: r => uptoBulk d + uptoBulkAll r
def uptoBulkEntries {H : Type} : List (Lit × DataW H) → Nat
  | [] => 0
  | x :: r => uptoBulkEntry x + uptoBulkEntries r
def uptoBulkEntry {H : Type} : Lit × DataW H → Nat
  | (.string bytes, d) => bytes.length + uptoBulk d + 1
  | (_, d) => uptoBulk d + 1
 end
def uptoSmall : (H : Type) → List (DataW H) → Bool := fun _ ds => decide (uptoBulkAll ds ≤ 1048576)
def OpenSpec.upto (s : _root_.Go.ChangeSpec) : _root_.Go.OpenSpec := { _root_.Go.OpenSpec.ofChange s with cond := some uptoSmall }

/-- 'gosperlaw09.LeapTells', WHERE WHAT IT READS IS OF BULK AT MOST 1048576: true; the input reads as it did. -/
def leapTellsUptoRow : OpenClaim := { program := "ytfcijboaamelfaa", sum := "9a4632c823b39128f83279224666b9e2e2293e899ccc110894aec9404c5797bc", func := "gosper/gosperlaw09.LeapTells", spec := "leapTells", unfollowed := true, recurses := true, plainKeys := false, apart := false, narrowed := true }
def LeapTellsUptoSaid : Prop := leapTellsUptoRow.holds Try.pinned (OpenSpec.upto leapTellsSpec)

/-- 'gosperlaw09.LeapStands', WHERE WHAT IT READS IS OF BULK AT MOST 1048576: true; the input reads as it did. -/
def leapStandsUptoRow : OpenClaim := { program := "ytfcijboaamelfaa", sum := "9a4632c823b39128f83279224666b9e2e2293e899ccc110894aec9404c5797bc", func := "gosper/gosperlaw09.LeapStands", spec := "leapStands", unfollowed := true, recurses := true, plainKeys := false, apart := false, narrowed := true }
def LeapStandsUptoSaid : Prop := leapStandsUptoRow.holds Try.pinned (OpenSpec.upto leapStandsSpec)

/-- 'gosperlaw09.LeapRuns', WHERE WHAT IT READS IS OF BULK AT MOST 1048576: true; the input reads as it did. -/
def leapRunsUptoRow : OpenClaim := { program := "ytfcijboaamelfaa", sum := "9a4632c823b39128f83279224666b9e2e2293e899ccc110894aec9404c5797bc", func := "gosper/gosperlaw09.LeapRuns", spec := "leapRuns", unfollowed := true, recurses := true, plainKeys := false, apart := false, narrowed := true }
def LeapRunsUptoSaid : Prop := leapRunsUptoRow.holds Try.pinned (OpenSpec.upto leapRunsSpec)

/-- 'gosperlaw09.LeapSteps', WHERE WHAT IT READS IS OF BULK AT MOST 1048576: true; the input reads as it did. -/
def leapStepsUptoRow : OpenClaim := { program := "ytfcijboaamelfaa", sum := "9a4632c823b39128f83279224666b9e2e2293e899ccc110894aec9404c5797bc", func := "gosper/gosperlaw09.LeapSteps", spec := "leapSteps", unfollowed := true, recurses := true, plainKeys := false, apart := false, narrowed := true }
def LeapStepsUptoSaid : Prop := leapStepsUptoRow.holds Try.pinned (OpenSpec.upto leapStepsSpec)

/-- 'gosperlaw09.LeapFar', WHERE WHAT IT READS IS OF BULK AT MOST 1048576: true; the input reads as it did. -/
def leapFarUptoRow : OpenClaim := { program := "ytfcijboaamelfaa", sum := "9a4632c823b39128f83279224666b9e2e2293e899ccc110894aec9404c5797bc", func := "gosper/gosperlaw09.LeapFar", spec := "leapFar", unfollowed := true, recurses := true, plainKeys := false, apart := false, narrowed := true }
def LeapFarUptoSaid : Prop := leapFarUptoRow.holds Try.pinned (OpenSpec.upto leapFarSpec)

/-- 'gosperlaw09.LeapTrims', WHERE WHAT IT READS IS OF BULK AT MOST 1048576: true; the input reads as it did. -/
def leapTrimsUptoRow : OpenClaim := { program := "ytfcijboaamelfaa", sum := "9a4632c823b39128f83279224666b9e2e2293e899ccc110894aec9404c5797bc", func := "gosper/gosperlaw09.LeapTrims", spec := "leapTrims", unfollowed := true, recurses := true, plainKeys := false, apart := false, narrowed := true }
def LeapTrimsUptoSaid : Prop := leapTrimsUptoRow.holds Try.pinned (OpenSpec.upto leapTrimsSpec)

/-- 'gosperlaw09.LeapHalves', WHERE WHAT IT READS IS OF BULK AT MOST 1048576: true; the input reads as it did. -/
def leapHalvesUptoRow : OpenClaim := { program := "ytfcijboaamelfaa", sum := "9a4632c823b39128f83279224666b9e2e2293e899ccc110894aec9404c5797bc", func := "gosper/gosperlaw09.LeapHalves", spec := "leapHalves", unfollowed := true, recurses := true, plainKeys := false, apart := false, narrowed := true }
def LeapHalvesUptoSaid : Prop := leapHalvesUptoRow.holds Try.pinned (OpenSpec.upto leapHalvesSpec)

/-- 'gosperlaw09.LeapDead', WHERE WHAT IT READS IS OF BULK AT MOST 1048576: true; the input reads as it did. -/
def leapDeadUptoRow : OpenClaim := { program := "ytfcijboaamelfaa", sum := "9a4632c823b39128f83279224666b9e2e2293e899ccc110894aec9404c5797bc", func := "gosper/gosperlaw09.LeapDead", spec := "leapDead", unfollowed := true, recurses := true, plainKeys := false, apart := false, narrowed := true }
def LeapDeadUptoSaid : Prop := leapDeadUptoRow.holds Try.pinned (OpenSpec.upto leapDeadSpec)

/-- 'gosperlaw09.LeapMirror', WHERE WHAT IT READS IS OF BULK AT MOST 1048576: true; the input reads as it did. -/
def leapMirrorUptoRow : OpenClaim := { program := "ytfcijboaamelfaa", sum := "9a4632c823b39128f83279224666b9e2e2293e899ccc110894aec9404c5797bc", func := "gosper/gosperlaw09.LeapMirror", spec := "leapMirror", unfollowed := true, recurses := true, plainKeys := false, apart := false, narrowed := true }
def LeapMirrorUptoSaid : Prop := leapMirrorUptoRow.holds Try.pinned (OpenSpec.upto leapMirrorSpec)

end Rows
end Go.Proofs.Ytfcijboaamelfaa
