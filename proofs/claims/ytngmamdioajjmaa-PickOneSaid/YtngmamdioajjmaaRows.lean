/-
  No cell of these rows narrows 'for every input' (looked for: loops, veiled, ifaces, maps, wideKeys, modest, calm, conditions, laid).
  DERIVED. THE GIVEN ROWS OF THIS SEAT. 5 by the template 'for every input the law returns true; each argument reads behind the call as it read before'; 0 by the template 'total and deterministic' (their statements: YtngmamdioajjmaaTotals.lean).
  GIVEN WITH THE SEED: the statements are not yours to turn. If you find one false, say at which input.
  Laid BY PROGRAM, IN A SANDBOX (cutbox-rows.mjs): the forced cells as the released guide's own fill.sh prints them over the translation e5ab99fbc082928a… (all of the seat's roots in one cut). By AI agents, Wed Nov 11 2026. No macro, syntax, notation, axiom, sorry.
-/
import Derived.Test.YtngmamdioajjmaaChecked
import GoSem.Claim
import GoSem.ClaimJoined
import GoSem.ClaimMapViews
import Derived.JoinedTies
import Derived.KernelRfl
namespace Go.Proofs.Ytngmamdioajjmaa
/- THE CELL 'sum', in the pinned program and in every row, IS THE sha256 OF THE DUMP (.gsa) THAT YtngmamdioajjmaaProg.lean LOADS. Nothing in Lean hashes anything: it is a label: what it is worth is what the hold of that sum in a sandbox is worth. -/
noncomputable def Try.pinned : Pinned := { name := "ytngmamdioajjmaa", sum := "e5ab99fbc082928aee0708517b111d4a0312d624095ea21610d1e2ef44515168", checked := Try.checked }
namespace Rows
def none {H : Type} : Left H := { results := [], args := [] }

/-- 'gosperlaw11.PickTurns': WHATEVER THE INPUT: true; the input reads as it did. -/
def pickTurnsSpec : ChangeSpec := { name := "pickTurns", fn := fun _ => fun
  | [d1, d2] => { results := [.lit (.bool true)], args := [d1, d2] }
  | _ => none }
def pickTurnsRow : OpenClaim := { program := "ytngmamdioajjmaa", sum := "e5ab99fbc082928aee0708517b111d4a0312d624095ea21610d1e2ef44515168", func := "gosper/gosperlaw11.PickTurns", spec := "pickTurns", unfollowed := true, recurses := true, apart := false }
def PickTurnsSaid : Prop := pickTurnsRow.holds Try.pinned (OpenSpec.ofChange pickTurnsSpec)

/-- ITS FALSE NEIGHBOUR: 'it returns false'. Refute it at one input. -/
def pickTurnsWrong : ChangeSpec := { name := "pickTurns", fn := fun _ => fun
  | [d1, d2] => { results := [.lit (.bool false)], args := [d1, d2] }
  | _ => none }
def PickTurnsWrongFalsely : Prop := pickTurnsRow.holds Try.pinned (OpenSpec.ofChange pickTurnsWrong)

/-- 'gosperlaw11.PickWaits': WHATEVER THE INPUT: true; the input reads as it did. -/
def pickWaitsSpec : ChangeSpec := { name := "pickWaits", fn := fun _ => fun
  | [d1, d2] => { results := [.lit (.bool true)], args := [d1, d2] }
  | _ => none }
def pickWaitsRow : OpenClaim := { program := "ytngmamdioajjmaa", sum := "e5ab99fbc082928aee0708517b111d4a0312d624095ea21610d1e2ef44515168", func := "gosper/gosperlaw11.PickWaits", spec := "pickWaits", unfollowed := true, recurses := true, apart := false }
def PickWaitsSaid : Prop := pickWaitsRow.holds Try.pinned (OpenSpec.ofChange pickWaitsSpec)

/-- ITS FALSE NEIGHBOUR: 'it returns false'. Refute it at one input. -/
def pickWaitsWrong : ChangeSpec := { name := "pickWaits", fn := fun _ => fun
  | [d1, d2] => { results := [.lit (.bool false)], args := [d1, d2] }
  | _ => none }
def PickWaitsWrongFalsely : Prop := pickWaitsRow.holds Try.pinned (OpenSpec.ofChange pickWaitsWrong)

/-- 'gosperlaw11.PickAll': WHATEVER THE INPUT: true; the input reads as it did. -/
def pickAllSpec : ChangeSpec := { name := "pickAll", fn := fun _ => fun
  | [d] => { results := [.lit (.bool true)], args := [d] }
  | _ => none }
def pickAllRow : OpenClaim := { program := "ytngmamdioajjmaa", sum := "e5ab99fbc082928aee0708517b111d4a0312d624095ea21610d1e2ef44515168", func := "gosper/gosperlaw11.PickAll", spec := "pickAll", unfollowed := true, recurses := true, apart := false }
def PickAllSaid : Prop := pickAllRow.holds Try.pinned (OpenSpec.ofChange pickAllSpec)

/-- ITS FALSE NEIGHBOUR: 'it returns false'. Refute it at one input. -/
def pickAllWrong : ChangeSpec := { name := "pickAll", fn := fun _ => fun
  | [d] => { results := [.lit (.bool false)], args := [d] }
  | _ => none }
def PickAllWrongFalsely : Prop := pickAllRow.holds Try.pinned (OpenSpec.ofChange pickAllWrong)

/-- 'gosperlaw11.PickRound': WHATEVER THE INPUT: true; the input reads as it did. -/
def pickRoundSpec : ChangeSpec := { name := "pickRound", fn := fun _ => fun
  | [d] => { results := [.lit (.bool true)], args := [d] }
  | _ => none }
def pickRoundRow : OpenClaim := { program := "ytngmamdioajjmaa", sum := "e5ab99fbc082928aee0708517b111d4a0312d624095ea21610d1e2ef44515168", func := "gosper/gosperlaw11.PickRound", spec := "pickRound", unfollowed := true, recurses := true, apart := false }
def PickRoundSaid : Prop := pickRoundRow.holds Try.pinned (OpenSpec.ofChange pickRoundSpec)

/-- ITS FALSE NEIGHBOUR: 'it returns false'. Refute it at one input. -/
def pickRoundWrong : ChangeSpec := { name := "pickRound", fn := fun _ => fun
  | [d] => { results := [.lit (.bool false)], args := [d] }
  | _ => none }
def PickRoundWrongFalsely : Prop := pickRoundRow.holds Try.pinned (OpenSpec.ofChange pickRoundWrong)

/-- 'gosperlaw11.PickOne': WHATEVER THE INPUT: true; the input reads as it did. -/
def pickOneSpec : ChangeSpec := { name := "pickOne", fn := fun _ => fun
  | [d1, d2, d3] => { results := [.lit (.bool true)], args := [d1, d2, d3] }
  | _ => none }
def pickOneRow : OpenClaim := { program := "ytngmamdioajjmaa", sum := "e5ab99fbc082928aee0708517b111d4a0312d624095ea21610d1e2ef44515168", func := "gosper/gosperlaw11.PickOne", spec := "pickOne", unfollowed := true, recurses := true, apart := false }
def PickOneSaid : Prop := pickOneRow.holds Try.pinned (OpenSpec.ofChange pickOneSpec)

/-- ITS FALSE NEIGHBOUR: 'it returns false'. Refute it at one input. -/
def pickOneWrong : ChangeSpec := { name := "pickOne", fn := fun _ => fun
  | [d1, d2, d3] => { results := [.lit (.bool false)], args := [d1, d2, d3] }
  | _ => none }
def PickOneWrongFalsely : Prop := pickOneRow.holds Try.pinned (OpenSpec.ofChange pickOneWrong)

/- THE SECOND FORM. 'bulk': how many values and letters a reading holds, each counted each time it is reached (what is shared counts as often as it is met; a slice's spare places count too). A statement '..UptoSaid' is the law's where the arguments, and the package variables that the reading takes, are together of bulk at most 1048576: NARROWER than '..Said'. Prove '..Said' where nothing that the law and all that it calls make is longer than what came in: it says more and counts as full. Else prove '..UptoSaid'. A law counts once. -/
mutual
def uptoBulk {H : Type} : DataW H → Nat
  | .lit (.string bytes) => bytes.length + 1
  | .lit _ => 1
  | .nil => 1
  | .ptr d => uptoBulk d + 1
  | .slice elems spare => uptoBulkAll elems + uptoBulkAll spare + 1
  | .agg parts => uptoBulkAll parts + 1
  | .iface _ d => uptoBulk d + 1
  | .map entries => uptoBulkEntries entries + 1
  | .held _ => 1
def uptoBulkAll {H : Type} : List (DataW H) → Nat
  | [] => 0
  | d :: r => uptoBulk d + uptoBulkAll r
def uptoBulkEntries {H : Type} : List (Lit × DataW H) → Nat
  | [] => 0
  | x :: r => uptoBulkEntry x + uptoBulkEntries r
def uptoBulkEntry {H : Type} : Lit × DataW H → Nat
  | (.string bytes, d) => bytes.length + uptoBulk d + 1
  | (_, d) => uptoBulk d + 1
 end
def uptoSmall : (H : Type) → List (DataW H) → Bool := fun _ ds => decide (uptoBulkAll ds ≤ 1048576)
def OpenSpec.upto (s : _root_.Go.ChangeSpec) : _root_.Go.OpenSpec := { _root_.Go.OpenSpec.ofChange s with cond := some uptoSmall }

/-- 'gosperlaw11.PickTurns', WHERE WHAT IT READS IS OF BULK AT MOST 1048576: true; the input reads as it did. -/
def pickTurnsUptoRow : OpenClaim := { program := "ytngmamdioajjmaa", sum := "e5ab99fbc082928aee0708517b111d4a0312d624095ea21610d1e2ef44515168", func := "gosper/gosperlaw11.PickTurns", spec := "pickTurns", unfollowed := true, recurses := true, apart := false, narrowed := true }
def PickTurnsUptoSaid : Prop := pickTurnsUptoRow.holds Try.pinned (OpenSpec.upto pickTurnsSpec)

/-- 'gosperlaw11.PickWaits', WHERE WHAT IT READS IS OF BULK AT MOST 1048576: true; the input reads as it did. -/
def pickWaitsUptoRow : OpenClaim := { program := "ytngmamdioajjmaa", sum := "e5ab99fbc082928aee0708517b111d4a0312d624095ea21610d1e2ef44515168", func := "gosper/gosperlaw11.PickWaits", spec := "pickWaits", unfollowed := true, recurses := true, apart := false, narrowed := true }
def PickWaitsUptoSaid : Prop := pickWaitsUptoRow.holds Try.pinned (OpenSpec.upto pickWaitsSpec)

/-- 'gosperlaw11.PickAll', WHERE WHAT IT READS IS OF BULK AT MOST 1048576: true; the input reads as it did. -/
def pickAllUptoRow : OpenClaim := { program := "ytngmamdioajjmaa", sum := "e5ab99fbc082928aee0708517b111d4a0312d624095ea21610d1e2ef44515168", func := "gosper/gosperlaw11.PickAll", spec := "pickAll", unfollowed := true, recurses := true, apart := false, narrowed := true }
def PickAllUptoSaid : Prop := pickAllUptoRow.holds Try.pinned (OpenSpec.upto pickAllSpec)

/-- 'gosperlaw11.PickRound', WHERE WHAT IT READS IS OF BULK AT MOST 1048576: true; the input reads as it did. -/
def pickRoundUptoRow : OpenClaim := { program := "ytngmamdioajjmaa", sum := "e5ab99fbc082928aee0708517b111d4a0312d624095ea21610d1e2ef44515168", func := "gosper/gosperlaw11.PickRound", spec := "pickRound", unfollowed := true, recurses := true, apart := false, narrowed := true }
def PickRoundUptoSaid : Prop := pickRoundUptoRow.holds Try.pinned (OpenSpec.upto pickRoundSpec)

/-- 'gosperlaw11.PickOne', WHERE WHAT IT READS IS OF BULK AT MOST 1048576: true; the input reads as it did. -/
def pickOneUptoRow : OpenClaim := { program := "ytngmamdioajjmaa", sum := "e5ab99fbc082928aee0708517b111d4a0312d624095ea21610d1e2ef44515168", func := "gosper/gosperlaw11.PickOne", spec := "pickOne", unfollowed := true, recurses := true, apart := false, narrowed := true }
def PickOneUptoSaid : Prop := pickOneUptoRow.holds Try.pinned (OpenSpec.upto pickOneSpec)

end Rows
end Go.Proofs.Ytngmamdioajjmaa
