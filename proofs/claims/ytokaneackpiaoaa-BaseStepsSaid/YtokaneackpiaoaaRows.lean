/-
  No cell of these rows narrows 'for every input' (looked for: loops, veiled, ifaces, maps, wideKeys, modest, calm, conditions, laid).
  DERIVED. THE GIVEN ROWS OF THIS SEAT. 6 by the template 'for every input the law returns true; each argument reads behind the call as it read before'; 0 by the template 'total and deterministic' (their statements: YtokaneackpiaoaaTotals.lean).
  GIVEN WITH THE SEED: the statements are not yours to turn. If you find one false, say at which input.
  Laid BY PROGRAM, IN A SANDBOX (cutbox-rows.mjs): the forced cells as the released guide's own fill.sh prints them over the translation f57e85d42ab906d1… (all of the seat's roots in one cut). By AI agents, Wed Nov 11 2026. No macro, syntax, notation, axiom, sorry.
-/
import Derived.Test.YtokaneackpiaoaaChecked
import GoSem.Claim
import GoSem.ClaimJoined
import GoSem.ClaimMapViews
import Derived.JoinedTies
import Derived.KernelRfl
namespace Go.Proofs.Ytokaneackpiaoaa
/- THE CELL 'sum', in the pinned program and in every row, IS THE sha256 OF THE DUMP (.gsa) THAT YtokaneackpiaoaaProg.lean LOADS. Nothing in Lean hashes anything: it is a label: what it is worth is what the hold of that sum in a sandbox is worth. -/
noncomputable def Try.pinned : Pinned := { name := "ytokaneackpiaoaa", sum := "f57e85d42ab906d1a54843945b53dab94d75caf8471aa426451a45ab2fb238cd", checked := Try.checked }
namespace Rows
def none {H : Type} : Left H := { results := [], args := [] }

/-- 'gosperlaw08.BaseTells': WHATEVER THE INPUT: true; the input reads as it did. -/
def baseTellsSpec : ChangeSpec := { name := "baseTells", fn := fun _ => fun
  | [d1, d2, d3, d4, d5, d6] => { results := [.lit (.bool true)], args := [d1, d2, d3, d4, d5, d6] }
  | _ => none }
def baseTellsRow : OpenClaim := { program := "ytokaneackpiaoaa", sum := "f57e85d42ab906d1a54843945b53dab94d75caf8471aa426451a45ab2fb238cd", func := "gosper/gosperlaw08.BaseTells", spec := "baseTells", unfollowed := true, recurses := true, plainKeys := false, apart := false }
def BaseTellsSaid : Prop := baseTellsRow.holds Try.pinned (OpenSpec.ofChange baseTellsSpec)

/-- ITS FALSE NEIGHBOUR: 'it returns false'. Refute it at one input. -/
def baseTellsWrong : ChangeSpec := { name := "baseTells", fn := fun _ => fun
  | [d1, d2, d3, d4, d5, d6] => { results := [.lit (.bool false)], args := [d1, d2, d3, d4, d5, d6] }
  | _ => none }
def BaseTellsWrongFalsely : Prop := baseTellsRow.holds Try.pinned (OpenSpec.ofChange baseTellsWrong)

/-- 'gosperlaw08.BaseStands': WHATEVER THE INPUT: true; the input reads as it did. -/
def baseStandsSpec : ChangeSpec := { name := "baseStands", fn := fun _ => fun
  | [d1, d2, d3, d4] => { results := [.lit (.bool true)], args := [d1, d2, d3, d4] }
  | _ => none }
def baseStandsRow : OpenClaim := { program := "ytokaneackpiaoaa", sum := "f57e85d42ab906d1a54843945b53dab94d75caf8471aa426451a45ab2fb238cd", func := "gosper/gosperlaw08.BaseStands", spec := "baseStands", unfollowed := true, recurses := true, plainKeys := false, apart := false }
def BaseStandsSaid : Prop := baseStandsRow.holds Try.pinned (OpenSpec.ofChange baseStandsSpec)

/-- ITS FALSE NEIGHBOUR: 'it returns false'. Refute it at one input. -/
def baseStandsWrong : ChangeSpec := { name := "baseStands", fn := fun _ => fun
  | [d1, d2, d3, d4] => { results := [.lit (.bool false)], args := [d1, d2, d3, d4] }
  | _ => none }
def BaseStandsWrongFalsely : Prop := baseStandsRow.holds Try.pinned (OpenSpec.ofChange baseStandsWrong)

/-- 'gosperlaw08.BaseSteps': WHATEVER THE INPUT: true; the input reads as it did. -/
def baseStepsSpec : ChangeSpec := { name := "baseSteps", fn := fun _ => fun
  | [d1, d2, d3, d4] => { results := [.lit (.bool true)], args := [d1, d2, d3, d4] }
  | _ => none }
def baseStepsRow : OpenClaim := { program := "ytokaneackpiaoaa", sum := "f57e85d42ab906d1a54843945b53dab94d75caf8471aa426451a45ab2fb238cd", func := "gosper/gosperlaw08.BaseSteps", spec := "baseSteps", unfollowed := true, recurses := true, plainKeys := false, apart := false }
def BaseStepsSaid : Prop := baseStepsRow.holds Try.pinned (OpenSpec.ofChange baseStepsSpec)

/-- ITS FALSE NEIGHBOUR: 'it returns false'. Refute it at one input. -/
def baseStepsWrong : ChangeSpec := { name := "baseSteps", fn := fun _ => fun
  | [d1, d2, d3, d4] => { results := [.lit (.bool false)], args := [d1, d2, d3, d4] }
  | _ => none }
def BaseStepsWrongFalsely : Prop := baseStepsRow.holds Try.pinned (OpenSpec.ofChange baseStepsWrong)

/-- 'gosperlaw08.BaseNine': WHATEVER THE INPUT: true; the input reads as it did. -/
def baseNineSpec : ChangeSpec := { name := "baseNine", fn := fun _ => fun
  | [d1, d2, d3, d4] => { results := [.lit (.bool true)], args := [d1, d2, d3, d4] }
  | _ => none }
def baseNineRow : OpenClaim := { program := "ytokaneackpiaoaa", sum := "f57e85d42ab906d1a54843945b53dab94d75caf8471aa426451a45ab2fb238cd", func := "gosper/gosperlaw08.BaseNine", spec := "baseNine", unfollowed := true, recurses := true, plainKeys := false, apart := false }
def BaseNineSaid : Prop := baseNineRow.holds Try.pinned (OpenSpec.ofChange baseNineSpec)

/-- ITS FALSE NEIGHBOUR: 'it returns false'. Refute it at one input. -/
def baseNineWrong : ChangeSpec := { name := "baseNine", fn := fun _ => fun
  | [d1, d2, d3, d4] => { results := [.lit (.bool false)], args := [d1, d2, d3, d4] }
  | _ => none }
def BaseNineWrongFalsely : Prop := baseNineRow.holds Try.pinned (OpenSpec.ofChange baseNineWrong)

/-- 'gosperlaw08.BaseTwice': WHATEVER THE INPUT: true; the input reads as it did. -/
def baseTwiceSpec : ChangeSpec := { name := "baseTwice", fn := fun _ => fun
  | [d1, d2, d3, d4, d5] => { results := [.lit (.bool true)], args := [d1, d2, d3, d4, d5] }
  | _ => none }
def baseTwiceRow : OpenClaim := { program := "ytokaneackpiaoaa", sum := "f57e85d42ab906d1a54843945b53dab94d75caf8471aa426451a45ab2fb238cd", func := "gosper/gosperlaw08.BaseTwice", spec := "baseTwice", unfollowed := true, recurses := true, plainKeys := false, apart := false }
def BaseTwiceSaid : Prop := baseTwiceRow.holds Try.pinned (OpenSpec.ofChange baseTwiceSpec)

/-- ITS FALSE NEIGHBOUR: 'it returns false'. Refute it at one input. -/
def baseTwiceWrong : ChangeSpec := { name := "baseTwice", fn := fun _ => fun
  | [d1, d2, d3, d4, d5] => { results := [.lit (.bool false)], args := [d1, d2, d3, d4, d5] }
  | _ => none }
def BaseTwiceWrongFalsely : Prop := baseTwiceRow.holds Try.pinned (OpenSpec.ofChange baseTwiceWrong)

/-- 'gosperlaw08.BaseTurned': WHATEVER THE INPUT: true; the input reads as it did. -/
def baseTurnedSpec : ChangeSpec := { name := "baseTurned", fn := fun _ => fun
  | [d] => { results := [.lit (.bool true)], args := [d] }
  | _ => none }
def baseTurnedRow : OpenClaim := { program := "ytokaneackpiaoaa", sum := "f57e85d42ab906d1a54843945b53dab94d75caf8471aa426451a45ab2fb238cd", func := "gosper/gosperlaw08.BaseTurned", spec := "baseTurned", unfollowed := true, recurses := true, plainKeys := false, apart := false }
def BaseTurnedSaid : Prop := baseTurnedRow.holds Try.pinned (OpenSpec.ofChange baseTurnedSpec)

/-- ITS FALSE NEIGHBOUR: 'it returns false'. Refute it at one input. -/
def baseTurnedWrong : ChangeSpec := { name := "baseTurned", fn := fun _ => fun
  | [d] => { results := [.lit (.bool false)], args := [d] }
  | _ => none }
def BaseTurnedWrongFalsely : Prop := baseTurnedRow.holds Try.pinned (OpenSpec.ofChange baseTurnedWrong)

/- THE SECOND FORM. 'bulk': how many values and letters a reading holds, each counted each time it is reached (what is shared counts as often as it is met; a slice's spare places count too). A statement '..UptoSaid' is the law's where the arguments, and the package variables that the reading takes, are together of bulk at most 1048576: NARROWER than '..Said'. Prove '..Said' where nothing that the law and all that it calls make is longer than what came in: it says more and counts as full. Else prove '..UptoSaid'. A law counts once. -/
mutual
def uptoBulk {H : Type} : DataW H → Nat
  | .lit (.string bytes) => bytes.length + 1
  | .lit _ => 1
  | .nil => 1
  | .ptr d => uptoBulk d + 1
  | .slice elems spare => uptoBulkAll elems + uptoBulkAll spare + 1
  | .agg parts => uptoBulkAll parts + 1
  | .iface _ d => uptoBulk d + 1
  | .map entries => uptoBulkEntries entries + 1
  | .held _ => 1
def uptoBulkAll {H : Type} : List (DataW H) → Nat
  | [] => 0
  | d :: r => uptoBulk d + uptoBulkAll r
def uptoBulkEntries {H : Type} : List (Lit × DataW H) → Nat
  | [] => 0
  | x :: r => uptoBulkEntry x + uptoBulkEntries r
def uptoBulkEntry {H : Type} : Lit × DataW H → Nat
  | (.string bytes, d) => bytes.length + uptoBulk d + 1
  | (_, d) => uptoBulk d + 1
 end
def uptoSmall : (H : Type) → List (DataW H) → Bool := fun _ ds => decide (uptoBulkAll ds ≤ 1048576)
def OpenSpec.upto (s : _root_.Go.ChangeSpec) : _root_.Go.OpenSpec := { _root_.Go.OpenSpec.ofChange s with cond := some uptoSmall }

/-- 'gosperlaw08.BaseTells', WHERE WHAT IT READS IS OF BULK AT MOST 1048576: true; the input reads as it did. -/
def baseTellsUptoRow : OpenClaim := { program := "ytokaneackpiaoaa", sum := "f57e85d42ab906d1a54843945b53dab94d75caf8471aa426451a45ab2fb238cd", func := "gosper/gosperlaw08.BaseTells", spec := "baseTells", unfollowed := true, recurses := true, plainKeys := false, apart := false, narrowed := true }
def BaseTellsUptoSaid : Prop := baseTellsUptoRow.holds Try.pinned (OpenSpec.upto baseTellsSpec)

/-- 'gosperlaw08.BaseStands', WHERE WHAT IT READS IS OF BULK AT MOST 1048576: true; the input reads as it did. -/
def baseStandsUptoRow : OpenClaim := { program := "ytokaneackpiaoaa", sum := "f57e85d42ab906d1a54843945b53dab94d75caf8471aa426451a45ab2fb238cd", func := "gosper/gosperlaw08.BaseStands", spec := "baseStands", unfollowed := true, recurses := true, plainKeys := false, apart := false, narrowed := true }
def BaseStandsUptoSaid : Prop := baseStandsUptoRow.holds Try.pinned (OpenSpec.upto baseStandsSpec)

/-- 'gosperlaw08.BaseSteps', WHERE WHAT IT READS IS OF BULK AT MOST 1048576: true; the input reads as it did. -/
def baseStepsUptoRow : OpenClaim := { program := "ytokaneackpiaoaa", sum := "f57e85d42ab906d1a54843945b53dab94d75caf8471aa426451a45ab2fb238cd", func := "gosper/gosperlaw08.BaseSteps", spec := "baseSteps", unfollowed := true, recurses := true, plainKeys := false, apart := false, narrowed := true }
def BaseStepsUptoSaid : Prop := baseStepsUptoRow.holds Try.pinned (OpenSpec.upto baseStepsSpec)

/-- 'gosperlaw08.BaseNine', WHERE WHAT IT READS IS OF BULK AT MOST 1048576: true; the input reads as it did. -/
def baseNineUptoRow : OpenClaim := { program := "ytokaneackpiaoaa", sum := "f57e85d42ab906d1a54843945b53dab94d75caf8471aa426451a45ab2fb238cd", func := "gosper/gosperlaw08.BaseNine", spec := "baseNine", unfollowed := true, recurses := true, plainKeys := false, apart := false, narrowed := true }
def BaseNineUptoSaid : Prop := baseNineUptoRow.holds Try.pinned (OpenSpec.upto baseNineSpec)

/-- 'gosperlaw08.BaseTwice', WHERE WHAT IT READS IS OF BULK AT MOST 1048576: true; the input reads as it did. -/
def baseTwiceUptoRow : OpenClaim := { program := "ytokaneackpiaoaa", sum := "f57e85d42ab906d1a54843945b53dab94d75caf8471aa426451a45ab2fb238cd", func := "gosper/gosperlaw08.BaseTwice", spec := "baseTwice", unfollowed := true, recurses := true, plainKeys := false, apart := false, narrowed := true }
def BaseTwiceUptoSaid : Prop := baseTwiceUptoRow.holds Try.pinned (OpenSpec.upto baseTwiceSpec)

/-- 'gosperlaw08.BaseTurned', WHERE WHAT IT READS IS OF BULK AT MOST 1048576: true; the input reads as it did. -/
def baseTurnedUptoRow : OpenClaim := { program := "ytokaneackpiaoaa", sum := "f57e85d42ab906d1a54843945b53dab94d75caf8471aa426451a45ab2fb238cd", func := "gosper/gosperlaw08.BaseTurned", spec := "baseTurned", unfollowed := true, recurses := true, plainKeys := false, apart := false, narrowed := true }
def BaseTurnedUptoSaid : Prop := baseTurnedUptoRow.holds Try.pinned (OpenSpec.upto baseTurnedSpec)

end Rows
end Go.Proofs.Ytokaneackpiaoaa
