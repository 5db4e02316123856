/-
  No cell of these rows narrows 'for every input' (looked for: loops, veiled, ifaces, maps, wideKeys, modest, calm, conditions, laid).
  DERIVED. THE GIVEN ROWS OF THIS SEAT. 7 by the template 'for every input the law returns true; each argument reads behind the call as it read before'; 0 by the template 'total and deterministic' (their statements: YtnofakjhlmgojaaTotals.lean).
  GIVEN WITH THE SEED: the statements are not yours to turn. If you find one false, say at which input.
  Laid BY PROGRAM, IN A SANDBOX (cutbox-rows.mjs): the forced cells as the released guide's own fill.sh prints them over the translation 38990425e8756b8d… (all of the seat's roots in one cut). By AI agents, Wed Nov 11 2026. No macro, syntax, notation, axiom, sorry.
-/
import Derived.Test.YtnofakjhlmgojaaChecked
import GoSem.Claim
import GoSem.ClaimJoined
import GoSem.ClaimMapViews
import Derived.JoinedTies
import Derived.KernelRfl
namespace Go.Proofs.Ytnofakjhlmgojaa
/- THE CELL 'sum', in the pinned program and in every row, IS THE sha256 OF THE DUMP (.gsa) THAT YtnofakjhlmgojaaProg.lean LOADS. Nothing in Lean hashes anything: it is a label: what it is worth is what the hold of that sum in a sandbox is worth. -/
noncomputable def Try.pinned : Pinned := { name := "ytnofakjhlmgojaa", sum := "38990425e8756b8d22b4a3dc9e8dfd6638576fd26b7549751da34b99d9176142", checked := Try.checked }
namespace Rows
def none {H : Type} : Left H := { results := [], args := [] }

/-- 'gosperlaw06.NodeTells': WHATEVER THE INPUT: true; the input reads as it did. -/
def nodeTellsSpec : ChangeSpec := { name := "nodeTells", fn := fun _ => fun
  | [d1, d2, d3, d4, d5, d6, d7] => { results := [.lit (.bool true)], args := [d1, d2, d3, d4, d5, d6, d7] }
  | _ => none }
def nodeTellsRow : OpenClaim := { program := "ytnofakjhlmgojaa", sum := "38990425e8756b8d22b4a3dc9e8dfd6638576fd26b7549751da34b99d9176142", func := "gosper/gosperlaw06.NodeTells", spec := "nodeTells", unfollowed := true, recurses := true, plainKeys := false, apart := false }
def NodeTellsSaid : Prop := nodeTellsRow.holds Try.pinned (OpenSpec.ofChange nodeTellsSpec)

/-- ITS FALSE NEIGHBOUR: 'it returns false'. Refute it at one input. -/
def nodeTellsWrong : ChangeSpec := { name := "nodeTells", fn := fun _ => fun
  | [d1, d2, d3, d4, d5, d6, d7] => { results := [.lit (.bool false)], args := [d1, d2, d3, d4, d5, d6, d7] }
  | _ => none }
def NodeTellsWrongFalsely : Prop := nodeTellsRow.holds Try.pinned (OpenSpec.ofChange nodeTellsWrong)

/-- 'gosperlaw06.NodeOnce': WHATEVER THE INPUT: true; the input reads as it did. -/
def nodeOnceSpec : ChangeSpec := { name := "nodeOnce", fn := fun _ => fun
  | [d1, d2, d3, d4] => { results := [.lit (.bool true)], args := [d1, d2, d3, d4] }
  | _ => none }
def nodeOnceRow : OpenClaim := { program := "ytnofakjhlmgojaa", sum := "38990425e8756b8d22b4a3dc9e8dfd6638576fd26b7549751da34b99d9176142", func := "gosper/gosperlaw06.NodeOnce", spec := "nodeOnce", unfollowed := true, recurses := true, plainKeys := false, apart := false }
def NodeOnceSaid : Prop := nodeOnceRow.holds Try.pinned (OpenSpec.ofChange nodeOnceSpec)

/-- ITS FALSE NEIGHBOUR: 'it returns false'. Refute it at one input. -/
def nodeOnceWrong : ChangeSpec := { name := "nodeOnce", fn := fun _ => fun
  | [d1, d2, d3, d4] => { results := [.lit (.bool false)], args := [d1, d2, d3, d4] }
  | _ => none }
def NodeOnceWrongFalsely : Prop := nodeOnceRow.holds Try.pinned (OpenSpec.ofChange nodeOnceWrong)

/-- 'gosperlaw06.NodeSquares': WHATEVER THE INPUT: true; the input reads as it did. -/
def nodeSquaresSpec : ChangeSpec := { name := "nodeSquares", fn := fun _ => fun
  | [d1, d2, d3, d4] => { results := [.lit (.bool true)], args := [d1, d2, d3, d4] }
  | _ => none }
def nodeSquaresRow : OpenClaim := { program := "ytnofakjhlmgojaa", sum := "38990425e8756b8d22b4a3dc9e8dfd6638576fd26b7549751da34b99d9176142", func := "gosper/gosperlaw06.NodeSquares", spec := "nodeSquares", unfollowed := true, recurses := true, plainKeys := false, apart := false }
def NodeSquaresSaid : Prop := nodeSquaresRow.holds Try.pinned (OpenSpec.ofChange nodeSquaresSpec)

/-- ITS FALSE NEIGHBOUR: 'it returns false'. Refute it at one input. -/
def nodeSquaresWrong : ChangeSpec := { name := "nodeSquares", fn := fun _ => fun
  | [d1, d2, d3, d4] => { results := [.lit (.bool false)], args := [d1, d2, d3, d4] }
  | _ => none }
def NodeSquaresWrongFalsely : Prop := nodeSquaresRow.holds Try.pinned (OpenSpec.ofChange nodeSquaresWrong)

/-- 'gosperlaw06.NodeLive': WHATEVER THE INPUT: true; the input reads as it did. -/
def nodeLiveSpec : ChangeSpec := { name := "nodeLive", fn := fun _ => fun
  | [d1, d2, d3] => { results := [.lit (.bool true)], args := [d1, d2, d3] }
  | _ => none }
def nodeLiveRow : OpenClaim := { program := "ytnofakjhlmgojaa", sum := "38990425e8756b8d22b4a3dc9e8dfd6638576fd26b7549751da34b99d9176142", func := "gosper/gosperlaw06.NodeLive", spec := "nodeLive", unfollowed := true, recurses := true, plainKeys := false, apart := false }
def NodeLiveSaid : Prop := nodeLiveRow.holds Try.pinned (OpenSpec.ofChange nodeLiveSpec)

/-- ITS FALSE NEIGHBOUR: 'it returns false'. Refute it at one input. -/
def nodeLiveWrong : ChangeSpec := { name := "nodeLive", fn := fun _ => fun
  | [d1, d2, d3] => { results := [.lit (.bool false)], args := [d1, d2, d3] }
  | _ => none }
def NodeLiveWrongFalsely : Prop := nodeLiveRow.holds Try.pinned (OpenSpec.ofChange nodeLiveWrong)

/-- 'gosperlaw06.NodeEmpty': WHATEVER THE INPUT: true; the input reads as it did. -/
def nodeEmptySpec : ChangeSpec := { name := "nodeEmpty", fn := fun _ => fun
  | [d1, d2, d3, d4] => { results := [.lit (.bool true)], args := [d1, d2, d3, d4] }
  | _ => none }
def nodeEmptyRow : OpenClaim := { program := "ytnofakjhlmgojaa", sum := "38990425e8756b8d22b4a3dc9e8dfd6638576fd26b7549751da34b99d9176142", func := "gosper/gosperlaw06.NodeEmpty", spec := "nodeEmpty", unfollowed := true, recurses := true, plainKeys := false, apart := false }
def NodeEmptySaid : Prop := nodeEmptyRow.holds Try.pinned (OpenSpec.ofChange nodeEmptySpec)

/-- ITS FALSE NEIGHBOUR: 'it returns false'. Refute it at one input. -/
def nodeEmptyWrong : ChangeSpec := { name := "nodeEmpty", fn := fun _ => fun
  | [d1, d2, d3, d4] => { results := [.lit (.bool false)], args := [d1, d2, d3, d4] }
  | _ => none }
def NodeEmptyWrongFalsely : Prop := nodeEmptyRow.holds Try.pinned (OpenSpec.ofChange nodeEmptyWrong)

/-- 'gosperlaw06.NodePops': WHATEVER THE INPUT: true; the input reads as it did. -/
def nodePopsSpec : ChangeSpec := { name := "nodePops", fn := fun _ => fun
  | [d1, d2, d3, d4] => { results := [.lit (.bool true)], args := [d1, d2, d3, d4] }
  | _ => none }
def nodePopsRow : OpenClaim := { program := "ytnofakjhlmgojaa", sum := "38990425e8756b8d22b4a3dc9e8dfd6638576fd26b7549751da34b99d9176142", func := "gosper/gosperlaw06.NodePops", spec := "nodePops", unfollowed := true, recurses := true, plainKeys := false, apart := false }
def NodePopsSaid : Prop := nodePopsRow.holds Try.pinned (OpenSpec.ofChange nodePopsSpec)

/-- ITS FALSE NEIGHBOUR: 'it returns false'. Refute it at one input. -/
def nodePopsWrong : ChangeSpec := { name := "nodePops", fn := fun _ => fun
  | [d1, d2, d3, d4] => { results := [.lit (.bool false)], args := [d1, d2, d3, d4] }
  | _ => none }
def NodePopsWrongFalsely : Prop := nodePopsRow.holds Try.pinned (OpenSpec.ofChange nodePopsWrong)

/-- 'gosperlaw06.NodeFull': WHATEVER THE INPUT: true; the input reads as it did. -/
def nodeFullSpec : ChangeSpec := { name := "nodeFull", fn := fun _ => fun
  | [d1, d2, d3] => { results := [.lit (.bool true)], args := [d1, d2, d3] }
  | _ => none }
def nodeFullRow : OpenClaim := { program := "ytnofakjhlmgojaa", sum := "38990425e8756b8d22b4a3dc9e8dfd6638576fd26b7549751da34b99d9176142", func := "gosper/gosperlaw06.NodeFull", spec := "nodeFull", unfollowed := true, recurses := true, plainKeys := false, apart := false }
def NodeFullSaid : Prop := nodeFullRow.holds Try.pinned (OpenSpec.ofChange nodeFullSpec)

/-- ITS FALSE NEIGHBOUR: 'it returns false'. Refute it at one input. -/
def nodeFullWrong : ChangeSpec := { name := "nodeFull", fn := fun _ => fun
  | [d1, d2, d3] => { results := [.lit (.bool false)], args := [d1, d2, d3] }
  | _ => none }
def NodeFullWrongFalsely : Prop := nodeFullRow.holds Try.pinned (OpenSpec.ofChange nodeFullWrong)

/- THE SECOND FORM. 'bulk': how many values and letters a reading holds, each counted each time it is reached (what is shared counts as often as it is met; a slice's spare places count too). A statement '..UptoSaid' is the law's where the arguments, and the package variables that the reading takes, are together of bulk at most 1048576: NARROWER than '..Said'. Prove '..Said' where nothing that the law and all that it calls make is longer than what came in: it says more and counts as full. Else prove '..UptoSaid'. A law counts once. -/
mutual
def uptoBulk {H : Type} : DataW H → Nat
  | .lit (.string bytes) => bytes.length + 1
  | .lit _ => 1
  | .nil => 1
  | .ptr d => uptoBulk d + 1
  | .slice elems spare => uptoBulkAll elems + uptoBulkAll spare + 1
  | .agg parts => uptoBulkAll parts + 1
  | .iface _ d => uptoBulk d + 1
  | .map entries => uptoBulkEntries entries + 1
  | .held _ => 1
def uptoBulkAll {H : Type} : List (DataW H) → Nat
  | [] => 0
  | d :: r => uptoBulk d + uptoBulkAll r
def uptoBulkEntries {H : Type} : List (Lit × DataW H) → Nat
  | [] => 0
  | x :: r => uptoBulkEntry x + uptoBulkEntries r
def uptoBulkEntry {H : Type} : Lit × DataW H → Nat
  | (.string bytes, d) => bytes.length + uptoBulk d + 1
  | (_, d) => uptoBulk d + 1
 end
def uptoSmall : (H : Type) → List (DataW H) → Bool := fun _ ds => decide (uptoBulkAll ds ≤ 1048576)
def OpenSpec.upto (s : _root_.Go.ChangeSpec) : _root_.Go.OpenSpec := { _root_.Go.OpenSpec.ofChange s with cond := some uptoSmall }

/-- 'gosperlaw06.NodeTells', WHERE WHAT IT READS IS OF BULK AT MOST 1048576: true; the input reads as it did. -/
def nodeTellsUptoRow : OpenClaim := { program := "ytnofakjhlmgojaa", sum := "38990425e8756b8d22b4a3dc9e8dfd6638576fd26b7549751da34b99d9176142", func := "gosper/gosperlaw06.NodeTells", spec := "nodeTells", unfollowed := true, recurses := true, plainKeys := false, apart := false, narrowed := true }
def NodeTellsUptoSaid : Prop := nodeTellsUptoRow.holds Try.pinned (OpenSpec.upto nodeTellsSpec)

/-- 'gosperlaw06.NodeOnce', WHERE WHAT IT READS IS OF BULK AT MOST 1048576: true; the input reads as it did. -/
def nodeOnceUptoRow : OpenClaim := { program := "ytnofakjhlmgojaa", sum := "38990425e8756b8d22b4a3dc9e8dfd6638576fd26b7549751da34b99d9176142", func := "gosper/gosperlaw06.NodeOnce", spec := "nodeOnce", unfollowed := true, recurses := true, plainKeys := false, apart := false, narrowed := true }
def NodeOnceUptoSaid : Prop := nodeOnceUptoRow.holds Try.pinned (OpenSpec.upto nodeOnceSpec)

/-- 'gosperlaw06.NodeSquares', WHERE WHAT IT READS IS OF BULK AT MOST 1048576: true; the input reads as it did. -/
def nodeSquaresUptoRow : OpenClaim := { program := "ytnofakjhlmgojaa", sum := "38990425e8756b8d22b4a3dc9e8dfd6638576fd26b7549751da34b99d9176142", func := "gosper/gosperlaw06.NodeSquares", spec := "nodeSquares", unfollowed := true, recurses := true, plainKeys := false, apart := false, narrowed := true }
def NodeSquaresUptoSaid : Prop := nodeSquaresUptoRow.holds Try.pinned (OpenSpec.upto nodeSquaresSpec)

/-- 'gosperlaw06.NodeLive', WHERE WHAT IT READS IS OF BULK AT MOST 1048576: true; the input reads as it did. -/
def nodeLiveUptoRow : OpenClaim := { program := "ytnofakjhlmgojaa", sum := "38990425e8756b8d22b4a3dc9e8dfd6638576fd26b7549751da34b99d9176142", func := "gosper/gosperlaw06.NodeLive", spec := "nodeLive", unfollowed := true, recurses := true, plainKeys := false, apart := false, narrowed := true }
def NodeLiveUptoSaid : Prop := nodeLiveUptoRow.holds Try.pinned (OpenSpec.upto nodeLiveSpec)

/-- 'gosperlaw06.NodeEmpty', WHERE WHAT IT READS IS OF BULK AT MOST 1048576: true; the input reads as it did. -/
def nodeEmptyUptoRow : OpenClaim := { program := "ytnofakjhlmgojaa", sum := "38990425e8756b8d22b4a3dc9e8dfd6638576fd26b7549751da34b99d9176142", func := "gosper/gosperlaw06.NodeEmpty", spec := "nodeEmpty", unfollowed := true, recurses := true, plainKeys := false, apart := false, narrowed := true }
def NodeEmptyUptoSaid : Prop := nodeEmptyUptoRow.holds Try.pinned (OpenSpec.upto nodeEmptySpec)

/-- 'gosperlaw06.NodePops', WHERE WHAT IT READS IS OF BULK AT MOST 1048576: true; the input reads as it did. -/
def nodePopsUptoRow : OpenClaim := { program := "ytnofakjhlmgojaa", sum := "38990425e8756b8d22b4a3dc9e8dfd6638576fd26b7549751da34b99d9176142", func := "gosper/gosperlaw06.NodePops", spec := "nodePops", unfollowed := true, recurses := true, plainKeys := false, apart := false, narrowed := true }
def NodePopsUptoSaid : Prop := nodePopsUptoRow.holds Try.pinned (OpenSpec.upto nodePopsSpec)

/-- 'gosperlaw06.NodeFull', WHERE WHAT IT READS IS OF BULK AT MOST 1048576: true; the input reads as it did. -/
def nodeFullUptoRow : OpenClaim := { program := "ytnofakjhlmgojaa", sum := "38990425e8756b8d22b4a3dc9e8dfd6638576fd26b7549751da34b99d9176142", func := "gosper/gosperlaw06.NodeFull", spec := "nodeFull", unfollowed := true, recurses := true, plainKeys := false, apart := false, narrowed := true }
def NodeFullUptoSaid : Prop := nodeFullUptoRow.holds Try.pinned (OpenSpec.upto nodeFullSpec)

end Rows
end Go.Proofs.Ytnofakjhlmgojaa
