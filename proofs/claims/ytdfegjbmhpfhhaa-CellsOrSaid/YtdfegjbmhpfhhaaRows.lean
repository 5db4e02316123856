/-
  No cell of these rows narrows 'for every input' (looked for: loops, veiled, ifaces, maps, wideKeys, modest, calm, conditions, laid).
  DERIVED. THE GIVEN ROWS OF THIS SEAT. 6 by the template 'for every input the law returns true; each argument reads behind the call as it read before'; 0 by the template 'total and deterministic' (their statements: YtdfegjbmhpfhhaaTotals.lean).
  GIVEN WITH THE SEED: the statements are not yours to turn. If you find one false, say at which input.
  Laid BY PROGRAM, IN A SANDBOX (cutbox-rows.mjs): the forced cells as the released guide's own fill.sh prints them over the translation 0292370e6fecb658… (all of the seat's roots in one cut). By AI agents, Wed Nov 11 2026. No macro, syntax, notation, axiom, sorry.
-/
import Derived.Test.YtdfegjbmhpfhhaaChecked
import GoSem.Claim
import GoSem.ClaimJoined
import GoSem.ClaimMapViews
import Derived.JoinedTies
import Derived.KernelRfl
namespace Go.Proofs.Ytdfegjbmhpfhhaa
/- THE CELL 'sum', in the pinned program and in every row, IS THE sha256 OF THE DUMP (.gsa) THAT YtdfegjbmhpfhhaaProg.lean LOADS. Nothing in Lean hashes anything: it is a label: what it is worth is what the hold of that sum in a sandbox is worth. -/
noncomputable def Try.pinned : Pinned := { name := "ytdfegjbmhpfhhaa", sum := "0292370e6fecb658f7122866398c82aabe25a35638caf300b50b2abe5a965a4d", checked := Try.checked }
namespace Rows
def none {H : Type} : Left H := { results := [], args := [] }

/-- 'gosperlaw01.CellsTells': WHATEVER THE INPUT: true; the input reads as it did. -/
def cellsTellsSpec : ChangeSpec := { name := "cellsTells", fn := fun _ => fun
  | [d1, d2, d3, d4, d5] => { results := [.lit (.bool true)], args := [d1, d2, d3, d4, d5] }
  | _ => none }
def cellsTellsRow : OpenClaim := { program := "ytdfegjbmhpfhhaa", sum := "0292370e6fecb658f7122866398c82aabe25a35638caf300b50b2abe5a965a4d", func := "gosper/gosperlaw01.CellsTells", spec := "cellsTells", inPlace := ["slices.overlaps[gosper/api.Cell]"], unfollowed := true, recurses := true, apart := false }
def CellsTellsSaid : Prop := cellsTellsRow.holds Try.pinned (OpenSpec.ofChange cellsTellsSpec)

/-- ITS FALSE NEIGHBOUR: 'it returns false'. Refute it at one input. -/
def cellsTellsWrong : ChangeSpec := { name := "cellsTells", fn := fun _ => fun
  | [d1, d2, d3, d4, d5] => { results := [.lit (.bool false)], args := [d1, d2, d3, d4, d5] }
  | _ => none }
def CellsTellsWrongFalsely : Prop := cellsTellsRow.holds Try.pinned (OpenSpec.ofChange cellsTellsWrong)

/-- 'gosperlaw01.CellsSets': WHATEVER THE INPUT: true; the input reads as it did. -/
def cellsSetsSpec : ChangeSpec := { name := "cellsSets", fn := fun _ => fun
  | [d1, d2, d3, d4] => { results := [.lit (.bool true)], args := [d1, d2, d3, d4] }
  | _ => none }
def cellsSetsRow : OpenClaim := { program := "ytdfegjbmhpfhhaa", sum := "0292370e6fecb658f7122866398c82aabe25a35638caf300b50b2abe5a965a4d", func := "gosper/gosperlaw01.CellsSets", spec := "cellsSets", inPlace := ["slices.overlaps[gosper/api.Cell]"], unfollowed := true, recurses := true, apart := false }
def CellsSetsSaid : Prop := cellsSetsRow.holds Try.pinned (OpenSpec.ofChange cellsSetsSpec)

/-- ITS FALSE NEIGHBOUR: 'it returns false'. Refute it at one input. -/
def cellsSetsWrong : ChangeSpec := { name := "cellsSets", fn := fun _ => fun
  | [d1, d2, d3, d4] => { results := [.lit (.bool false)], args := [d1, d2, d3, d4] }
  | _ => none }
def CellsSetsWrongFalsely : Prop := cellsSetsRow.holds Try.pinned (OpenSpec.ofChange cellsSetsWrong)

/-- 'gosperlaw01.CellsShifts': WHATEVER THE INPUT: true; the input reads as it did. -/
def cellsShiftsSpec : ChangeSpec := { name := "cellsShifts", fn := fun _ => fun
  | [d1, d2, d3, d4, d5] => { results := [.lit (.bool true)], args := [d1, d2, d3, d4, d5] }
  | _ => none }
def cellsShiftsRow : OpenClaim := { program := "ytdfegjbmhpfhhaa", sum := "0292370e6fecb658f7122866398c82aabe25a35638caf300b50b2abe5a965a4d", func := "gosper/gosperlaw01.CellsShifts", spec := "cellsShifts", inPlace := ["slices.overlaps[gosper/api.Cell]"], unfollowed := true, recurses := true, apart := false }
def CellsShiftsSaid : Prop := cellsShiftsRow.holds Try.pinned (OpenSpec.ofChange cellsShiftsSpec)

/-- ITS FALSE NEIGHBOUR: 'it returns false'. Refute it at one input. -/
def cellsShiftsWrong : ChangeSpec := { name := "cellsShifts", fn := fun _ => fun
  | [d1, d2, d3, d4, d5] => { results := [.lit (.bool false)], args := [d1, d2, d3, d4, d5] }
  | _ => none }
def CellsShiftsWrongFalsely : Prop := cellsShiftsRow.holds Try.pinned (OpenSpec.ofChange cellsShiftsWrong)

/-- 'gosperlaw01.CellsBox': WHATEVER THE INPUT: true; the input reads as it did. -/
def cellsBoxSpec : ChangeSpec := { name := "cellsBox", fn := fun _ => fun
  | [d] => { results := [.lit (.bool true)], args := [d] }
  | _ => none }
def cellsBoxRow : OpenClaim := { program := "ytdfegjbmhpfhhaa", sum := "0292370e6fecb658f7122866398c82aabe25a35638caf300b50b2abe5a965a4d", func := "gosper/gosperlaw01.CellsBox", spec := "cellsBox", inPlace := ["slices.overlaps[gosper/api.Cell]"], unfollowed := true, recurses := true, apart := false }
def CellsBoxSaid : Prop := cellsBoxRow.holds Try.pinned (OpenSpec.ofChange cellsBoxSpec)

/-- ITS FALSE NEIGHBOUR: 'it returns false'. Refute it at one input. -/
def cellsBoxWrong : ChangeSpec := { name := "cellsBox", fn := fun _ => fun
  | [d] => { results := [.lit (.bool false)], args := [d] }
  | _ => none }
def CellsBoxWrongFalsely : Prop := cellsBoxRow.holds Try.pinned (OpenSpec.ofChange cellsBoxWrong)

/-- 'gosperlaw01.CellsOr': WHATEVER THE INPUT: true; the input reads as it did. -/
def cellsOrSpec : ChangeSpec := { name := "cellsOr", fn := fun _ => fun
  | [d1, d2] => { results := [.lit (.bool true)], args := [d1, d2] }
  | _ => none }
def cellsOrRow : OpenClaim := { program := "ytdfegjbmhpfhhaa", sum := "0292370e6fecb658f7122866398c82aabe25a35638caf300b50b2abe5a965a4d", func := "gosper/gosperlaw01.CellsOr", spec := "cellsOr", inPlace := ["slices.overlaps[gosper/api.Cell]"], unfollowed := true, recurses := true, apart := false }
def CellsOrSaid : Prop := cellsOrRow.holds Try.pinned (OpenSpec.ofChange cellsOrSpec)

/-- ITS FALSE NEIGHBOUR: 'it returns false'. Refute it at one input. -/
def cellsOrWrong : ChangeSpec := { name := "cellsOr", fn := fun _ => fun
  | [d1, d2] => { results := [.lit (.bool false)], args := [d1, d2] }
  | _ => none }
def CellsOrWrongFalsely : Prop := cellsOrRow.holds Try.pinned (OpenSpec.ofChange cellsOrWrong)

/-- 'gosperlaw01.CellsBounds': WHATEVER THE INPUT: true; the input reads as it did. -/
def cellsBoundsSpec : ChangeSpec := { name := "cellsBounds", fn := fun _ => fun
  | [d1, d2, d3] => { results := [.lit (.bool true)], args := [d1, d2, d3] }
  | _ => none }
def cellsBoundsRow : OpenClaim := { program := "ytdfegjbmhpfhhaa", sum := "0292370e6fecb658f7122866398c82aabe25a35638caf300b50b2abe5a965a4d", func := "gosper/gosperlaw01.CellsBounds", spec := "cellsBounds", inPlace := ["slices.overlaps[gosper/api.Cell]"], unfollowed := true, recurses := true, apart := false }
def CellsBoundsSaid : Prop := cellsBoundsRow.holds Try.pinned (OpenSpec.ofChange cellsBoundsSpec)

/-- ITS FALSE NEIGHBOUR: 'it returns false'. Refute it at one input. -/
def cellsBoundsWrong : ChangeSpec := { name := "cellsBounds", fn := fun _ => fun
  | [d1, d2, d3] => { results := [.lit (.bool false)], args := [d1, d2, d3] }
  | _ => none }
def CellsBoundsWrongFalsely : Prop := cellsBoundsRow.holds Try.pinned (OpenSpec.ofChange cellsBoundsWrong)

/- THE SECOND FORM. 'bulk': how many values and letters a reading holds, each counted each time it is reached (what is shared counts as often as it is met; a slice's spare places count too). A statement '..UptoSaid' is the law's where the arguments, and the package variables that the reading takes, are together of bulk at most 1048576: NARROWER than '..Said'. Prove '..Said' where nothing that the law and all that it calls make is longer than what came in: it says more and counts as full. Else prove '..UptoSaid'. A law counts once. -/
mutual
def uptoBulk {H : Type} : DataW H → Nat
  | .lit (.string bytes) => bytes.length + 1
  | .lit _ => 1
  | .nil => 1
  | .ptr d => uptoBulk d + 1
  | .slice elems spare => uptoBulkAll elems + uptoBulkAll spare + 1
  | .agg parts => uptoBulkAll parts + 1
  | .iface _ d => uptoBulk d + 1
  | .map entries => uptoBulkEntries entries + 1
  | .held _ => 1
def uptoBulkAll {H : Type} : List (DataW H) → Nat
  | [] => 0
  | d :: r => uptoBulk d + uptoBulkAll r
def uptoBulkEntries {H : Type} : List (Lit × DataW H) → Nat
  | [] => 0
  | x :: r => uptoBulkEntry x + uptoBulkEntries r
def uptoBulkEntry {H : Type} : Lit × DataW H → Nat
  | (.string bytes, d) => bytes.length + uptoBulk d + 1
  | (_, d) => uptoBulk d + 1
 end
def uptoSmall : (H : Type) → List (DataW H) → Bool := fun _ ds => decide (uptoBulkAll ds ≤ 1048576)
def OpenSpec.upto (s : _root_.Go.ChangeSpec) : _root_.Go.OpenSpec := { _root_.Go.OpenSpec.ofChange s with cond := some uptoSmall }

/-- 'gosperlaw01.CellsTells', WHERE WHAT IT READS IS OF BULK AT MOST 1048576: true; the input reads as it did. -/
def cellsTellsUptoRow : OpenClaim := { program := "ytdfegjbmhpfhhaa", sum := "0292370e6fecb658f7122866398c82aabe25a35638caf300b50b2abe5a965a4d", func := "gosper/gosperlaw01.CellsTells", spec := "cellsTells", inPlace := ["slices.overlaps[gosper/api.Cell]"], unfollowed := true, recurses := true, apart := false, narrowed := true }
def CellsTellsUptoSaid : Prop := cellsTellsUptoRow.holds Try.pinned (OpenSpec.upto cellsTellsSpec)

/-- 'gosperlaw01.CellsSets', WHERE WHAT IT READS IS OF BULK AT MOST 1048576: true; the input reads as it did. -/
def cellsSetsUptoRow : OpenClaim := { program := "ytdfegjbmhpfhhaa", sum := "0292370e6fecb658f7122866398c82aabe25a35638caf300b50b2abe5a965a4d", func := "gosper/gosperlaw01.CellsSets", spec := "cellsSets", inPlace := ["slices.overlaps[gosper/api.Cell]"], unfollowed := true, recurses := true, apart := false, narrowed := true }
def CellsSetsUptoSaid : Prop := cellsSetsUptoRow.holds Try.pinned (OpenSpec.upto cellsSetsSpec)

/-- 'gosperlaw01.CellsShifts', WHERE WHAT IT READS IS OF BULK AT MOST 1048576: true; the input reads as it did. -/
def cellsShiftsUptoRow : OpenClaim := { program := "ytdfegjbmhpfhhaa", sum := "0292370e6fecb658f7122866398c82aabe25a35638caf300b50b2abe5a965a4d", func := "gosper/gosperlaw01.CellsShifts", spec := "cellsShifts", inPlace := ["slices.overlaps[gosper/api.Cell]"], unfollowed := true, recurses := true, apart := false, narrowed := true }
def CellsShiftsUptoSaid : Prop := cellsShiftsUptoRow.holds Try.pinned (OpenSpec.upto cellsShiftsSpec)

/-- 'gosperlaw01.CellsBox', WHERE WHAT IT READS IS OF BULK AT MOST 1048576: true; the input reads as it did. -/
def cellsBoxUptoRow : OpenClaim := { program := "ytdfegjbmhpfhhaa", sum := "0292370e6fecb658f7122866398c82aabe25a35638caf300b50b2abe5a965a4d", func := "gosper/gosperlaw01.CellsBox", spec := "cellsBox", inPlace := ["slices.overlaps[gosper/api.Cell]"], unfollowed := true, recurses := true, apart := false, narrowed := true }
def CellsBoxUptoSaid : Prop := cellsBoxUptoRow.holds Try.pinned (OpenSpec.upto cellsBoxSpec)

/-- 'gosperlaw01.CellsOr', WHERE WHAT IT READS IS OF BULK AT MOST 1048576: true; the input reads as it did. -/
def cellsOrUptoRow : OpenClaim := { program := "ytdfegjbmhpfhhaa", sum := "0292370e6fecb658f7122866398c82aabe25a35638caf300b50b2abe5a965a4d", func := "gosper/gosperlaw01.CellsOr", spec := "cellsOr", inPlace := ["slices.overlaps[gosper/api.Cell]"], unfollowed := true, recurses := true, apart := false, narrowed := true }
def CellsOrUptoSaid : Prop := cellsOrUptoRow.holds Try.pinned (OpenSpec.upto cellsOrSpec)

/-- 'gosperlaw01.CellsBounds', WHERE WHAT IT READS IS OF BULK AT MOST 1048576: true; the input reads as it did. -/
def cellsBoundsUptoRow : OpenClaim := { program := "ytdfegjbmhpfhhaa", sum := "0292370e6fecb658f7122866398c82aabe25a35638caf300b50b2abe5a965a4d", func := "gosper/gosperlaw01.CellsBounds", spec := "cellsBounds", inPlace := ["slices.overlaps[gosper/api.Cell]"], unfollowed := true, recurses := true, apart := false, narrowed := true }
def CellsBoundsUptoSaid : Prop := cellsBoundsUptoRow.holds Try.pinned (OpenSpec.upto cellsBoundsSpec)

end Rows
end Go.Proofs.Ytdfegjbmhpfhhaa
