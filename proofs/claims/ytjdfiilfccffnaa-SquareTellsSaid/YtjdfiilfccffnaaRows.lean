/-
  No cell of these rows narrows 'for every input' (looked for: loops, veiled, ifaces, maps, wideKeys, modest, calm, conditions, laid).
  DERIVED. THE GIVEN ROWS OF THIS SEAT. 7 by the template 'for every input the law returns true; each argument reads behind the call as it read before'; 0 by the template 'total and deterministic' (their statements: YtjdfiilfccffnaaTotals.lean).
  GIVEN WITH THE SEED: the statements are not yours to turn. If you find one false, say at which input.
  Laid BY PROGRAM, IN A SANDBOX (cutbox-rows.mjs): the forced cells as the released guide's own fill.sh prints them over the translation 03092d229b755b23… (all of the seat's roots in one cut). By AI agents, Wed Nov 11 2026. No macro, syntax, notation, axiom, sorry.
-/
import Derived.Test.YtjdfiilfccffnaaChecked
import GoSem.Claim
import GoSem.ClaimJoined
import GoSem.ClaimMapViews
import Derived.JoinedTies
import Derived.KernelRfl
namespace Go.Proofs.Ytjdfiilfccffnaa
/- THE CELL 'sum', in the pinned program and in every row, IS THE sha256 OF THE DUMP (.gsa) THAT YtjdfiilfccffnaaProg.lean LOADS. Nothing in Lean hashes anything: it is a label: what it is worth is what the hold of that sum in a sandbox is worth. -/
noncomputable def Try.pinned : Pinned := { name := "ytjdfiilfccffnaa", sum := "03092d229b755b23927d171c3e59420a52ed3fd0eacba2c977dc69f6cb640fad", checked := Try.checked }
namespace Rows
def none {H : Type} : Left H := { results := [], args := [] }

/-- 'gosperlaw07.SquareTells': WHATEVER THE INPUT: true; the input reads as it did. -/
def squareTellsSpec : ChangeSpec := { name := "squareTells", fn := fun _ => fun
  | [d1, d2, d3, d4, d5, d6, d7, d8] => { results := [.lit (.bool true)], args := [d1, d2, d3, d4, d5, d6, d7, d8] }
  | _ => none }
def squareTellsRow : OpenClaim := { program := "ytjdfiilfccffnaa", sum := "03092d229b755b23927d171c3e59420a52ed3fd0eacba2c977dc69f6cb640fad", func := "gosper/gosperlaw07.SquareTells", spec := "squareTells", unfollowed := true, recurses := true, plainKeys := false, apart := false }
def SquareTellsSaid : Prop := squareTellsRow.holds Try.pinned (OpenSpec.ofChange squareTellsSpec)

/-- ITS FALSE NEIGHBOUR: 'it returns false'. Refute it at one input. -/
def squareTellsWrong : ChangeSpec := { name := "squareTells", fn := fun _ => fun
  | [d1, d2, d3, d4, d5, d6, d7, d8] => { results := [.lit (.bool false)], args := [d1, d2, d3, d4, d5, d6, d7, d8] }
  | _ => none }
def SquareTellsWrongFalsely : Prop := squareTellsRow.holds Try.pinned (OpenSpec.ofChange squareTellsWrong)

/-- 'gosperlaw07.SquareBack': WHATEVER THE INPUT: true; the input reads as it did. -/
def squareBackSpec : ChangeSpec := { name := "squareBack", fn := fun _ => fun
  | [d1, d2, d3, d4, d5] => { results := [.lit (.bool true)], args := [d1, d2, d3, d4, d5] }
  | _ => none }
def squareBackRow : OpenClaim := { program := "ytjdfiilfccffnaa", sum := "03092d229b755b23927d171c3e59420a52ed3fd0eacba2c977dc69f6cb640fad", func := "gosper/gosperlaw07.SquareBack", spec := "squareBack", unfollowed := true, recurses := true, plainKeys := false, apart := false }
def SquareBackSaid : Prop := squareBackRow.holds Try.pinned (OpenSpec.ofChange squareBackSpec)

/-- ITS FALSE NEIGHBOUR: 'it returns false'. Refute it at one input. -/
def squareBackWrong : ChangeSpec := { name := "squareBack", fn := fun _ => fun
  | [d1, d2, d3, d4, d5] => { results := [.lit (.bool false)], args := [d1, d2, d3, d4, d5] }
  | _ => none }
def SquareBackWrongFalsely : Prop := squareBackRow.holds Try.pinned (OpenSpec.ofChange squareBackWrong)

/-- 'gosperlaw07.SquareSets': WHATEVER THE INPUT: true; the input reads as it did. -/
def squareSetsSpec : ChangeSpec := { name := "squareSets", fn := fun _ => fun
  | [d1, d2, d3, d4, d5, d6, d7] => { results := [.lit (.bool true)], args := [d1, d2, d3, d4, d5, d6, d7] }
  | _ => none }
def squareSetsRow : OpenClaim := { program := "ytjdfiilfccffnaa", sum := "03092d229b755b23927d171c3e59420a52ed3fd0eacba2c977dc69f6cb640fad", func := "gosper/gosperlaw07.SquareSets", spec := "squareSets", unfollowed := true, recurses := true, plainKeys := false, apart := false }
def SquareSetsSaid : Prop := squareSetsRow.holds Try.pinned (OpenSpec.ofChange squareSetsSpec)

/-- ITS FALSE NEIGHBOUR: 'it returns false'. Refute it at one input. -/
def squareSetsWrong : ChangeSpec := { name := "squareSets", fn := fun _ => fun
  | [d1, d2, d3, d4, d5, d6, d7] => { results := [.lit (.bool false)], args := [d1, d2, d3, d4, d5, d6, d7] }
  | _ => none }
def SquareSetsWrongFalsely : Prop := squareSetsRow.holds Try.pinned (OpenSpec.ofChange squareSetsWrong)

/-- 'gosperlaw07.SquareGrows': WHATEVER THE INPUT: true; the input reads as it did. -/
def squareGrowsSpec : ChangeSpec := { name := "squareGrows", fn := fun _ => fun
  | [d1, d2, d3, d4, d5] => { results := [.lit (.bool true)], args := [d1, d2, d3, d4, d5] }
  | _ => none }
def squareGrowsRow : OpenClaim := { program := "ytjdfiilfccffnaa", sum := "03092d229b755b23927d171c3e59420a52ed3fd0eacba2c977dc69f6cb640fad", func := "gosper/gosperlaw07.SquareGrows", spec := "squareGrows", unfollowed := true, recurses := true, plainKeys := false, apart := false }
def SquareGrowsSaid : Prop := squareGrowsRow.holds Try.pinned (OpenSpec.ofChange squareGrowsSpec)

/-- ITS FALSE NEIGHBOUR: 'it returns false'. Refute it at one input. -/
def squareGrowsWrong : ChangeSpec := { name := "squareGrows", fn := fun _ => fun
  | [d1, d2, d3, d4, d5] => { results := [.lit (.bool false)], args := [d1, d2, d3, d4, d5] }
  | _ => none }
def SquareGrowsWrongFalsely : Prop := squareGrowsRow.holds Try.pinned (OpenSpec.ofChange squareGrowsWrong)

/-- 'gosperlaw07.SquareShifts': WHATEVER THE INPUT: true; the input reads as it did. -/
def squareShiftsSpec : ChangeSpec := { name := "squareShifts", fn := fun _ => fun
  | [d1, d2, d3, d4] => { results := [.lit (.bool true)], args := [d1, d2, d3, d4] }
  | _ => none }
def squareShiftsRow : OpenClaim := { program := "ytjdfiilfccffnaa", sum := "03092d229b755b23927d171c3e59420a52ed3fd0eacba2c977dc69f6cb640fad", func := "gosper/gosperlaw07.SquareShifts", spec := "squareShifts", unfollowed := true, recurses := true, plainKeys := false, apart := false }
def SquareShiftsSaid : Prop := squareShiftsRow.holds Try.pinned (OpenSpec.ofChange squareShiftsSpec)

/-- ITS FALSE NEIGHBOUR: 'it returns false'. Refute it at one input. -/
def squareShiftsWrong : ChangeSpec := { name := "squareShifts", fn := fun _ => fun
  | [d1, d2, d3, d4] => { results := [.lit (.bool false)], args := [d1, d2, d3, d4] }
  | _ => none }
def SquareShiftsWrongFalsely : Prop := squareShiftsRow.holds Try.pinned (OpenSpec.ofChange squareShiftsWrong)

/-- 'gosperlaw07.SquareOut': WHATEVER THE INPUT: true; the input reads as it did. -/
def squareOutSpec : ChangeSpec := { name := "squareOut", fn := fun _ => fun
  | [d1, d2, d3, d4, d5, d6] => { results := [.lit (.bool true)], args := [d1, d2, d3, d4, d5, d6] }
  | _ => none }
def squareOutRow : OpenClaim := { program := "ytjdfiilfccffnaa", sum := "03092d229b755b23927d171c3e59420a52ed3fd0eacba2c977dc69f6cb640fad", func := "gosper/gosperlaw07.SquareOut", spec := "squareOut", unfollowed := true, recurses := true, plainKeys := false, apart := false }
def SquareOutSaid : Prop := squareOutRow.holds Try.pinned (OpenSpec.ofChange squareOutSpec)

/-- ITS FALSE NEIGHBOUR: 'it returns false'. Refute it at one input. -/
def squareOutWrong : ChangeSpec := { name := "squareOut", fn := fun _ => fun
  | [d1, d2, d3, d4, d5, d6] => { results := [.lit (.bool false)], args := [d1, d2, d3, d4, d5, d6] }
  | _ => none }
def SquareOutWrongFalsely : Prop := squareOutRow.holds Try.pinned (OpenSpec.ofChange squareOutWrong)

/-- 'gosperlaw07.SquarePops': WHATEVER THE INPUT: true; the input reads as it did. -/
def squarePopsSpec : ChangeSpec := { name := "squarePops", fn := fun _ => fun
  | [d1, d2, d3, d4] => { results := [.lit (.bool true)], args := [d1, d2, d3, d4] }
  | _ => none }
def squarePopsRow : OpenClaim := { program := "ytjdfiilfccffnaa", sum := "03092d229b755b23927d171c3e59420a52ed3fd0eacba2c977dc69f6cb640fad", func := "gosper/gosperlaw07.SquarePops", spec := "squarePops", unfollowed := true, recurses := true, plainKeys := false, apart := false }
def SquarePopsSaid : Prop := squarePopsRow.holds Try.pinned (OpenSpec.ofChange squarePopsSpec)

/-- ITS FALSE NEIGHBOUR: 'it returns false'. Refute it at one input. -/
def squarePopsWrong : ChangeSpec := { name := "squarePops", fn := fun _ => fun
  | [d1, d2, d3, d4] => { results := [.lit (.bool false)], args := [d1, d2, d3, d4] }
  | _ => none }
def SquarePopsWrongFalsely : Prop := squarePopsRow.holds Try.pinned (OpenSpec.ofChange squarePopsWrong)

/- THE SECOND FORM. 'bulk': how many values and letters a reading holds, each counted each time it is reached (what is shared counts as often as it is met; a slice's spare places count too). A statement '..UptoSaid' is the law's where the arguments, and the package variables that the reading takes, are together of bulk at most 1048576: NARROWER than '..Said'. Prove '..Said' where nothing that the law and all that it calls make is longer than what came in: it says more and counts as full. Else prove '..UptoSaid'. A law counts once. -/
mutual
def uptoBulk {H : Type} : DataW H → Nat
  | .lit (.string bytes) => bytes.length + 1
  | .lit _ => 1
  | .nil => 1
  | .ptr d => uptoBulk d + 1
  | .slice elems spare => uptoBulkAll elems + uptoBulkAll spare + 1
  | .agg parts => uptoBulkAll parts + 1
  | .iface _ d => uptoBulk d + 1
  | .map entries => uptoBulkEntries entries + 1
  | .held _ => 1
def uptoBulkAll {H : Type} : List (DataW H) → Nat
  | [] => 0
  | d :: r => uptoBulk d + uptoBulkAll r
def uptoBulkEntries {H : Type} : List (Lit × DataW H) → Nat
  | [] => 0
  | x :: r => uptoBulkEntry x + uptoBulkEntries r
def uptoBulkEntry {H : Type} : Lit × DataW H → Nat
  | (.string bytes, d) => bytes.length + uptoBulk d + 1
  | (_, d) => uptoBulk d + 1
 end
def uptoSmall : (H : Type) → List (DataW H) → Bool := fun _ ds => decide (uptoBulkAll ds ≤ 1048576)
def OpenSpec.upto (s : _root_.Go.ChangeSpec) : _root_.Go.OpenSpec := { _root_.Go.OpenSpec.ofChange s with cond := some uptoSmall }

/-- 'gosperlaw07.SquareTells', WHERE WHAT IT READS IS OF BULK AT MOST 1048576: true; the input reads as it did. -/
def squareTellsUptoRow : OpenClaim := { program := "ytjdfiilfccffnaa", sum := "03092d229b755b23927d171c3e59420a52ed3fd0eacba2c977dc69f6cb640fad", func := "gosper/gosperlaw07.SquareTells", spec := "squareTells", unfollowed := true, recurses := true, plainKeys := false, apart := false, narrowed := true }
def SquareTellsUptoSaid : Prop := squareTellsUptoRow.holds Try.pinned (OpenSpec.upto squareTellsSpec)

/-- 'gosperlaw07.SquareBack', WHERE WHAT IT READS IS OF BULK AT MOST 1048576: true; the input reads as it did. -/
def squareBackUptoRow : OpenClaim := { program := "ytjdfiilfccffnaa", sum := "03092d229b755b23927d171c3e59420a52ed3fd0eacba2c977dc69f6cb640fad", func := "gosper/gosperlaw07.SquareBack", spec := "squareBack", unfollowed := true, recurses := true, plainKeys := false, apart := false, narrowed := true }
def SquareBackUptoSaid : Prop := squareBackUptoRow.holds Try.pinned (OpenSpec.upto squareBackSpec)

/-- 'gosperlaw07.SquareSets', WHERE WHAT IT READS IS OF BULK AT MOST 1048576: true; the input reads as it did. -/
def squareSetsUptoRow : OpenClaim := { program := "ytjdfiilfccffnaa", sum := "03092d229b755b23927d171c3e59420a52ed3fd0eacba2c977dc69f6cb640fad", func := "gosper/gosperlaw07.SquareSets", spec := "squareSets", unfollowed := true, recurses := true, plainKeys := false, apart := false, narrowed := true }
def SquareSetsUptoSaid : Prop := squareSetsUptoRow.holds Try.pinned (OpenSpec.upto squareSetsSpec)

/-- 'gosperlaw07.SquareGrows', WHERE WHAT IT READS IS OF BULK AT MOST 1048576: true; the input reads as it did. -/
def squareGrowsUptoRow : OpenClaim := { program := "ytjdfiilfccffnaa", sum := "03092d229b755b23927d171c3e59420a52ed3fd0eacba2c977dc69f6cb640fad", func := "gosper/gosperlaw07.SquareGrows", spec := "squareGrows", unfollowed := true, recurses := true, plainKeys := false, apart := false, narrowed := true }
def SquareGrowsUptoSaid : Prop := squareGrowsUptoRow.holds Try.pinned (OpenSpec.upto squareGrowsSpec)

/-- 'gosperlaw07.SquareShifts', WHERE WHAT IT READS IS OF BULK AT MOST 1048576: true; the input reads as it did. -/
def squareShiftsUptoRow : OpenClaim := { program := "ytjdfiilfccffnaa", sum := "03092d229b755b23927d171c3e59420a52ed3fd0eacba2c977dc69f6cb640fad", func := "gosper/gosperlaw07.SquareShifts", spec := "squareShifts", unfollowed := true, recurses := true, plainKeys := false, apart := false, narrowed := true }
def SquareShiftsUptoSaid : Prop := squareShiftsUptoRow.holds Try.pinned (OpenSpec.upto squareShiftsSpec)

/-- 'gosperlaw07.SquareOut', WHERE WHAT IT READS IS OF BULK AT MOST 1048576: true; the input reads as it did. -/
def squareOutUptoRow : OpenClaim := { program := "ytjdfiilfccffnaa", sum := "03092d229b755b23927d171c3e59420a52ed3fd0eacba2c977dc69f6cb640fad", func := "gosper/gosperlaw07.SquareOut", spec := "squareOut", unfollowed := true, recurses := true, plainKeys := false, apart := false, narrowed := true }
def SquareOutUptoSaid : Prop := squareOutUptoRow.holds Try.pinned (OpenSpec.upto squareOutSpec)

/-- 'gosperlaw07.SquarePops', WHERE WHAT IT READS IS OF BULK AT MOST 1048576: true; the input reads as it did. -/
def squarePopsUptoRow : OpenClaim := { program := "ytjdfiilfccffnaa", sum := "03092d229b755b23927d171c3e59420a52ed3fd0eacba2c977dc69f6cb640fad", func := "gosper/gosperlaw07.SquarePops", spec := "squarePops", unfollowed := true, recurses := true, plainKeys := false, apart := false, narrowed := true }
def SquarePopsUptoSaid : Prop := squarePopsUptoRow.holds Try.pinned (OpenSpec.upto squarePopsSpec)

end Rows
end Go.Proofs.Ytjdfiilfccffnaa
