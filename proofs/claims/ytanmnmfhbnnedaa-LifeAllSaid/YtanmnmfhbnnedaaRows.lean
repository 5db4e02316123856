/-
  No cell of these rows narrows 'for every input' (looked for: loops, veiled, ifaces, maps, wideKeys, modest, calm, conditions, laid).
  DERIVED. THE GIVEN ROWS OF THIS SEAT. 7 by the template 'for every input the law returns true; each argument reads behind the call as it read before'; 0 by the template 'total and deterministic' (their statements: YtanmnmfhbnnedaaTotals.lean).
  GIVEN WITH THE SEED: the statements are not yours to turn. If you find one false, say at which input.
  Laid BY PROGRAM, IN A SANDBOX (cutbox-rows.mjs): the forced cells as the released guide's own fill.sh prints them over the translation 38a83259b01cc601… (all of the seat's roots in one cut). By AI agents, Wed Nov 11 2026. No macro, syntax, notation, axiom, sorry.
-/
import Derived.Test.YtanmnmfhbnnedaaChecked
import GoSem.Claim
import GoSem.ClaimJoined
import GoSem.ClaimMapViews
import Derived.JoinedTies
import Derived.KernelRfl
namespace Go.Proofs.Ytanmnmfhbnnedaa
/- THE CELL 'sum', in the pinned program and in every row, IS THE sha256 OF THE DUMP (.gsa) THAT YtanmnmfhbnnedaaProg.lean LOADS. Nothing in Lean hashes anything: it is a label: what it is worth is what the hold of that sum in a sandbox is worth. -/
noncomputable def Try.pinned : Pinned := { name := "ytanmnmfhbnnedaa", sum := "38a83259b01cc6018e196bf505098bc12b82b513a92ee0e8c4c89a531e3bfe19", checked := Try.checked }
namespace Rows
def none {H : Type} : Left H := { results := [], args := [] }

/-- 'gosperlaw02.LifeTells': WHATEVER THE INPUT: true; the input reads as it did. -/
def lifeTellsSpec : ChangeSpec := { name := "lifeTells", fn := fun _ => fun
  | [d1, d2, d3, d4] => { results := [.lit (.bool true)], args := [d1, d2, d3, d4] }
  | _ => none }
def lifeTellsRow : OpenClaim := { program := "ytanmnmfhbnnedaa", sum := "38a83259b01cc6018e196bf505098bc12b82b513a92ee0e8c4c89a531e3bfe19", func := "gosper/gosperlaw02.LifeTells", spec := "lifeTells", unfollowed := true, recurses := true, plainKeys := false, apart := false }
def LifeTellsSaid : Prop := lifeTellsRow.holds Try.pinned (OpenSpec.ofChange lifeTellsSpec)

/-- ITS FALSE NEIGHBOUR: 'it returns false'. Refute it at one input. -/
def lifeTellsWrong : ChangeSpec := { name := "lifeTells", fn := fun _ => fun
  | [d1, d2, d3, d4] => { results := [.lit (.bool false)], args := [d1, d2, d3, d4] }
  | _ => none }
def LifeTellsWrongFalsely : Prop := lifeTellsRow.holds Try.pinned (OpenSpec.ofChange lifeTellsWrong)

/-- 'gosperlaw02.LifeMoves': WHATEVER THE INPUT: true; the input reads as it did. -/
def lifeMovesSpec : ChangeSpec := { name := "lifeMoves", fn := fun _ => fun
  | [d1, d2, d3, d4, d5] => { results := [.lit (.bool true)], args := [d1, d2, d3, d4, d5] }
  | _ => none }
def lifeMovesRow : OpenClaim := { program := "ytanmnmfhbnnedaa", sum := "38a83259b01cc6018e196bf505098bc12b82b513a92ee0e8c4c89a531e3bfe19", func := "gosper/gosperlaw02.LifeMoves", spec := "lifeMoves", unfollowed := true, recurses := true, plainKeys := false, apart := false }
def LifeMovesSaid : Prop := lifeMovesRow.holds Try.pinned (OpenSpec.ofChange lifeMovesSpec)

/-- ITS FALSE NEIGHBOUR: 'it returns false'. Refute it at one input. -/
def lifeMovesWrong : ChangeSpec := { name := "lifeMoves", fn := fun _ => fun
  | [d1, d2, d3, d4, d5] => { results := [.lit (.bool false)], args := [d1, d2, d3, d4, d5] }
  | _ => none }
def LifeMovesWrongFalsely : Prop := lifeMovesRow.holds Try.pinned (OpenSpec.ofChange lifeMovesWrong)

/-- 'gosperlaw02.LifeApart': WHATEVER THE INPUT: true; the input reads as it did. -/
def lifeApartSpec : ChangeSpec := { name := "lifeApart", fn := fun _ => fun
  | [d1, d2, d3] => { results := [.lit (.bool true)], args := [d1, d2, d3] }
  | _ => none }
def lifeApartRow : OpenClaim := { program := "ytanmnmfhbnnedaa", sum := "38a83259b01cc6018e196bf505098bc12b82b513a92ee0e8c4c89a531e3bfe19", func := "gosper/gosperlaw02.LifeApart", spec := "lifeApart", unfollowed := true, recurses := true, plainKeys := false, apart := false }
def LifeApartSaid : Prop := lifeApartRow.holds Try.pinned (OpenSpec.ofChange lifeApartSpec)

/-- ITS FALSE NEIGHBOUR: 'it returns false'. Refute it at one input. -/
def lifeApartWrong : ChangeSpec := { name := "lifeApart", fn := fun _ => fun
  | [d1, d2, d3] => { results := [.lit (.bool false)], args := [d1, d2, d3] }
  | _ => none }
def LifeApartWrongFalsely : Prop := lifeApartRow.holds Try.pinned (OpenSpec.ofChange lifeApartWrong)

/-- 'gosperlaw02.LifeSteps': WHATEVER THE INPUT: true; the input reads as it did. -/
def lifeStepsSpec : ChangeSpec := { name := "lifeSteps", fn := fun _ => fun
  | [d1, d2, d3] => { results := [.lit (.bool true)], args := [d1, d2, d3] }
  | _ => none }
def lifeStepsRow : OpenClaim := { program := "ytanmnmfhbnnedaa", sum := "38a83259b01cc6018e196bf505098bc12b82b513a92ee0e8c4c89a531e3bfe19", func := "gosper/gosperlaw02.LifeSteps", spec := "lifeSteps", unfollowed := true, recurses := true, plainKeys := false, apart := false }
def LifeStepsSaid : Prop := lifeStepsRow.holds Try.pinned (OpenSpec.ofChange lifeStepsSpec)

/-- ITS FALSE NEIGHBOUR: 'it returns false'. Refute it at one input. -/
def lifeStepsWrong : ChangeSpec := { name := "lifeSteps", fn := fun _ => fun
  | [d1, d2, d3] => { results := [.lit (.bool false)], args := [d1, d2, d3] }
  | _ => none }
def LifeStepsWrongFalsely : Prop := lifeStepsRow.holds Try.pinned (OpenSpec.ofChange lifeStepsWrong)

/-- 'gosperlaw02.LifeDead': WHATEVER THE INPUT: true; the input reads as it did. -/
def lifeDeadSpec : ChangeSpec := { name := "lifeDead", fn := fun _ => fun
  | [d1, d2] => { results := [.lit (.bool true)], args := [d1, d2] }
  | _ => none }
def lifeDeadRow : OpenClaim := { program := "ytanmnmfhbnnedaa", sum := "38a83259b01cc6018e196bf505098bc12b82b513a92ee0e8c4c89a531e3bfe19", func := "gosper/gosperlaw02.LifeDead", spec := "lifeDead", unfollowed := true, recurses := true, plainKeys := false, apart := false }
def LifeDeadSaid : Prop := lifeDeadRow.holds Try.pinned (OpenSpec.ofChange lifeDeadSpec)

/-- ITS FALSE NEIGHBOUR: 'it returns false'. Refute it at one input. -/
def lifeDeadWrong : ChangeSpec := { name := "lifeDead", fn := fun _ => fun
  | [d1, d2] => { results := [.lit (.bool false)], args := [d1, d2] }
  | _ => none }
def LifeDeadWrongFalsely : Prop := lifeDeadRow.holds Try.pinned (OpenSpec.ofChange lifeDeadWrong)

/-- 'gosperlaw02.LifeStill': WHATEVER THE INPUT: true; the input reads as it did. -/
def lifeStillSpec : ChangeSpec := { name := "lifeStill", fn := fun _ => fun
  | [d1, d2, d3, d4] => { results := [.lit (.bool true)], args := [d1, d2, d3, d4] }
  | _ => none }
def lifeStillRow : OpenClaim := { program := "ytanmnmfhbnnedaa", sum := "38a83259b01cc6018e196bf505098bc12b82b513a92ee0e8c4c89a531e3bfe19", func := "gosper/gosperlaw02.LifeStill", spec := "lifeStill", unfollowed := true, recurses := true, plainKeys := false, apart := false }
def LifeStillSaid : Prop := lifeStillRow.holds Try.pinned (OpenSpec.ofChange lifeStillSpec)

/-- ITS FALSE NEIGHBOUR: 'it returns false'. Refute it at one input. -/
def lifeStillWrong : ChangeSpec := { name := "lifeStill", fn := fun _ => fun
  | [d1, d2, d3, d4] => { results := [.lit (.bool false)], args := [d1, d2, d3, d4] }
  | _ => none }
def LifeStillWrongFalsely : Prop := lifeStillRow.holds Try.pinned (OpenSpec.ofChange lifeStillWrong)

/-- 'gosperlaw02.LifeAll': WHATEVER THE INPUT: true; the input reads as it did. -/
def lifeAllSpec : ChangeSpec := { name := "lifeAll", fn := fun _ => fun
  | [d] => { results := [.lit (.bool true)], args := [d] }
  | _ => none }
def lifeAllRow : OpenClaim := { program := "ytanmnmfhbnnedaa", sum := "38a83259b01cc6018e196bf505098bc12b82b513a92ee0e8c4c89a531e3bfe19", func := "gosper/gosperlaw02.LifeAll", spec := "lifeAll", unfollowed := true, recurses := true, plainKeys := false, apart := false }
def LifeAllSaid : Prop := lifeAllRow.holds Try.pinned (OpenSpec.ofChange lifeAllSpec)

/-- ITS FALSE NEIGHBOUR: 'it returns false'. Refute it at one input. -/
def lifeAllWrong : ChangeSpec := { name := "lifeAll", fn := fun _ => fun
  | [d] => { results := [.lit (.bool false)], args := [d] }
  | _ => none }
def LifeAllWrongFalsely : Prop := lifeAllRow.holds Try.pinned (OpenSpec.ofChange lifeAllWrong)

/- THE SECOND FORM. 'bulk': how many values and letters a reading holds, each counted each time it is reached (what is shared counts as often as it is met; a slice's spare places count too). A statement '..UptoSaid' is the law's where the arguments, and the package variables that the reading takes, are together of bulk at most 1048576: NARROWER than '..Said'. Prove '..Said' where nothing that the law and all that it calls make is longer than what came in: it says more and counts as full. Else prove '..UptoSaid'. A law counts once. -/
mutual
def uptoBulk {H : Type} : DataW H → Nat
  | .lit (.string bytes) => bytes.length + 1
  | .lit _ => 1
  | .nil => 1
  | .ptr d => uptoBulk d + 1
  | .slice elems spare => uptoBulkAll elems + uptoBulkAll spare + 1
  | .agg parts => uptoBulkAll parts + 1
  | .iface _ d => uptoBulk d + 1
  | .map entries => uptoBulkEntries entries + 1
  | .held _ => 1
def uptoBulkAll {H : Type} : List (DataW H) → Nat
  | [] => 0
  | d :: r => uptoBulk d + uptoBulkAll r
def uptoBulkEntries {H : Type} : List (Lit × DataW H) → Nat
  | [] => 0
  | x :: r => uptoBulkEntry x + uptoBulkEntries r
def uptoBulkEntry {H : Type} : Lit × DataW H → Nat
  | (.string bytes, d) => bytes.length + uptoBulk d + 1
  | (_, d) => uptoBulk d + 1
 end
def uptoSmall : (H : Type) → List (DataW H) → Bool := fun _ ds => decide (uptoBulkAll ds ≤ 1048576)
def OpenSpec.upto (s : _root_.Go.ChangeSpec) : _root_.Go.OpenSpec := { _root_.Go.OpenSpec.ofChange s with cond := some uptoSmall }

/-- 'gosperlaw02.LifeTells', WHERE WHAT IT READS IS OF BULK AT MOST 1048576: true; the input reads as it did. -/
def lifeTellsUptoRow : OpenClaim := { program := "ytanmnmfhbnnedaa", sum := "38a83259b01cc6018e196bf505098bc12b82b513a92ee0e8c4c89a531e3bfe19", func := "gosper/gosperlaw02.LifeTells", spec := "lifeTells", unfollowed := true, recurses := true, plainKeys := false, apart := false, narrowed := true }
def LifeTellsUptoSaid : Prop := lifeTellsUptoRow.holds Try.pinned (OpenSpec.upto lifeTellsSpec)

/-- 'gosperlaw02.LifeMoves', WHERE WHAT IT READS IS OF BULK AT MOST 1048576: true; the input reads as it did. -/
def lifeMovesUptoRow : OpenClaim := { program := "ytanmnmfhbnnedaa", sum := "38a83259b01cc6018e196bf505098bc12b82b513a92ee0e8c4c89a531e3bfe19", func := "gosper/gosperlaw02.LifeMoves", spec := "lifeMoves", unfollowed := true, recurses := true, plainKeys := false, apart := false, narrowed := true }
def LifeMovesUptoSaid : Prop := lifeMovesUptoRow.holds Try.pinned (OpenSpec.upto lifeMovesSpec)

/-- 'gosperlaw02.LifeApart', WHERE WHAT IT READS IS OF BULK AT MOST 1048576: true; the input reads as it did. -/
def lifeApartUptoRow : OpenClaim := { program := "ytanmnmfhbnnedaa", sum := "38a83259b01cc6018e196bf505098bc12b82b513a92ee0e8c4c89a531e3bfe19", func := "gosper/gosperlaw02.LifeApart", spec := "lifeApart", unfollowed := true, recurses := true, plainKeys := false, apart := false, narrowed := true }
def LifeApartUptoSaid : Prop := lifeApartUptoRow.holds Try.pinned (OpenSpec.upto lifeApartSpec)

/-- 'gosperlaw02.LifeSteps', WHERE WHAT IT READS IS OF BULK AT MOST 1048576: true; the input reads as it did. -/
def lifeStepsUptoRow : OpenClaim := { program := "ytanmnmfhbnnedaa", sum := "38a83259b01cc6018e196bf505098bc12b82b513a92ee0e8c4c89a531e3bfe19", func := "gosper/gosperlaw02.LifeSteps", spec := "lifeSteps", unfollowed := true, recurses := true, plainKeys := false, apart := false, narrowed := true }
def LifeStepsUptoSaid : Prop := lifeStepsUptoRow.holds Try.pinned (OpenSpec.upto lifeStepsSpec)

/-- 'gosperlaw02.LifeDead', WHERE WHAT IT READS IS OF BULK AT MOST 1048576: true; the input reads as it did. -/
def lifeDeadUptoRow : OpenClaim := { program := "ytanmnmfhbnnedaa", sum := "38a83259b01cc6018e196bf505098bc12b82b513a92ee0e8c4c89a531e3bfe19", func := "gosper/gosperlaw02.LifeDead", spec := "lifeDead", unfollowed := true, recurses := true, plainKeys := false, apart := false, narrowed := true }
def LifeDeadUptoSaid : Prop := lifeDeadUptoRow.holds Try.pinned (OpenSpec.upto lifeDeadSpec)

/-- 'gosperlaw02.LifeStill', WHERE WHAT IT READS IS OF BULK AT MOST 1048576: true; the input reads as it did. -/
def lifeStillUptoRow : OpenClaim := { program := "ytanmnmfhbnnedaa", sum := "38a83259b01cc6018e196bf505098bc12b82b513a92ee0e8c4c89a531e3bfe19", func := "gosper/gosperlaw02.LifeStill", spec := "lifeStill", unfollowed := true, recurses := true, plainKeys := false, apart := false, narrowed := true }
def LifeStillUptoSaid : Prop := lifeStillUptoRow.holds Try.pinned (OpenSpec.upto lifeStillSpec)

/-- 'gosperlaw02.LifeAll', WHERE WHAT IT READS IS OF BULK AT MOST 1048576: true; the input reads as it did. -/
def lifeAllUptoRow : OpenClaim := { program := "ytanmnmfhbnnedaa", sum := "38a83259b01cc6018e196bf505098bc12b82b513a92ee0e8c4c89a531e3bfe19", func := "gosper/gosperlaw02.LifeAll", spec := "lifeAll", unfollowed := true, recurses := true, plainKeys := false, apart := false, narrowed := true }
def LifeAllUptoSaid : Prop := lifeAllUptoRow.holds Try.pinned (OpenSpec.upto lifeAllSpec)

end Rows
end Go.Proofs.Ytanmnmfhbnnedaa
