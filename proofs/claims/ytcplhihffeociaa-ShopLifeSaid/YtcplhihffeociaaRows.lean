/-
  No cell of these rows narrows 'for every input' (looked for: loops, veiled, ifaces, maps, wideKeys, modest, calm, conditions, laid).
  DERIVED. THE GIVEN ROWS OF THIS SEAT. 6 by the template 'for every input the law returns true; each argument reads behind the call as it read before'; 0 by the template 'total and deterministic' (their statements: YtcplhihffeociaaTotals.lean).
  GIVEN WITH THE SEED: the statements are not yours to turn. If you find one false, say at which input.
  Laid BY PROGRAM, IN A SANDBOX (cutbox-rows.mjs): the forced cells as the released guide's own fill.sh prints them over the translation f104584e62f5d2f8… (all of the seat's roots in one cut). By AI agents, Wed Nov 11 2026. No macro, syntax, notation, axiom, sorry.
-/
import Derived.Test.YtcplhihffeociaaChecked
import GoSem.Claim
import GoSem.ClaimJoined
import GoSem.ClaimMapViews
import Derived.JoinedTies
import Derived.KernelRfl
namespace Go.Proofs.Ytcplhihffeociaa
/- THE CELL 'sum', in the pinned program and in every row, IS THE sha256 OF THE DUMP (.gsa) THAT YtcplhihffeociaaProg.lean LOADS. Nothing in Lean hashes anything: it is a label: what it is worth is what the hold of that sum in a sandbox is worth. -/
noncomputable def Try.pinned : Pinned := { name := "ytcplhihffeociaa", sum := "f104584e62f5d2f8d2fa417aa01d8a3ba93f0c4bb985a248fc826682da56b3d6", checked := Try.checked }
namespace Rows
def none {H : Type} : Left H := { results := [], args := [] }

/-- 'gosperlaw21.ShopTells': WHATEVER THE INPUT: true; the input reads as it did. -/
def shopTellsSpec : ChangeSpec := { name := "shopTells", fn := fun _ => fun
  | [d1, d2, d3, d4, d5, d6, d7, d8, d9] => { results := [.lit (.bool true)], args := [d1, d2, d3, d4, d5, d6, d7, d8, d9] }
  | _ => none }
def shopTellsRow : OpenClaim := { program := "ytcplhihffeociaa", sum := "f104584e62f5d2f8d2fa417aa01d8a3ba93f0c4bb985a248fc826682da56b3d6", func := "gosper/gosperlaw21.ShopTells", spec := "shopTells", unfollowed := true, recurses := true, plainKeys := false, apart := false }
def ShopTellsSaid : Prop := shopTellsRow.holds Try.pinned (OpenSpec.ofChange shopTellsSpec)

/-- ITS FALSE NEIGHBOUR: 'it returns false'. Refute it at one input. -/
def shopTellsWrong : ChangeSpec := { name := "shopTells", fn := fun _ => fun
  | [d1, d2, d3, d4, d5, d6, d7, d8, d9] => { results := [.lit (.bool false)], args := [d1, d2, d3, d4, d5, d6, d7, d8, d9] }
  | _ => none }
def ShopTellsWrongFalsely : Prop := shopTellsRow.holds Try.pinned (OpenSpec.ofChange shopTellsWrong)

/-- 'gosperlaw21.ShopSame': WHATEVER THE INPUT: true; the input reads as it did. -/
def shopSameSpec : ChangeSpec := { name := "shopSame", fn := fun _ => fun
  | [d1, d2, d3, d4, d5, d6, d7] => { results := [.lit (.bool true)], args := [d1, d2, d3, d4, d5, d6, d7] }
  | _ => none }
def shopSameRow : OpenClaim := { program := "ytcplhihffeociaa", sum := "f104584e62f5d2f8d2fa417aa01d8a3ba93f0c4bb985a248fc826682da56b3d6", func := "gosper/gosperlaw21.ShopSame", spec := "shopSame", unfollowed := true, recurses := true, plainKeys := false, apart := false }
def ShopSameSaid : Prop := shopSameRow.holds Try.pinned (OpenSpec.ofChange shopSameSpec)

/-- ITS FALSE NEIGHBOUR: 'it returns false'. Refute it at one input. -/
def shopSameWrong : ChangeSpec := { name := "shopSame", fn := fun _ => fun
  | [d1, d2, d3, d4, d5, d6, d7] => { results := [.lit (.bool false)], args := [d1, d2, d3, d4, d5, d6, d7] }
  | _ => none }
def ShopSameWrongFalsely : Prop := shopSameRow.holds Try.pinned (OpenSpec.ofChange shopSameWrong)

/-- 'gosperlaw21.ShopPicks': WHATEVER THE INPUT: true; the input reads as it did. -/
def shopPicksSpec : ChangeSpec := { name := "shopPicks", fn := fun _ => fun
  | [d1, d2, d3, d4, d5, d6, d7, d8] => { results := [.lit (.bool true)], args := [d1, d2, d3, d4, d5, d6, d7, d8] }
  | _ => none }
def shopPicksRow : OpenClaim := { program := "ytcplhihffeociaa", sum := "f104584e62f5d2f8d2fa417aa01d8a3ba93f0c4bb985a248fc826682da56b3d6", func := "gosper/gosperlaw21.ShopPicks", spec := "shopPicks", unfollowed := true, recurses := true, plainKeys := false, apart := false }
def ShopPicksSaid : Prop := shopPicksRow.holds Try.pinned (OpenSpec.ofChange shopPicksSpec)

/-- ITS FALSE NEIGHBOUR: 'it returns false'. Refute it at one input. -/
def shopPicksWrong : ChangeSpec := { name := "shopPicks", fn := fun _ => fun
  | [d1, d2, d3, d4, d5, d6, d7, d8] => { results := [.lit (.bool false)], args := [d1, d2, d3, d4, d5, d6, d7, d8] }
  | _ => none }
def ShopPicksWrongFalsely : Prop := shopPicksRow.holds Try.pinned (OpenSpec.ofChange shopPicksWrong)

/-- 'gosperlaw21.ShopLife': WHATEVER THE INPUT: true; the input reads as it did. -/
def shopLifeSpec : ChangeSpec := { name := "shopLife", fn := fun _ => fun
  | [d1, d2, d3, d4, d5] => { results := [.lit (.bool true)], args := [d1, d2, d3, d4, d5] }
  | _ => none }
def shopLifeRow : OpenClaim := { program := "ytcplhihffeociaa", sum := "f104584e62f5d2f8d2fa417aa01d8a3ba93f0c4bb985a248fc826682da56b3d6", func := "gosper/gosperlaw21.ShopLife", spec := "shopLife", unfollowed := true, recurses := true, plainKeys := false, apart := false }
def ShopLifeSaid : Prop := shopLifeRow.holds Try.pinned (OpenSpec.ofChange shopLifeSpec)

/-- ITS FALSE NEIGHBOUR: 'it returns false'. Refute it at one input. -/
def shopLifeWrong : ChangeSpec := { name := "shopLife", fn := fun _ => fun
  | [d1, d2, d3, d4, d5] => { results := [.lit (.bool false)], args := [d1, d2, d3, d4, d5] }
  | _ => none }
def ShopLifeWrongFalsely : Prop := shopLifeRow.holds Try.pinned (OpenSpec.ofChange shopLifeWrong)

/-- 'gosperlaw21.ShopTasks': WHATEVER THE INPUT: true; the input reads as it did. -/
def shopTasksSpec : ChangeSpec := { name := "shopTasks", fn := fun _ => fun
  | [d1, d2, d3, d4, d5] => { results := [.lit (.bool true)], args := [d1, d2, d3, d4, d5] }
  | _ => none }
def shopTasksRow : OpenClaim := { program := "ytcplhihffeociaa", sum := "f104584e62f5d2f8d2fa417aa01d8a3ba93f0c4bb985a248fc826682da56b3d6", func := "gosper/gosperlaw21.ShopTasks", spec := "shopTasks", unfollowed := true, recurses := true, plainKeys := false, apart := false }
def ShopTasksSaid : Prop := shopTasksRow.holds Try.pinned (OpenSpec.ofChange shopTasksSpec)

/-- ITS FALSE NEIGHBOUR: 'it returns false'. Refute it at one input. -/
def shopTasksWrong : ChangeSpec := { name := "shopTasks", fn := fun _ => fun
  | [d1, d2, d3, d4, d5] => { results := [.lit (.bool false)], args := [d1, d2, d3, d4, d5] }
  | _ => none }
def ShopTasksWrongFalsely : Prop := shopTasksRow.holds Try.pinned (OpenSpec.ofChange shopTasksWrong)

/-- 'gosperlaw21.ShopLevels': WHATEVER THE INPUT: true; the input reads as it did. -/
def shopLevelsSpec : ChangeSpec := { name := "shopLevels", fn := fun _ => fun
  | [d1, d2, d3, d4, d5] => { results := [.lit (.bool true)], args := [d1, d2, d3, d4, d5] }
  | _ => none }
def shopLevelsRow : OpenClaim := { program := "ytcplhihffeociaa", sum := "f104584e62f5d2f8d2fa417aa01d8a3ba93f0c4bb985a248fc826682da56b3d6", func := "gosper/gosperlaw21.ShopLevels", spec := "shopLevels", unfollowed := true, recurses := true, plainKeys := false, apart := false }
def ShopLevelsSaid : Prop := shopLevelsRow.holds Try.pinned (OpenSpec.ofChange shopLevelsSpec)

/-- ITS FALSE NEIGHBOUR: 'it returns false'. Refute it at one input. -/
def shopLevelsWrong : ChangeSpec := { name := "shopLevels", fn := fun _ => fun
  | [d1, d2, d3, d4, d5] => { results := [.lit (.bool false)], args := [d1, d2, d3, d4, d5] }
  | _ => none }
def ShopLevelsWrongFalsely : Prop := shopLevelsRow.holds Try.pinned (OpenSpec.ofChange shopLevelsWrong)

/- THE SECOND FORM. 'bulk': how many values and letters a reading holds, each counted each time it is reached (what is shared counts as often as it is met; a slice's spare places count too). A statement '..UptoSaid' is the law's where the arguments, and the package variables that the reading takes, are together of bulk at most 1048576: NARROWER than '..Said'. Prove '..Said' where nothing that the law and all that it calls make is longer than what came in: it says more and counts as full. Else prove '..UptoSaid'. A law counts once. -/
mutual
def uptoBulk {H : Type} : DataW H → Nat
  | .lit (.string bytes) => bytes.length + 1
  | .lit _ => 1
  | .nil => 1
  | .ptr d => uptoBulk d + 1
  | .slice elems spare => uptoBulkAll elems + uptoBulkAll spare + 1
  | .agg parts => uptoBulkAll parts + 1
  | .iface _ d => uptoBulk d + 1
  | .map entries => uptoBulkEntries entries + 1
  | .held _ => 1
def uptoBulkAll {H : Type} : List (DataW H) → Nat
  | [] => 0
  | d :: r => uptoBulk d + uptoBulkAll r
def uptoBulkEntries {H : Type} : List (Lit × DataW H) → Nat
  | [] => 0
  | x :: r => uptoBulkEntry x + uptoBulkEntries r
def uptoBulkEntry {H : Type} : Lit × DataW H → Nat
  | (.string bytes, d) => bytes.length + uptoBulk d + 1
  | (_, d) => uptoBulk d + 1
 end
def uptoSmall : (H : Type) → List (DataW H) → Bool := fun _ ds => decide (uptoBulkAll ds ≤ 1048576)
def OpenSpec.upto (s : _root_.Go.ChangeSpec) : _root_.Go.OpenSpec := { _root_.Go.OpenSpec.ofChange s with cond := some uptoSmall }

/-- 'gosperlaw21.ShopTells', WHERE WHAT IT READS IS OF BULK AT MOST 1048576: true; the input reads as it did. -/
def shopTellsUptoRow : OpenClaim := { program := "ytcplhihffeociaa", sum := "f104584e62f5d2f8d2fa417aa01d8a3ba93f0c4bb985a248fc826682da56b3d6", func := "gosper/gosperlaw21.ShopTells", spec := "shopTells", unfollowed := true, recurses := true, plainKeys := false, apart := false, narrowed := true }
def ShopTellsUptoSaid : Prop := shopTellsUptoRow.holds Try.pinned (OpenSpec.upto shopTellsSpec)

/-- 'gosperlaw21.ShopSame', WHERE WHAT IT READS IS OF BULK AT MOST 1048576: true; the input reads as it did. -/
def shopSameUptoRow : OpenClaim := { program := "ytcplhihffeociaa", sum := "f104584e62f5d2f8d2fa417aa01d8a3ba93f0c4bb985a248fc826682da56b3d6", func := "gosper/gosperlaw21.ShopSame", spec := "shopSame", unfollowed := true, recurses := true, plainKeys := false, apart := false, narrowed := true }
def ShopSameUptoSaid : Prop := shopSameUptoRow.holds Try.pinned (OpenSpec.upto shopSameSpec)

/-- 'gosperlaw21.ShopPicks', WHERE WHAT IT READS IS OF BULK AT MOST 1048576: true; the input reads as it did. -/
def shopPicksUptoRow : OpenClaim := { program := "ytcplhihffeociaa", sum := "f104584e62f5d2f8d2fa417aa01d8a3ba93f0c4bb985a248fc826682da56b3d6", func := "gosper/gosperlaw21.ShopPicks", spec := "shopPicks", unfollowed := true, recurses := true, plainKeys := false, apart := false, narrowed := true }
def ShopPicksUptoSaid : Prop := shopPicksUptoRow.holds Try.pinned (OpenSpec.upto shopPicksSpec)

/-- 'gosperlaw21.ShopLife', WHERE WHAT IT READS IS OF BULK AT MOST 1048576: true; the input reads as it did. -/
def shopLifeUptoRow : OpenClaim := { program := "ytcplhihffeociaa", sum := "f104584e62f5d2f8d2fa417aa01d8a3ba93f0c4bb985a248fc826682da56b3d6", func := "gosper/gosperlaw21.ShopLife", spec := "shopLife", unfollowed := true, recurses := true, plainKeys := false, apart := false, narrowed := true }
def ShopLifeUptoSaid : Prop := shopLifeUptoRow.holds Try.pinned (OpenSpec.upto shopLifeSpec)

/-- 'gosperlaw21.ShopTasks', WHERE WHAT IT READS IS OF BULK AT MOST 1048576: true; the input reads as it did. -/
def shopTasksUptoRow : OpenClaim := { program := "ytcplhihffeociaa", sum := "f104584e62f5d2f8d2fa417aa01d8a3ba93f0c4bb985a248fc826682da56b3d6", func := "gosper/gosperlaw21.ShopTasks", spec := "shopTasks", unfollowed := true, recurses := true, plainKeys := false, apart := false, narrowed := true }
def ShopTasksUptoSaid : Prop := shopTasksUptoRow.holds Try.pinned (OpenSpec.upto shopTasksSpec)

/-- 'gosperlaw21.ShopLevels', WHERE WHAT IT READS IS OF BULK AT MOST 1048576: true; the input reads as it did. -/
def shopLevelsUptoRow : OpenClaim := { program := "ytcplhihffeociaa", sum := "f104584e62f5d2f8d2fa417aa01d8a3ba93f0c4bb985a248fc826682da56b3d6", func := "gosper/gosperlaw21.ShopLevels", spec := "shopLevels", unfollowed := true, recurses := true, plainKeys := false, apart := false, narrowed := true }
def ShopLevelsUptoSaid : Prop := shopLevelsUptoRow.holds Try.pinned (OpenSpec.upto shopLevelsSpec)

end Rows
end Go.Proofs.Ytcplhihffeociaa
