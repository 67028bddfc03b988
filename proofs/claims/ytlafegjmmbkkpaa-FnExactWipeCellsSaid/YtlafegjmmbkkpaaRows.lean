/-
  No cell of these rows narrows 'for every input' (looked for: loops, veiled, ifaces, maps, wideKeys, modest, calm, conditions, laid).
  DERIVED. THE GIVEN ROWS OF THIS SEAT. 6 by the template 'for every input the law returns true; each argument reads behind the call as it read before'; 0 by the template 'total and deterministic' (their statements: YtlafegjmmbkkpaaTotals.lean).
  GIVEN WITH THE SEED: the statements are not yours to turn. If you find one false, say at which input.
  Laid BY PROGRAM, IN A SANDBOX (cutbox-rows.mjs): the forced cells as the released guide's own fill.sh prints them over the translation 7119bea3fb321bb8… (all of the seat's roots in one cut). By AI agents, Wed Nov 11 2026. No macro, syntax, notation, axiom, sorry.
-/
import Derived.Test.YtlafegjmmbkkpaaChecked
import GoSem.Claim
import GoSem.ClaimJoined
import GoSem.ClaimMapViews
import Derived.JoinedTies
import Derived.KernelRfl
namespace Go.Proofs.Ytlafegjmmbkkpaa
/- THE CELL 'sum', in the pinned program and in every row, IS THE sha256 OF THE DUMP (.gsa) THAT YtlafegjmmbkkpaaProg.lean LOADS. Nothing in Lean hashes anything: it is a label: what it is worth is what the hold of that sum in a sandbox is worth. -/
noncomputable def Try.pinned : Pinned := { name := "ytlafegjmmbkkpaa", sum := "7119bea3fb321bb889155c7c29ccce9d24b28debc61bc5938290a75a56fa304b", checked := Try.checked }
namespace Rows
def none {H : Type} : Left H := { results := [], args := [] }

/-- 'laws.FnExactValidCells': WHATEVER THE INPUT: true; the input reads as it did. -/
def fnExactValidCellsSpec : ChangeSpec := { name := "fnExactValidCells", fn := fun _ => fun
  | [d] => { results := [.lit (.bool true)], args := [d] }
  | _ => none }
def fnExactValidCellsRow : OpenClaim := { program := "ytlafegjmmbkkpaa", sum := "7119bea3fb321bb889155c7c29ccce9d24b28debc61bc5938290a75a56fa304b", func := "loop.example/g00905/laws.FnExactValidCells", spec := "fnExactValidCells", unfollowed := true, recurses := true, apart := false }
def FnExactValidCellsSaid : Prop := fnExactValidCellsRow.holds Try.pinned (OpenSpec.ofChange fnExactValidCellsSpec)

/-- ITS FALSE NEIGHBOUR: 'it returns false'. Refute it at one input. -/
def fnExactValidCellsWrong : ChangeSpec := { name := "fnExactValidCells", fn := fun _ => fun
  | [d] => { results := [.lit (.bool false)], args := [d] }
  | _ => none }
def FnExactValidCellsWrongFalsely : Prop := fnExactValidCellsRow.holds Try.pinned (OpenSpec.ofChange fnExactValidCellsWrong)

/-- 'laws.FnExactLeaksPattern': WHATEVER THE INPUT: true; the input reads as it did. -/
def fnExactLeaksPatternSpec : ChangeSpec := { name := "fnExactLeaksPattern", fn := fun _ => fun
  | [d] => { results := [.lit (.bool true)], args := [d] }
  | _ => none }
def fnExactLeaksPatternRow : OpenClaim := { program := "ytlafegjmmbkkpaa", sum := "7119bea3fb321bb889155c7c29ccce9d24b28debc61bc5938290a75a56fa304b", func := "loop.example/g00905/laws.FnExactLeaksPattern", spec := "fnExactLeaksPattern", unfollowed := true, recurses := true, apart := false }
def FnExactLeaksPatternSaid : Prop := fnExactLeaksPatternRow.holds Try.pinned (OpenSpec.ofChange fnExactLeaksPatternSpec)

/-- ITS FALSE NEIGHBOUR: 'it returns false'. Refute it at one input. -/
def fnExactLeaksPatternWrong : ChangeSpec := { name := "fnExactLeaksPattern", fn := fun _ => fun
  | [d] => { results := [.lit (.bool false)], args := [d] }
  | _ => none }
def FnExactLeaksPatternWrongFalsely : Prop := fnExactLeaksPatternRow.holds Try.pinned (OpenSpec.ofChange fnExactLeaksPatternWrong)

/-- 'laws.FnExactSenseCells': WHATEVER THE INPUT: true; the input reads as it did. -/
def fnExactSenseCellsSpec : ChangeSpec := { name := "fnExactSenseCells", fn := fun _ => fun
  | [d] => { results := [.lit (.bool true)], args := [d] }
  | _ => none }
def fnExactSenseCellsRow : OpenClaim := { program := "ytlafegjmmbkkpaa", sum := "7119bea3fb321bb889155c7c29ccce9d24b28debc61bc5938290a75a56fa304b", func := "loop.example/g00905/laws.FnExactSenseCells", spec := "fnExactSenseCells", unfollowed := true, recurses := true, apart := false }
def FnExactSenseCellsSaid : Prop := fnExactSenseCellsRow.holds Try.pinned (OpenSpec.ofChange fnExactSenseCellsSpec)

/-- ITS FALSE NEIGHBOUR: 'it returns false'. Refute it at one input. -/
def fnExactSenseCellsWrong : ChangeSpec := { name := "fnExactSenseCells", fn := fun _ => fun
  | [d] => { results := [.lit (.bool false)], args := [d] }
  | _ => none }
def FnExactSenseCellsWrongFalsely : Prop := fnExactSenseCellsRow.holds Try.pinned (OpenSpec.ofChange fnExactSenseCellsWrong)

/-- 'laws.FnExactErasePasses': WHATEVER THE INPUT: true; the input reads as it did. -/
def fnExactErasePassesSpec : ChangeSpec := { name := "fnExactErasePasses", fn := fun _ => fun
  | [d1, d2] => { results := [.lit (.bool true)], args := [d1, d2] }
  | _ => none }
def fnExactErasePassesRow : OpenClaim := { program := "ytlafegjmmbkkpaa", sum := "7119bea3fb321bb889155c7c29ccce9d24b28debc61bc5938290a75a56fa304b", func := "loop.example/g00905/laws.FnExactErasePasses", spec := "fnExactErasePasses", unfollowed := true, recurses := true, apart := false }
def FnExactErasePassesSaid : Prop := fnExactErasePassesRow.holds Try.pinned (OpenSpec.ofChange fnExactErasePassesSpec)

/-- ITS FALSE NEIGHBOUR: 'it returns false'. Refute it at one input. -/
def fnExactErasePassesWrong : ChangeSpec := { name := "fnExactErasePasses", fn := fun _ => fun
  | [d1, d2] => { results := [.lit (.bool false)], args := [d1, d2] }
  | _ => none }
def FnExactErasePassesWrongFalsely : Prop := fnExactErasePassesRow.holds Try.pinned (OpenSpec.ofChange fnExactErasePassesWrong)

/-- 'laws.FnExactEraseCells': WHATEVER THE INPUT: true; the input reads as it did. -/
def fnExactEraseCellsSpec : ChangeSpec := { name := "fnExactEraseCells", fn := fun _ => fun
  | [d] => { results := [.lit (.bool true)], args := [d] }
  | _ => none }
def fnExactEraseCellsRow : OpenClaim := { program := "ytlafegjmmbkkpaa", sum := "7119bea3fb321bb889155c7c29ccce9d24b28debc61bc5938290a75a56fa304b", func := "loop.example/g00905/laws.FnExactEraseCells", spec := "fnExactEraseCells", unfollowed := true, recurses := true, apart := false }
def FnExactEraseCellsSaid : Prop := fnExactEraseCellsRow.holds Try.pinned (OpenSpec.ofChange fnExactEraseCellsSpec)

/-- ITS FALSE NEIGHBOUR: 'it returns false'. Refute it at one input. -/
def fnExactEraseCellsWrong : ChangeSpec := { name := "fnExactEraseCells", fn := fun _ => fun
  | [d] => { results := [.lit (.bool false)], args := [d] }
  | _ => none }
def FnExactEraseCellsWrongFalsely : Prop := fnExactEraseCellsRow.holds Try.pinned (OpenSpec.ofChange fnExactEraseCellsWrong)

/-- 'laws.FnExactWipeCells': WHATEVER THE INPUT: true; the input reads as it did. -/
def fnExactWipeCellsSpec : ChangeSpec := { name := "fnExactWipeCells", fn := fun _ => fun
  | [d] => { results := [.lit (.bool true)], args := [d] }
  | _ => none }
def fnExactWipeCellsRow : OpenClaim := { program := "ytlafegjmmbkkpaa", sum := "7119bea3fb321bb889155c7c29ccce9d24b28debc61bc5938290a75a56fa304b", func := "loop.example/g00905/laws.FnExactWipeCells", spec := "fnExactWipeCells", inPlace := ["internal/abi.NoEscape", "internal/bytealg.MakeNoZero"], unfollowed := true, recurses := true, apart := false }
def FnExactWipeCellsSaid : Prop := fnExactWipeCellsRow.holds Try.pinned (OpenSpec.ofChange fnExactWipeCellsSpec)

/-- ITS FALSE NEIGHBOUR: 'it returns false'. Refute it at one input. -/
def fnExactWipeCellsWrong : ChangeSpec := { name := "fnExactWipeCells", fn := fun _ => fun
  | [d] => { results := [.lit (.bool false)], args := [d] }
  | _ => none }
def FnExactWipeCellsWrongFalsely : Prop := fnExactWipeCellsRow.holds Try.pinned (OpenSpec.ofChange fnExactWipeCellsWrong)

/- THE SECOND FORM. 'bulk': how many values and letters a reading holds, each counted each time it is reached (what is shared counts as often as it is met; a slice's spare places count too). A statement '..UptoSaid' is the law's where the arguments, and the package variables that the reading takes, are together of bulk at most 1048576: NARROWER than '..Said'. Prove '..Said' where nothing that the law and all that it calls make is longer than what came in: it says more and counts as full. Else prove '..UptoSaid'. A law counts once. -/
mutual
def uptoBulk {H : Type} : DataW H → Nat
  | .lit (.string bytes) => bytes.length + 1
  | .lit _ => 1
  | .nil => 1
  | .ptr d => uptoBulk d + 1
  | .slice elems spare => uptoBulkAll elems + uptoBulkAll spare + 1
  | .agg parts => uptoBulkAll parts + 1
  | .iface _ d => uptoBulk d + 1
  | .map entries => uptoBulkEntries entries + 1
  | .held _ => 1
def uptoBulkAll {H : Type} : List (DataW H) → Nat
  | [] => 0
  | d :: r => uptoBulk d + uptoBulkAll r
def uptoBulkEntries {H : Type} : List (Lit × DataW H) → Nat
  | [] => 0
  | x :: r => uptoBulkEntry x + uptoBulkEntries r
def uptoBulkEntry {H : Type} : Lit × DataW H → Nat
  | (.string bytes, d) => bytes.length + uptoBulk d + 1
  | (_, d) => uptoBulk d + 1
 end
def uptoSmall : (H : Type) → List (DataW H) → Bool := fun _ ds => decide (uptoBulkAll ds ≤ 1048576)
def OpenSpec.upto (s : _root_.Go.ChangeSpec) : _root_.Go.OpenSpec := { _root_.Go.OpenSpec.ofChange s with cond := some uptoSmall }

/-- 'laws.FnExactValidCells', WHERE WHAT IT READS IS OF BULK AT MOST 1048576: true; the input reads as it did. -/
def fnExactValidCellsUptoRow : OpenClaim := { program := "ytlafegjmmbkkpaa", sum := "7119bea3fb321bb889155c7c29ccce9d24b28debc61bc5938290a75a56fa304b", func := "loop.example/g00905/laws.FnExactValidCells", spec := "fnExactValidCells", unfollowed := true, recurses := true, apart := false, narrowed := true }
def FnExactValidCellsUptoSaid : Prop := fnExactValidCellsUptoRow.holds Try.pinned (OpenSpec.upto fnExactValidCellsSpec)

/-- 'laws.FnExactLeaksPattern', WHERE WHAT IT READS IS OF BULK AT MOST 1048576: true; the input reads as it did. -/
def fnExactLeaksPatternUptoRow : OpenClaim := { program := "ytlafegjmmbkkpaa", sum := "7119bea3fb321bb889155c7c29ccce9d24b28debc61bc5938290a75a56fa304b", func := "loop.example/g00905/laws.FnExactLeaksPattern", spec := "fnExactLeaksPattern", unfollowed := true, recurses := true, apart := false, narrowed := true }
def FnExactLeaksPatternUptoSaid : Prop := fnExactLeaksPatternUptoRow.holds Try.pinned (OpenSpec.upto fnExactLeaksPatternSpec)

/-- 'laws.FnExactSenseCells', WHERE WHAT IT READS IS OF BULK AT MOST 1048576: true; the input reads as it did. -/
def fnExactSenseCellsUptoRow : OpenClaim := { program := "ytlafegjmmbkkpaa", sum := "7119bea3fb321bb889155c7c29ccce9d24b28debc61bc5938290a75a56fa304b", func := "loop.example/g00905/laws.FnExactSenseCells", spec := "fnExactSenseCells", unfollowed := true, recurses := true, apart := false, narrowed := true }
def FnExactSenseCellsUptoSaid : Prop := fnExactSenseCellsUptoRow.holds Try.pinned (OpenSpec.upto fnExactSenseCellsSpec)

/-- 'laws.FnExactErasePasses', WHERE WHAT IT READS IS OF BULK AT MOST 1048576: true; the input reads as it did. -/
def fnExactErasePassesUptoRow : OpenClaim := { program := "ytlafegjmmbkkpaa", sum := "7119bea3fb321bb889155c7c29ccce9d24b28debc61bc5938290a75a56fa304b", func := "loop.example/g00905/laws.FnExactErasePasses", spec := "fnExactErasePasses", unfollowed := true, recurses := true, apart := false, narrowed := true }
def FnExactErasePassesUptoSaid : Prop := fnExactErasePassesUptoRow.holds Try.pinned (OpenSpec.upto fnExactErasePassesSpec)

/-- 'laws.FnExactEraseCells', WHERE WHAT IT READS IS OF BULK AT MOST 1048576: true; the input reads as it did. -/
def fnExactEraseCellsUptoRow : OpenClaim := { program := "ytlafegjmmbkkpaa", sum := "7119bea3fb321bb889155c7c29ccce9d24b28debc61bc5938290a75a56fa304b", func := "loop.example/g00905/laws.FnExactEraseCells", spec := "fnExactEraseCells", unfollowed := true, recurses := true, apart := false, narrowed := true }
def FnExactEraseCellsUptoSaid : Prop := fnExactEraseCellsUptoRow.holds Try.pinned (OpenSpec.upto fnExactEraseCellsSpec)

/-- 'laws.FnExactWipeCells', WHERE WHAT IT READS IS OF BULK AT MOST 1048576: true; the input reads as it did. -/
def fnExactWipeCellsUptoRow : OpenClaim := { program := "ytlafegjmmbkkpaa", sum := "7119bea3fb321bb889155c7c29ccce9d24b28debc61bc5938290a75a56fa304b", func := "loop.example/g00905/laws.FnExactWipeCells", spec := "fnExactWipeCells", inPlace := ["internal/abi.NoEscape", "internal/bytealg.MakeNoZero"], unfollowed := true, recurses := true, apart := false, narrowed := true }
def FnExactWipeCellsUptoSaid : Prop := fnExactWipeCellsUptoRow.holds Try.pinned (OpenSpec.upto fnExactWipeCellsSpec)

end Rows
end Go.Proofs.Ytlafegjmmbkkpaa
