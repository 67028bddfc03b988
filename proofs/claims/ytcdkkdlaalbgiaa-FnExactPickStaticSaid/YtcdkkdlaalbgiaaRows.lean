/-
  No cell of these rows narrows 'for every input' (looked for: loops, veiled, ifaces, maps, wideKeys, modest, calm, conditions, laid).
  DERIVED. THE GIVEN ROWS OF THIS SEAT. 6 by the template 'for every input the law returns true; each argument reads behind the call as it read before'; 0 by the template 'total and deterministic' (their statements: YtcdkkdlaalbgiaaTotals.lean).
  GIVEN WITH THE SEED: the statements are not yours to turn. If you find one false, say at which input.
  Laid BY PROGRAM, IN A SANDBOX (cutbox-rows.mjs): the forced cells as the released guide's own fill.sh prints them over the translation b112e3a05bd5a163… (all of the seat's roots in one cut). By AI agents, Wed Nov 11 2026. No macro, syntax, notation, axiom, sorry.
-/
import Derived.Test.YtcdkkdlaalbgiaaChecked
import GoSem.Claim
import GoSem.ClaimJoined
import GoSem.ClaimMapViews
import Derived.JoinedTies
import Derived.KernelRfl
namespace Go.Proofs.Ytcdkkdlaalbgiaa
/- THE CELL 'sum', in the pinned program and in every row, IS THE sha256 OF THE DUMP (.gsa) THAT YtcdkkdlaalbgiaaProg.lean LOADS. Nothing in Lean hashes anything: it is a label: what it is worth is what the hold of that sum in a sandbox is worth. -/
noncomputable def Try.pinned : Pinned := { name := "ytcdkkdlaalbgiaa", sum := "b112e3a05bd5a16359f5bbeb0977cd99e63c09c06f8a75633cb33a4f1f4e6faa", checked := Try.checked }
namespace Rows
def none {H : Type} : Left H := { results := [], args := [] }

/-- 'laws.FnExactPickFree': WHATEVER THE INPUT: true; the input reads as it did. -/
def fnExactPickFreeSpec : ChangeSpec := { name := "fnExactPickFree", fn := fun _ => fun
  | [d1, d2, d3] => { results := [.lit (.bool true)], args := [d1, d2, d3] }
  | _ => none }
def fnExactPickFreeRow : OpenClaim := { program := "ytcdkkdlaalbgiaa", sum := "b112e3a05bd5a16359f5bbeb0977cd99e63c09c06f8a75633cb33a4f1f4e6faa", func := "loop.example/g00905/laws.FnExactPickFree", spec := "fnExactPickFree", unfollowed := true, recurses := true, apart := false }
def FnExactPickFreeSaid : Prop := fnExactPickFreeRow.holds Try.pinned (OpenSpec.ofChange fnExactPickFreeSpec)

/-- ITS FALSE NEIGHBOUR: 'it returns false'. Refute it at one input. -/
def fnExactPickFreeWrong : ChangeSpec := { name := "fnExactPickFree", fn := fun _ => fun
  | [d1, d2, d3] => { results := [.lit (.bool false)], args := [d1, d2, d3] }
  | _ => none }
def FnExactPickFreeWrongFalsely : Prop := fnExactPickFreeRow.holds Try.pinned (OpenSpec.ofChange fnExactPickFreeWrong)

/-- 'laws.FnExactPickStatic': WHATEVER THE INPUT: true; the input reads as it did. -/
def fnExactPickStaticSpec : ChangeSpec := { name := "fnExactPickStatic", fn := fun _ => fun
  | [d1, d2, d3] => { results := [.lit (.bool true)], args := [d1, d2, d3] }
  | _ => none }
def fnExactPickStaticRow : OpenClaim := { program := "ytcdkkdlaalbgiaa", sum := "b112e3a05bd5a16359f5bbeb0977cd99e63c09c06f8a75633cb33a4f1f4e6faa", func := "loop.example/g00905/laws.FnExactPickStatic", spec := "fnExactPickStatic", unfollowed := true, recurses := true, apart := false }
def FnExactPickStaticSaid : Prop := fnExactPickStaticRow.holds Try.pinned (OpenSpec.ofChange fnExactPickStaticSpec)

/-- ITS FALSE NEIGHBOUR: 'it returns false'. Refute it at one input. -/
def fnExactPickStaticWrong : ChangeSpec := { name := "fnExactPickStatic", fn := fun _ => fun
  | [d1, d2, d3] => { results := [.lit (.bool false)], args := [d1, d2, d3] }
  | _ => none }
def FnExactPickStaticWrongFalsely : Prop := fnExactPickStaticRow.holds Try.pinned (OpenSpec.ofChange fnExactPickStaticWrong)

/-- 'laws.FnExactWearGap': WHATEVER THE INPUT: true; the input reads as it did. -/
def fnExactWearGapSpec : ChangeSpec := { name := "fnExactWearGap", fn := fun _ => fun
  | [d1, d2] => { results := [.lit (.bool true)], args := [d1, d2] }
  | _ => none }
def fnExactWearGapRow : OpenClaim := { program := "ytcdkkdlaalbgiaa", sum := "b112e3a05bd5a16359f5bbeb0977cd99e63c09c06f8a75633cb33a4f1f4e6faa", func := "loop.example/g00905/laws.FnExactWearGap", spec := "fnExactWearGap", unfollowed := true, recurses := true, apart := false }
def FnExactWearGapSaid : Prop := fnExactWearGapRow.holds Try.pinned (OpenSpec.ofChange fnExactWearGapSpec)

/-- ITS FALSE NEIGHBOUR: 'it returns false'. Refute it at one input. -/
def fnExactWearGapWrong : ChangeSpec := { name := "fnExactWearGap", fn := fun _ => fun
  | [d1, d2] => { results := [.lit (.bool false)], args := [d1, d2] }
  | _ => none }
def FnExactWearGapWrongFalsely : Prop := fnExactWearGapRow.holds Try.pinned (OpenSpec.ofChange fnExactWearGapWrong)

/-- 'laws.FnExactValidWear': WHATEVER THE INPUT: true; the input reads as it did. -/
def fnExactValidWearSpec : ChangeSpec := { name := "fnExactValidWear", fn := fun _ => fun
  | [d] => { results := [.lit (.bool true)], args := [d] }
  | _ => none }
def fnExactValidWearRow : OpenClaim := { program := "ytcdkkdlaalbgiaa", sum := "b112e3a05bd5a16359f5bbeb0977cd99e63c09c06f8a75633cb33a4f1f4e6faa", func := "loop.example/g00905/laws.FnExactValidWear", spec := "fnExactValidWear", apart := false }
def FnExactValidWearSaid : Prop := fnExactValidWearRow.holds Try.pinned (OpenSpec.ofChange fnExactValidWearSpec)

/-- ITS FALSE NEIGHBOUR: 'it returns false'. Refute it at one input. -/
def fnExactValidWearWrong : ChangeSpec := { name := "fnExactValidWear", fn := fun _ => fun
  | [d] => { results := [.lit (.bool false)], args := [d] }
  | _ => none }
def FnExactValidWearWrongFalsely : Prop := fnExactValidWearRow.holds Try.pinned (OpenSpec.ofChange fnExactValidWearWrong)

/-- 'laws.FnExactNeedsLevelling': WHATEVER THE INPUT: true; the input reads as it did. -/
def fnExactNeedsLevellingSpec : ChangeSpec := { name := "fnExactNeedsLevelling", fn := fun _ => fun
  | [d1, d2, d3] => { results := [.lit (.bool true)], args := [d1, d2, d3] }
  | _ => none }
def fnExactNeedsLevellingRow : OpenClaim := { program := "ytcdkkdlaalbgiaa", sum := "b112e3a05bd5a16359f5bbeb0977cd99e63c09c06f8a75633cb33a4f1f4e6faa", func := "loop.example/g00905/laws.FnExactNeedsLevelling", spec := "fnExactNeedsLevelling", unfollowed := true, recurses := true, apart := false }
def FnExactNeedsLevellingSaid : Prop := fnExactNeedsLevellingRow.holds Try.pinned (OpenSpec.ofChange fnExactNeedsLevellingSpec)

/-- ITS FALSE NEIGHBOUR: 'it returns false'. Refute it at one input. -/
def fnExactNeedsLevellingWrong : ChangeSpec := { name := "fnExactNeedsLevelling", fn := fun _ => fun
  | [d1, d2, d3] => { results := [.lit (.bool false)], args := [d1, d2, d3] }
  | _ => none }
def FnExactNeedsLevellingWrongFalsely : Prop := fnExactNeedsLevellingRow.holds Try.pinned (OpenSpec.ofChange fnExactNeedsLevellingWrong)

/-- 'laws.FnExactWearExcess': WHATEVER THE INPUT: true; the input reads as it did. -/
def fnExactWearExcessSpec : ChangeSpec := { name := "fnExactWearExcess", fn := fun _ => fun
  | [d1, d2] => { results := [.lit (.bool true)], args := [d1, d2] }
  | _ => none }
def fnExactWearExcessRow : OpenClaim := { program := "ytcdkkdlaalbgiaa", sum := "b112e3a05bd5a16359f5bbeb0977cd99e63c09c06f8a75633cb33a4f1f4e6faa", func := "loop.example/g00905/laws.FnExactWearExcess", spec := "fnExactWearExcess", unfollowed := true, recurses := true, apart := false }
def FnExactWearExcessSaid : Prop := fnExactWearExcessRow.holds Try.pinned (OpenSpec.ofChange fnExactWearExcessSpec)

/-- ITS FALSE NEIGHBOUR: 'it returns false'. Refute it at one input. -/
def fnExactWearExcessWrong : ChangeSpec := { name := "fnExactWearExcess", fn := fun _ => fun
  | [d1, d2] => { results := [.lit (.bool false)], args := [d1, d2] }
  | _ => none }
def FnExactWearExcessWrongFalsely : Prop := fnExactWearExcessRow.holds Try.pinned (OpenSpec.ofChange fnExactWearExcessWrong)

/- THE SECOND FORM. 'bulk': how many values and letters a reading holds, each counted each time it is reached (what is shared counts as often as it is met; a slice's spare places count too). A statement '..UptoSaid' is the law's where the arguments, and the package variables that the reading takes, are together of bulk at most 1048576: NARROWER than '..Said'. Prove '..Said' where nothing that the law and all that it calls make is longer than what came in: it says more and counts as full. Else prove '..UptoSaid'. A law counts once. -/
mutual
def uptoBulk {H : Type} : DataW H → Nat
  | .lit (.string bytes) => bytes.length + 1
  | .lit _ => 1
  | .nil => 1
  | .ptr d => uptoBulk d + 1
  | .slice elems spare => uptoBulkAll elems + uptoBulkAll spare + 1
  | .agg parts => uptoBulkAll parts + 1
  | .iface _ d => uptoBulk d + 1
  | .map entries => uptoBulkEntries entries + 1
  | .held _ => 1
def uptoBulkAll {H : Type} : List (DataW H) → Nat
  | [] => 0
  | d :: r => uptoBulk d + uptoBulkAll r
def uptoBulkEntries {H : Type} : List (Lit × DataW H) → Nat
  | [] => 0
  | x :: r => uptoBulkEntry x + uptoBulkEntries r
def uptoBulkEntry {H : Type} : Lit × DataW H → Nat
  | (.string bytes, d) => bytes.length + uptoBulk d + 1
  | (_, d) => uptoBulk d + 1
 end
def uptoSmall : (H : Type) → List (DataW H) → Bool := fun _ ds => decide (uptoBulkAll ds ≤ 1048576)
def OpenSpec.upto (s : _root_.Go.ChangeSpec) : _root_.Go.OpenSpec := { _root_.Go.OpenSpec.ofChange s with cond := some uptoSmall }

/-- 'laws.FnExactPickFree', WHERE WHAT IT READS IS OF BULK AT MOST 1048576: true; the input reads as it did. -/
def fnExactPickFreeUptoRow : OpenClaim := { program := "ytcdkkdlaalbgiaa", sum := "b112e3a05bd5a16359f5bbeb0977cd99e63c09c06f8a75633cb33a4f1f4e6faa", func := "loop.example/g00905/laws.FnExactPickFree", spec := "fnExactPickFree", unfollowed := true, recurses := true, apart := false, narrowed := true }
def FnExactPickFreeUptoSaid : Prop := fnExactPickFreeUptoRow.holds Try.pinned (OpenSpec.upto fnExactPickFreeSpec)

/-- 'laws.FnExactPickStatic', WHERE WHAT IT READS IS OF BULK AT MOST 1048576: true; the input reads as it did. -/
def fnExactPickStaticUptoRow : OpenClaim := { program := "ytcdkkdlaalbgiaa", sum := "b112e3a05bd5a16359f5bbeb0977cd99e63c09c06f8a75633cb33a4f1f4e6faa", func := "loop.example/g00905/laws.FnExactPickStatic", spec := "fnExactPickStatic", unfollowed := true, recurses := true, apart := false, narrowed := true }
def FnExactPickStaticUptoSaid : Prop := fnExactPickStaticUptoRow.holds Try.pinned (OpenSpec.upto fnExactPickStaticSpec)

/-- 'laws.FnExactWearGap', WHERE WHAT IT READS IS OF BULK AT MOST 1048576: true; the input reads as it did. -/
def fnExactWearGapUptoRow : OpenClaim := { program := "ytcdkkdlaalbgiaa", sum := "b112e3a05bd5a16359f5bbeb0977cd99e63c09c06f8a75633cb33a4f1f4e6faa", func := "loop.example/g00905/laws.FnExactWearGap", spec := "fnExactWearGap", unfollowed := true, recurses := true, apart := false, narrowed := true }
def FnExactWearGapUptoSaid : Prop := fnExactWearGapUptoRow.holds Try.pinned (OpenSpec.upto fnExactWearGapSpec)

/-- 'laws.FnExactValidWear', WHERE WHAT IT READS IS OF BULK AT MOST 1048576: true; the input reads as it did. -/
def fnExactValidWearUptoRow : OpenClaim := { program := "ytcdkkdlaalbgiaa", sum := "b112e3a05bd5a16359f5bbeb0977cd99e63c09c06f8a75633cb33a4f1f4e6faa", func := "loop.example/g00905/laws.FnExactValidWear", spec := "fnExactValidWear", apart := false, narrowed := true }
def FnExactValidWearUptoSaid : Prop := fnExactValidWearUptoRow.holds Try.pinned (OpenSpec.upto fnExactValidWearSpec)

/-- 'laws.FnExactNeedsLevelling', WHERE WHAT IT READS IS OF BULK AT MOST 1048576: true; the input reads as it did. -/
def fnExactNeedsLevellingUptoRow : OpenClaim := { program := "ytcdkkdlaalbgiaa", sum := "b112e3a05bd5a16359f5bbeb0977cd99e63c09c06f8a75633cb33a4f1f4e6faa", func := "loop.example/g00905/laws.FnExactNeedsLevelling", spec := "fnExactNeedsLevelling", unfollowed := true, recurses := true, apart := false, narrowed := true }
def FnExactNeedsLevellingUptoSaid : Prop := fnExactNeedsLevellingUptoRow.holds Try.pinned (OpenSpec.upto fnExactNeedsLevellingSpec)

/-- 'laws.FnExactWearExcess', WHERE WHAT IT READS IS OF BULK AT MOST 1048576: true; the input reads as it did. -/
def fnExactWearExcessUptoRow : OpenClaim := { program := "ytcdkkdlaalbgiaa", sum := "b112e3a05bd5a16359f5bbeb0977cd99e63c09c06f8a75633cb33a4f1f4e6faa", func := "loop.example/g00905/laws.FnExactWearExcess", spec := "fnExactWearExcess", unfollowed := true, recurses := true, apart := false, narrowed := true }
def FnExactWearExcessUptoSaid : Prop := fnExactWearExcessUptoRow.holds Try.pinned (OpenSpec.upto fnExactWearExcessSpec)

end Rows
end Go.Proofs.Ytcdkkdlaalbgiaa
