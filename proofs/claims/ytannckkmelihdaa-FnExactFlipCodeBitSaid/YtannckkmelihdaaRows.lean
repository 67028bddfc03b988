/-
  No cell of these rows narrows 'for every input' (looked for: loops, veiled, ifaces, maps, wideKeys, modest, calm, conditions, laid).
  DERIVED. THE GIVEN ROWS OF THIS SEAT. 11 by the template 'for every input the law returns true; each argument reads behind the call as it read before'; 0 by the template 'total and deterministic' (their statements: YtannckkmelihdaaTotals.lean).
  GIVEN WITH THE SEED: the statements are not yours to turn. If you find one false, say at which input.
  Laid BY PROGRAM, IN A SANDBOX (cutbox-rows.mjs): the forced cells as the released guide's own fill.sh prints them over the translation 14d4c165628ae940… (all of the seat's roots in one cut). By AI agents, Wed Nov 11 2026. No macro, syntax, notation, axiom, sorry.
-/
import Derived.Test.YtannckkmelihdaaChecked
import GoSem.Claim
import GoSem.ClaimJoined
import GoSem.ClaimMapViews
import Derived.JoinedTies
import Derived.KernelRfl
namespace Go.Proofs.Ytannckkmelihdaa
/- THE CELL 'sum', in the pinned program and in every row, IS THE sha256 OF THE DUMP (.gsa) THAT YtannckkmelihdaaProg.lean LOADS. Nothing in Lean hashes anything: it is a label: what it is worth is what the hold of that sum in a sandbox is worth. -/
noncomputable def Try.pinned : Pinned := { name := "ytannckkmelihdaa", sum := "14d4c165628ae9401a76e1cfe09733dae8741362c90a576604e1215f95dd5cc5", checked := Try.checked }
namespace Rows
def none {H : Type} : Left H := { results := [], args := [] }

/-- 'laws.FnExactValidKey': WHATEVER THE INPUT: true; the input reads as it did. -/
def fnExactValidKeySpec : ChangeSpec := { name := "fnExactValidKey", fn := fun _ => fun
  | [d] => { results := [.lit (.bool true)], args := [d] }
  | _ => none }
def fnExactValidKeyRow : OpenClaim := { program := "ytannckkmelihdaa", sum := "14d4c165628ae9401a76e1cfe09733dae8741362c90a576604e1215f95dd5cc5", func := "loop.example/g00905/laws.FnExactValidKey", spec := "fnExactValidKey", apart := false }
def FnExactValidKeySaid : Prop := fnExactValidKeyRow.holds Try.pinned (OpenSpec.ofChange fnExactValidKeySpec)

/-- ITS FALSE NEIGHBOUR: 'it returns false'. Refute it at one input. -/
def fnExactValidKeyWrong : ChangeSpec := { name := "fnExactValidKey", fn := fun _ => fun
  | [d] => { results := [.lit (.bool false)], args := [d] }
  | _ => none }
def FnExactValidKeyWrongFalsely : Prop := fnExactValidKeyRow.holds Try.pinned (OpenSpec.ofChange fnExactValidKeyWrong)

/-- 'laws.FnExactKeyHash': WHATEVER THE INPUT: true; the input reads as it did. -/
def fnExactKeyHashSpec : ChangeSpec := { name := "fnExactKeyHash", fn := fun _ => fun
  | [d1, d2] => { results := [.lit (.bool true)], args := [d1, d2] }
  | _ => none }
def fnExactKeyHashRow : OpenClaim := { program := "ytannckkmelihdaa", sum := "14d4c165628ae9401a76e1cfe09733dae8741362c90a576604e1215f95dd5cc5", func := "loop.example/g00905/laws.FnExactKeyHash", spec := "fnExactKeyHash", apart := false }
def FnExactKeyHashSaid : Prop := fnExactKeyHashRow.holds Try.pinned (OpenSpec.ofChange fnExactKeyHashSpec)

/-- ITS FALSE NEIGHBOUR: 'it returns false'. Refute it at one input. -/
def fnExactKeyHashWrong : ChangeSpec := { name := "fnExactKeyHash", fn := fun _ => fun
  | [d1, d2] => { results := [.lit (.bool false)], args := [d1, d2] }
  | _ => none }
def FnExactKeyHashWrongFalsely : Prop := fnExactKeyHashRow.holds Try.pinned (OpenSpec.ofChange fnExactKeyHashWrong)

/-- 'laws.FnExactSharedPrefix': WHATEVER THE INPUT: true; the input reads as it did. -/
def fnExactSharedPrefixSpec : ChangeSpec := { name := "fnExactSharedPrefix", fn := fun _ => fun
  | [d1, d2] => { results := [.lit (.bool true)], args := [d1, d2] }
  | _ => none }
def fnExactSharedPrefixRow : OpenClaim := { program := "ytannckkmelihdaa", sum := "14d4c165628ae9401a76e1cfe09733dae8741362c90a576604e1215f95dd5cc5", func := "loop.example/g00905/laws.FnExactSharedPrefix", spec := "fnExactSharedPrefix", apart := false }
def FnExactSharedPrefixSaid : Prop := fnExactSharedPrefixRow.holds Try.pinned (OpenSpec.ofChange fnExactSharedPrefixSpec)

/-- ITS FALSE NEIGHBOUR: 'it returns false'. Refute it at one input. -/
def fnExactSharedPrefixWrong : ChangeSpec := { name := "fnExactSharedPrefix", fn := fun _ => fun
  | [d1, d2] => { results := [.lit (.bool false)], args := [d1, d2] }
  | _ => none }
def FnExactSharedPrefixWrongFalsely : Prop := fnExactSharedPrefixRow.holds Try.pinned (OpenSpec.ofChange fnExactSharedPrefixWrong)

/-- 'laws.FnExactValidFragment': WHATEVER THE INPUT: true; the input reads as it did. -/
def fnExactValidFragmentSpec : ChangeSpec := { name := "fnExactValidFragment", fn := fun _ => fun
  | [d] => { results := [.lit (.bool true)], args := [d] }
  | _ => none }
def fnExactValidFragmentRow : OpenClaim := { program := "ytannckkmelihdaa", sum := "14d4c165628ae9401a76e1cfe09733dae8741362c90a576604e1215f95dd5cc5", func := "loop.example/g00905/laws.FnExactValidFragment", spec := "fnExactValidFragment", apart := false }
def FnExactValidFragmentSaid : Prop := fnExactValidFragmentRow.holds Try.pinned (OpenSpec.ofChange fnExactValidFragmentSpec)

/-- ITS FALSE NEIGHBOUR: 'it returns false'. Refute it at one input. -/
def fnExactValidFragmentWrong : ChangeSpec := { name := "fnExactValidFragment", fn := fun _ => fun
  | [d] => { results := [.lit (.bool false)], args := [d] }
  | _ => none }
def FnExactValidFragmentWrongFalsely : Prop := fnExactValidFragmentRow.holds Try.pinned (OpenSpec.ofChange fnExactValidFragmentWrong)

/-- 'laws.FnExactMergeFilters': WHATEVER THE INPUT: true; the input reads as it did. -/
def fnExactMergeFiltersSpec : ChangeSpec := { name := "fnExactMergeFilters", fn := fun _ => fun
  | [d1, d2] => { results := [.lit (.bool true)], args := [d1, d2] }
  | _ => none }
def fnExactMergeFiltersRow : OpenClaim := { program := "ytannckkmelihdaa", sum := "14d4c165628ae9401a76e1cfe09733dae8741362c90a576604e1215f95dd5cc5", func := "loop.example/g00905/laws.FnExactMergeFilters", spec := "fnExactMergeFilters", apart := false }
def FnExactMergeFiltersSaid : Prop := fnExactMergeFiltersRow.holds Try.pinned (OpenSpec.ofChange fnExactMergeFiltersSpec)

/-- ITS FALSE NEIGHBOUR: 'it returns false'. Refute it at one input. -/
def fnExactMergeFiltersWrong : ChangeSpec := { name := "fnExactMergeFilters", fn := fun _ => fun
  | [d1, d2] => { results := [.lit (.bool false)], args := [d1, d2] }
  | _ => none }
def FnExactMergeFiltersWrongFalsely : Prop := fnExactMergeFiltersRow.holds Try.pinned (OpenSpec.ofChange fnExactMergeFiltersWrong)

/-- 'laws.FnExactBitsSet': WHATEVER THE INPUT: true; the input reads as it did. -/
def fnExactBitsSetSpec : ChangeSpec := { name := "fnExactBitsSet", fn := fun _ => fun
  | [d] => { results := [.lit (.bool true)], args := [d] }
  | _ => none }
def fnExactBitsSetRow : OpenClaim := { program := "ytannckkmelihdaa", sum := "14d4c165628ae9401a76e1cfe09733dae8741362c90a576604e1215f95dd5cc5", func := "loop.example/g00905/laws.FnExactBitsSet", spec := "fnExactBitsSet", apart := false }
def FnExactBitsSetSaid : Prop := fnExactBitsSetRow.holds Try.pinned (OpenSpec.ofChange fnExactBitsSetSpec)

/-- ITS FALSE NEIGHBOUR: 'it returns false'. Refute it at one input. -/
def fnExactBitsSetWrong : ChangeSpec := { name := "fnExactBitsSet", fn := fun _ => fun
  | [d] => { results := [.lit (.bool false)], args := [d] }
  | _ => none }
def FnExactBitsSetWrongFalsely : Prop := fnExactBitsSetRow.holds Try.pinned (OpenSpec.ofChange fnExactBitsSetWrong)

/-- 'laws.FnExactCapacityFTL': WHATEVER THE INPUT: true; the input reads as it did. -/
def fnExactCapacityFTLSpec : ChangeSpec := { name := "fnExactCapacityFTL", fn := fun _ => fun
  | [d] => { results := [.lit (.bool true)], args := [d] }
  | _ => none }
def fnExactCapacityFTLRow : OpenClaim := { program := "ytannckkmelihdaa", sum := "14d4c165628ae9401a76e1cfe09733dae8741362c90a576604e1215f95dd5cc5", func := "loop.example/g00905/laws.FnExactCapacityFTL", spec := "fnExactCapacityFTL", apart := false }
def FnExactCapacityFTLSaid : Prop := fnExactCapacityFTLRow.holds Try.pinned (OpenSpec.ofChange fnExactCapacityFTLSpec)

/-- ITS FALSE NEIGHBOUR: 'it returns false'. Refute it at one input. -/
def fnExactCapacityFTLWrong : ChangeSpec := { name := "fnExactCapacityFTL", fn := fun _ => fun
  | [d] => { results := [.lit (.bool false)], args := [d] }
  | _ => none }
def FnExactCapacityFTLWrongFalsely : Prop := fnExactCapacityFTLRow.holds Try.pinned (OpenSpec.ofChange fnExactCapacityFTLWrong)

/-- 'laws.FnExactValidRecord': WHATEVER THE INPUT: true; the input reads as it did. -/
def fnExactValidRecordSpec : ChangeSpec := { name := "fnExactValidRecord", fn := fun _ => fun
  | [d] => { results := [.lit (.bool true)], args := [d] }
  | _ => none }
def fnExactValidRecordRow : OpenClaim := { program := "ytannckkmelihdaa", sum := "14d4c165628ae9401a76e1cfe09733dae8741362c90a576604e1215f95dd5cc5", func := "loop.example/g00905/laws.FnExactValidRecord", spec := "fnExactValidRecord", apart := false }
def FnExactValidRecordSaid : Prop := fnExactValidRecordRow.holds Try.pinned (OpenSpec.ofChange fnExactValidRecordSpec)

/-- ITS FALSE NEIGHBOUR: 'it returns false'. Refute it at one input. -/
def fnExactValidRecordWrong : ChangeSpec := { name := "fnExactValidRecord", fn := fun _ => fun
  | [d] => { results := [.lit (.bool false)], args := [d] }
  | _ => none }
def FnExactValidRecordWrongFalsely : Prop := fnExactValidRecordRow.holds Try.pinned (OpenSpec.ofChange fnExactValidRecordWrong)

/-- 'laws.FnExactNewHeat': WHATEVER THE INPUT: true; the input reads as it did. -/
def fnExactNewHeatSpec : ChangeSpec := { name := "fnExactNewHeat", fn := fun _ => fun
  | [d] => { results := [.lit (.bool true)], args := [d] }
  | _ => none }
def fnExactNewHeatRow : OpenClaim := { program := "ytannckkmelihdaa", sum := "14d4c165628ae9401a76e1cfe09733dae8741362c90a576604e1215f95dd5cc5", func := "loop.example/g00905/laws.FnExactNewHeat", spec := "fnExactNewHeat", apart := false }
def FnExactNewHeatSaid : Prop := fnExactNewHeatRow.holds Try.pinned (OpenSpec.ofChange fnExactNewHeatSpec)

/-- ITS FALSE NEIGHBOUR: 'it returns false'. Refute it at one input. -/
def fnExactNewHeatWrong : ChangeSpec := { name := "fnExactNewHeat", fn := fun _ => fun
  | [d] => { results := [.lit (.bool false)], args := [d] }
  | _ => none }
def FnExactNewHeatWrongFalsely : Prop := fnExactNewHeatRow.holds Try.pinned (OpenSpec.ofChange fnExactNewHeatWrong)

/-- 'laws.FnExactFlipCodeBit': WHATEVER THE INPUT: true; the input reads as it did. -/
def fnExactFlipCodeBitSpec : ChangeSpec := { name := "fnExactFlipCodeBit", fn := fun _ => fun
  | [d1, d2, d3] => { results := [.lit (.bool true)], args := [d1, d2, d3] }
  | _ => none }
def fnExactFlipCodeBitRow : OpenClaim := { program := "ytannckkmelihdaa", sum := "14d4c165628ae9401a76e1cfe09733dae8741362c90a576604e1215f95dd5cc5", func := "loop.example/g00905/laws.FnExactFlipCodeBit", spec := "fnExactFlipCodeBit", apart := false }
def FnExactFlipCodeBitSaid : Prop := fnExactFlipCodeBitRow.holds Try.pinned (OpenSpec.ofChange fnExactFlipCodeBitSpec)

/-- ITS FALSE NEIGHBOUR: 'it returns false'. Refute it at one input. -/
def fnExactFlipCodeBitWrong : ChangeSpec := { name := "fnExactFlipCodeBit", fn := fun _ => fun
  | [d1, d2, d3] => { results := [.lit (.bool false)], args := [d1, d2, d3] }
  | _ => none }
def FnExactFlipCodeBitWrongFalsely : Prop := fnExactFlipCodeBitRow.holds Try.pinned (OpenSpec.ofChange fnExactFlipCodeBitWrong)

/-- 'laws.FnExactAddToFilter': WHATEVER THE INPUT: true; the input reads as it did. -/
def fnExactAddToFilterSpec : ChangeSpec := { name := "fnExactAddToFilter", fn := fun _ => fun
  | [d1, d2] => { results := [.lit (.bool true)], args := [d1, d2] }
  | _ => none }
def fnExactAddToFilterRow : OpenClaim := { program := "ytannckkmelihdaa", sum := "14d4c165628ae9401a76e1cfe09733dae8741362c90a576604e1215f95dd5cc5", func := "loop.example/g00905/laws.FnExactAddToFilter", spec := "fnExactAddToFilter", apart := false }
def FnExactAddToFilterSaid : Prop := fnExactAddToFilterRow.holds Try.pinned (OpenSpec.ofChange fnExactAddToFilterSpec)

/-- ITS FALSE NEIGHBOUR: 'it returns false'. Refute it at one input. -/
def fnExactAddToFilterWrong : ChangeSpec := { name := "fnExactAddToFilter", fn := fun _ => fun
  | [d1, d2] => { results := [.lit (.bool false)], args := [d1, d2] }
  | _ => none }
def FnExactAddToFilterWrongFalsely : Prop := fnExactAddToFilterRow.holds Try.pinned (OpenSpec.ofChange fnExactAddToFilterWrong)

/- THE SECOND FORM. 'bulk': how many values and letters a reading holds, each counted each time it is reached (what is shared counts as often as it is met; a slice's spare places count too). A statement '..UptoSaid' is the law's where the arguments, and the package variables that the reading takes, are together of bulk at most 1048576: NARROWER than '..Said'. Prove '..Said' where nothing that the law and all that it calls make is longer than what came in: it says more and counts as full. Else prove '..UptoSaid'. A law counts once. -/
mutual
def uptoBulk {H : Type} : DataW H → Nat
  | .lit (.string bytes) => bytes.length + 1
  | .lit _ => 1
  | .nil => 1
  | .ptr d => uptoBulk d + 1
  | .slice elems spare => uptoBulkAll elems + uptoBulkAll spare + 1
  | .agg parts => uptoBulkAll parts + 1
  | .iface _ d => uptoBulk d + 1
  | .map entries => uptoBulkEntries entries + 1
  | .held _ => 1
def uptoBulkAll {H : Type} : List (DataW H) → Nat
  | [] => 0
  | d :: r => uptoBulk d + uptoBulkAll r
def uptoBulkEntries {H : Type} : List (Lit × DataW H) → Nat
  | [] => 0
  | x :: r => uptoBulkEntry x + uptoBulkEntries r
def uptoBulkEntry {H : Type} : Lit × DataW H → Nat
  | (.string bytes, d) => bytes.length + uptoBulk d + 1
  | (_, d) => uptoBulk d + 1
 end
def uptoSmall : (H : Type) → List (DataW H) → Bool := fun _ ds => decide (uptoBulkAll ds ≤ 1048576)
def OpenSpec.upto (s : _root_.Go.ChangeSpec) : _root_.Go.OpenSpec := { _root_.Go.OpenSpec.ofChange s with cond := some uptoSmall }

/-- 'laws.FnExactValidKey', WHERE WHAT IT READS IS OF BULK AT MOST 1048576: true; the input reads as it did. -/
def fnExactValidKeyUptoRow : OpenClaim := { program := "ytannckkmelihdaa", sum := "14d4c165628ae9401a76e1cfe09733dae8741362c90a576604e1215f95dd5cc5", func := "loop.example/g00905/laws.FnExactValidKey", spec := "fnExactValidKey", apart := false, narrowed := true }
def FnExactValidKeyUptoSaid : Prop := fnExactValidKeyUptoRow.holds Try.pinned (OpenSpec.upto fnExactValidKeySpec)

/-- 'laws.FnExactKeyHash', WHERE WHAT IT READS IS OF BULK AT MOST 1048576: true; the input reads as it did. -/
def fnExactKeyHashUptoRow : OpenClaim := { program := "ytannckkmelihdaa", sum := "14d4c165628ae9401a76e1cfe09733dae8741362c90a576604e1215f95dd5cc5", func := "loop.example/g00905/laws.FnExactKeyHash", spec := "fnExactKeyHash", apart := false, narrowed := true }
def FnExactKeyHashUptoSaid : Prop := fnExactKeyHashUptoRow.holds Try.pinned (OpenSpec.upto fnExactKeyHashSpec)

/-- 'laws.FnExactSharedPrefix', WHERE WHAT IT READS IS OF BULK AT MOST 1048576: true; the input reads as it did. -/
def fnExactSharedPrefixUptoRow : OpenClaim := { program := "ytannckkmelihdaa", sum := "14d4c165628ae9401a76e1cfe09733dae8741362c90a576604e1215f95dd5cc5", func := "loop.example/g00905/laws.FnExactSharedPrefix", spec := "fnExactSharedPrefix", apart := false, narrowed := true }
def FnExactSharedPrefixUptoSaid : Prop := fnExactSharedPrefixUptoRow.holds Try.pinned (OpenSpec.upto fnExactSharedPrefixSpec)

/-- 'laws.FnExactValidFragment', WHERE WHAT IT READS IS OF BULK AT MOST 1048576: true; the input reads as it did. -/
def fnExactValidFragmentUptoRow : OpenClaim := { program := "ytannckkmelihdaa", sum := "14d4c165628ae9401a76e1cfe09733dae8741362c90a576604e1215f95dd5cc5", func := "loop.example/g00905/laws.FnExactValidFragment", spec := "fnExactValidFragment", apart := false, narrowed := true }
def FnExactValidFragmentUptoSaid : Prop := fnExactValidFragmentUptoRow.holds Try.pinned (OpenSpec.upto fnExactValidFragmentSpec)

/-- 'laws.FnExactMergeFilters', WHERE WHAT IT READS IS OF BULK AT MOST 1048576: true; the input reads as it did. -/
def fnExactMergeFiltersUptoRow : OpenClaim := { program := "ytannckkmelihdaa", sum := "14d4c165628ae9401a76e1cfe09733dae8741362c90a576604e1215f95dd5cc5", func := "loop.example/g00905/laws.FnExactMergeFilters", spec := "fnExactMergeFilters", apart := false, narrowed := true }
def FnExactMergeFiltersUptoSaid : Prop := fnExactMergeFiltersUptoRow.holds Try.pinned (OpenSpec.upto fnExactMergeFiltersSpec)

/-- 'laws.FnExactBitsSet', WHERE WHAT IT READS IS OF BULK AT MOST 1048576: true; the input reads as it did. -/
def fnExactBitsSetUptoRow : OpenClaim := { program := "ytannckkmelihdaa", sum := "14d4c165628ae9401a76e1cfe09733dae8741362c90a576604e1215f95dd5cc5", func := "loop.example/g00905/laws.FnExactBitsSet", spec := "fnExactBitsSet", apart := false, narrowed := true }
def FnExactBitsSetUptoSaid : Prop := fnExactBitsSetUptoRow.holds Try.pinned (OpenSpec.upto fnExactBitsSetSpec)

/-- 'laws.FnExactCapacityFTL', WHERE WHAT IT READS IS OF BULK AT MOST 1048576: true; the input reads as it did. -/
def fnExactCapacityFTLUptoRow : OpenClaim := { program := "ytannckkmelihdaa", sum := "14d4c165628ae9401a76e1cfe09733dae8741362c90a576604e1215f95dd5cc5", func := "loop.example/g00905/laws.FnExactCapacityFTL", spec := "fnExactCapacityFTL", apart := false, narrowed := true }
def FnExactCapacityFTLUptoSaid : Prop := fnExactCapacityFTLUptoRow.holds Try.pinned (OpenSpec.upto fnExactCapacityFTLSpec)

/-- 'laws.FnExactValidRecord', WHERE WHAT IT READS IS OF BULK AT MOST 1048576: true; the input reads as it did. -/
def fnExactValidRecordUptoRow : OpenClaim := { program := "ytannckkmelihdaa", sum := "14d4c165628ae9401a76e1cfe09733dae8741362c90a576604e1215f95dd5cc5", func := "loop.example/g00905/laws.FnExactValidRecord", spec := "fnExactValidRecord", apart := false, narrowed := true }
def FnExactValidRecordUptoSaid : Prop := fnExactValidRecordUptoRow.holds Try.pinned (OpenSpec.upto fnExactValidRecordSpec)

/-- 'laws.FnExactNewHeat', WHERE WHAT IT READS IS OF BULK AT MOST 1048576: true; the input reads as it did. -/
def fnExactNewHeatUptoRow : OpenClaim := { program := "ytannckkmelihdaa", sum := "14d4c165628ae9401a76e1cfe09733dae8741362c90a576604e1215f95dd5cc5", func := "loop.example/g00905/laws.FnExactNewHeat", spec := "fnExactNewHeat", apart := false, narrowed := true }
def FnExactNewHeatUptoSaid : Prop := fnExactNewHeatUptoRow.holds Try.pinned (OpenSpec.upto fnExactNewHeatSpec)

/-- 'laws.FnExactFlipCodeBit', WHERE WHAT IT READS IS OF BULK AT MOST 1048576: true; the input reads as it did. -/
def fnExactFlipCodeBitUptoRow : OpenClaim := { program := "ytannckkmelihdaa", sum := "14d4c165628ae9401a76e1cfe09733dae8741362c90a576604e1215f95dd5cc5", func := "loop.example/g00905/laws.FnExactFlipCodeBit", spec := "fnExactFlipCodeBit", apart := false, narrowed := true }
def FnExactFlipCodeBitUptoSaid : Prop := fnExactFlipCodeBitUptoRow.holds Try.pinned (OpenSpec.upto fnExactFlipCodeBitSpec)

/-- 'laws.FnExactAddToFilter', WHERE WHAT IT READS IS OF BULK AT MOST 1048576: true; the input reads as it did. -/
def fnExactAddToFilterUptoRow : OpenClaim := { program := "ytannckkmelihdaa", sum := "14d4c165628ae9401a76e1cfe09733dae8741362c90a576604e1215f95dd5cc5", func := "loop.example/g00905/laws.FnExactAddToFilter", spec := "fnExactAddToFilter", apart := false, narrowed := true }
def FnExactAddToFilterUptoSaid : Prop := fnExactAddToFilterUptoRow.holds Try.pinned (OpenSpec.upto fnExactAddToFilterSpec)

end Rows
end Go.Proofs.Ytannckkmelihdaa
