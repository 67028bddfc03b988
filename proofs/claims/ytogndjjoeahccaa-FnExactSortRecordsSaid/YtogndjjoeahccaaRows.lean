/-
  No cell of these rows narrows 'for every input' (looked for: loops, veiled, ifaces, maps, wideKeys, modest, calm, conditions, laid).
  DERIVED. THE GIVEN ROWS OF THIS SEAT. 7 by the template 'for every input the law returns true; each argument reads behind the call as it read before'; 0 by the template 'total and deterministic' (their statements: YtogndjjoeahccaaTotals.lean).
  GIVEN WITH THE SEED: the statements are not yours to turn. If you find one false, say at which input.
  Laid BY PROGRAM, IN A SANDBOX (cutbox-rows.mjs): the forced cells as the released guide's own fill.sh prints them over the translation ea5ac4d78273f368… (all of the seat's roots in one cut). By AI agents, Wed Nov 11 2026. No macro, syntax, notation, axiom, sorry.
-/
import Derived.Test.YtogndjjoeahccaaChecked
import GoSem.Claim
import GoSem.ClaimJoined
import GoSem.ClaimMapViews
import Derived.JoinedTies
import Derived.KernelRfl
namespace Go.Proofs.Ytogndjjoeahccaa
/- THE CELL 'sum', in the pinned program and in every row, IS THE sha256 OF THE DUMP (.gsa) THAT YtogndjjoeahccaaProg.lean LOADS. Nothing in Lean hashes anything: it is a label: what it is worth is what the hold of that sum in a sandbox is worth. -/
noncomputable def Try.pinned : Pinned := { name := "ytogndjjoeahccaa", sum := "ea5ac4d78273f36883505df02fb9de7629da2463bc36f3ea11e19fb4de59eebe", checked := Try.checked }
namespace Rows
def none {H : Type} : Left H := { results := [], args := [] }

/-- 'laws.FnExactSortRecords': WHATEVER THE INPUT: true; the input reads as it did. -/
def fnExactSortRecordsSpec : ChangeSpec := { name := "fnExactSortRecords", fn := fun _ => fun
  | [d] => { results := [.lit (.bool true)], args := [d] }
  | _ => none }
def fnExactSortRecordsRow : OpenClaim := { program := "ytogndjjoeahccaa", sum := "ea5ac4d78273f36883505df02fb9de7629da2463bc36f3ea11e19fb4de59eebe", func := "loop.example/g00905/laws.FnExactSortRecords", spec := "fnExactSortRecords", inPlace := ["internal/bytealg.abigen_runtime_cmpstring"], unfollowed := true, recurses := true, apart := false }
def FnExactSortRecordsSaid : Prop := fnExactSortRecordsRow.holds Try.pinned (OpenSpec.ofChange fnExactSortRecordsSpec)

/-- ITS FALSE NEIGHBOUR: 'it returns false'. Refute it at one input. -/
def fnExactSortRecordsWrong : ChangeSpec := { name := "fnExactSortRecords", fn := fun _ => fun
  | [d] => { results := [.lit (.bool false)], args := [d] }
  | _ => none }
def FnExactSortRecordsWrongFalsely : Prop := fnExactSortRecordsRow.holds Try.pinned (OpenSpec.ofChange fnExactSortRecordsWrong)

/-- 'laws.FnExactEncodeBlock': WHATEVER THE INPUT: true; the input reads as it did. -/
def fnExactEncodeBlockSpec : ChangeSpec := { name := "fnExactEncodeBlock", fn := fun _ => fun
  | [d] => { results := [.lit (.bool true)], args := [d] }
  | _ => none }
def fnExactEncodeBlockRow : OpenClaim := { program := "ytogndjjoeahccaa", sum := "ea5ac4d78273f36883505df02fb9de7629da2463bc36f3ea11e19fb4de59eebe", func := "loop.example/g00905/laws.FnExactEncodeBlock", spec := "fnExactEncodeBlock", inPlace := ["internal/bytealg.abigen_runtime_cmpstring", "internal/abi.NoEscape"], apart := false }
def FnExactEncodeBlockSaid : Prop := fnExactEncodeBlockRow.holds Try.pinned (OpenSpec.ofChange fnExactEncodeBlockSpec)

/-- ITS FALSE NEIGHBOUR: 'it returns false'. Refute it at one input. -/
def fnExactEncodeBlockWrong : ChangeSpec := { name := "fnExactEncodeBlock", fn := fun _ => fun
  | [d] => { results := [.lit (.bool false)], args := [d] }
  | _ => none }
def FnExactEncodeBlockWrongFalsely : Prop := fnExactEncodeBlockRow.holds Try.pinned (OpenSpec.ofChange fnExactEncodeBlockWrong)

/-- 'laws.FnExactSavedBytes': WHATEVER THE INPUT: true; the input reads as it did. -/
def fnExactSavedBytesSpec : ChangeSpec := { name := "fnExactSavedBytes", fn := fun _ => fun
  | [d] => { results := [.lit (.bool true)], args := [d] }
  | _ => none }
def fnExactSavedBytesRow : OpenClaim := { program := "ytogndjjoeahccaa", sum := "ea5ac4d78273f36883505df02fb9de7629da2463bc36f3ea11e19fb4de59eebe", func := "loop.example/g00905/laws.FnExactSavedBytes", spec := "fnExactSavedBytes", inPlace := ["internal/bytealg.abigen_runtime_cmpstring", "internal/abi.NoEscape"], apart := false }
def FnExactSavedBytesSaid : Prop := fnExactSavedBytesRow.holds Try.pinned (OpenSpec.ofChange fnExactSavedBytesSpec)

/-- ITS FALSE NEIGHBOUR: 'it returns false'. Refute it at one input. -/
def fnExactSavedBytesWrong : ChangeSpec := { name := "fnExactSavedBytes", fn := fun _ => fun
  | [d] => { results := [.lit (.bool false)], args := [d] }
  | _ => none }
def FnExactSavedBytesWrongFalsely : Prop := fnExactSavedBytesRow.holds Try.pinned (OpenSpec.ofChange fnExactSavedBytesWrong)

/-- 'laws.FnExactRestartFor': WHATEVER THE INPUT: true; the input reads as it did. -/
def fnExactRestartForSpec : ChangeSpec := { name := "fnExactRestartFor", fn := fun _ => fun
  | [d1, d2] => { results := [.lit (.bool true)], args := [d1, d2] }
  | _ => none }
def fnExactRestartForRow : OpenClaim := { program := "ytogndjjoeahccaa", sum := "ea5ac4d78273f36883505df02fb9de7629da2463bc36f3ea11e19fb4de59eebe", func := "loop.example/g00905/laws.FnExactRestartFor", spec := "fnExactRestartFor", inPlace := ["internal/bytealg.abigen_runtime_cmpstring", "internal/abi.NoEscape"], apart := false }
def FnExactRestartForSaid : Prop := fnExactRestartForRow.holds Try.pinned (OpenSpec.ofChange fnExactRestartForSpec)

/-- ITS FALSE NEIGHBOUR: 'it returns false'. Refute it at one input. -/
def fnExactRestartForWrong : ChangeSpec := { name := "fnExactRestartFor", fn := fun _ => fun
  | [d1, d2] => { results := [.lit (.bool false)], args := [d1, d2] }
  | _ => none }
def FnExactRestartForWrongFalsely : Prop := fnExactRestartForRow.holds Try.pinned (OpenSpec.ofChange fnExactRestartForWrong)

/-- 'laws.FnExactRestartsOf': WHATEVER THE INPUT: true; the input reads as it did. -/
def fnExactRestartsOfSpec : ChangeSpec := { name := "fnExactRestartsOf", fn := fun _ => fun
  | [d] => { results := [.lit (.bool true)], args := [d] }
  | _ => none }
def fnExactRestartsOfRow : OpenClaim := { program := "ytogndjjoeahccaa", sum := "ea5ac4d78273f36883505df02fb9de7629da2463bc36f3ea11e19fb4de59eebe", func := "loop.example/g00905/laws.FnExactRestartsOf", spec := "fnExactRestartsOf", inPlace := ["internal/bytealg.abigen_runtime_cmpstring", "internal/abi.NoEscape"], apart := false }
def FnExactRestartsOfSaid : Prop := fnExactRestartsOfRow.holds Try.pinned (OpenSpec.ofChange fnExactRestartsOfSpec)

/-- ITS FALSE NEIGHBOUR: 'it returns false'. Refute it at one input. -/
def fnExactRestartsOfWrong : ChangeSpec := { name := "fnExactRestartsOf", fn := fun _ => fun
  | [d] => { results := [.lit (.bool false)], args := [d] }
  | _ => none }
def FnExactRestartsOfWrongFalsely : Prop := fnExactRestartsOfRow.holds Try.pinned (OpenSpec.ofChange fnExactRestartsOfWrong)

/-- 'laws.FnExactSeekBlock': WHATEVER THE INPUT: true; the input reads as it did. -/
def fnExactSeekBlockSpec : ChangeSpec := { name := "fnExactSeekBlock", fn := fun _ => fun
  | [d1, d2, d3] => { results := [.lit (.bool true)], args := [d1, d2, d3] }
  | _ => none }
def fnExactSeekBlockRow : OpenClaim := { program := "ytogndjjoeahccaa", sum := "ea5ac4d78273f36883505df02fb9de7629da2463bc36f3ea11e19fb4de59eebe", func := "loop.example/g00905/laws.FnExactSeekBlock", spec := "fnExactSeekBlock", inPlace := ["internal/bytealg.abigen_runtime_cmpstring", "internal/abi.NoEscape"], unfollowed := true, recurses := true, apart := false }
def FnExactSeekBlockSaid : Prop := fnExactSeekBlockRow.holds Try.pinned (OpenSpec.ofChange fnExactSeekBlockSpec)

/-- ITS FALSE NEIGHBOUR: 'it returns false'. Refute it at one input. -/
def fnExactSeekBlockWrong : ChangeSpec := { name := "fnExactSeekBlock", fn := fun _ => fun
  | [d1, d2, d3] => { results := [.lit (.bool false)], args := [d1, d2, d3] }
  | _ => none }
def FnExactSeekBlockWrongFalsely : Prop := fnExactSeekBlockRow.holds Try.pinned (OpenSpec.ofChange fnExactSeekBlockWrong)

/-- 'laws.FnExactDecodeBlock': WHATEVER THE INPUT: true; the input reads as it did. -/
def fnExactDecodeBlockSpec : ChangeSpec := { name := "fnExactDecodeBlock", fn := fun _ => fun
  | [d] => { results := [.lit (.bool true)], args := [d] }
  | _ => none }
def fnExactDecodeBlockRow : OpenClaim := { program := "ytogndjjoeahccaa", sum := "ea5ac4d78273f36883505df02fb9de7629da2463bc36f3ea11e19fb4de59eebe", func := "loop.example/g00905/laws.FnExactDecodeBlock", spec := "fnExactDecodeBlock", inPlace := ["internal/bytealg.abigen_runtime_cmpstring", "internal/abi.NoEscape"], apart := false }
def FnExactDecodeBlockSaid : Prop := fnExactDecodeBlockRow.holds Try.pinned (OpenSpec.ofChange fnExactDecodeBlockSpec)

/-- ITS FALSE NEIGHBOUR: 'it returns false'. Refute it at one input. -/
def fnExactDecodeBlockWrong : ChangeSpec := { name := "fnExactDecodeBlock", fn := fun _ => fun
  | [d] => { results := [.lit (.bool false)], args := [d] }
  | _ => none }
def FnExactDecodeBlockWrongFalsely : Prop := fnExactDecodeBlockRow.holds Try.pinned (OpenSpec.ofChange fnExactDecodeBlockWrong)

/- THE SECOND FORM. 'bulk': how many values and letters a reading holds, each counted each time it is reached (what is shared counts as often as it is met; a slice's spare places count too). A statement '..UptoSaid' is the law's where the arguments, and the package variables that the reading takes, are together of bulk at most 1048576: NARROWER than '..Said'. Prove '..Said' where nothing that the law and all that it calls make is longer than what came in: it says more and counts as full. Else prove '..UptoSaid'. A law counts once. -/
mutual
def uptoBulk {H : Type} : DataW H → Nat
  | .lit (.string bytes) => bytes.length + 1
  | .lit _ => 1
  | .nil => 1
  | .ptr d => uptoBulk d + 1
  | .slice elems spare => uptoBulkAll elems + uptoBulkAll spare + 1
  | .agg parts => uptoBulkAll parts + 1
  | .iface _ d => uptoBulk d + 1
  | .map entries => uptoBulkEntries entries + 1
  | .held _ => 1
def uptoBulkAll {H : Type} : List (DataW H) → Nat
  | [] => 0
  | d :: r => uptoBulk d + uptoBulkAll r
def uptoBulkEntries {H : Type} : List (Lit × DataW H) → Nat
  | [] => 0
  | x :: r => uptoBulkEntry x + uptoBulkEntries r
def uptoBulkEntry {H : Type} : Lit × DataW H → Nat
  | (.string bytes, d) => bytes.length + uptoBulk d + 1
  | (_, d) => uptoBulk d + 1
 end
def uptoSmall : (H : Type) → List (DataW H) → Bool := fun _ ds => decide (uptoBulkAll ds ≤ 1048576)
def OpenSpec.upto (s : _root_.Go.ChangeSpec) : _root_.Go.OpenSpec := { _root_.Go.OpenSpec.ofChange s with cond := some uptoSmall }

/-- 'laws.FnExactSortRecords', WHERE WHAT IT READS IS OF BULK AT MOST 1048576: true; the input reads as it did. -/
def fnExactSortRecordsUptoRow : OpenClaim := { program := "ytogndjjoeahccaa", sum := "ea5ac4d78273f36883505df02fb9de7629da2463bc36f3ea11e19fb4de59eebe", func := "loop.example/g00905/laws.FnExactSortRecords", spec := "fnExactSortRecords", inPlace := ["internal/bytealg.abigen_runtime_cmpstring"], unfollowed := true, recurses := true, apart := false, narrowed := true }
def FnExactSortRecordsUptoSaid : Prop := fnExactSortRecordsUptoRow.holds Try.pinned (OpenSpec.upto fnExactSortRecordsSpec)

/-- 'laws.FnExactEncodeBlock', WHERE WHAT IT READS IS OF BULK AT MOST 1048576: true; the input reads as it did. -/
def fnExactEncodeBlockUptoRow : OpenClaim := { program := "ytogndjjoeahccaa", sum := "ea5ac4d78273f36883505df02fb9de7629da2463bc36f3ea11e19fb4de59eebe", func := "loop.example/g00905/laws.FnExactEncodeBlock", spec := "fnExactEncodeBlock", inPlace := ["internal/bytealg.abigen_runtime_cmpstring", "internal/abi.NoEscape"], apart := false, narrowed := true }
def FnExactEncodeBlockUptoSaid : Prop := fnExactEncodeBlockUptoRow.holds Try.pinned (OpenSpec.upto fnExactEncodeBlockSpec)

/-- 'laws.FnExactSavedBytes', WHERE WHAT IT READS IS OF BULK AT MOST 1048576: true; the input reads as it did. -/
def fnExactSavedBytesUptoRow : OpenClaim := { program := "ytogndjjoeahccaa", sum := "ea5ac4d78273f36883505df02fb9de7629da2463bc36f3ea11e19fb4de59eebe", func := "loop.example/g00905/laws.FnExactSavedBytes", spec := "fnExactSavedBytes", inPlace := ["internal/bytealg.abigen_runtime_cmpstring", "internal/abi.NoEscape"], apart := false, narrowed := true }
def FnExactSavedBytesUptoSaid : Prop := fnExactSavedBytesUptoRow.holds Try.pinned (OpenSpec.upto fnExactSavedBytesSpec)

/-- 'laws.FnExactRestartFor', WHERE WHAT IT READS IS OF BULK AT MOST 1048576: true; the input reads as it did. -/
def fnExactRestartForUptoRow : OpenClaim := { program := "ytogndjjoeahccaa", sum := "ea5ac4d78273f36883505df02fb9de7629da2463bc36f3ea11e19fb4de59eebe", func := "loop.example/g00905/laws.FnExactRestartFor", spec := "fnExactRestartFor", inPlace := ["internal/bytealg.abigen_runtime_cmpstring", "internal/abi.NoEscape"], apart := false, narrowed := true }
def FnExactRestartForUptoSaid : Prop := fnExactRestartForUptoRow.holds Try.pinned (OpenSpec.upto fnExactRestartForSpec)

/-- 'laws.FnExactRestartsOf', WHERE WHAT IT READS IS OF BULK AT MOST 1048576: true; the input reads as it did. -/
def fnExactRestartsOfUptoRow : OpenClaim := { program := "ytogndjjoeahccaa", sum := "ea5ac4d78273f36883505df02fb9de7629da2463bc36f3ea11e19fb4de59eebe", func := "loop.example/g00905/laws.FnExactRestartsOf", spec := "fnExactRestartsOf", inPlace := ["internal/bytealg.abigen_runtime_cmpstring", "internal/abi.NoEscape"], apart := false, narrowed := true }
def FnExactRestartsOfUptoSaid : Prop := fnExactRestartsOfUptoRow.holds Try.pinned (OpenSpec.upto fnExactRestartsOfSpec)

/-- 'laws.FnExactSeekBlock', WHERE WHAT IT READS IS OF BULK AT MOST 1048576: true; the input reads as it did. -/
def fnExactSeekBlockUptoRow : OpenClaim := { program := "ytogndjjoeahccaa", sum := "ea5ac4d78273f36883505df02fb9de7629da2463bc36f3ea11e19fb4de59eebe", func := "loop.example/g00905/laws.FnExactSeekBlock", spec := "fnExactSeekBlock", inPlace := ["internal/bytealg.abigen_runtime_cmpstring", "internal/abi.NoEscape"], unfollowed := true, recurses := true, apart := false, narrowed := true }
def FnExactSeekBlockUptoSaid : Prop := fnExactSeekBlockUptoRow.holds Try.pinned (OpenSpec.upto fnExactSeekBlockSpec)

/-- 'laws.FnExactDecodeBlock', WHERE WHAT IT READS IS OF BULK AT MOST 1048576: true; the input reads as it did. -/
def fnExactDecodeBlockUptoRow : OpenClaim := { program := "ytogndjjoeahccaa", sum := "ea5ac4d78273f36883505df02fb9de7629da2463bc36f3ea11e19fb4de59eebe", func := "loop.example/g00905/laws.FnExactDecodeBlock", spec := "fnExactDecodeBlock", inPlace := ["internal/bytealg.abigen_runtime_cmpstring", "internal/abi.NoEscape"], apart := false, narrowed := true }
def FnExactDecodeBlockUptoSaid : Prop := fnExactDecodeBlockUptoRow.holds Try.pinned (OpenSpec.upto fnExactDecodeBlockSpec)

end Rows
end Go.Proofs.Ytogndjjoeahccaa
