/-
  No cell of these rows narrows 'for every input' (looked for: loops, veiled, ifaces, maps, wideKeys, modest, calm, conditions, laid).
  DERIVED. THE GIVEN ROWS OF THIS SEAT. 12 by the template 'for every input the law returns true; each argument reads behind the call as it read before'; 0 by the template 'total and deterministic' (their statements: YtolffokfddjceaaTotals.lean).
  GIVEN WITH THE SEED: the statements are not yours to turn. If you find one false, say at which input.
  Laid BY PROGRAM, IN A SANDBOX (cutbox-rows.mjs): the forced cells as the released guide's own fill.sh prints them over the translation 412e49a36ab0de67… (all of the seat's roots in one cut). By AI agents, Wed Nov 11 2026. No macro, syntax, notation, axiom, sorry.
-/
import Derived.Test.YtolffokfddjceaaChecked
import GoSem.Claim
import GoSem.ClaimJoined
import GoSem.ClaimMapViews
import Derived.JoinedTies
import Derived.KernelRfl
namespace Go.Proofs.Ytolffokfddjceaa
/- THE CELL 'sum', in the pinned program and in every row, IS THE sha256 OF THE DUMP (.gsa) THAT YtolffokfddjceaaProg.lean LOADS. Nothing in Lean hashes anything: it is a label: what it is worth is what the hold of that sum in a sandbox is worth. -/
noncomputable def Try.pinned : Pinned := { name := "ytolffokfddjceaa", sum := "412e49a36ab0de676049ea6352ed5f1b85c6134a5b9396ec9ae3cafe17dbe541", checked := Try.checked }
namespace Rows
def none {H : Type} : Left H := { results := [], args := [] }

/-- 'laws.FnExactLessRecord': WHATEVER THE INPUT: true; the input reads as it did. -/
def fnExactLessRecordSpec : ChangeSpec := { name := "fnExactLessRecord", fn := fun _ => fun
  | [d1, d2] => { results := [.lit (.bool true)], args := [d1, d2] }
  | _ => none }
def fnExactLessRecordRow : OpenClaim := { program := "ytolffokfddjceaa", sum := "412e49a36ab0de676049ea6352ed5f1b85c6134a5b9396ec9ae3cafe17dbe541", func := "loop.example/g00905/laws.FnExactLessRecord", spec := "fnExactLessRecord", inPlace := ["internal/bytealg.abigen_runtime_cmpstring"], apart := false }
def FnExactLessRecordSaid : Prop := fnExactLessRecordRow.holds Try.pinned (OpenSpec.ofChange fnExactLessRecordSpec)

/-- ITS FALSE NEIGHBOUR: 'it returns false'. Refute it at one input. -/
def fnExactLessRecordWrong : ChangeSpec := { name := "fnExactLessRecord", fn := fun _ => fun
  | [d1, d2] => { results := [.lit (.bool false)], args := [d1, d2] }
  | _ => none }
def FnExactLessRecordWrongFalsely : Prop := fnExactLessRecordRow.holds Try.pinned (OpenSpec.ofChange fnExactLessRecordWrong)

/-- 'laws.FnExactAffects': WHATEVER THE INPUT: true; the input reads as it did. -/
def fnExactAffectsSpec : ChangeSpec := { name := "fnExactAffects", fn := fun _ => fun
  | [d1, d2] => { results := [.lit (.bool true)], args := [d1, d2] }
  | _ => none }
def fnExactAffectsRow : OpenClaim := { program := "ytolffokfddjceaa", sum := "412e49a36ab0de676049ea6352ed5f1b85c6134a5b9396ec9ae3cafe17dbe541", func := "loop.example/g00905/laws.FnExactAffects", spec := "fnExactAffects", apart := false }
def FnExactAffectsSaid : Prop := fnExactAffectsRow.holds Try.pinned (OpenSpec.ofChange fnExactAffectsSpec)

/-- ITS FALSE NEIGHBOUR: 'it returns false'. Refute it at one input. -/
def fnExactAffectsWrong : ChangeSpec := { name := "fnExactAffects", fn := fun _ => fun
  | [d1, d2] => { results := [.lit (.bool false)], args := [d1, d2] }
  | _ => none }
def FnExactAffectsWrongFalsely : Prop := fnExactAffectsRow.holds Try.pinned (OpenSpec.ofChange fnExactAffectsWrong)

/-- 'laws.FnExactPutRecord': WHATEVER THE INPUT: true; the input reads as it did. -/
def fnExactPutRecordSpec : ChangeSpec := { name := "fnExactPutRecord", fn := fun _ => fun
  | [d] => { results := [.lit (.bool true)], args := [d] }
  | _ => none }
def fnExactPutRecordRow : OpenClaim := { program := "ytolffokfddjceaa", sum := "412e49a36ab0de676049ea6352ed5f1b85c6134a5b9396ec9ae3cafe17dbe541", func := "loop.example/g00905/laws.FnExactPutRecord", spec := "fnExactPutRecord", apart := false }
def FnExactPutRecordSaid : Prop := fnExactPutRecordRow.holds Try.pinned (OpenSpec.ofChange fnExactPutRecordSpec)

/-- ITS FALSE NEIGHBOUR: 'it returns false'. Refute it at one input. -/
def fnExactPutRecordWrong : ChangeSpec := { name := "fnExactPutRecord", fn := fun _ => fun
  | [d] => { results := [.lit (.bool false)], args := [d] }
  | _ => none }
def FnExactPutRecordWrongFalsely : Prop := fnExactPutRecordRow.holds Try.pinned (OpenSpec.ofChange fnExactPutRecordWrong)

/-- 'laws.FnExactGetRecord': WHATEVER THE INPUT: true; the input reads as it did. -/
def fnExactGetRecordSpec : ChangeSpec := { name := "fnExactGetRecord", fn := fun _ => fun
  | [d] => { results := [.lit (.bool true)], args := [d] }
  | _ => none }
def fnExactGetRecordRow : OpenClaim := { program := "ytolffokfddjceaa", sum := "412e49a36ab0de676049ea6352ed5f1b85c6134a5b9396ec9ae3cafe17dbe541", func := "loop.example/g00905/laws.FnExactGetRecord", spec := "fnExactGetRecord", apart := false }
def FnExactGetRecordSaid : Prop := fnExactGetRecordRow.holds Try.pinned (OpenSpec.ofChange fnExactGetRecordSpec)

/-- ITS FALSE NEIGHBOUR: 'it returns false'. Refute it at one input. -/
def fnExactGetRecordWrong : ChangeSpec := { name := "fnExactGetRecord", fn := fun _ => fun
  | [d] => { results := [.lit (.bool false)], args := [d] }
  | _ => none }
def FnExactGetRecordWrongFalsely : Prop := fnExactGetRecordRow.holds Try.pinned (OpenSpec.ofChange fnExactGetRecordWrong)

/-- 'laws.FnExactValidBatch': WHATEVER THE INPUT: true; the input reads as it did. -/
def fnExactValidBatchSpec : ChangeSpec := { name := "fnExactValidBatch", fn := fun _ => fun
  | [d1, d2] => { results := [.lit (.bool true)], args := [d1, d2] }
  | _ => none }
def fnExactValidBatchRow : OpenClaim := { program := "ytolffokfddjceaa", sum := "412e49a36ab0de676049ea6352ed5f1b85c6134a5b9396ec9ae3cafe17dbe541", func := "loop.example/g00905/laws.FnExactValidBatch", spec := "fnExactValidBatch", apart := false }
def FnExactValidBatchSaid : Prop := fnExactValidBatchRow.holds Try.pinned (OpenSpec.ofChange fnExactValidBatchSpec)

/-- ITS FALSE NEIGHBOUR: 'it returns false'. Refute it at one input. -/
def fnExactValidBatchWrong : ChangeSpec := { name := "fnExactValidBatch", fn := fun _ => fun
  | [d1, d2] => { results := [.lit (.bool false)], args := [d1, d2] }
  | _ => none }
def FnExactValidBatchWrongFalsely : Prop := fnExactValidBatchRow.holds Try.pinned (OpenSpec.ofChange fnExactValidBatchWrong)

/-- 'laws.FnExactValidRun': WHATEVER THE INPUT: true; the input reads as it did. -/
def fnExactValidRunSpec : ChangeSpec := { name := "fnExactValidRun", fn := fun _ => fun
  | [d] => { results := [.lit (.bool true)], args := [d] }
  | _ => none }
def fnExactValidRunRow : OpenClaim := { program := "ytolffokfddjceaa", sum := "412e49a36ab0de676049ea6352ed5f1b85c6134a5b9396ec9ae3cafe17dbe541", func := "loop.example/g00905/laws.FnExactValidRun", spec := "fnExactValidRun", inPlace := ["internal/bytealg.abigen_runtime_cmpstring"], apart := false }
def FnExactValidRunSaid : Prop := fnExactValidRunRow.holds Try.pinned (OpenSpec.ofChange fnExactValidRunSpec)

/-- ITS FALSE NEIGHBOUR: 'it returns false'. Refute it at one input. -/
def fnExactValidRunWrong : ChangeSpec := { name := "fnExactValidRun", fn := fun _ => fun
  | [d] => { results := [.lit (.bool false)], args := [d] }
  | _ => none }
def FnExactValidRunWrongFalsely : Prop := fnExactValidRunRow.holds Try.pinned (OpenSpec.ofChange fnExactValidRunWrong)

/-- 'laws.FnExactValidMem': WHATEVER THE INPUT: true; the input reads as it did. -/
def fnExactValidMemSpec : ChangeSpec := { name := "fnExactValidMem", fn := fun _ => fun
  | [d] => { results := [.lit (.bool true)], args := [d] }
  | _ => none }
def fnExactValidMemRow : OpenClaim := { program := "ytolffokfddjceaa", sum := "412e49a36ab0de676049ea6352ed5f1b85c6134a5b9396ec9ae3cafe17dbe541", func := "loop.example/g00905/laws.FnExactValidMem", spec := "fnExactValidMem", inPlace := ["internal/bytealg.abigen_runtime_cmpstring"], apart := false }
def FnExactValidMemSaid : Prop := fnExactValidMemRow.holds Try.pinned (OpenSpec.ofChange fnExactValidMemSpec)

/-- ITS FALSE NEIGHBOUR: 'it returns false'. Refute it at one input. -/
def fnExactValidMemWrong : ChangeSpec := { name := "fnExactValidMem", fn := fun _ => fun
  | [d] => { results := [.lit (.bool false)], args := [d] }
  | _ => none }
def FnExactValidMemWrongFalsely : Prop := fnExactValidMemRow.holds Try.pinned (OpenSpec.ofChange fnExactValidMemWrong)

/-- 'laws.FnExactSeqsOf': WHATEVER THE INPUT: true; the input reads as it did. -/
def fnExactSeqsOfSpec : ChangeSpec := { name := "fnExactSeqsOf", fn := fun _ => fun
  | [d] => { results := [.lit (.bool true)], args := [d] }
  | _ => none }
def fnExactSeqsOfRow : OpenClaim := { program := "ytolffokfddjceaa", sum := "412e49a36ab0de676049ea6352ed5f1b85c6134a5b9396ec9ae3cafe17dbe541", func := "loop.example/g00905/laws.FnExactSeqsOf", spec := "fnExactSeqsOf", inPlace := ["internal/bytealg.abigen_runtime_cmpstring"], apart := false }
def FnExactSeqsOfSaid : Prop := fnExactSeqsOfRow.holds Try.pinned (OpenSpec.ofChange fnExactSeqsOfSpec)

/-- ITS FALSE NEIGHBOUR: 'it returns false'. Refute it at one input. -/
def fnExactSeqsOfWrong : ChangeSpec := { name := "fnExactSeqsOf", fn := fun _ => fun
  | [d] => { results := [.lit (.bool false)], args := [d] }
  | _ => none }
def FnExactSeqsOfWrongFalsely : Prop := fnExactSeqsOfRow.holds Try.pinned (OpenSpec.ofChange fnExactSeqsOfWrong)

/-- 'laws.FnExactLookMem': WHATEVER THE INPUT: true; the input reads as it did. -/
def fnExactLookMemSpec : ChangeSpec := { name := "fnExactLookMem", fn := fun _ => fun
  | [d1, d2, d3] => { results := [.lit (.bool true)], args := [d1, d2, d3] }
  | _ => none }
def fnExactLookMemRow : OpenClaim := { program := "ytolffokfddjceaa", sum := "412e49a36ab0de676049ea6352ed5f1b85c6134a5b9396ec9ae3cafe17dbe541", func := "loop.example/g00905/laws.FnExactLookMem", spec := "fnExactLookMem", inPlace := ["internal/bytealg.abigen_runtime_cmpstring"], apart := false }
def FnExactLookMemSaid : Prop := fnExactLookMemRow.holds Try.pinned (OpenSpec.ofChange fnExactLookMemSpec)

/-- ITS FALSE NEIGHBOUR: 'it returns false'. Refute it at one input. -/
def fnExactLookMemWrong : ChangeSpec := { name := "fnExactLookMem", fn := fun _ => fun
  | [d1, d2, d3] => { results := [.lit (.bool false)], args := [d1, d2, d3] }
  | _ => none }
def FnExactLookMemWrongFalsely : Prop := fnExactLookMemRow.holds Try.pinned (OpenSpec.ofChange fnExactLookMemWrong)

/-- 'laws.FnExactMemBytes': WHATEVER THE INPUT: true; the input reads as it did. -/
def fnExactMemBytesSpec : ChangeSpec := { name := "fnExactMemBytes", fn := fun _ => fun
  | [d] => { results := [.lit (.bool true)], args := [d] }
  | _ => none }
def fnExactMemBytesRow : OpenClaim := { program := "ytolffokfddjceaa", sum := "412e49a36ab0de676049ea6352ed5f1b85c6134a5b9396ec9ae3cafe17dbe541", func := "loop.example/g00905/laws.FnExactMemBytes", spec := "fnExactMemBytes", inPlace := ["internal/bytealg.abigen_runtime_cmpstring", "internal/abi.NoEscape"], apart := false }
def FnExactMemBytesSaid : Prop := fnExactMemBytesRow.holds Try.pinned (OpenSpec.ofChange fnExactMemBytesSpec)

/-- ITS FALSE NEIGHBOUR: 'it returns false'. Refute it at one input. -/
def fnExactMemBytesWrong : ChangeSpec := { name := "fnExactMemBytes", fn := fun _ => fun
  | [d] => { results := [.lit (.bool false)], args := [d] }
  | _ => none }
def FnExactMemBytesWrongFalsely : Prop := fnExactMemBytesRow.holds Try.pinned (OpenSpec.ofChange fnExactMemBytesWrong)

/-- 'laws.FnExactTruncateMem': WHATEVER THE INPUT: true; the input reads as it did. -/
def fnExactTruncateMemSpec : ChangeSpec := { name := "fnExactTruncateMem", fn := fun _ => fun
  | [d1, d2] => { results := [.lit (.bool true)], args := [d1, d2] }
  | _ => none }
def fnExactTruncateMemRow : OpenClaim := { program := "ytolffokfddjceaa", sum := "412e49a36ab0de676049ea6352ed5f1b85c6134a5b9396ec9ae3cafe17dbe541", func := "loop.example/g00905/laws.FnExactTruncateMem", spec := "fnExactTruncateMem", inPlace := ["internal/bytealg.abigen_runtime_cmpstring"], unfollowed := true, recurses := true, apart := false }
def FnExactTruncateMemSaid : Prop := fnExactTruncateMemRow.holds Try.pinned (OpenSpec.ofChange fnExactTruncateMemSpec)

/-- ITS FALSE NEIGHBOUR: 'it returns false'. Refute it at one input. -/
def fnExactTruncateMemWrong : ChangeSpec := { name := "fnExactTruncateMem", fn := fun _ => fun
  | [d1, d2] => { results := [.lit (.bool false)], args := [d1, d2] }
  | _ => none }
def FnExactTruncateMemWrongFalsely : Prop := fnExactTruncateMemRow.holds Try.pinned (OpenSpec.ofChange fnExactTruncateMemWrong)

/-- 'laws.FnExactScanMem': WHATEVER THE INPUT: true; the input reads as it did. -/
def fnExactScanMemSpec : ChangeSpec := { name := "fnExactScanMem", fn := fun _ => fun
  | [d1, d2, d3] => { results := [.lit (.bool true)], args := [d1, d2, d3] }
  | _ => none }
def fnExactScanMemRow : OpenClaim := { program := "ytolffokfddjceaa", sum := "412e49a36ab0de676049ea6352ed5f1b85c6134a5b9396ec9ae3cafe17dbe541", func := "loop.example/g00905/laws.FnExactScanMem", spec := "fnExactScanMem", inPlace := ["internal/bytealg.abigen_runtime_cmpstring"], unfollowed := true, recurses := true, apart := false }
def FnExactScanMemSaid : Prop := fnExactScanMemRow.holds Try.pinned (OpenSpec.ofChange fnExactScanMemSpec)

/-- ITS FALSE NEIGHBOUR: 'it returns false'. Refute it at one input. -/
def fnExactScanMemWrong : ChangeSpec := { name := "fnExactScanMem", fn := fun _ => fun
  | [d1, d2, d3] => { results := [.lit (.bool false)], args := [d1, d2, d3] }
  | _ => none }
def FnExactScanMemWrongFalsely : Prop := fnExactScanMemRow.holds Try.pinned (OpenSpec.ofChange fnExactScanMemWrong)

/- THE SECOND FORM. 'bulk': how many values and letters a reading holds, each counted each time it is reached (what is shared counts as often as it is met; a slice's spare places count too). A statement '..UptoSaid' is the law's where the arguments, and the package variables that the reading takes, are together of bulk at most 1048576: NARROWER than '..Said'. Prove '..Said' where nothing that the law and all that it calls make is longer than what came in: it says more and counts as full. Else prove '..UptoSaid'. A law counts once. -/
mutual
def uptoBulk {H : Type} : DataW H → Nat
  | .lit (.string bytes) => bytes.length + 1
  | .lit _ => 1
  | .nil => 1
  | .ptr d => uptoBulk d + 1
  | .slice elems spare => uptoBulkAll elems + uptoBulkAll spare + 1
  | .agg parts => uptoBulkAll parts + 1
  | .iface _ d => uptoBulk d + 1
  | .map entries => uptoBulkEntries entries + 1
  | .held _ => 1
def uptoBulkAll {H : Type} : List (DataW H) → Nat
  | [] => 0
  | d :: r => uptoBulk d + uptoBulkAll r
def uptoBulkEntries {H : Type} : List (Lit × DataW H) → Nat
  | [] => 0
  | x :: r => uptoBulkEntry x + uptoBulkEntries r
def uptoBulkEntry {H : Type} : Lit × DataW H → Nat
  | (.string bytes, d) => bytes.length + uptoBulk d + 1
  | (_, d) => uptoBulk d + 1
 end
def uptoSmall : (H : Type) → List (DataW H) → Bool := fun _ ds => decide (uptoBulkAll ds ≤ 1048576)
def OpenSpec.upto (s : _root_.Go.ChangeSpec) : _root_.Go.OpenSpec := { _root_.Go.OpenSpec.ofChange s with cond := some uptoSmall }

/-- 'laws.FnExactLessRecord', WHERE WHAT IT READS IS OF BULK AT MOST 1048576: true; the input reads as it did. -/
def fnExactLessRecordUptoRow : OpenClaim := { program := "ytolffokfddjceaa", sum := "412e49a36ab0de676049ea6352ed5f1b85c6134a5b9396ec9ae3cafe17dbe541", func := "loop.example/g00905/laws.FnExactLessRecord", spec := "fnExactLessRecord", inPlace := ["internal/bytealg.abigen_runtime_cmpstring"], apart := false, narrowed := true }
def FnExactLessRecordUptoSaid : Prop := fnExactLessRecordUptoRow.holds Try.pinned (OpenSpec.upto fnExactLessRecordSpec)

/-- 'laws.FnExactAffects', WHERE WHAT IT READS IS OF BULK AT MOST 1048576: true; the input reads as it did. -/
def fnExactAffectsUptoRow : OpenClaim := { program := "ytolffokfddjceaa", sum := "412e49a36ab0de676049ea6352ed5f1b85c6134a5b9396ec9ae3cafe17dbe541", func := "loop.example/g00905/laws.FnExactAffects", spec := "fnExactAffects", apart := false, narrowed := true }
def FnExactAffectsUptoSaid : Prop := fnExactAffectsUptoRow.holds Try.pinned (OpenSpec.upto fnExactAffectsSpec)

/-- 'laws.FnExactPutRecord', WHERE WHAT IT READS IS OF BULK AT MOST 1048576: true; the input reads as it did. -/
def fnExactPutRecordUptoRow : OpenClaim := { program := "ytolffokfddjceaa", sum := "412e49a36ab0de676049ea6352ed5f1b85c6134a5b9396ec9ae3cafe17dbe541", func := "loop.example/g00905/laws.FnExactPutRecord", spec := "fnExactPutRecord", apart := false, narrowed := true }
def FnExactPutRecordUptoSaid : Prop := fnExactPutRecordUptoRow.holds Try.pinned (OpenSpec.upto fnExactPutRecordSpec)

/-- 'laws.FnExactGetRecord', WHERE WHAT IT READS IS OF BULK AT MOST 1048576: true; the input reads as it did. -/
def fnExactGetRecordUptoRow : OpenClaim := { program := "ytolffokfddjceaa", sum := "412e49a36ab0de676049ea6352ed5f1b85c6134a5b9396ec9ae3cafe17dbe541", func := "loop.example/g00905/laws.FnExactGetRecord", spec := "fnExactGetRecord", apart := false, narrowed := true }
def FnExactGetRecordUptoSaid : Prop := fnExactGetRecordUptoRow.holds Try.pinned (OpenSpec.upto fnExactGetRecordSpec)

/-- 'laws.FnExactValidBatch', WHERE WHAT IT READS IS OF BULK AT MOST 1048576: true; the input reads as it did. -/
def fnExactValidBatchUptoRow : OpenClaim := { program := "ytolffokfddjceaa", sum := "412e49a36ab0de676049ea6352ed5f1b85c6134a5b9396ec9ae3cafe17dbe541", func := "loop.example/g00905/laws.FnExactValidBatch", spec := "fnExactValidBatch", apart := false, narrowed := true }
def FnExactValidBatchUptoSaid : Prop := fnExactValidBatchUptoRow.holds Try.pinned (OpenSpec.upto fnExactValidBatchSpec)

/-- 'laws.FnExactValidRun', WHERE WHAT IT READS IS OF BULK AT MOST 1048576: true; the input reads as it did. -/
def fnExactValidRunUptoRow : OpenClaim := { program := "ytolffokfddjceaa", sum := "412e49a36ab0de676049ea6352ed5f1b85c6134a5b9396ec9ae3cafe17dbe541", func := "loop.example/g00905/laws.FnExactValidRun", spec := "fnExactValidRun", inPlace := ["internal/bytealg.abigen_runtime_cmpstring"], apart := false, narrowed := true }
def FnExactValidRunUptoSaid : Prop := fnExactValidRunUptoRow.holds Try.pinned (OpenSpec.upto fnExactValidRunSpec)

/-- 'laws.FnExactValidMem', WHERE WHAT IT READS IS OF BULK AT MOST 1048576: true; the input reads as it did. -/
def fnExactValidMemUptoRow : OpenClaim := { program := "ytolffokfddjceaa", sum := "412e49a36ab0de676049ea6352ed5f1b85c6134a5b9396ec9ae3cafe17dbe541", func := "loop.example/g00905/laws.FnExactValidMem", spec := "fnExactValidMem", inPlace := ["internal/bytealg.abigen_runtime_cmpstring"], apart := false, narrowed := true }
def FnExactValidMemUptoSaid : Prop := fnExactValidMemUptoRow.holds Try.pinned (OpenSpec.upto fnExactValidMemSpec)

/-- 'laws.FnExactSeqsOf', WHERE WHAT IT READS IS OF BULK AT MOST 1048576: true; the input reads as it did. -/
def fnExactSeqsOfUptoRow : OpenClaim := { program := "ytolffokfddjceaa", sum := "412e49a36ab0de676049ea6352ed5f1b85c6134a5b9396ec9ae3cafe17dbe541", func := "loop.example/g00905/laws.FnExactSeqsOf", spec := "fnExactSeqsOf", inPlace := ["internal/bytealg.abigen_runtime_cmpstring"], apart := false, narrowed := true }
def FnExactSeqsOfUptoSaid : Prop := fnExactSeqsOfUptoRow.holds Try.pinned (OpenSpec.upto fnExactSeqsOfSpec)

/-- 'laws.FnExactLookMem', WHERE WHAT IT READS IS OF BULK AT MOST 1048576: true; the input reads as it did. -/
def fnExactLookMemUptoRow : OpenClaim := { program := "ytolffokfddjceaa", sum := "412e49a36ab0de676049ea6352ed5f1b85c6134a5b9396ec9ae3cafe17dbe541", func := "loop.example/g00905/laws.FnExactLookMem", spec := "fnExactLookMem", inPlace := ["internal/bytealg.abigen_runtime_cmpstring"], apart := false, narrowed := true }
def FnExactLookMemUptoSaid : Prop := fnExactLookMemUptoRow.holds Try.pinned (OpenSpec.upto fnExactLookMemSpec)

/-- 'laws.FnExactMemBytes', WHERE WHAT IT READS IS OF BULK AT MOST 1048576: true; the input reads as it did. -/
def fnExactMemBytesUptoRow : OpenClaim := { program := "ytolffokfddjceaa", sum := "412e49a36ab0de676049ea6352ed5f1b85c6134a5b9396ec9ae3cafe17dbe541", func := "loop.example/g00905/laws.FnExactMemBytes", spec := "fnExactMemBytes", inPlace := ["internal/bytealg.abigen_runtime_cmpstring", "internal/abi.NoEscape"], apart := false, narrowed := true }
def FnExactMemBytesUptoSaid : Prop := fnExactMemBytesUptoRow.holds Try.pinned (OpenSpec.upto fnExactMemBytesSpec)

/-- 'laws.FnExactTruncateMem', WHERE WHAT IT READS IS OF BULK AT MOST 1048576: true; the input reads as it did. -/
def fnExactTruncateMemUptoRow : OpenClaim := { program := "ytolffokfddjceaa", sum := "412e49a36ab0de676049ea6352ed5f1b85c6134a5b9396ec9ae3cafe17dbe541", func := "loop.example/g00905/laws.FnExactTruncateMem", spec := "fnExactTruncateMem", inPlace := ["internal/bytealg.abigen_runtime_cmpstring"], unfollowed := true, recurses := true, apart := false, narrowed := true }
def FnExactTruncateMemUptoSaid : Prop := fnExactTruncateMemUptoRow.holds Try.pinned (OpenSpec.upto fnExactTruncateMemSpec)

/-- 'laws.FnExactScanMem', WHERE WHAT IT READS IS OF BULK AT MOST 1048576: true; the input reads as it did. -/
def fnExactScanMemUptoRow : OpenClaim := { program := "ytolffokfddjceaa", sum := "412e49a36ab0de676049ea6352ed5f1b85c6134a5b9396ec9ae3cafe17dbe541", func := "loop.example/g00905/laws.FnExactScanMem", spec := "fnExactScanMem", inPlace := ["internal/bytealg.abigen_runtime_cmpstring"], unfollowed := true, recurses := true, apart := false, narrowed := true }
def FnExactScanMemUptoSaid : Prop := fnExactScanMemUptoRow.holds Try.pinned (OpenSpec.upto fnExactScanMemSpec)

end Rows
end Go.Proofs.Ytolffokfddjceaa
