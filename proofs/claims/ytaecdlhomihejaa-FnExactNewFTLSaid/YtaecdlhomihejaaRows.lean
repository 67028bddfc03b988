/-
  No cell of these rows narrows 'for every input' (looked for: loops, veiled, ifaces, maps, wideKeys, modest, calm, conditions, laid).
  DERIVED. THE GIVEN ROWS OF THIS SEAT. 11 by the template 'for every input the law returns true; each argument reads behind the call as it read before'; 0 by the template 'total and deterministic' (their statements: YtaecdlhomihejaaTotals.lean).
  GIVEN WITH THE SEED: the statements are not yours to turn. If you find one false, say at which input.
  Laid BY PROGRAM, IN A SANDBOX (cutbox-rows.mjs): the forced cells as the released guide's own fill.sh prints them over the translation edb032321098c6b9… (all of the seat's roots in one cut). By AI agents, Wed Nov 11 2026. No macro, syntax, notation, axiom, sorry.
-/
import Derived.Test.YtaecdlhomihejaaChecked
import GoSem.Claim
import GoSem.ClaimJoined
import GoSem.ClaimMapViews
import Derived.JoinedTies
import Derived.KernelRfl
namespace Go.Proofs.Ytaecdlhomihejaa
/- THE CELL 'sum', in the pinned program and in every row, IS THE sha256 OF THE DUMP (.gsa) THAT YtaecdlhomihejaaProg.lean LOADS. Nothing in Lean hashes anything: it is a label: what it is worth is what the hold of that sum in a sandbox is worth. -/
noncomputable def Try.pinned : Pinned := { name := "ytaecdlhomihejaa", sum := "edb032321098c6b972a49d7f5b7ef6b4951d8fd258be8acb34f1862bc7b731ae", checked := Try.checked }
namespace Rows
def none {H : Type} : Left H := { results := [], args := [] }

/-- 'laws.FnExactFreeBlocks': WHATEVER THE INPUT: true; the input reads as it did. -/
def fnExactFreeBlocksSpec : ChangeSpec := { name := "fnExactFreeBlocks", fn := fun _ => fun
  | [d] => { results := [.lit (.bool true)], args := [d] }
  | _ => none }
def fnExactFreeBlocksRow : OpenClaim := { program := "ytaecdlhomihejaa", sum := "edb032321098c6b972a49d7f5b7ef6b4951d8fd258be8acb34f1862bc7b731ae", func := "loop.example/g00905/laws.FnExactFreeBlocks", spec := "fnExactFreeBlocks", unfollowed := true, recurses := true, apart := false }
def FnExactFreeBlocksSaid : Prop := fnExactFreeBlocksRow.holds Try.pinned (OpenSpec.ofChange fnExactFreeBlocksSpec)

/-- ITS FALSE NEIGHBOUR: 'it returns false'. Refute it at one input. -/
def fnExactFreeBlocksWrong : ChangeSpec := { name := "fnExactFreeBlocks", fn := fun _ => fun
  | [d] => { results := [.lit (.bool false)], args := [d] }
  | _ => none }
def FnExactFreeBlocksWrongFalsely : Prop := fnExactFreeBlocksRow.holds Try.pinned (OpenSpec.ofChange fnExactFreeBlocksWrong)

/-- 'laws.FnExactValidFtlAct': WHATEVER THE INPUT: true; the input reads as it did. -/
def fnExactValidFtlActSpec : ChangeSpec := { name := "fnExactValidFtlAct", fn := fun _ => fun
  | [d] => { results := [.lit (.bool true)], args := [d] }
  | _ => none }
def fnExactValidFtlActRow : OpenClaim := { program := "ytaecdlhomihejaa", sum := "edb032321098c6b972a49d7f5b7ef6b4951d8fd258be8acb34f1862bc7b731ae", func := "loop.example/g00905/laws.FnExactValidFtlAct", spec := "fnExactValidFtlAct", unfollowed := true, recurses := true, apart := false }
def FnExactValidFtlActSaid : Prop := fnExactValidFtlActRow.holds Try.pinned (OpenSpec.ofChange fnExactValidFtlActSpec)

/-- ITS FALSE NEIGHBOUR: 'it returns false'. Refute it at one input. -/
def fnExactValidFtlActWrong : ChangeSpec := { name := "fnExactValidFtlAct", fn := fun _ => fun
  | [d] => { results := [.lit (.bool false)], args := [d] }
  | _ => none }
def FnExactValidFtlActWrongFalsely : Prop := fnExactValidFtlActRow.holds Try.pinned (OpenSpec.ofChange fnExactValidFtlActWrong)

/-- 'laws.FnExactIsWiped': WHATEVER THE INPUT: true; the input reads as it did. -/
def fnExactIsWipedSpec : ChangeSpec := { name := "fnExactIsWiped", fn := fun _ => fun
  | [d1, d2] => { results := [.lit (.bool true)], args := [d1, d2] }
  | _ => none }
def fnExactIsWipedRow : OpenClaim := { program := "ytaecdlhomihejaa", sum := "edb032321098c6b972a49d7f5b7ef6b4951d8fd258be8acb34f1862bc7b731ae", func := "loop.example/g00905/laws.FnExactIsWiped", spec := "fnExactIsWiped", unfollowed := true, recurses := true, apart := false }
def FnExactIsWipedSaid : Prop := fnExactIsWipedRow.holds Try.pinned (OpenSpec.ofChange fnExactIsWipedSpec)

/-- ITS FALSE NEIGHBOUR: 'it returns false'. Refute it at one input. -/
def fnExactIsWipedWrong : ChangeSpec := { name := "fnExactIsWiped", fn := fun _ => fun
  | [d1, d2] => { results := [.lit (.bool false)], args := [d1, d2] }
  | _ => none }
def FnExactIsWipedWrongFalsely : Prop := fnExactIsWipedRow.holds Try.pinned (OpenSpec.ofChange fnExactIsWipedWrong)

/-- 'laws.FnExactValidWipe': WHATEVER THE INPUT: true; the input reads as it did. -/
def fnExactValidWipeSpec : ChangeSpec := { name := "fnExactValidWipe", fn := fun _ => fun
  | [d1, d2] => { results := [.lit (.bool true)], args := [d1, d2] }
  | _ => none }
def fnExactValidWipeRow : OpenClaim := { program := "ytaecdlhomihejaa", sum := "edb032321098c6b972a49d7f5b7ef6b4951d8fd258be8acb34f1862bc7b731ae", func := "loop.example/g00905/laws.FnExactValidWipe", spec := "fnExactValidWipe", unfollowed := true, recurses := true, apart := false }
def FnExactValidWipeSaid : Prop := fnExactValidWipeRow.holds Try.pinned (OpenSpec.ofChange fnExactValidWipeSpec)

/-- ITS FALSE NEIGHBOUR: 'it returns false'. Refute it at one input. -/
def fnExactValidWipeWrong : ChangeSpec := { name := "fnExactValidWipe", fn := fun _ => fun
  | [d1, d2] => { results := [.lit (.bool false)], args := [d1, d2] }
  | _ => none }
def FnExactValidWipeWrongFalsely : Prop := fnExactValidWipeRow.holds Try.pinned (OpenSpec.ofChange fnExactValidWipeWrong)

/-- 'laws.FnExactNewDevice': WHATEVER THE INPUT: true; the input reads as it did. -/
def fnExactNewDeviceSpec : ChangeSpec := { name := "fnExactNewDevice", fn := fun _ => fun
  | [d1, d2] => { results := [.lit (.bool true)], args := [d1, d2] }
  | _ => none }
def fnExactNewDeviceRow : OpenClaim := { program := "ytaecdlhomihejaa", sum := "edb032321098c6b972a49d7f5b7ef6b4951d8fd258be8acb34f1862bc7b731ae", func := "loop.example/g00905/laws.FnExactNewDevice", spec := "fnExactNewDevice", apart := false }
def FnExactNewDeviceSaid : Prop := fnExactNewDeviceRow.holds Try.pinned (OpenSpec.ofChange fnExactNewDeviceSpec)

/-- ITS FALSE NEIGHBOUR: 'it returns false'. Refute it at one input. -/
def fnExactNewDeviceWrong : ChangeSpec := { name := "fnExactNewDevice", fn := fun _ => fun
  | [d1, d2] => { results := [.lit (.bool false)], args := [d1, d2] }
  | _ => none }
def FnExactNewDeviceWrongFalsely : Prop := fnExactNewDeviceRow.holds Try.pinned (OpenSpec.ofChange fnExactNewDeviceWrong)

/-- 'laws.FnExactSameDevice': WHATEVER THE INPUT: true; the input reads as it did. -/
def fnExactSameDeviceSpec : ChangeSpec := { name := "fnExactSameDevice", fn := fun _ => fun
  | [d1, d2] => { results := [.lit (.bool true)], args := [d1, d2] }
  | _ => none }
def fnExactSameDeviceRow : OpenClaim := { program := "ytaecdlhomihejaa", sum := "edb032321098c6b972a49d7f5b7ef6b4951d8fd258be8acb34f1862bc7b731ae", func := "loop.example/g00905/laws.FnExactSameDevice", spec := "fnExactSameDevice", unfollowed := true, recurses := true, apart := false }
def FnExactSameDeviceSaid : Prop := fnExactSameDeviceRow.holds Try.pinned (OpenSpec.ofChange fnExactSameDeviceSpec)

/-- ITS FALSE NEIGHBOUR: 'it returns false'. Refute it at one input. -/
def fnExactSameDeviceWrong : ChangeSpec := { name := "fnExactSameDevice", fn := fun _ => fun
  | [d1, d2] => { results := [.lit (.bool false)], args := [d1, d2] }
  | _ => none }
def FnExactSameDeviceWrongFalsely : Prop := fnExactSameDeviceRow.holds Try.pinned (OpenSpec.ofChange fnExactSameDeviceWrong)

/-- 'laws.FnExactSameFTL': WHATEVER THE INPUT: true; the input reads as it did. -/
def fnExactSameFTLSpec : ChangeSpec := { name := "fnExactSameFTL", fn := fun _ => fun
  | [d1, d2] => { results := [.lit (.bool true)], args := [d1, d2] }
  | _ => none }
def fnExactSameFTLRow : OpenClaim := { program := "ytaecdlhomihejaa", sum := "edb032321098c6b972a49d7f5b7ef6b4951d8fd258be8acb34f1862bc7b731ae", func := "loop.example/g00905/laws.FnExactSameFTL", spec := "fnExactSameFTL", unfollowed := true, recurses := true, apart := false }
def FnExactSameFTLSaid : Prop := fnExactSameFTLRow.holds Try.pinned (OpenSpec.ofChange fnExactSameFTLSpec)

/-- ITS FALSE NEIGHBOUR: 'it returns false'. Refute it at one input. -/
def fnExactSameFTLWrong : ChangeSpec := { name := "fnExactSameFTL", fn := fun _ => fun
  | [d1, d2] => { results := [.lit (.bool false)], args := [d1, d2] }
  | _ => none }
def FnExactSameFTLWrongFalsely : Prop := fnExactSameFTLRow.holds Try.pinned (OpenSpec.ofChange fnExactSameFTLWrong)

/-- 'laws.FnExactNewFTL': WHATEVER THE INPUT: true; the input reads as it did. -/
def fnExactNewFTLSpec : ChangeSpec := { name := "fnExactNewFTL", fn := fun _ => fun
  | [d1, d2, d3, d4] => { results := [.lit (.bool true)], args := [d1, d2, d3, d4] }
  | _ => none }
def fnExactNewFTLRow : OpenClaim := { program := "ytaecdlhomihejaa", sum := "edb032321098c6b972a49d7f5b7ef6b4951d8fd258be8acb34f1862bc7b731ae", func := "loop.example/g00905/laws.FnExactNewFTL", spec := "fnExactNewFTL", apart := false }
def FnExactNewFTLSaid : Prop := fnExactNewFTLRow.holds Try.pinned (OpenSpec.ofChange fnExactNewFTLSpec)

/-- ITS FALSE NEIGHBOUR: 'it returns false'. Refute it at one input. -/
def fnExactNewFTLWrong : ChangeSpec := { name := "fnExactNewFTL", fn := fun _ => fun
  | [d1, d2, d3, d4] => { results := [.lit (.bool false)], args := [d1, d2, d3, d4] }
  | _ => none }
def FnExactNewFTLWrongFalsely : Prop := fnExactNewFTLRow.holds Try.pinned (OpenSpec.ofChange fnExactNewFTLWrong)

/-- 'laws.FnExactValidFTL': WHATEVER THE INPUT: true; the input reads as it did. -/
def fnExactValidFTLSpec : ChangeSpec := { name := "fnExactValidFTL", fn := fun _ => fun
  | [d] => { results := [.lit (.bool true)], args := [d] }
  | _ => none }
def fnExactValidFTLRow : OpenClaim := { program := "ytaecdlhomihejaa", sum := "edb032321098c6b972a49d7f5b7ef6b4951d8fd258be8acb34f1862bc7b731ae", func := "loop.example/g00905/laws.FnExactValidFTL", spec := "fnExactValidFTL", unfollowed := true, recurses := true, apart := false }
def FnExactValidFTLSaid : Prop := fnExactValidFTLRow.holds Try.pinned (OpenSpec.ofChange fnExactValidFTLSpec)

/-- ITS FALSE NEIGHBOUR: 'it returns false'. Refute it at one input. -/
def fnExactValidFTLWrong : ChangeSpec := { name := "fnExactValidFTL", fn := fun _ => fun
  | [d] => { results := [.lit (.bool false)], args := [d] }
  | _ => none }
def FnExactValidFTLWrongFalsely : Prop := fnExactValidFTLRow.holds Try.pinned (OpenSpec.ofChange fnExactValidFTLWrong)

/-- 'laws.FnExactValidDevice': WHATEVER THE INPUT: true; the input reads as it did. -/
def fnExactValidDeviceSpec : ChangeSpec := { name := "fnExactValidDevice", fn := fun _ => fun
  | [d] => { results := [.lit (.bool true)], args := [d] }
  | _ => none }
def fnExactValidDeviceRow : OpenClaim := { program := "ytaecdlhomihejaa", sum := "edb032321098c6b972a49d7f5b7ef6b4951d8fd258be8acb34f1862bc7b731ae", func := "loop.example/g00905/laws.FnExactValidDevice", spec := "fnExactValidDevice", unfollowed := true, recurses := true, apart := false }
def FnExactValidDeviceSaid : Prop := fnExactValidDeviceRow.holds Try.pinned (OpenSpec.ofChange fnExactValidDeviceSpec)

/-- ITS FALSE NEIGHBOUR: 'it returns false'. Refute it at one input. -/
def fnExactValidDeviceWrong : ChangeSpec := { name := "fnExactValidDevice", fn := fun _ => fun
  | [d] => { results := [.lit (.bool false)], args := [d] }
  | _ => none }
def FnExactValidDeviceWrongFalsely : Prop := fnExactValidDeviceRow.holds Try.pinned (OpenSpec.ofChange fnExactValidDeviceWrong)

/-- 'laws.FnExactCapacityOf': WHATEVER THE INPUT: true; the input reads as it did. -/
def fnExactCapacityOfSpec : ChangeSpec := { name := "fnExactCapacityOf", fn := fun _ => fun
  | [d] => { results := [.lit (.bool true)], args := [d] }
  | _ => none }
def fnExactCapacityOfRow : OpenClaim := { program := "ytaecdlhomihejaa", sum := "edb032321098c6b972a49d7f5b7ef6b4951d8fd258be8acb34f1862bc7b731ae", func := "loop.example/g00905/laws.FnExactCapacityOf", spec := "fnExactCapacityOf", unfollowed := true, recurses := true, apart := false }
def FnExactCapacityOfSaid : Prop := fnExactCapacityOfRow.holds Try.pinned (OpenSpec.ofChange fnExactCapacityOfSpec)

/-- ITS FALSE NEIGHBOUR: 'it returns false'. Refute it at one input. -/
def fnExactCapacityOfWrong : ChangeSpec := { name := "fnExactCapacityOf", fn := fun _ => fun
  | [d] => { results := [.lit (.bool false)], args := [d] }
  | _ => none }
def FnExactCapacityOfWrongFalsely : Prop := fnExactCapacityOfRow.holds Try.pinned (OpenSpec.ofChange fnExactCapacityOfWrong)

/- THE SECOND FORM. 'bulk': how many values and letters a reading holds, each counted each time it is reached (what is shared counts as often as it is met; a slice's spare places count too). A statement '..UptoSaid' is the law's where the arguments, and the package variables that the reading takes, are together of bulk at most 1048576: NARROWER than '..Said'. Prove '..Said' where nothing that the law and all that it calls make is longer than what came in: it says more and counts as full. Else prove '..UptoSaid'. A law counts once. -/
mutual
def uptoBulk {H : Type} : DataW H → Nat
  | .lit (.string bytes) => bytes.length + 1
  | .lit _ => 1
  | .nil => 1
  | .ptr d => uptoBulk d + 1
  | .slice elems spare => uptoBulkAll elems + uptoBulkAll spare + 1
  | .agg parts => uptoBulkAll parts + 1
  | .iface _ d => uptoBulk d + 1
  | .map entries => uptoBulkEntries entries + 1
  | .held _ => 1
def uptoBulkAll {H : Type} : List (DataW H) → Nat
  | [] => 0
  | d :: r => uptoBulk d + uptoBulkAll r
def uptoBulkEntries {H : Type} : List (Lit × DataW H) → Nat
  | [] => 0
  | x :: r => uptoBulkEntry x + uptoBulkEntries r
def uptoBulkEntry {H : Type} : Lit × DataW H → Nat
  | (.string bytes, d) => bytes.length + uptoBulk d + 1
  | (_, d) => uptoBulk d + 1
 end
def uptoSmall : (H : Type) → List (DataW H) → Bool := fun _ ds => decide (uptoBulkAll ds ≤ 1048576)
def OpenSpec.upto (s : _root_.Go.ChangeSpec) : _root_.Go.OpenSpec := { _root_.Go.OpenSpec.ofChange s with cond := some uptoSmall }

/-- 'laws.FnExactFreeBlocks', WHERE WHAT IT READS IS OF BULK AT MOST 1048576: true; the input reads as it did. -/
def fnExactFreeBlocksUptoRow : OpenClaim := { program := "ytaecdlhomihejaa", sum := "edb032321098c6b972a49d7f5b7ef6b4951d8fd258be8acb34f1862bc7b731ae", func := "loop.example/g00905/laws.FnExactFreeBlocks", spec := "fnExactFreeBlocks", unfollowed := true, recurses := true, apart := false, narrowed := true }
def FnExactFreeBlocksUptoSaid : Prop := fnExactFreeBlocksUptoRow.holds Try.pinned (OpenSpec.upto fnExactFreeBlocksSpec)

/-- 'laws.FnExactValidFtlAct', WHERE WHAT IT READS IS OF BULK AT MOST 1048576: true; the input reads as it did. -/
def fnExactValidFtlActUptoRow : OpenClaim := { program := "ytaecdlhomihejaa", sum := "edb032321098c6b972a49d7f5b7ef6b4951d8fd258be8acb34f1862bc7b731ae", func := "loop.example/g00905/laws.FnExactValidFtlAct", spec := "fnExactValidFtlAct", unfollowed := true, recurses := true, apart := false, narrowed := true }
def FnExactValidFtlActUptoSaid : Prop := fnExactValidFtlActUptoRow.holds Try.pinned (OpenSpec.upto fnExactValidFtlActSpec)

/-- 'laws.FnExactIsWiped', WHERE WHAT IT READS IS OF BULK AT MOST 1048576: true; the input reads as it did. -/
def fnExactIsWipedUptoRow : OpenClaim := { program := "ytaecdlhomihejaa", sum := "edb032321098c6b972a49d7f5b7ef6b4951d8fd258be8acb34f1862bc7b731ae", func := "loop.example/g00905/laws.FnExactIsWiped", spec := "fnExactIsWiped", unfollowed := true, recurses := true, apart := false, narrowed := true }
def FnExactIsWipedUptoSaid : Prop := fnExactIsWipedUptoRow.holds Try.pinned (OpenSpec.upto fnExactIsWipedSpec)

/-- 'laws.FnExactValidWipe', WHERE WHAT IT READS IS OF BULK AT MOST 1048576: true; the input reads as it did. -/
def fnExactValidWipeUptoRow : OpenClaim := { program := "ytaecdlhomihejaa", sum := "edb032321098c6b972a49d7f5b7ef6b4951d8fd258be8acb34f1862bc7b731ae", func := "loop.example/g00905/laws.FnExactValidWipe", spec := "fnExactValidWipe", unfollowed := true, recurses := true, apart := false, narrowed := true }
def FnExactValidWipeUptoSaid : Prop := fnExactValidWipeUptoRow.holds Try.pinned (OpenSpec.upto fnExactValidWipeSpec)

/-- 'laws.FnExactNewDevice', WHERE WHAT IT READS IS OF BULK AT MOST 1048576: true; the input reads as it did. -/
def fnExactNewDeviceUptoRow : OpenClaim := { program := "ytaecdlhomihejaa", sum := "edb032321098c6b972a49d7f5b7ef6b4951d8fd258be8acb34f1862bc7b731ae", func := "loop.example/g00905/laws.FnExactNewDevice", spec := "fnExactNewDevice", apart := false, narrowed := true }
def FnExactNewDeviceUptoSaid : Prop := fnExactNewDeviceUptoRow.holds Try.pinned (OpenSpec.upto fnExactNewDeviceSpec)

/-- 'laws.FnExactSameDevice', WHERE WHAT IT READS IS OF BULK AT MOST 1048576: true; the input reads as it did. -/
def fnExactSameDeviceUptoRow : OpenClaim := { program := "ytaecdlhomihejaa", sum := "edb032321098c6b972a49d7f5b7ef6b4951d8fd258be8acb34f1862bc7b731ae", func := "loop.example/g00905/laws.FnExactSameDevice", spec := "fnExactSameDevice", unfollowed := true, recurses := true, apart := false, narrowed := true }
def FnExactSameDeviceUptoSaid : Prop := fnExactSameDeviceUptoRow.holds Try.pinned (OpenSpec.upto fnExactSameDeviceSpec)

/-- 'laws.FnExactSameFTL', WHERE WHAT IT READS IS OF BULK AT MOST 1048576: true; the input reads as it did. -/
def fnExactSameFTLUptoRow : OpenClaim := { program := "ytaecdlhomihejaa", sum := "edb032321098c6b972a49d7f5b7ef6b4951d8fd258be8acb34f1862bc7b731ae", func := "loop.example/g00905/laws.FnExactSameFTL", spec := "fnExactSameFTL", unfollowed := true, recurses := true, apart := false, narrowed := true }
def FnExactSameFTLUptoSaid : Prop := fnExactSameFTLUptoRow.holds Try.pinned (OpenSpec.upto fnExactSameFTLSpec)

/-- 'laws.FnExactNewFTL', WHERE WHAT IT READS IS OF BULK AT MOST 1048576: true; the input reads as it did. -/
def fnExactNewFTLUptoRow : OpenClaim := { program := "ytaecdlhomihejaa", sum := "edb032321098c6b972a49d7f5b7ef6b4951d8fd258be8acb34f1862bc7b731ae", func := "loop.example/g00905/laws.FnExactNewFTL", spec := "fnExactNewFTL", apart := false, narrowed := true }
def FnExactNewFTLUptoSaid : Prop := fnExactNewFTLUptoRow.holds Try.pinned (OpenSpec.upto fnExactNewFTLSpec)

/-- 'laws.FnExactValidFTL', WHERE WHAT IT READS IS OF BULK AT MOST 1048576: true; the input reads as it did. -/
def fnExactValidFTLUptoRow : OpenClaim := { program := "ytaecdlhomihejaa", sum := "edb032321098c6b972a49d7f5b7ef6b4951d8fd258be8acb34f1862bc7b731ae", func := "loop.example/g00905/laws.FnExactValidFTL", spec := "fnExactValidFTL", unfollowed := true, recurses := true, apart := false, narrowed := true }
def FnExactValidFTLUptoSaid : Prop := fnExactValidFTLUptoRow.holds Try.pinned (OpenSpec.upto fnExactValidFTLSpec)

/-- 'laws.FnExactValidDevice', WHERE WHAT IT READS IS OF BULK AT MOST 1048576: true; the input reads as it did. -/
def fnExactValidDeviceUptoRow : OpenClaim := { program := "ytaecdlhomihejaa", sum := "edb032321098c6b972a49d7f5b7ef6b4951d8fd258be8acb34f1862bc7b731ae", func := "loop.example/g00905/laws.FnExactValidDevice", spec := "fnExactValidDevice", unfollowed := true, recurses := true, apart := false, narrowed := true }
def FnExactValidDeviceUptoSaid : Prop := fnExactValidDeviceUptoRow.holds Try.pinned (OpenSpec.upto fnExactValidDeviceSpec)

/-- 'laws.FnExactCapacityOf', WHERE WHAT IT READS IS OF BULK AT MOST 1048576: true; the input reads as it did. -/
def fnExactCapacityOfUptoRow : OpenClaim := { program := "ytaecdlhomihejaa", sum := "edb032321098c6b972a49d7f5b7ef6b4951d8fd258be8acb34f1862bc7b731ae", func := "loop.example/g00905/laws.FnExactCapacityOf", spec := "fnExactCapacityOf", unfollowed := true, recurses := true, apart := false, narrowed := true }
def FnExactCapacityOfUptoSaid : Prop := fnExactCapacityOfUptoRow.holds Try.pinned (OpenSpec.upto fnExactCapacityOfSpec)

end Rows
end Go.Proofs.Ytaecdlhomihejaa
