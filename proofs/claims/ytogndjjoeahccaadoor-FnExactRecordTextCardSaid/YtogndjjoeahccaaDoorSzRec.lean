/- The size of a record against a bound, and its copy. No condition. -/
import Derived.Test.YtogndjjoeahccaaDoorQ1
import Derived.Test.YtogndjjoeahccaaDoorQ3
import Derived.Test.YtogndjjoeahccaaDoorNum
namespace Go.Proofs.YtogndjjoeahccaaDoor.Q
open Go.RowKit Go.Proofs.YtogndjjoeahccaaDoorW.PrintWords
theorem szRecord_some (a : ByteArray) (b c : Int) (d e : ByteArray) (n : Int) : ∃ r, laws_szRecord.f a b c d e n = some r := by
  unfold laws_szRecord.f
  split
  · exact ⟨_, rfl⟩
  · split
    · exact ⟨_, rfl⟩
    · split <;> exact ⟨_, rfl⟩
theorem toRecord_eq (a : ByteArray) (b c : Int) (d e : ByteArray) : laws_toRecord.f a b c d e = some (a, b, c, d, e) := rfl
end Go.Proofs.YtogndjjoeahccaaDoor.Q
