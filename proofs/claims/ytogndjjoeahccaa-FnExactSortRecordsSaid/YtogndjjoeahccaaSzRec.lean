/- The size of a record against a bound, and its copy. No condition. -/
import Derived.Test.YtogndjjoeahccaaQ2
import Derived.Test.YtogndjjoeahccaaQ4
import Derived.Test.YtogndjjoeahccaaNum
namespace Go.Proofs.Ytogndjjoeahccaa.Q
open Go.RowKit Go.Proofs.YtogndjjoeahccaaW.PrintWords
theorem toRecord_eq (a : ByteArray) (b c : Int) (d e : ByteArray) : laws_toRecord.f a b c d e = some (a, b, c, d, e) := rfl
end Go.Proofs.Ytogndjjoeahccaa.Q
