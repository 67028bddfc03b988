/- The program's functions as Lean functions, and for each the proof that the machine's call comes to what its function says. Conditions: those that stand before each theorem. -/
import Derived.Test.YtogndjjoeahccaaQ0
import Derived.Test.YtogndjjoeahccaaQ1
namespace Go.Proofs.Ytogndjjoeahccaa.Q
open Go.RowKit Go.Proofs.YtogndjjoeahccaaW.PrintWords Go.Proofs.YtogndjjoeahccaaW.PrintLast Go.Proofs.YtogndjjoeahccaaW.PrintMore
set_option linter.unusedVariables false
set_option linter.unusedSimpArgs false

def laws_heldRecordS.l0 : Nat → List (S49) → Int → Int → Option (Int)
  | 0, _, _, _ => none
  | k + 1, x0, x1, x5 => if x5 < (x0.length : Int) then (if 0 ≤ x5 then ((laws_markText.f k x1).bind fun t118 => (if ((rd_T49 x0 x5).f0).toList = t118.toList then (if ((rd_T49 x0 x5).f1) = (wrap64 (x1 + 1)) then (if ((rd_T49 x0 x5).f2) = (wrap64 ((wrap64 (x1 + 1)) + 1)) then ((laws_markText.f k (wrap64 ((wrap64 ((wrap64 (x1 + 1)) + 1)) + 1))).bind fun t122 => (if ((rd_T49 x0 x5).f3).toList = t122.toList then ((laws_markText.f k (wrap64 ((wrap64 ((wrap64 ((wrap64 (x1 + 1)) + 1)) + 1)) + 1))).bind fun t124 => (if ((rd_T49 x0 x5).f4).toList = t124.toList then (laws_heldRecordS.l0 k x0 (wrap64 ((wrap64 ((wrap64 ((wrap64 ((wrap64 (x1 + 1)) + 1)) + 1)) + 1)) + 1)) (wrap64 (x5 + 1))) else (some (-1)))) else (some (-1)))) else (some (-1))) else (some (-1))) else (some (-1)))) else (none)) else (some x1)
def laws_heldRecordS.f (k : Nat) (l0 : List (S49)) (a1 : Int) : Option (Int) := laws_heldRecordS.l0 k l0 a1 0

end Go.Proofs.Ytogndjjoeahccaa.Q
