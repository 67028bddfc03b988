/- Marking and holding of cells. Condition: the numbers stay in range. -/
import Derived.Test.YtlafegjmmbkkpaaDoorQ3
import Derived.Test.YtlafegjmmbkkpaaDoorQ3
import Derived.Test.YtlafegjmmbkkpaaDoorInt64S
namespace Go.Proofs.YtlafegjmmbkkpaaDoor.Q
open Go.RowKit Go.Proofs.YtlafegjmmbkkpaaDoorW.PrintWords
theorem markCells_ev (l : List Int) (c : Int) (h0 : 0 ≤ c) (hb : c + l.length ≤ 9223372036854775806) : Ev (fun k => laws_markCells.f k l c) (c + l.length, marked c l.length) := by
  unfold laws_markCells.f
  exact Ev.bind (markInt64S_ev l c h0 hb) (Ev.now _)
theorem heldCells_ev (n : Nat) (c : Int) (h0 : 0 ≤ c) (hb : c + n ≤ 9223372036854775806) : Ev (fun k => laws_heldCells.f k (marked c n) c) (c + n) := by
  unfold laws_heldCells.f
  exact Ev.bind (heldInt64S_ev n c h0 hb) (Ev.if_neg (by omega) (Ev.now _))
end Go.Proofs.YtlafegjmmbkkpaaDoor.Q
