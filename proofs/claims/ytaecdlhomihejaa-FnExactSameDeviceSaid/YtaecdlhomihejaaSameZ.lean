/- Two zones, as the program compares them; and the specification's comparisons of lists. Conditions: the lists are not longer than memory. -/
import Derived.Test.YtaecdlhomihejaaEqStr
import Derived.Test.YtaecdlhomihejaaEqualI
import Derived.Test.YtaecdlhomihejaaQ8
namespace Go.Proofs.Ytaecdlhomihejaa.Q
open Go.RowKit Go.Proofs.YtaecdlhomihejaaW.PrintWords
set_option linter.unusedVariables false
def sameZ (x y : S132) : Bool := decide (x.f0 = y.f0) && (decide (x.f1 = y.f1) && (decide (x.f2 = y.f2) && (decide (x.f3 = y.f3) && (decide (x.f4 = y.f4) && decide (x.f5 = y.f5)))))
theorem andz_ev {f g : Nat → Option Bool} {a b : Bool} (h : Ev f a) (k : a = true → Ev g b) : Ev (fun n => (f n).bind fun t => if t = true then g n else some false) (a && b) := by
  cases a with
  | true => exact Ev.bind h (Ev.if_pos rfl (k rfl))
  | false => exact Ev.bind h (Ev.if_neg (by decide) (Ev.now _))
theorem itez_ev {c : Prop} [Decidable c] {g : Nat → Option Bool} {b : Bool} (k : c → Ev g b) : Ev (fun n => if c then g n else some false) (decide c && b) := by
  by_cases h : c
  · rw [decide_eq_true h, Bool.true_and]; exact Ev.if_pos h (k h)
  · rw [decide_eq_false h, Bool.false_and]; exact Ev.if_neg h (Ev.now _)
theorem sameZ_ev (x y : S132) (h1 : x.f1.length ≤ 9223372036854775807) (h4 : x.f4.length ≤ 9223372036854775807) (h5 : x.f5.length ≤ 9223372036854775807) : Ev (fun k => impl_sameZone.f k x.f0 x.f1 x.f2 x.f3 x.f4 x.f5 y.f0 y.f1 y.f2 y.f3 y.f4 y.f5) (sameZ x y) := by
  unfold impl_sameZone.f sameZ
  exact itez_ev fun _ => andz_ev (equalI_ev x.f1 y.f1 h1) fun _ => itez_ev fun _ => itez_ev fun _ => andz_ev (equalI_ev x.f4 y.f4 h4) fun _ => Ev.bind (equalStr_ev x.f5 y.f5 (by omega)) (Ev.now _)
end Go.Proofs.Ytaecdlhomihejaa.Q
