/- The law FnExactNeedsLevelling, as a statement over numbers and lists. No condition. -/
import Derived.Test.YtcdkkdlaalbgiaaSayFnExactNeedsLevelling
import Derived.Test.YtcdkkdlaalbgiaaInt64C
import Derived.Test.YtcdkkdlaalbgiaaEqInt64S
import Derived.Test.YtcdkkdlaalbgiaaBoolC
import Derived.Test.YtcdkkdlaalbgiaaEqBoolS
import Derived.Test.YtcdkkdlaalbgiaaGapOk
namespace Go.Proofs.Ytcdkkdlaalbgiaa.Pure
open Go.RowKit Go.Proofs.Ytcdkkdlaalbgiaa.Q Go.Proofs.YtcdkkdlaalbgiaaW.PrintWords
theorem FnExactNeedsLevelling : laws_FnExactNeedsLevelling.Pure := by
  intro x y n hx hy _
  unfold laws_FnExactNeedsLevelling.f
  refine Ev.rounds ?_
  by_cases h1 : (x.length : Int) > 1048576
  · exact Ev.if_pos h1 (Ev.now _)
  refine Ev.if_neg h1 ?_
  by_cases h2 : (y.length : Int) > 1048576
  · exact Ev.if_pos h2 (Ev.now _)
  refine Ev.if_neg h2 ?_
  have t1 := toInt64S_ev x (by omega)
  have t2 := toBoolS_ev y (by omega)
  have q : impl_WearGap.f x y = some (gapOf x y) := by
    unfold impl_WearGap.f
    rw [if_pos (by omega)]
  have p : Ev (fun k => spec_NeedsLevelling.f k x y n) (decide (gapOf x y > n)) := by
    unfold spec_NeedsLevelling.f
    exact Ev.bind (gap_ev x y (by omega)) (Ev.now _)
  have q2 : impl_NeedsLevelling.f x y n = some (decide (gapOf x y > n)) := by
    unfold impl_NeedsLevelling.f
    rw [q]
    rfl
  refine Ev.bind t1 (Ev.bind t2 (Ev.bind p (Ev.bind t1 (Ev.bind t2 (Ev.bind1 q2 (Ev.if_neg (by simp) ?_))))))
  refine Ev.bind t1 (Ev.bind (eqInt64S_ev x x (by omega)) (Ev.if_pos (by simp) ?_))
  exact Ev.bind t2 (Ev.bind (eqBoolS_ev y y (by omega)) (Ev.if_pos (by simp) (Ev.now _)))
end Go.Proofs.Ytcdkkdlaalbgiaa.Pure
