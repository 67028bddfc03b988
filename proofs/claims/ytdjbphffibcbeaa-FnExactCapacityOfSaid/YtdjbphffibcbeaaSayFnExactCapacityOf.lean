/- The one pure statement of the law FnExactCapacityOf: its Lean function answers true. Conditions: each argument is of its kind and within the reach. -/
import Derived.Test.YtdjbphffibcbeaaQ16
import Derived.Test.YtdjbphffibcbeaaQOpen
namespace Go.Proofs.Ytdjbphffibcbeaa.Q
open Go.RowKit Go.Proofs.YtdjbphffibcbeaaW.PrintWords
def laws_FnExactCapacityOf.Pure : Prop := ∀ (x0 : S29), G15 x0 → ∃ k, laws_FnExactCapacityOf.f k x0.f0.f0.f0 x0.f0.f0.f1 x0.f0.f0.f2 x0.f0.f1 x0.f0.f2 x0.f0.f3 x0.f0.f4 x0.f0.f5 x0.f1 = some true
end Go.Proofs.Ytdjbphffibcbeaa.Q
