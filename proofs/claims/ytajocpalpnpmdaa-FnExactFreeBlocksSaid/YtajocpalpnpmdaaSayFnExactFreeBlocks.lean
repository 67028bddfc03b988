/- The one pure statement of the law FnExactFreeBlocks: its Lean function answers true. Conditions: each argument is of its kind and within the reach. -/
import Derived.Test.YtajocpalpnpmdaaXRowFreeBlocks
import Derived.Test.YtajocpalpnpmdaaQOpen
namespace Go.Proofs.Ytajocpalpnpmdaa.Q
open Go.RowKit Go.Proofs.YtajocpalpnpmdaaW.PrintWords
def laws_FnExactFreeBlocks.Pure : Prop := ∀ (x0 : S34), G15 x0 → laws_FnExactFreeBlocks.f x0.f0.f0.f0 x0.f0.f0.f1 x0.f0.f0.f2 x0.f0.f1 x0.f0.f2 x0.f0.f3 x0.f0.f4 x0.f0.f5 x0.f1.f0 x0.f1.f1 x0.f1.f2 x0.f1.f3 x0.f2.f0 x0.f2.f1 x0.f3 x0.f4 x0.f5 x0.f6 x0.f7 = some true
end Go.Proofs.Ytajocpalpnpmdaa.Q
