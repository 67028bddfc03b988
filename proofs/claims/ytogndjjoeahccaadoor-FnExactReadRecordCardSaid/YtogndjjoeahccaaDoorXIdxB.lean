/- The contract of strings.IndexByte. No condition. -/
import Derived.Test.YtogndjjoeahccaaDoorShelf
import Derived.Test.YtogndjjoeahccaaDoorQ0
namespace Go.Proofs.YtogndjjoeahccaaDoor.Q
open Go.RowKit Go.Proofs.YtogndjjoeahccaaDoorW.PrintWords
set_option linter.unusedVariables false
def idxB (s : ByteArray) (c : Int) : Int := Lib.indexByte s.data.toList c.toNat.toUInt8
def strings_IndexByte.f (a0 : ByteArray) (a1 : Int) : Option Int := some (idxB a0 a1)
theorem strings_IndexByte.calls (a0 : ByteArray) (a1 : Int) (r : Int) (w : World) (h : strings_IndexByte.f a0 a1 = some r) :
    Calls Tryd.prog 35 #[.string a0, .int .u8 a1] w fun e w' => e = .returned (.int .i64 r) ∧ Drawn0 w w' := by
  obtain rfl := Option.some.inj h
  refine Calls.mono (Any.strings_IndexByte (P := Tryd.prog) (ρ := Tryd.idxL_ren) Tryd.idxL a0 a1 w) ?_
  rintro e w' ⟨he, rfl⟩
  exact ⟨he, Drawn0.refl _⟩
end Go.Proofs.YtogndjjoeahccaaDoor.Q
