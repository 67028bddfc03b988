/- The contract of strings.Trim at the cutset "01". Condition: the string is within the reach. -/
import Derived.Test.YtlafegjmmbkkpaaDoorShelf
import Derived.Test.YtlafegjmmbkkpaaDoorQ0
namespace Go.Proofs.YtlafegjmmbkkpaaDoor.Q
open Go.RowKit Go.Proofs.YtlafegjmmbkkpaaDoorW.PrintWords
set_option linter.unusedVariables false
def trimF (a : ByteArray) : ByteArray := ⟨(Lib.trimS a.data.toList [48, 49]).toArray⟩
def strings_Trim.f (a0 a1 : ByteArray) : Option ByteArray := if a0.size ≤ 9223372036854775807 ∧ a1 = (⟨#[48, 49]⟩ : ByteArray) then some (trimF a0) else none
theorem strings_Trim.calls (a0 a1 r : ByteArray) (w : World) (h : strings_Trim.f a0 a1 = some r) :
    Calls Tryd.prog 17 #[.string a0, .string a1] w fun e w' => e = .returned (.string r) ∧ Below w.heap.size w w' := by
  unfold strings_Trim.f at h
  by_cases c : a0.size ≤ 9223372036854775807 ∧ a1 = (⟨#[48, 49]⟩ : ByteArray)
  · rw [if_pos c] at h
    obtain rfl := Option.some.inj h
    obtain ⟨hs, rfl⟩ := c
    exact Any.strings_Trim_laid Tryd.trimL (by kernel_rfl) a0 ⟨#[48, 49]⟩ w hs (by decide) (ascii_of_all (by decide))
  · rw [if_neg c] at h
    cases h
end Go.Proofs.YtlafegjmmbkkpaaDoor.Q
