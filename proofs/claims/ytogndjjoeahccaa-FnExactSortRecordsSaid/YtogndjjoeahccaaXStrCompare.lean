/- The contract of strings.Compare. No condition. -/
import Derived.Test.YtogndjjoeahccaaQ0
import Derived.Lib.Bytealg
namespace Go.Proofs.Ytogndjjoeahccaa.Q
open Go.RowKit Go.Proofs.YtogndjjoeahccaaW.PrintWords
set_option linter.unusedVariables false
def cmpB (a b : ByteArray) : Int := Lib.compareBytes a.data.toList b.data.toList
def strings_Compare.f (a0 a1 : ByteArray) : Option Int := some (cmpB a0 a1)
set_option maxHeartbeats 1000000 in
set_option maxRecDepth 100000 in
theorem bytealg_compare (a b : ByteArray) (w : World) :
    Calls Try.prog 89 #[.string a, .string b] w fun e w' => e = .returned (.int .i64 (cmpB a b)) ∧ w' = w := by
  unfold cmpB
  go_enter Try.func89, Try.ntmps89
  go_wp2
  rw [run_callFunc_extern Try.func99 (by kernel_rfl) (by kernel_rfl) (by kernel_rfl) (e := Extern.BytealgCompare.compare) (by kernel_rfl), Lib.run_compareString]
  simp only [Result.andThen]
  rw [Oper.upon_value]
  go_wp2
  go_ret
  exact ⟨rfl, rfl⟩
set_option maxHeartbeats 1000000 in
set_option maxRecDepth 100000 in
theorem strings_Compare.calls (a0 a1 : ByteArray) (r : Int) (w : World) (h : strings_Compare.f a0 a1 = some r) :
    Calls Try.prog 64 #[.string a0, .string a1] w fun e w' => e = .returned (.int .i64 r) ∧ Drawn0 w w' := by
  obtain rfl := Option.some.inj h
  have hc := bytealg_compare a0 a1
  generalize cmpB a0 a1 = r at hc ⊢
  go_enter Try.func64, Try.ntmps64
  go_wp2_with (go_at_call 89; refine (hc _).mono ?_; rintro e w' ⟨rfl, rfl⟩)
  go_ret
  exact ⟨rfl, Drawn0.refl _⟩
end Go.Proofs.Ytogndjjoeahccaa.Q
