/- The contract of the program's dataOk: every text of a list has the size of a page's data. No condition beyond what the walk reads. -/
import Derived.Test.YtaecdlhomihejaaXIdxS
namespace Go.Proofs.Ytaecdlhomihejaa.Q
open Go.RowKit Go.Proofs.YtaecdlhomihejaaW.PrintWords Go.Proofs.YtaecdlhomihejaaW.PrintMore
set_option linter.unusedVariables false
def offSize (s : ByteArray) : Bool := (s.size : Int) != 64
theorem dataOk_pred (x : ByteArray) (W : World) :
    Calls Try.prog 151 #[.string x] W fun e w' => e = .returned (.bool (offSize x)) ∧ w' = W := by
  unfold offSize
  go_enter Try.func151, Try.ntmps151
  go_wp2
  go_ret
  exact ⟨by first | rfl | simp, rfl⟩
def impl_dataOk.f (l0 : List ByteArray) : Option Bool := some (!(l0.any offSize))
set_option maxHeartbeats 1000000 in
theorem impl_dataOk.calls (A0 : Option Addr) (c0 : Nat) (l0 : List ByteArray) (r : Bool) (w : World) (hr0 : Kd.C Kd.string w A0 l0.length l0) (hc0 : l0.length ≤ c0) (h : impl_dataOk.f l0 = some r) :
    Calls Try.prog 77 #[.slice A0 l0.length c0] w fun e w' => e = .returned (.bool r) ∧ Below w.heap.size w w' := by
  obtain rfl := Option.some.inj h
  have eg : ∀ args w, (callFunc 151 args).run Try.prog w = .ok (.enter 151 args) w := enters_of Try.func151 (by kernel_rfl) rfl
  have hcon := anyS_calls A0 c0 l0 w hr0 hc0 151 #[] offSize eg
    (fun W x _ hb => (dataOk_pred x W).mono fun e w' ⟨he, hw⟩ => ⟨he, by rw [hw]; exact hb⟩)
  generalize l0.any offSize = r at hcon ⊢
  clear hr0 h eg
  go_enter Try.func77, Try.ntmps77
  go_wp2_with (go_at_call 86; refine hcon.mono ?_; rintro e w' ⟨rfl, hb'⟩)
  go_ret
  exact ⟨rfl, hb'⟩
end Go.Proofs.Ytaecdlhomihejaa.Q
