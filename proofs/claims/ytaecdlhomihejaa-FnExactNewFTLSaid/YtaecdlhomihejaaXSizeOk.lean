/- The program's sizeOk. Conditions: those before each theorem. -/
import Derived.Test.YtaecdlhomihejaaQ6
import Derived.Test.YtaecdlhomihejaaInOk
namespace Go.Proofs.Ytaecdlhomihejaa.Q
open Go.RowKit Go.Proofs.YtaecdlhomihejaaW.PrintWords Go.Proofs.YtaecdlhomihejaaW.PrintMore Go.Proofs.YtaecdlhomihejaaW.PrintLast
set_option linter.unusedVariables false
def impl_sizeOk.f (a0 : Int) (a1 : Int) : Option (Bool) := some (decide (1 ≤ a0 ∧ a0 ≤ 640) && decide (1 ≤ a1 ∧ a1 ≤ 640 / a0))
set_option maxHeartbeats 2000000 in
set_option maxRecDepth 100000 in
theorem impl_sizeOk.calls (a0 : Int) (a1 : Int) (r : Bool) (w : World) (h : impl_sizeOk.f a0 a1 = some r) :
    Calls Try.prog 178 #[.int .i64 a0, .int .i64 a1] w fun e w' => e = .returned (.bool r) ∧ Drawn0 w w' := by
  obtain rfl := Option.some.inj h
  clear h
  by_cases c : 1 ≤ a0 ∧ a0 ≤ 640
  · rw [decide_eq_true c, Bool.true_and]
    obtain ⟨q, hq⟩ : ∃ q, q = 640 / a0 := ⟨_, rfl⟩
    have hq0 : 0 ≤ q := by rw [hq]; exact Int.ediv_nonneg (by omega) (by omega)
    have hq1 : q ≤ 640 := by rw [hq]; exact Int.ediv_le_self _ (by omega)
    have e1 : Int.tdiv 640 a0 = q := by rw [Int.tdiv_eq_ediv_of_nonneg (by omega), ← hq]
    have e2 : wrap64 q = q := wrap64_id (by omega) (by omega)
    have e3 : IntKind.i64.wrap q = q := wraps_i64 _ (by omega) (by omega)
    have e4 : (a0 == 0) = false := beq_eq_false_iff_ne.2 (by omega)
    have e5 : ¬ a0 = 0 := by omega
    have H0 := Aside0.mk (impl_within.calls a0 1 640 true w (by rw [within_eq, decide_eq_true c]))
    have H1 := Aside0.mk (fun W => impl_within.calls a1 1 q _ W (within_eq a1 1 q))
    rw [← hq]
    clear hq hq0 hq1 c
    generalize decide (1 ≤ a1 ∧ a1 ≤ q) = b at H1 ⊢
    go_enter Try.func178, Try.ntmps178
    go_wp2_with (first | (go_at_call 92; refine H0.out.mono ?_; rintro e w' ⟨rfl, ⟨nd, rfl⟩⟩; clear H0) | (go_at_call 92; refine (H1.out _).mono ?_; rintro e w' ⟨rfl, ⟨nd, rfl⟩⟩))
    go_ret
    exact ⟨rfl, by repeat (first | exact Drawn0.refl _ | apply Drawn0.step)⟩
  · rw [decide_eq_false c, Bool.false_and]
    have H0 := Aside0.mk (impl_within.calls a0 1 640 false w (by rw [within_eq, decide_eq_false c]))
    clear c
    go_enter Try.func178, Try.ntmps178
    go_wp2_with (go_at_call 92; refine H0.out.mono ?_; rintro e w' ⟨rfl, ⟨nd, rfl⟩⟩)
    go_ret
    exact ⟨rfl, by repeat (first | exact Drawn0.refl _ | apply Drawn0.step)⟩
end Go.Proofs.Ytaecdlhomihejaa.Q
