/- The contract of the program's allWithin: every number of a list lies within two bounds. No condition beyond what the walk reads. -/
import Derived.Test.YtajocpalpnpmdaaXIdxI
namespace Go.Proofs.Ytajocpalpnpmdaa.Q
open Go.RowKit Go.Proofs.YtajocpalpnpmdaaW.PrintWords Go.Proofs.YtajocpalpnpmdaaW.PrintMore
set_option linter.unusedVariables false
theorem within_any (a b c : Int) (w : World) : Calls Try.prog 29 #[.int .i64 a, .int .i64 b, .int .i64 c] w fun e w' => e = .returned (.bool (decide (b ≤ a ∧ a ≤ c))) ∧ w' = w := by
  by_cases h1 : b ≤ a
  · have c1 : decide (b ≤ a) = true := decide_eq_true h1
    have e : decide (b ≤ a ∧ a ≤ c) = decide (a ≤ c) := by simp [h1]
    rw [e]
    clear h1 e
    go_enter Try.func29, Try.ntmps29
    go_wp2
    go_ret
    exact ⟨rfl, rfl⟩
  · have c1 : decide (b ≤ a) = false := decide_eq_false h1
    have e : decide (b ≤ a ∧ a ≤ c) = false := by simp [h1]
    rw [e]
    clear h1 e
    go_enter Try.func29, Try.ntmps29
    go_wp2
    go_ret
    exact ⟨rfl, rfl⟩
theorem allWithin_pred (x lo hi : Int) (B0 B1 : Nat) (W : World) (h0 : W.cell? ⟨B0, 0, none⟩ = some (.int .i64 lo)) (h1 : W.cell? ⟨B1, 0, none⟩ = some (.int .i64 hi)) :
    Calls Try.prog 59 #[.int .i64 x, .pointer (some ⟨B0, 0, none⟩), .pointer (some ⟨B1, 0, none⟩)] W fun e w' => e = .returned (.bool (!decide (lo ≤ x ∧ x ≤ hi))) ∧ w' = W := by
  have hc := within_any x lo hi
  generalize decide (lo ≤ x ∧ x ≤ hi) = r at hc ⊢
  go_enter Try.func59, Try.ntmps59
  go_wp2_with (go_at_call 29; refine (hc _).mono ?_; rintro e w' ⟨rfl, rfl⟩)
  go_ret
  exact ⟨rfl, rfl⟩
def allIn (l : List Int) (lo hi : Int) : Bool := l.all fun x => decide (lo ≤ x ∧ x ≤ hi)
def impl_allWithin.f (l0 : List Int) (a1 a2 : Int) : Option Bool := some (allIn l0 a1 a2)
theorem allIn_any (l : List Int) (lo hi : Int) : allIn l lo hi = !(l.any fun x => !decide (lo ≤ x ∧ x ≤ hi)) := by
  unfold allIn
  induction l with
  | nil => rfl
  | cons x l ih => simp only [List.all_cons, List.any_cons, ih, Bool.not_or, Bool.not_not]
set_option maxHeartbeats 1000000 in
theorem impl_allWithin.calls (A0 : Option Addr) (c0 : Nat) (l0 : List Int) (a1 a2 : Int) (r : Bool) (w : World) (hr0 : Kd.C (Kd.int .i64) w A0 l0.length l0) (hc0 : l0.length ≤ c0) (h : impl_allWithin.f l0 a1 a2 = some r) :
    Calls Try.prog 31 #[.slice A0 l0.length c0, .int .i64 a1, .int .i64 a2] w fun e w' => e = .returned (.bool r) ∧ Below w.heap.size w w' := by
  obtain rfl := Option.some.inj h
  rw [allIn_any]
  have eg : ∀ args w, (callFunc 59 args).run Try.prog w = .ok (.enter 59 args) w := enters_of Try.func59 (by kernel_rfl) rfl
  have hB : Below w.heap.size w ((w.alloc (.cells #[.int .i64 a1] 2)).alloc (.cells #[.int .i64 a2] 2)) := ((Below.refl _ w).alloc (Nat.le_refl _) _).alloc (by simp) _
  have hcon := anyI_calls A0 c0 l0 ((w.alloc (.cells #[.int .i64 a1] 2)).alloc (.cells #[.int .i64 a2] 2)) (Kd.C_below hr0 hB) hc0 59 #[.pointer (some ⟨w.heap.size, 0, none⟩), .pointer (some ⟨w.heap.size + 1, 0, none⟩)] (fun x => !decide (a1 ≤ x ∧ x ≤ a2)) eg
    (fun W x _ hb => (allWithin_pred x a1 a2 w.heap.size (w.heap.size + 1) W
      ((hb.cell (p := ⟨w.heap.size, 0, none⟩) (by simp; omega)).trans (by simp)) ((hb.cell (p := ⟨w.heap.size + 1, 0, none⟩) (by simp)).trans (by simp))).mono fun e w' ⟨he, hw⟩ => ⟨he, by rw [hw]; exact hb⟩)
  generalize (l0.any fun x => !decide (a1 ≤ x ∧ x ≤ a2)) = r at hcon ⊢
  clear hr0 h eg
  go_enter Try.func31, Try.ntmps31
  go_wp2_with (go_at_call 58; refine hcon.mono ?_; rintro e w' ⟨rfl, hb'⟩)
  go_ret
  exact ⟨rfl, hB.trans (hb'.mono (by simp; omega))⟩
end Go.Proofs.Ytajocpalpnpmdaa.Q
