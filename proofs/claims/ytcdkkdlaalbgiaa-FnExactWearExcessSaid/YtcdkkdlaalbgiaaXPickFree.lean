/- The contract of the program's PickFree. Conditions: those before each theorem. -/
import Derived.Test.YtcdkkdlaalbgiaaXAllW
import Derived.Test.YtcdkkdlaalbgiaaXBest
namespace Go.Proofs.Ytcdkkdlaalbgiaa.Q
open Go.RowKit Go.Proofs.YtcdkkdlaalbgiaaW.PrintWords Go.Proofs.YtcdkkdlaalbgiaaW.PrintMore
set_option linter.unusedVariables false
def ltB (a b : Int) : Bool := decide (a < b)
def gtB (a b : Int) : Bool := decide (a > b)
theorem lessThan_any (x y : Int) (w : World) : Calls Try.prog 31 #[.int .i64 x, .int .i64 y] w fun e w' => e = .returned (.bool (ltB x y)) ∧ w' = w := by
  unfold ltB
  go_enter Try.func31, Try.ntmps31
  go_wp2
  go_ret
  exact ⟨rfl, rfl⟩
theorem moreThan_any (x y : Int) (w : World) : Calls Try.prog 32 #[.int .i64 x, .int .i64 y] w fun e w' => e = .returned (.bool (gtB x y)) ∧ w' = w := by
  unfold gtB
  go_enter Try.func32, Try.ntmps32
  go_wp2
  go_ret
  exact ⟨rfl, rfl⟩
theorem bestLess (A0 : Option Addr) (c0 : Nat) (er : List Int) (A1 : Option Addr) (c1 : Nat) (bs : List Int) (w : World) (hr0 : Kd.C (Kd.int .i64) w A0 er.length er) (hc0 : er.length ≤ c0) (hr1 : Kd.C (Kd.int .i64) w A1 bs.length bs) (hc1 : bs.length ≤ c1)
    (hin : ∀ b ∈ bs, 0 ≤ b ∧ b < er.length) :
    Calls Try.prog 30 #[.slice A0 er.length c0, .slice A1 bs.length c1, .func (.func 31) #[] #[]] w fun e w' => e = .returned (.int .i64 (bestL ltB er bs)) ∧ ∃ n, w' = w.drewN n :=
  bestOf_calls A0 c0 er A1 c1 bs w hr0 hc0 hr1 hc1 31 #[] ltB hin (enters_of Try.func31 (by kernel_rfl) rfl) (fun W x y => lessThan_any x y W)
theorem bestMore (A0 : Option Addr) (c0 : Nat) (er : List Int) (A1 : Option Addr) (c1 : Nat) (bs : List Int) (w : World) (hr0 : Kd.C (Kd.int .i64) w A0 er.length er) (hc0 : er.length ≤ c0) (hr1 : Kd.C (Kd.int .i64) w A1 bs.length bs) (hc1 : bs.length ≤ c1)
    (hin : ∀ b ∈ bs, 0 ≤ b ∧ b < er.length) :
    Calls Try.prog 30 #[.slice A0 er.length c0, .slice A1 bs.length c1, .func (.func 32) #[] #[]] w fun e w' => e = .returned (.int .i64 (bestL gtB er bs)) ∧ ∃ n, w' = w.drewN n :=
  bestOf_calls A0 c0 er A1 c1 bs w hr0 hc0 hr1 hc1 32 #[] gtB hin (enters_of Try.func32 (by kernel_rfl) rfl) (fun W x y => moreThan_any x y W)
def impl_PickFree.f (er fr : List Int) (hot : Bool) : Option Int := some (if allIn fr 0 (wrap64 ((er.length : Int) - 1)) = true then bestL (if hot = true then ltB else gtB) er fr else -1)
theorem allIn_le {l : List Int} {lo hi : Int} (h : allIn l lo hi = true) : ∀ x ∈ l, lo ≤ x ∧ x ≤ hi := by
  intro x hx
  have := List.all_eq_true.1 h x hx
  simpa using this
set_option maxHeartbeats 1000000 in
theorem impl_PickFree.calls (A0 : Option Addr) (c0 : Nat) (l0 : List Int) (A1 : Option Addr) (c1 : Nat) (l1 : List Int) (a2 : Bool) (r : Int) (w : World) (hr0 : Kd.C (Kd.int .i64) w A0 l0.length l0) (hc0 : l0.length ≤ c0) (hr1 : Kd.C (Kd.int .i64) w A1 l1.length l1) (hc1 : l1.length ≤ c1)
    (h : impl_PickFree.f l0 l1 a2 = some r) :
    Calls Try.prog 11 #[.slice A0 l0.length c0, .slice A1 l1.length c1, .bool a2] w fun e w' => e = .returned (.int .i64 r) ∧ Below w.heap.size w w' := by
  obtain rfl := Option.some.inj h
  have hbig := hr0.2.1
  have HB : Aside0 (∀ w1, Below w.heap.size w w1 → (∀ b ∈ l1, 0 ≤ b ∧ b < l0.length) → Calls Try.prog 30 #[.slice A0 l0.length c0, .slice A1 l1.length c1, .func (.func 31) #[] #[]] w1 fun e w' => e = .returned (.int .i64 (bestL ltB l0 l1)) ∧ ∃ n, w' = w1.drewN n) := ⟨fun w1 hb hin => bestLess A0 c0 l0 A1 c1 l1 w1 (Kd.C_below hr0 hb) hc0 (Kd.C_below hr1 hb) hc1 hin⟩
  have HM : Aside0 (∀ w1, Below w.heap.size w w1 → (∀ b ∈ l1, 0 ≤ b ∧ b < l0.length) → Calls Try.prog 30 #[.slice A0 l0.length c0, .slice A1 l1.length c1, .func (.func 32) #[] #[]] w1 fun e w' => e = .returned (.int .i64 (bestL gtB l0 l1)) ∧ ∃ n, w' = w1.drewN n) := ⟨fun w1 hb hin => bestMore A0 c0 l0 A1 c1 l1 w1 (Kd.C_below hr0 hb) hc0 (Kd.C_below hr1 hb) hc1 hin⟩
  have ew : wrap64 ((l0.length : Int) - 1) = (l0.length : Int) - 1 := by unfold wrap64; omega
  rw [ew]
  have hall := impl_allWithin.calls A1 c1 l1 0 ((l0.length : Int) - 1) _ w hr1 hc1 rfl
  have hin : allIn l1 0 ((l0.length : Int) - 1) = true → ∀ b ∈ l1, 0 ≤ b ∧ b < l0.length := fun h b hb => by have := allIn_le h b hb; omega
  clear hr0 hr1 h ew
  revert hall hin
  generalize allIn l1 0 ((l0.length : Int) - 1) = t
  intro hall hin
  cases t with
  | false =>
    clear hin HB HM
    go_enter Try.func11, Try.ntmps11
    go_wp2_with (go_at_call 29; refine hall.mono ?_; rintro e w' ⟨rfl, hb⟩)
    go_ret
    exact ⟨rfl, hb⟩
  | true =>
    have HI := Aside0.mk (hin rfl)
    clear hin
    cases a2 with
    | false =>
      go_enter Try.func11, Try.ntmps11
      go_wp2_with (first | (go_at_call 29; refine hall.mono ?_; rintro e w1 ⟨rfl, hb⟩; have HB1 := Aside0.mk hb; clear hb) | (go_at_call 30; refine (HM.out _ HB1.out HI.out).mono ?_; rintro e w2 ⟨rfl, hb2⟩))
      go_ret
      exact ⟨rfl, HB1.out.trans ((below_drawn hb2).mono HB1.out.size)⟩
    | true =>
      go_enter Try.func11, Try.ntmps11
      go_wp2_with (first | (go_at_call 29; refine hall.mono ?_; rintro e w1 ⟨rfl, hb⟩; have HB1 := Aside0.mk hb; clear hb) | (go_at_call 30; refine (HB.out _ HB1.out HI.out).mono ?_; rintro e w2 ⟨rfl, hb2⟩))
      go_ret
      exact ⟨rfl, HB1.out.trans ((below_drawn hb2).mono HB1.out.size)⟩
end Go.Proofs.Ytcdkkdlaalbgiaa.Q
