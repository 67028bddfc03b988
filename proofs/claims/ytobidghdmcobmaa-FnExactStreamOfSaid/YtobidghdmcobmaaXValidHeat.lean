/- The contracts of the specification's ValidHeat and IsHot, which hand the address of their parameter on. No condition beyond what the walk reads. -/
import Derived.Test.YtobidghdmcobmaaQ4
import Derived.Test.YtobidghdmcobmaaQ4
namespace Go.Proofs.Ytobidghdmcobmaa.Q
open Go.RowKit Go.Proofs.YtobidghdmcobmaaW.PrintWords Go.Proofs.YtobidghdmcobmaaW.PrintMore
set_option linter.unusedVariables false
def spec_ValidHeat.f (k : Nat) (l0_0 : List Int) (a0_1 : Int) : Option Bool := (spec_l13Ok.f k l0_0 a0_1).bind fun t => some t.1
theorem spec_ValidHeat.mono : ∀ a0 a1 k, LeO (spec_ValidHeat.f k a0 a1) (spec_ValidHeat.f (k + 1) a0 a1) := fun a0 a1 k => LeO.bind (spec_l13Ok.mono a0 a1 k) (fun _ => LeO.refl _)
theorem spec_ValidHeat.calls (k : Nat) (A0_0 : Option Addr) (c0_0 : Nat) (l0_0 : List Int) (a0_1 : Int) (r : Bool) (w : World) (hr0_0 : Kd.C (Kd.int .i64) w A0_0 l0_0.length l0_0) (hc0_0 : l0_0.length ≤ c0_0) (h : spec_ValidHeat.f k l0_0 a0_1 = some r) :
    Calls Try.prog 18 #[.agg #[.slice A0_0 l0_0.length c0_0, .int .i64 a0_1]] w fun e w' => e = .returned (.bool r) ∧ Below w.heap.size w w' := by
  obtain ⟨⟨t1, t2⟩, h1, h2⟩ := Option.bind_eq_some_iff.1 h
  obtain rfl := Option.some.inj h2
  have hu := Try.underlying28
  have hI := IsS28.new w w A0_0 c0_0 l0_0 a0_1 (Below.refl _ w) hr0_0
  have hok := spec_l13Ok.calls k w.heap.size l0_0 a0_1 t1 t2 w _ hI ((Below.refl _ w).alloc (Nat.le_refl _) _) h1
  clear hI hr0_0 h h1 h2
  go_enter Try.func18, Try.ntmps18
  go_wp2_with (go_at_call 45; refine hok.mono ?_; rintro e w1 ⟨rfl, hI1, hb1, hk1⟩)
  go_ret
  exact ⟨rfl, hb1⟩
def spec_IsHot.f (k : Nat) (l0_0 : List Int) (a0_1 : Int) (a1 : Int) : Option Bool := (spec_l13Ok.f k l0_0 a0_1).bind fun t => if t.1 = true then (spec_l13Hot.f k l0_0 t.2 a1).bind fun u => some u.1 else some false
theorem spec_IsHot.mono : ∀ a0 a1 a2 k, LeO (spec_IsHot.f k a0 a1 a2) (spec_IsHot.f (k + 1) a0 a1 a2) := fun a0 a1 a2 k => LeO.bind (spec_l13Ok.mono a0 a1 k) (fun t => LeO.ite (LeO.bind (spec_l13Hot.mono a0 t.2 a2 k) (fun _ => LeO.refl _)) (LeO.refl _))
theorem spec_IsHot.calls (k : Nat) (A0_0 : Option Addr) (c0_0 : Nat) (l0_0 : List Int) (a0_1 : Int) (a1 : Int) (r : Bool) (w : World) (hr0_0 : Kd.C (Kd.int .i64) w A0_0 l0_0.length l0_0) (hc0_0 : l0_0.length ≤ c0_0) (h : spec_IsHot.f k l0_0 a0_1 a1 = some r) :
    Calls Try.prog 20 #[.agg #[.slice A0_0 l0_0.length c0_0, .int .i64 a0_1], .int .i64 a1] w fun e w' => e = .returned (.bool r) ∧ Below w.heap.size w w' := by
  obtain ⟨⟨t1, t2⟩, h1, h2⟩ := Option.bind_eq_some_iff.1 h
  have hu := Try.underlying28
  have hI := IsS28.new w w A0_0 c0_0 l0_0 a0_1 (Below.refl _ w) hr0_0
  have hok := spec_l13Ok.calls k w.heap.size l0_0 a0_1 t1 t2 w _ hI ((Below.refl _ w).alloc (Nat.le_refl _) _) h1
  clear hI hr0_0 h h1
  cases t1 with
  | false =>
    obtain rfl := Option.some.inj h2
    go_enter Try.func20, Try.ntmps20
    go_wp2_with (go_at_call 45; refine hok.mono ?_; rintro e w1 ⟨rfl, hI1, hb1, hk1⟩)
    go_ret
    exact ⟨rfl, hb1⟩
  | true =>
    obtain ⟨⟨u1, u2⟩, h3, h4⟩ := Option.bind_eq_some_iff.1 (show (spec_l13Hot.f k l0_0 t2 a1).bind (fun u => some u.1) = some r from h2)
    obtain rfl := Option.some.inj h4
    have HH : Aside0 (∀ w1, IsS28 w w1 w.heap.size l0_0 t2 → Below w.heap.size w w1 → _) := ⟨fun w1 hI hb => spec_l13Hot.calls k w.heap.size l0_0 t2 a1 u1 u2 w w1 hI hb h3⟩
    clear h2 h3 h4
    go_enter Try.func20, Try.ntmps20
    go_wp2_with (first | (go_at_call 45; refine hok.mono ?_; rintro e w1 ⟨rfl, hI1, hb1, hk1⟩; have HI1 := Aside0.mk hI1; have HB1 := Aside0.mk hb1; clear hI1 hb1 hk1) | (go_at_call 48; refine (HH.out _ HI1.out HB1.out).mono ?_; rintro e w2 ⟨rfl, hI2, hb2, hk2⟩))
    go_ret
    exact ⟨rfl, hb2⟩
end Go.Proofs.Ytobidghdmcobmaa.Q
