/- The law FnExactNewDevice's contract: it answers true. Conditions: none beyond its arguments' kinds. -/
import Derived.Test.YtaecdlhomihejaaXLawNewDevice
import Derived.Test.YtaecdlhomihejaaMarkZP
import Derived.Test.YtaecdlhomihejaaEqDev
import Derived.Test.YtaecdlhomihejaaNewDevP
namespace Go.Proofs.Ytaecdlhomihejaa.Q
open Go.RowKit Go.Proofs.YtaecdlhomihejaaW.PrintWords
set_option linter.unusedVariables false
def laws_FnExactNewDevice.f (a0_0 : Int) (a0_1 : Int) (a0_2 : Int) (a1 : Int) : Option (Bool) := some true
theorem laws_FnExactNewDevice.calls (a0_0 : Int) (a0_1 : Int) (a0_2 : Int) (a1 : Int) (r : Bool) (w : World) (h : laws_FnExactNewDevice.f a0_0 a0_1 a0_2 a1 = some r) :
    Calls Try.prog 7 #[.agg #[.int .i64 a0_0, .int .i64 a0_1, .int .i64 a0_2], .int .i64 a1] w fun e w' => e = .returned (.bool r) ∧ Below w.heap.size w w' := by
  obtain rfl := Option.some.inj h
  obtain ⟨d0, d1, d2, L, d4, d5, d6, d7, Z, cd, ⟨k1, h1⟩, ⟨k2, h2⟩, hL, hp, hZ, hz⟩ := newDev_ev a0_0 a0_1 a0_2 a1
  have hm1 : (L.length : Int) * (3 + (16 : Nat)) ≤ 1900 := by
    have : (L.length : Int) ≤ 100 := by omega
    omega
  obtain ⟨m1, L', e1, e2, e3, ⟨k3, h3⟩, e5⟩ := markB_ev 16 L 1 (by omega) hp (by omega) (by omega)
  have hm2 : (Z.length : Int) * (3 + (3 : Nat)) ≤ 600 := by
    have : (Z.length : Int) ≤ 100 := by omega
    omega
  obtain ⟨m, Z', q1, q2, q3, ⟨k4, h4⟩, q5⟩ := markZ_ev 3 Z m1 (by omega) (fun x hx => (hz x hx).1) (by omega) (by omega)
  obtain ⟨k5, h5⟩ := heldDev_ev d0 d1 d2 L' d4 d5 d6 d7 Z' 1 m1 m (by omega) (by omega) e5 q5
  obtain ⟨k6, h6⟩ := eqD_self d0 d1 d2 L d4 d5 d6 d7 Z (fun x hx => by have := hp x hx; omega) (by omega) (fun x hx => by obtain ⟨a, b, c⟩ := hz x hx; rw [b, c]; exact ⟨by omega, by decide, by decide⟩) (by omega)
  have hk : ∀ j, j ≤ k1 + k2 + k3 + k4 + k5 + k6 → True := fun _ _ => trivial
  exact newDevice_core (k1 + k2 + k3 + k4 + k5 + k6) a0_0 a0_1 a0_2 a1 d0 d1 d2 L d4 d5 d6 d7 Z cd m1 m L' Z' w (h1 _ (by omega)) (h2 _ (by omega)) (h6 _ (by omega)) (h3 _ (by omega)) (h4 _ (by omega)) (h5 _ (by omega)) (by omega) e1.symm q1.symm (fun x hx => (hz x hx).2)
end Go.Proofs.Ytaecdlhomihejaa.Q
