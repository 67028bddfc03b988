/- The law FnExactNewFTL's contract: it answers true. Conditions: none beyond its arguments' kinds. -/
import Derived.Test.YtaecdlhomihejaaXLawNewFTL
import Derived.Test.YtaecdlhomihejaaEqFtlP
import Derived.Test.YtaecdlhomihejaaNewFtlP
namespace Go.Proofs.Ytaecdlhomihejaa.Q
open Go.RowKit Go.Proofs.YtaecdlhomihejaaW.PrintWords
set_option linter.unusedVariables false
def laws_FnExactNewFTL.f (a0_0 : Int) (a0_1 : Int) (a0_2 : Int) (a1 : Int) (a2 : Int) (a3 : Int) : Option (Bool) := some true
theorem laws_FnExactNewFTL.calls (a0_0 : Int) (a0_1 : Int) (a0_2 : Int) (a1 : Int) (a2 : Int) (a3 : Int) (r : Bool) (w : World) (h : laws_FnExactNewFTL.f a0_0 a0_1 a0_2 a1 a2 a3 = some r) :
    Calls Try.prog 10 #[.agg #[.int .i64 a0_0, .int .i64 a0_1, .int .i64 a0_2], .int .i64 a1, .int .i64 a2, .int .i64 a3] w fun e w' => e = .returned (.bool r) ∧ Below w.heap.size w w' := by
  obtain rfl := Option.some.inj h
  obtain ⟨r0, r1, r2, RL, r4, r5, r6, r7, r8, r9, RM, RT, RH, r13, r14, RO, RX, r17, r18, cd, hS, hI, hl, hs, hm, ht, hh, ho, hx⟩ := newFtl_ev a0_0 a0_1 a0_2 a1 a2 a3
  obtain ⟨m1, m2, m3, m4, m, L', M', T', H', O', X', e3, e10, e11, e12, e15, e16, hm0, ⟨k1, h1⟩, ⟨k2, h2⟩, ⟨k3, h3⟩, ⟨k4, h4⟩, ⟨k5, h5⟩, ⟨k6, h6⟩⟩ := markT_ev r0 r1 r2 RL r4 r5 r6 r7 r8 r9 RM RT RH r13 r14 RO RX r17 r18 hl hs hm ht hh ho hx
  obtain ⟨k7, h7⟩ := eqT_self r0 r1 r2 RL r4 r5 r6 r7 r8 r9 RM RT RH r13 r14 RO RX r17 r18 (fun x hx => by have := hs x hx; omega) (by omega) (by omega) (by omega) (by omega) (by omega) (by omega)
  exact newFTL_core (k1 + k2 + k3 + k4 + k5 + k6 + k7) a0_0 a0_1 a0_2 a1 a2 a3 r0 r1 r2 RL r4 r5 r6 r7 r8 r9 RM RT RH r13 r14 RO RX r17 r18 cd m1 m2 m3 m4 m L' M' T' H' O' X' w hS hI (h7 _ (by omega)) (h1 _ (by omega)) (h2 _ (by omega)) (h3 _ (by omega)) (h4 _ (by omega)) (h5 _ (by omega)) (h6 _ (by omega)) hm0 e3.symm e10.symm e11.symm e12.symm e15.symm e16.symm
end Go.Proofs.Ytaecdlhomihejaa.Q
