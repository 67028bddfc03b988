/- The statement FnExactPickStaticSaid: for every input the law answers true, and the input reads as it did. No condition. -/
import Derived.Test.YtcdkkdlaalbgiaaRows
import Derived.Test.YtcdkkdlaalbgiaaSayFnExactPickStatic
import Derived.Test.YtcdkkdlaalbgiaaPureFnExactPickStatic
import Derived.WalkKit
import Derived.ProofKit
import Derived.OpenShut
import Derived.ShutString
import Derived.ChangeOld
import Derived.Below
import Derived.SizedLaws
import Derived.Carry
namespace Go.Proofs.Ytcdkkdlaalbgiaa.fnExactPickStatic
open Go.ChangeShapes Go.WideShapes Go.ChangeAt Go.RowKit Go.Proofs.Ytcdkkdlaalbgiaa.Opens Go.Proofs.Ytcdkkdlaalbgiaa.Q Go.Proofs.YtcdkkdlaalbgiaaW.PrintWords
open Go.ChangeMaps (open_string shut_string)
set_option linter.unusedVariables false
theorem own : ownKnob Try.prog.godebug = none := by kernel_rfl
theorem laidOut : laidOutB Try.prog = true := by kernel_rfl
set_option maxRecDepth 100000 in
theorem lifted (os : Os) (started : os.Started) (H : Type) (enc : TypeId × Value → H) :
    ReturnsInHanded {} Try.checked os 4 .any (Rows.fnExactPickStaticSpec.pre6 enc Try.prog Try.f4 Rows.fnExactPickStaticRow.domain false) (Rows.fnExactPickStaticSpec.post enc Try.prog Try.f4 false true false false) := by
  refine returnsInHanded_of_change_sized (C := Try.checked) own started (by kernel_rfl) Try.func4
    (ChangeSpec.witness6 (enc := enc) (C := Try.checked) false ⟨#[], #[.slice none 0 0, .slice none 0 0, .slice none 0 0], []⟩ 8 (by kernel_rfl) (by kernel_rfl) (by kernel_rfl) (by kernel_rfl)) ?_
  intro W base args ds gs before hval0 hW hcnd hsz0 _
  have hsz : (DataW.weightsEach Try.prog (Try.f4.params.toList ++ Rows.fnExactPickStaticSpec.plain.varTypes Try.prog) (ds ++ gs)).all (· ≤ reachBytes) = true := hsz0
  have hval : ∀ (j : Nat) t v, Try.f4.params[j]? = some t → args[j]? = some v → Value.okWide Try.prog W .any base t v := hval0
  have hW' := hW
  obtain ⟨p, q, hA0, hV, rfl, hfz, hnd⟩ := hW
  have hA : DataW.TrodAll enc Try.prog W 0 (fun _ => true) true Try.f4.params.toList args.toList ds p := hA0
  rw [Try.params4] at hA hval hsz
  obtain ⟨v0, vs0, d0, ds0, p0, q0, hargs, rfl, rfl, h0, r0⟩ := trodAll_cons hA
  obtain ⟨v1, vs1, d1, ds1, p1, q1, rfl, rfl, rfl, h1, r1⟩ := trodAll_cons r0
  obtain ⟨v2, vs2, d2, ds2, p2, q2, rfl, rfl, rfl, h2, r2⟩ := trodAll_cons r1
  obtain ⟨rfl, rfl, rfl⟩ := trodAll_nil r2
  obtain rfl : args = #[v0, v1, v2] := by cases args; simp_all
  obtain ⟨rfl, rfl⟩ := trodVars_none hV
  have lt0 : ∀ x ∈ p0, x.block < W.heap.size := by obtain ⟨m, hm⟩ := h0; exact DataW.trod_lt m _ _ _ hm
  have k0 := h0
  have wg0 : ∀ m ∈ d0.weights Try.prog 22, m ≤ reachBytes := fun m hm => of_decide_eq_true (List.all_eq_true.1 hsz m (DataW.weights_mem_each (j := 0) rfl rfl m hm))
  obtain ⟨fuel0, hf0⟩ := h0
  obtain ⟨x0, K0, g0⟩ := op22 (enc := enc) fuel0 _ _ _ hf0 wg0
  obtain ⟨b0, n0, m0, rfl⟩ := okWide_slice Try.underlying22 (hval 0 22 v0 rfl rfl)
  obtain ⟨A0, c0, e0, l0, r0_⟩ := K0
  have q0_ : b0 = A0 ∧ n0 = x0.length ∧ m0 = c0 := by simpa [Value.cells] using e0
  obtain ⟨rfl, rfl, rfl⟩ : A0 = b0 ∧ n0 = x0.length ∧ c0 = m0 := ⟨q0_.1.symm, q0_.2.1, q0_.2.2.symm⟩
  have lt1 : ∀ x ∈ p1, x.block < W.heap.size := by obtain ⟨m, hm⟩ := h1; exact DataW.trod_lt m _ _ _ hm
  have k1 := h1
  have wg1 : ∀ m ∈ d1.weights Try.prog 27, m ≤ reachBytes := fun m hm => of_decide_eq_true (List.all_eq_true.1 hsz m (DataW.weights_mem_each (j := 1) rfl rfl m hm))
  obtain ⟨fuel1, hf1⟩ := h1
  obtain ⟨x1, K1, g1⟩ := op27 (enc := enc) fuel1 _ _ _ hf1 wg1
  obtain ⟨b1, n1, m1, rfl⟩ := okWide_slice Try.underlying27 (hval 1 27 v1 rfl rfl)
  obtain ⟨A1, c1, e1, l1, r1_⟩ := K1
  have q1_ : b1 = A1 ∧ n1 = x1.length ∧ m1 = c1 := by simpa [Value.cells] using e1
  obtain ⟨rfl, rfl, rfl⟩ : A1 = b1 ∧ n1 = x1.length ∧ c1 = m1 := ⟨q1_.1.symm, q1_.2.1, q1_.2.2.symm⟩
  have lt2 : ∀ x ∈ p2, x.block < W.heap.size := by obtain ⟨m, hm⟩ := h2; exact DataW.trod_lt m _ _ _ hm
  have k2 := h2
  have wg2 : ∀ m ∈ d2.weights Try.prog 22, m ≤ reachBytes := fun m hm => of_decide_eq_true (List.all_eq_true.1 hsz m (DataW.weights_mem_each (j := 2) rfl rfl m hm))
  obtain ⟨fuel2, hf2⟩ := h2
  obtain ⟨x2, K2, g2⟩ := op22 (enc := enc) fuel2 _ _ _ hf2 wg2
  obtain ⟨b2, n2, m2, rfl⟩ := okWide_slice Try.underlying22 (hval 2 22 v2 rfl rfl)
  obtain ⟨A2, c2, e2, l2, r2_⟩ := K2
  have q2_ : b2 = A2 ∧ n2 = x2.length ∧ m2 = c2 := by simpa [Value.cells] using e2
  obtain ⟨rfl, rfl, rfl⟩ : A2 = b2 ∧ n2 = x2.length ∧ c2 = m2 := ⟨q2_.1.symm, q2_.2.1, q2_.2.2.symm⟩
  obtain ⟨k, h⟩ := Pure.FnExactPickStatic _ _ _ g0 g1 g2
  clear hA0 hval0 hsz0 hsz
  refine (Q.laws_FnExactPickStatic.calls k A0 c0 x0 A1 c1 x1 A2 c2 x2 true W r0_ l0 r1_ l1 r2_ l2 h).mono fun e W' ⟨he, bel0⟩ => ?_
  subst he
  have bel : Below W.heap.size W W' := bel0
  exact ⟨_, rfl, _, _, _, [], _, [], hW', trodAll_mk1 (shut_bool Try.underlying4 _), (trodAll_cons_mk (Below.trod laidOut (by kernel_rfl) (of_decide_eq_true (by kernel_rfl)) k0 bel lt0) (trodAll_cons_mk (Below.trod laidOut (by kernel_rfl) (of_decide_eq_true (by kernel_rfl)) k1 bel lt1) (trodAll_cons_mk (Below.trod laidOut (by kernel_rfl) (of_decide_eq_true (by kernel_rfl)) k2 bel lt2) trodAll_mk0))), rfl, bel.frame _, fun h => by cases h⟩
theorem over : Rows.fnExactPickStaticRow.holds Try.pinned (OpenSpec.ofChange Rows.fnExactPickStaticSpec) :=
  OpenClaim.holds_of_wide 4 Try.f4 rfl rfl rfl rfl rfl rfl rfl ⟨rfl, rfl, rfl, rfl, rfl⟩ rfl rfl rfl rfl rfl (by kernel_rfl) Try.func4 (by kernel_rfl)
    (of_decide_eq_true (by kernel_rfl)) (by unfold Func.isWrapper; first | (rw [if_pos (by decide +kernel)]; kernel_rfl) | (rw [if_neg (by decide +kernel)]; exact ⟨rfl, rfl⟩))
    (fun os started H enc _ => lifted os started H enc)
theorem proved : Rows.FnExactPickStaticSaid := over
#print axioms proved
end Go.Proofs.Ytcdkkdlaalbgiaa.fnExactPickStatic
namespace Go.Proofs.Ytcdkkdlaalbgiaa
/-- The row, under a short name, for the claim. -/
theorem fnExactPickStatic_holds : Rows.FnExactPickStaticSaid := fnExactPickStatic.proved
end Go.Proofs.Ytcdkkdlaalbgiaa
