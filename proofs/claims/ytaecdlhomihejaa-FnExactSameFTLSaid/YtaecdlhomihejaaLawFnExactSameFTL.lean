/- The statement FnExactSameFTLSaid: for every input the law answers true, and the input reads as it did. No condition. -/
import Derived.Test.YtaecdlhomihejaaRows
import Derived.Test.YtaecdlhomihejaaSayFnExactSameFTL
import Derived.Test.YtaecdlhomihejaaPureFnExactSameFTL
import Derived.WalkKit
import Derived.ProofKit
import Derived.OpenShut
import Derived.ShutString
import Derived.ChangeOld
import Derived.Below
import Derived.SizedLaws
import Derived.Carry
namespace Go.Proofs.Ytaecdlhomihejaa.fnExactSameFTL
open Go.ChangeShapes Go.WideShapes Go.ChangeAt Go.RowKit Go.Proofs.Ytaecdlhomihejaa.Opens Go.Proofs.Ytaecdlhomihejaa.Q Go.Proofs.YtaecdlhomihejaaW.PrintWords
open Go.ChangeMaps (open_string shut_string)
set_option linter.unusedVariables false
theorem own : ownKnob Try.prog.godebug = none := by kernel_rfl
theorem laidOut : laidOutB Try.prog = true := by kernel_rfl
set_option maxRecDepth 100000 in
theorem lifted (os : Os) (started : os.Started) (H : Type) (enc : TypeId × Value → H) :
    ReturnsInHanded {} Try.checked os 9 .any (Rows.fnExactSameFTLSpec.pre6 enc Try.prog Try.f9 Rows.fnExactSameFTLRow.domain false) (Rows.fnExactSameFTLSpec.post enc Try.prog Try.f9 false true false false) := by
  refine returnsInHanded_of_change_sized (C := Try.checked) own started (by kernel_rfl) Try.func9
    (ChangeSpec.witness6 (enc := enc) (C := Try.checked) false ⟨#[], #[.agg #[.int .i64 0, .int .i64 0, .int .i64 0, .slice none 0 0, .int .i64 0, .int .i64 0, .bool false, .int .i64 0, .int .i64 0, .int .i64 0, .slice none 0 0, .slice none 0 0, .slice none 0 0, .int .i64 0, .int .i64 0, .slice none 0 0, .slice none 0 0, .int .i64 0, .int .i64 0], .agg #[.int .i64 0, .int .i64 0, .int .i64 0, .slice none 0 0, .int .i64 0, .int .i64 0, .bool false, .int .i64 0, .int .i64 0, .int .i64 0, .slice none 0 0, .slice none 0 0, .slice none 0 0, .int .i64 0, .int .i64 0, .slice none 0 0, .slice none 0 0, .int .i64 0, .int .i64 0]], []⟩ 8 (by kernel_rfl) (by kernel_rfl) (by kernel_rfl) (by kernel_rfl)) ?_
  intro W base args ds gs before hval0 hW hcnd hsz0 _
  have hsz : (DataW.weightsEach Try.prog (Try.f9.params.toList ++ Rows.fnExactSameFTLSpec.plain.varTypes Try.prog) (ds ++ gs)).all (· ≤ reachBytes) = true := hsz0
  have hval : ∀ (j : Nat) t v, Try.f9.params[j]? = some t → args[j]? = some v → Value.okWide Try.prog W .any base t v := hval0
  have hW' := hW
  obtain ⟨p, q, hA0, hV, rfl, hfz, hnd⟩ := hW
  have hA : DataW.TrodAll enc Try.prog W 0 (fun _ => true) true Try.f9.params.toList args.toList ds p := hA0
  rw [Try.params9] at hA hval hsz
  obtain ⟨v0, vs0, d0, ds0, p0, q0, hargs, rfl, rfl, h0, r0⟩ := trodAll_cons hA
  obtain ⟨v1, vs1, d1, ds1, p1, q1, rfl, rfl, rfl, h1, r1⟩ := trodAll_cons r0
  obtain ⟨rfl, rfl, rfl⟩ := trodAll_nil r1
  obtain rfl : args = #[v0, v1] := by cases args; simp_all
  obtain ⟨rfl, rfl⟩ := trodVars_none hV
  have lt0 : ∀ x ∈ p0, x.block < W.heap.size := by obtain ⟨m, hm⟩ := h0; exact DataW.trod_lt m _ _ _ hm
  have k0 := h0
  have wg0 : ∀ m ∈ d0.weights Try.prog 34, m ≤ reachBytes := fun m hm => of_decide_eq_true (List.all_eq_true.1 hsz m (DataW.weights_mem_each (j := 0) rfl rfl m hm))
  obtain ⟨fuel0, hf0⟩ := h0
  obtain ⟨x0, K0, g0⟩ := op34 (enc := enc) fuel0 _ _ _ hf0 wg0
  obtain ⟨cs0, rfl, _⟩ := okWide_struct Try.underlying34 (hval 0 34 v0 rfl rfl)
  obtain ⟨A0_3, c0_3, A0_10, c0_10, A0_11, c0_11, A0_12, c0_12, A0_15, c0_15, A0_16, c0_16, e0, l0_3, r0_3, l0_10, r0_10, l0_11, r0_11, l0_12, r0_12, l0_15, r0_15, l0_16, r0_16⟩ := k34_open K0
  obtain rfl : cs0 = #[.int .i64 x0.f0.f0.f0, .int .i64 x0.f0.f0.f1, .int .i64 x0.f0.f0.f2, .slice A0_3 x0.f0.f1.length c0_3, .int .i64 x0.f0.f2, .int .i64 x0.f0.f3, .bool x0.f0.f4, .int .i64 x0.f0.f5, .int .i64 x0.f1.f0, .int .i64 x0.f1.f1, .slice A0_10 x0.f1.f2.length c0_10, .slice A0_11 x0.f1.f3.length c0_11, .slice A0_12 x0.f2.f0.length c0_12, .int .i64 x0.f2.f1, .int .i64 x0.f3, .slice A0_15 x0.f4.length c0_15, .slice A0_16 x0.f5.length c0_16, .int .i64 x0.f6, .int .i64 x0.f7] := Array.toList_inj.1 e0
  have lt1 : ∀ x ∈ p1, x.block < W.heap.size := by obtain ⟨m, hm⟩ := h1; exact DataW.trod_lt m _ _ _ hm
  have k1 := h1
  have wg1 : ∀ m ∈ d1.weights Try.prog 34, m ≤ reachBytes := fun m hm => of_decide_eq_true (List.all_eq_true.1 hsz m (DataW.weights_mem_each (j := 1) rfl rfl m hm))
  obtain ⟨fuel1, hf1⟩ := h1
  obtain ⟨x1, K1, g1⟩ := op34 (enc := enc) fuel1 _ _ _ hf1 wg1
  obtain ⟨cs1, rfl, _⟩ := okWide_struct Try.underlying34 (hval 1 34 v1 rfl rfl)
  obtain ⟨A1_3, c1_3, A1_10, c1_10, A1_11, c1_11, A1_12, c1_12, A1_15, c1_15, A1_16, c1_16, e1, l1_3, r1_3, l1_10, r1_10, l1_11, r1_11, l1_12, r1_12, l1_15, r1_15, l1_16, r1_16⟩ := k34_open K1
  obtain rfl : cs1 = #[.int .i64 x1.f0.f0.f0, .int .i64 x1.f0.f0.f1, .int .i64 x1.f0.f0.f2, .slice A1_3 x1.f0.f1.length c1_3, .int .i64 x1.f0.f2, .int .i64 x1.f0.f3, .bool x1.f0.f4, .int .i64 x1.f0.f5, .int .i64 x1.f1.f0, .int .i64 x1.f1.f1, .slice A1_10 x1.f1.f2.length c1_10, .slice A1_11 x1.f1.f3.length c1_11, .slice A1_12 x1.f2.f0.length c1_12, .int .i64 x1.f2.f1, .int .i64 x1.f3, .slice A1_15 x1.f4.length c1_15, .slice A1_16 x1.f5.length c1_16, .int .i64 x1.f6, .int .i64 x1.f7] := Array.toList_inj.1 e1
  obtain ⟨k, h⟩ := Pure.FnExactSameFTL _ _ g0 g1
  clear hA0 hval0 hsz0 hsz
  refine (Q.laws_FnExactSameFTL.calls k x0.f0.f0.f0 x0.f0.f0.f1 x0.f0.f0.f2 A0_3 c0_3 x0.f0.f1 x0.f0.f2 x0.f0.f3 x0.f0.f4 x0.f0.f5 x0.f1.f0 x0.f1.f1 A0_10 c0_10 x0.f1.f2 A0_11 c0_11 x0.f1.f3 A0_12 c0_12 x0.f2.f0 x0.f2.f1 x0.f3 A0_15 c0_15 x0.f4 A0_16 c0_16 x0.f5 x0.f6 x0.f7 x1.f0.f0.f0 x1.f0.f0.f1 x1.f0.f0.f2 A1_3 c1_3 x1.f0.f1 x1.f0.f2 x1.f0.f3 x1.f0.f4 x1.f0.f5 x1.f1.f0 x1.f1.f1 A1_10 c1_10 x1.f1.f2 A1_11 c1_11 x1.f1.f3 A1_12 c1_12 x1.f2.f0 x1.f2.f1 x1.f3 A1_15 c1_15 x1.f4 A1_16 c1_16 x1.f5 x1.f6 x1.f7 true W r0_3 l0_3 r0_10 l0_10 r0_11 l0_11 r0_12 l0_12 r0_15 l0_15 r0_16 l0_16 r1_3 l1_3 r1_10 l1_10 r1_11 l1_11 r1_12 l1_12 r1_15 l1_15 r1_16 l1_16 h).mono fun e W' ⟨he, bel0⟩ => ?_
  subst he
  have bel : Below W.heap.size W W' := bel0
  exact ⟨_, rfl, _, _, _, [], _, [], hW', trodAll_mk1 (shut_bool Try.underlying4 _), (trodAll_cons_mk (Below.trod laidOut (by kernel_rfl) (of_decide_eq_true (by kernel_rfl)) k0 bel lt0) (trodAll_cons_mk (Below.trod laidOut (by kernel_rfl) (of_decide_eq_true (by kernel_rfl)) k1 bel lt1) trodAll_mk0)), rfl, bel.frame _, fun h => by cases h⟩
theorem over : Rows.fnExactSameFTLRow.holds Try.pinned (OpenSpec.ofChange Rows.fnExactSameFTLSpec) :=
  OpenClaim.holds_of_wide 9 Try.f9 rfl rfl rfl rfl rfl rfl rfl ⟨rfl, rfl, rfl, rfl, rfl⟩ rfl rfl rfl rfl rfl (by kernel_rfl) Try.func9 (by kernel_rfl)
    (of_decide_eq_true (by kernel_rfl)) (by unfold Func.isWrapper; first | (rw [if_pos (by decide +kernel)]; kernel_rfl) | (rw [if_neg (by decide +kernel)]; exact ⟨rfl, rfl⟩))
    (fun os started H enc _ => lifted os started H enc)
theorem proved : Rows.FnExactSameFTLSaid := over
#print axioms proved
end Go.Proofs.Ytaecdlhomihejaa.fnExactSameFTL
namespace Go.Proofs.Ytaecdlhomihejaa
/-- The row, under a short name, for the claim. -/
theorem fnExactSameFTL_holds : Rows.FnExactSameFTLSaid := fnExactSameFTL.proved
end Go.Proofs.Ytaecdlhomihejaa
