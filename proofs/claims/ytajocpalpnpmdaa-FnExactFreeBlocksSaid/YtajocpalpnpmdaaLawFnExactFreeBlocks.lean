/- The statement FnExactFreeBlocksSaid: for every input the law answers true, and the input reads as it did. No condition. -/
import Derived.Test.YtajocpalpnpmdaaRows
import Derived.Test.YtajocpalpnpmdaaSayFnExactFreeBlocks
import Derived.Test.YtajocpalpnpmdaaPureFnExactFreeBlocks
import Derived.WalkKit
import Derived.ProofKit
import Derived.OpenShut
import Derived.ShutString
import Derived.ChangeOld
import Derived.Below
import Derived.SizedLaws
import Derived.Carry
namespace Go.Proofs.Ytajocpalpnpmdaa.fnExactFreeBlocks
open Go.ChangeShapes Go.WideShapes Go.ChangeAt Go.RowKit Go.Proofs.Ytajocpalpnpmdaa.Opens Go.Proofs.Ytajocpalpnpmdaa.Q Go.Proofs.YtajocpalpnpmdaaW.PrintWords
open Go.ChangeMaps (open_string shut_string)
set_option linter.unusedVariables false
theorem own : ownKnob Try.prog.godebug = none := by kernel_rfl
theorem laidOut : laidOutB Try.prog = true := by kernel_rfl
set_option maxRecDepth 100000 in
theorem lifted (os : Os) (started : os.Started) (H : Type) (enc : TypeId × Value → H) :
    ReturnsInHanded {} Try.checked os 4 .any (Rows.fnExactFreeBlocksSpec.pre6 enc Try.prog Try.f4 Rows.fnExactFreeBlocksRow.domain false) (Rows.fnExactFreeBlocksSpec.post enc Try.prog Try.f4 false true false false) := by
  refine returnsInHanded_of_change_sized (C := Try.checked) own started (by kernel_rfl) Try.func4
    (ChangeSpec.witness6 (enc := enc) (C := Try.checked) false ⟨#[], #[.agg #[.int .i64 0, .int .i64 0, .int .i64 0, .slice none 0 0, .int .i64 0, .int .i64 0, .bool false, .int .i64 0, .int .i64 0, .int .i64 0, .slice none 0 0, .slice none 0 0, .slice none 0 0, .int .i64 0, .int .i64 0, .slice none 0 0, .slice none 0 0, .int .i64 0, .int .i64 0]], []⟩ 8 (by kernel_rfl) (by kernel_rfl) (by kernel_rfl) (by kernel_rfl)) ?_
  intro W base args ds gs before hval0 hW hcnd hsz0 _
  have hsz : (DataW.weightsEach Try.prog (Try.f4.params.toList ++ Rows.fnExactFreeBlocksSpec.plain.varTypes Try.prog) (ds ++ gs)).all (· ≤ reachBytes) = true := hsz0
  have hval : ∀ (j : Nat) t v, Try.f4.params[j]? = some t → args[j]? = some v → Value.okWide Try.prog W .any base t v := hval0
  have hW' := hW
  obtain ⟨p, q, hA0, hV, rfl, hfz, hnd⟩ := hW
  have hA : DataW.TrodAll enc Try.prog W 0 (fun _ => true) true Try.f4.params.toList args.toList ds p := hA0
  rw [Try.params4] at hA hval hsz
  obtain ⟨v0, vs0, d0, ds0, p0, q0, hargs, rfl, rfl, h0, r0⟩ := trodAll_cons hA
  obtain ⟨rfl, rfl, rfl⟩ := trodAll_nil r0
  obtain rfl : args = #[v0] := by cases args; simp_all
  obtain ⟨rfl, rfl⟩ := trodVars_none hV
  have lt0 : ∀ x ∈ p0, x.block < W.heap.size := by obtain ⟨m, hm⟩ := h0; exact DataW.trod_lt m _ _ _ hm
  have k0 := h0
  have wg0 : ∀ m ∈ d0.weights Try.prog 34, m ≤ reachBytes := fun m hm => of_decide_eq_true (List.all_eq_true.1 hsz m (DataW.weights_mem_each (j := 0) rfl rfl m hm))
  obtain ⟨fuel0, hf0⟩ := h0
  obtain ⟨x0, K0, g0⟩ := op34 (enc := enc) fuel0 _ _ _ hf0 wg0
  obtain ⟨cs0, rfl, _⟩ := okWide_struct Try.underlying34 (hval 0 34 v0 rfl rfl)
  obtain ⟨A0_3, c0_3, A0_10, c0_10, A0_11, c0_11, A0_12, c0_12, A0_15, c0_15, A0_16, c0_16, e0, l0_3, r0_3, l0_10, r0_10, l0_11, r0_11, l0_12, r0_12, l0_15, r0_15, l0_16, r0_16⟩ := k34_open K0
  obtain rfl : cs0 = #[.int .i64 x0.f0.f0.f0, .int .i64 x0.f0.f0.f1, .int .i64 x0.f0.f0.f2, .slice A0_3 x0.f0.f1.length c0_3, .int .i64 x0.f0.f2, .int .i64 x0.f0.f3, .bool x0.f0.f4, .int .i64 x0.f0.f5, .int .i64 x0.f1.f0, .int .i64 x0.f1.f1, .slice A0_10 x0.f1.f2.length c0_10, .slice A0_11 x0.f1.f3.length c0_11, .slice A0_12 x0.f2.f0.length c0_12, .int .i64 x0.f2.f1, .int .i64 x0.f3, .slice A0_15 x0.f4.length c0_15, .slice A0_16 x0.f5.length c0_16, .int .i64 x0.f6, .int .i64 x0.f7] := Array.toList_inj.1 e0
  have h := Pure.FnExactFreeBlocks _ g0
  clear hA0 hval0 hsz0 hsz
  refine (Q.laws_FnExactFreeBlocks.calls x0.f0.f0.f0 x0.f0.f0.f1 x0.f0.f0.f2 A0_3 c0_3 x0.f0.f1 x0.f0.f2 x0.f0.f3 x0.f0.f4 x0.f0.f5 x0.f1.f0 x0.f1.f1 A0_10 c0_10 x0.f1.f2 A0_11 c0_11 x0.f1.f3 A0_12 c0_12 x0.f2.f0 x0.f2.f1 x0.f3 A0_15 c0_15 x0.f4 A0_16 c0_16 x0.f5 x0.f6 x0.f7 true W r0_3 l0_3 r0_10 l0_10 r0_11 l0_11 r0_12 l0_12 r0_15 l0_15 r0_16 l0_16 h).mono fun e W' ⟨he, bel0⟩ => ?_
  subst he
  have bel : Below W.heap.size W W' := bel0
  exact ⟨_, rfl, _, _, _, [], _, [], hW', trodAll_mk1 (shut_bool Try.underlying4 _), (trodAll_cons_mk (Below.trod laidOut (by kernel_rfl) (of_decide_eq_true (by kernel_rfl)) k0 bel lt0) trodAll_mk0), rfl, bel.frame _, fun h => by cases h⟩
theorem over : Rows.fnExactFreeBlocksRow.holds Try.pinned (OpenSpec.ofChange Rows.fnExactFreeBlocksSpec) :=
  OpenClaim.holds_of_wide 4 Try.f4 rfl rfl rfl rfl rfl rfl rfl ⟨rfl, rfl, rfl, rfl, rfl⟩ rfl rfl rfl rfl rfl (by kernel_rfl) Try.func4 (by kernel_rfl)
    (of_decide_eq_true (by kernel_rfl)) (by unfold Func.isWrapper; first | (rw [if_pos (by decide +kernel)]; kernel_rfl) | (rw [if_neg (by decide +kernel)]; exact ⟨rfl, rfl⟩))
    (fun os started H enc _ => lifted os started H enc)
theorem proved : Rows.FnExactFreeBlocksSaid := over
#print axioms proved
end Go.Proofs.Ytajocpalpnpmdaa.fnExactFreeBlocks
namespace Go.Proofs.Ytajocpalpnpmdaa
/-- The row, under a short name, for the claim. -/
theorem fnExactFreeBlocks_holds : Rows.FnExactFreeBlocksSaid := fnExactFreeBlocks.proved
end Go.Proofs.Ytajocpalpnpmdaa
