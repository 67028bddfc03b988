/- What the program's test of a page map asks of its lists, as truth values. Conditions: the lists are not longer than memory. -/
import Derived.Test.YtajocpalpnpmdaaQ5
import Derived.Test.YtajocpalpnpmdaaInOk
import Derived.Test.YtajocpalpnpmdaaXMidMap
namespace Go.Proofs.Ytajocpalpnpmdaa.Q
open Go.RowKit Go.Proofs.YtajocpalpnpmdaaW.PrintWords Go.Proofs.YtajocpalpnpmdaaW.PrintMore Go.Proofs.YtajocpalpnpmdaaW.PrintLast
set_option linter.unusedVariables false
def impl_sizeOk.f (a0 : Int) (a1 : Int) : Option (Bool) := some (decide (1 ≤ a0 ∧ a0 ≤ 640) && decide (1 ≤ a1 ∧ a1 ≤ 640 / a0))
set_option maxHeartbeats 2000000 in
set_option maxRecDepth 100000 in
theorem impl_sizeOk.calls (a0 : Int) (a1 : Int) (r : Bool) (w : World) (h : impl_sizeOk.f a0 a1 = some r) :
    Calls Try.prog 55 #[.int .i64 a0, .int .i64 a1] w fun e w' => e = .returned (.bool r) ∧ Drawn0 w w' := by
  obtain rfl := Option.some.inj h
  clear h
  by_cases c : 1 ≤ a0 ∧ a0 ≤ 640
  · rw [decide_eq_true c, Bool.true_and]
    obtain ⟨q, hq⟩ : ∃ q, q = 640 / a0 := ⟨_, rfl⟩
    have hq0 : 0 ≤ q := by rw [hq]; exact Int.ediv_nonneg (by omega) (by omega)
    have hq1 : q ≤ 640 := by rw [hq]; exact Int.ediv_le_self _ (by omega)
    have e1 : Int.tdiv 640 a0 = q := by rw [Int.tdiv_eq_ediv_of_nonneg (by omega), ← hq]
    have e2 : wrap64 q = q := wrap64_id (by omega) (by omega)
    have e3 : IntKind.i64.wrap q = q := wraps_i64 _ (by omega) (by omega)
    have e4 : (a0 == 0) = false := beq_eq_false_iff_ne.2 (by omega)
    have e5 : ¬ a0 = 0 := by omega
    have H0 := Aside0.mk (impl_within.calls a0 1 640 true w (by rw [within_eq, decide_eq_true c]))
    have H1 := Aside0.mk (fun W => impl_within.calls a1 1 q _ W (within_eq a1 1 q))
    rw [← hq]
    clear hq hq0 hq1 c
    generalize decide (1 ≤ a1 ∧ a1 ≤ q) = b at H1 ⊢
    go_enter Try.func55, Try.ntmps55
    go_wp2_with (first | (go_at_call 29; refine H0.out.mono ?_; rintro e w' ⟨rfl, ⟨nd, rfl⟩⟩; clear H0) | (go_at_call 29; refine (H1.out _).mono ?_; rintro e w' ⟨rfl, ⟨nd, rfl⟩⟩))
    go_ret
    exact ⟨rfl, by repeat (first | exact Drawn0.refl _ | apply Drawn0.step)⟩
  · rw [decide_eq_false c, Bool.false_and]
    have H0 := Aside0.mk (impl_within.calls a0 1 640 false w (by rw [within_eq, decide_eq_false c]))
    clear c
    go_enter Try.func55, Try.ntmps55
    go_wp2_with (go_at_call 29; refine H0.out.mono ?_; rintro e w' ⟨rfl, ⟨nd, rfl⟩⟩)
    go_ret
    exact ⟨rfl, by repeat (first | exact Drawn0.refl _ | apply Drawn0.step)⟩
end Go.Proofs.Ytajocpalpnpmdaa.Q
namespace Go.Proofs.Ytajocpalpnpmdaa.Q
open Go.RowKit Go.Proofs.YtajocpalpnpmdaaW.PrintWords
set_option linter.unusedVariables false
theorem index_loop (xs : List Int) (x : Int) (hl : xs.length ≤ 9223372036854775806) (d : Nat) : ∀ i : Nat, i ≤ xs.length → xs.length - i = d →
    ∃ r, Ev (fun k => slices_Index_int64_int64.l0 k xs x (xs.length : Int) i) r ∧ decide (r ≥ 0) = (xs.drop i).any fun y => y == x := by
  induction d with
  | zero =>
    intro i h1 h2
    refine ⟨-1, Ev.step (f := fun _ => some (-1)) (fun k => ?_) (Ev.now _), ?_⟩
    · rw [slices_Index_int64_int64.l0, if_neg (by omega)]
    · rw [List.drop_of_length_le (by omega)]
      rfl
  | succ d ih =>
    intro i h1 h2
    have hi : i < xs.length := by omega
    have e1 : xs.drop i = xs[i] :: xs.drop (i + 1) := List.drop_eq_getElem_cons hi
    by_cases h : x = xs[i]
    · refine ⟨(i : Int), Ev.step (f := fun _ => some (i : Int)) (fun k => ?_) (Ev.now _), ?_⟩
      · rw [slices_Index_int64_int64.l0, if_pos (by omega), if_pos (by omega), if_pos (by omega), rd_get xs i hi, if_pos h]
      · rw [e1, List.any_cons, show (xs[i] == x) = true from beq_iff_eq.2 h.symm, Bool.true_or]
        exact decide_eq_true (by omega)
    · obtain ⟨r, hr, hd⟩ := ih (i + 1) (by omega) (by omega)
      refine ⟨r, Ev.step (fun k => ?_) hr, ?_⟩
      · rw [slices_Index_int64_int64.l0, if_pos (by omega), if_pos (by omega), if_pos (by omega), rd_get xs i hi, if_neg h, wrap64_id (by omega) (by omega)]
        rfl
      · rw [e1, List.any_cons, show (xs[i] == x) = false from beq_eq_false_iff_ne.2 (fun q => h q.symm), Bool.false_or, hd]
theorem contains_ev (xs : List Int) (x : Int) (hl : xs.length ≤ 9223372036854775806) : Ev (fun k => slices_Contains_int64_int64.f k xs x) (xs.any fun y => y == x) := by
  obtain ⟨r, hr, hd⟩ := index_loop xs x hl xs.length 0 (by omega) (by omega)
  rw [List.drop_zero] at hd
  rw [← hd]
  exact Ev.bind (g := fun k => slices_Index_int64_int64.f k xs x) hr (Ev.now _)
theorem take_any (M : List Int) (i : Nat) (hi : i ≤ M.length) (x : Int) : ((M.take i).any fun y => y == x) = !((List.range i).all fun j => !(rd M j == x)) := by
  rw [List.not_all_eq_any_not, Bool.eq_iff_iff, List.any_eq_true, List.any_eq_true]
  constructor
  · rintro ⟨y, hy, he⟩
    obtain ⟨j, hj, rfl⟩ := List.mem_iff_getElem.1 hy
    rw [List.length_take] at hj
    refine ⟨j, List.mem_range.2 (by omega), ?_⟩
    rw [rd_get M j (by omega)]
    simpa using he
  · rintro ⟨j, hj, he⟩
    have hj := List.mem_range.1 hj
    refine ⟨M[j]'(by omega), ?_, ?_⟩
    · exact List.mem_iff_getElem.2 ⟨j, by rw [List.length_take]; omega, by simp⟩
    · rw [rd_get M j (by omega)] at he
      simpa using he
theorem sizeOk_eq (a b : Int) (n : Nat) : (decide (1 ≤ (n : Int) ∧ (n : Int) ≤ 48) && (decide (1 ≤ a ∧ a ≤ 640) && decide (1 ≤ b ∧ b ≤ 640 / a))) = sizeB n a b := by
  unfold sizeB
  congr 1
  by_cases ha : 1 ≤ a ∧ a ≤ 640
  · rw [decide_eq_true ha, Bool.true_and, Bool.true_and]
    by_cases hb : 1 ≤ b
    · have hdiv : b ≤ 640 / a ↔ b * a ≤ 640 := Int.le_ediv_iff_mul_le (by omega)
      have hcomm : b * a = a * b := Int.mul_comm b a
      by_cases hb2 : b ≤ 640
      · have hp : a * b ≤ 640 * 640 := Int.mul_le_mul ha.2 hb2 (by omega) (by omega)
        have hp0 : 0 ≤ a * b := Int.mul_nonneg (by omega) (by omega)
        rw [wrap64_id (by omega) (by omega), decide_eq_true (show 1 ≤ b ∧ b ≤ 640 from ⟨hb, hb2⟩), Bool.true_and]
        exact decide_eq_decide.2 ⟨fun h => by have := hdiv.1 h.2; omega, fun h => ⟨hb, hdiv.2 (by omega)⟩⟩
      · rw [decide_eq_false (show ¬ (1 ≤ b ∧ b ≤ 640) by omega), Bool.false_and]
        refine decide_eq_false fun h => ?_
        have h2 := hdiv.1 h.2
        have : b * 1 ≤ b * a := Int.mul_le_mul_of_nonneg_left ha.1 (by omega)
        omega
    · rw [decide_eq_false (show ¬ (1 ≤ b ∧ b ≤ 640 / a) from fun h => hb h.1), decide_eq_false (show ¬ (1 ≤ b ∧ b ≤ 640) from fun h => hb h.1), Bool.false_and]
  · rw [decide_eq_false ha, Bool.false_and, Bool.false_and]
end Go.Proofs.Ytajocpalpnpmdaa.Q
