/- The specification's ValidFlash, as one truth value. Conditions: those before each theorem. -/
import Derived.Test.YtdjbphffibcbeaaFlashV
import Derived.Test.YtdjbphffibcbeaaQ6
namespace Go.Proofs.Ytdjbphffibcbeaa.Q
open Go.RowKit Go.Proofs.YtdjbphffibcbeaaW.PrintWords
set_option linter.unusedVariables false
theorem sgeo_eq (d b p : Int) : spec_ValidGeometry.f d b p = some (geoB d b p) := by
  unfold spec_ValidGeometry.f geoB
  rw [l00In_eq, Option.bind_some, l00In_eq]
  by_cases c1 : 2 ≤ d ∧ d ≤ 3
  · rw [decide_eq_true c1, if_pos rfl, Bool.true_and, Option.bind_some]
    by_cases c2 : 4 ≤ b ∧ b ≤ 12
    · rw [decide_eq_true c2, if_pos rfl, Bool.true_and]
      by_cases c3 : p = 8
      · rw [if_pos c3, decide_eq_true c3, Bool.true_or]
      · rw [if_neg c3, decide_eq_false c3, Bool.false_or]
        rfl
    · rw [decide_eq_false c2, if_neg (by decide), Bool.false_and]
  · rw [decide_eq_false c1, if_neg (by decide), Bool.false_and]
theorem sflash_loop (d b p : Int) (l : List S68) (u v : Int) (o : Bool) (z : Int) (hs : ∀ x ∈ l, x.f3.length ≤ 9223372036854775807) (hl : l.length ≤ 9223372036854775806) (dd : Nat) : ∀ i : Nat, i ≤ l.length → l.length - i = dd →
    Ev (fun k => spec_ValidFlash.l0 k i d b p l u v o z) ((l.drop i).all (blkB p)) := by
  induction dd with
  | zero =>
    intro i h1 h2
    rw [List.drop_of_length_le (by omega)]
    refine Ev.step (f := fun _ => some true) (fun k => ?_) (Ev.now _)
    rw [spec_ValidFlash.l0, if_neg (by omega)]
  | succ dd ih =>
    intro i h1 h2
    have hi : i < l.length := by omega
    rw [List.drop_eq_getElem_cons hi, List.all_cons]
    have e1 := sblk_ev p l[i] (hs _ (List.getElem_mem _))
    have hstep : ∀ k, spec_ValidFlash.l0 (k + 1) i d b p l u v o z = (spec_l06Block.f k (l[i].f0) (l[i].f1) (l[i].f2) (l[i].f3) p).bind fun t => if t = true then spec_ValidFlash.l0 k ((i + 1 : Nat) : Int) d b p l u v o z else some false := by
      intro k
      rw [spec_ValidFlash.l0, if_pos (by omega), if_pos (by omega), show rd_T68 l (i : Int) = l[i] from by simp [rd_T68, hi], wrap64_id (by omega) (by omega)]
      rfl
    cases hb : blkB p l[i] with
    | true =>
      rw [hb] at e1
      rw [Bool.true_and]
      exact Ev.step hstep (Ev.bind e1 (Ev.if_pos rfl (ih (i + 1) (by omega) (by omega))))
    | false =>
      rw [hb] at e1
      rw [Bool.false_and]
      exact Ev.step hstep (Ev.bind e1 (Ev.if_neg (by decide) (Ev.now _)))
theorem sflash_ev (d b p : Int) (l : List S68) (u v : Int) (o : Bool) (z : Int) (hs : ∀ x ∈ l, x.f3.length ≤ 9223372036854775807) (hl : l.length ≤ 9223372036854775806) :
    Ev (fun k => spec_ValidFlash.f k d b p l u v o z) (flashB d b p l u v z) := by
  have off : Ev (fun k => spec_ValidFlash.j0 k true d b p l u v o z) false := Ev.step (f := fun _ => some false) (fun k => by rw [spec_ValidFlash.j0, if_pos rfl]) (Ev.now _)
  unfold spec_ValidFlash.f flashB
  rw [sgeo_eq]
  cases hg : geoB d b p with
  | false => exact Ev.bind1 rfl (Ev.if_neg (by decide) off)
  | true =>
    rw [Bool.true_and]
    refine Ev.bind1 rfl (Ev.if_pos rfl ?_)
    by_cases c1 : (l.length : Int) = wrap64 (d * b)
    · rw [decide_eq_true c1, Bool.true_and]
      refine Ev.if_pos c1 ?_
      rw [l00In_eq]
      by_cases c2 : -1 ≤ u ∧ u ≤ 1000000
      · rw [decide_eq_true c2, Bool.true_and]
        refine Ev.bind1 rfl (Ev.if_pos rfl ?_)
        rw [l00In_eq]
        by_cases c3 : 0 ≤ v ∧ v ≤ 91
        · rw [decide_eq_true c3, Bool.true_and]
          refine Ev.bind1 rfl (Ev.if_pos rfl ?_)
          by_cases c4 : 0 ≤ z
          · rw [decide_eq_true c4, Bool.true_and, decide_eq_false (show ¬ z < 0 from by omega)]
            have := sflash_loop d b p l u v o z hs hl l.length 0 (by omega) (by omega)
            rw [List.drop_zero] at this
            refine Ev.step (fun k => ?_) this
            rw [spec_ValidFlash.j0, if_neg (by decide)]
            rfl
          · rw [decide_eq_false c4, Bool.false_and, decide_eq_true (show z < 0 from by omega)]
            exact off
        · rw [decide_eq_false c3, Bool.false_and]
          exact Ev.bind1 rfl (Ev.if_neg (by decide) off)
      · rw [decide_eq_false c2, Bool.false_and]
        exact Ev.bind1 rfl (Ev.if_neg (by decide) off)
    · rw [decide_eq_false c1, Bool.false_and]
      exact Ev.if_neg c1 off
end Go.Proofs.Ytdjbphffibcbeaa.Q
