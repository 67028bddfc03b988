/- The good blocks, as a list: what the program's good comes to. Conditions: those before each theorem. -/
import Derived.Test.YtcdkkdlaalbgiaaQ2
import Derived.Test.YtcdkkdlaalbgiaaNum
namespace Go.Proofs.Ytcdkkdlaalbgiaa.Q
open Go.RowKit Go.Proofs.YtcdkkdlaalbgiaaW.PrintWords
set_option linter.unusedVariables false
def goodB (bad : List Bool) (i : Int) : Bool := decide (i ≥ (bad.length : Int)) || !rdOf false bad i
def goodFrom (bad : List Bool) : Nat → Nat → List Int
  | 0, _ => []
  | d + 1, i => if goodB bad i = true then (i : Int) :: goodFrom bad d (i + 1) else goodFrom bad d (i + 1)
def goodL (er : List Int) (bad : List Bool) : List Int := goodFrom bad er.length 0
theorem goodFrom_mem (bad : List Bool) : ∀ (d i : Nat) (b : Int), b ∈ goodFrom bad d i → (i : Int) ≤ b ∧ b < i + d
  | 0, i, b, h => by simp [goodFrom] at h
  | d + 1, i, b, h => by
    unfold goodFrom at h
    split at h
    · rcases List.mem_cons.1 h with rfl | h
      · omega
      · have := goodFrom_mem bad d (i + 1) b h; omega
    · have := goodFrom_mem bad d (i + 1) b h; omega
theorem goodL_mem (er : List Int) (bad : List Bool) : ∀ b ∈ goodL er bad, 0 ≤ b ∧ b < er.length := fun b h => by have := goodFrom_mem bad er.length 0 b h; omega
theorem goodFrom_length (bad : List Bool) : ∀ (d i : Nat), (goodFrom bad d i).length ≤ d
  | 0, i => by simp [goodFrom]
  | d + 1, i => by
    have := goodFrom_length bad d (i + 1)
    unfold goodFrom
    split
    · rw [List.length_cons]; omega
    · omega
theorem goodL_length (er : List Int) (bad : List Bool) : (goodL er bad).length ≤ er.length := goodFrom_length bad _ _
theorem good_loop (n : Nat) (bad : List Bool) (hn : n ≤ 17592186044416) (d : Nat) : ∀ (i : Nat) (acc : List Int), i ≤ n → n - i = d → acc.length ≤ i →
    Ev (fun k => impl_good.l0 k bad acc n i) (acc ++ goodFrom bad d i) := by
  induction d with
  | zero =>
    intro i acc h1 h2 h3
    refine Ev.step (f := fun _ => some acc) (fun k => ?_) (by rw [goodFrom, List.append_nil]; exact Ev.now _)
    rw [impl_good.l0, if_neg (by omega)]
  | succ d ih =>
    intro i acc h1 h2 h3
    have hw : wrap64 ((i : Int) + 1) = ((i + 1 : Nat) : Int) := by unfold wrap64; omega
    unfold goodFrom goodB
    by_cases c1 : (i : Int) ≥ (bad.length : Int)
    · rw [decide_eq_true c1, Bool.true_or, if_pos rfl]
      have := ih (i + 1) (acc ++ [(i : Int)]) (by omega) (by omega) (by simp; omega)
      rw [List.append_assoc] at this
      refine Ev.step (fun k => ?_) this
      rw [impl_good.l0, if_pos (by omega), if_pos c1, if_pos (by omega), hw]
    · rw [decide_eq_false c1, Bool.false_or]
      by_cases c2 : rdOf false bad (i : Int) = true
      · rw [c2, if_neg (by decide)]
        refine Ev.step (fun k => ?_) (ih (i + 1) acc (by omega) (by omega) (by omega))
        rw [impl_good.l0, if_pos (by omega), if_neg c1, if_pos (by omega), if_pos (by omega), if_pos c2, hw]
      · rw [Bool.not_eq_true] at c2
        rw [c2, if_pos (by decide)]
        have := ih (i + 1) (acc ++ [(i : Int)]) (by omega) (by omega) (by simp; omega)
        rw [List.append_assoc] at this
        refine Ev.step (fun k => ?_) this
        rw [impl_good.l0, if_pos (by omega), if_neg c1, if_pos (by omega), if_pos (by omega), c2, if_neg (by decide), if_pos (by omega), hw]
theorem good_ev (er : List Int) (bad : List Bool) (hn : er.length ≤ 17592186044416) : Ev (fun k => impl_good.f k er bad) (goodL er bad) := by
  have h := good_loop er.length bad hn er.length 0 [] (by omega) (by omega) (by simp)
  exact h
end Go.Proofs.Ytcdkkdlaalbgiaa.Q
