/- The law FnExactSavedBytes, as a statement over numbers and lists. No condition. -/
import Derived.Test.YtogndjjoeahccaaSayFnExactSavedBytes
import Derived.Test.YtogndjjoeahccaaSpecRead
import Derived.Test.YtogndjjoeahccaaXSavedBytes
namespace Go.Proofs.Ytogndjjoeahccaa.Pure
open Go.RowKit Go.Proofs.Ytogndjjoeahccaa.Q Go.Proofs.YtogndjjoeahccaaW.PrintWords
set_option linter.unusedVariables false
theorem spec_loop (l : List S49) (hl : l.length ≤ 1000) (ha : ∀ j, shortE (rd_T49 l j) = true) (d : Nat) : ∀ i : Nat, 1 ≤ i → i ≤ l.length → l.length - i = d → Ev (fun k => spec_SavedBytes.l0 k l ((svN l i : Nat) : Int) (i : Int)) (((svN l l.length : Nat) : Int), 0) := by
  induction d with
  | zero =>
    intro i h0 h1 h2
    refine Ev.step (f := fun _ => some (((svN l l.length : Nat) : Int), 0)) (fun k => ?_) (Ev.now _)
    rw [spec_SavedBytes.l0, if_neg (by omega), show i = l.length from by omega]
  | succ d ih =>
    intro i h0 h1 h2
    have ei : wrap64 ((i : Int) + 1) = ((i + 1 : Nat) : Int) := by unfold wrap64; omega
    have em : wrap64 ((i : Int) - 1) = ((i - 1 : Nat) : Int) := by unfold wrap64; omega
    have et : Int.tmod (i : Int) 4 = ((i % 4 : Nat) : Int) := by rw [Int.tmod_eq_emod_of_nonneg (by omega)]; omega
    have hn := ih (i + 1) (by omega) (by omega) (by omega)
    by_cases c : i % 4 = 0
    · have e : svN l (i + 1) = svN l i := by show svN l i + nSh l i = _; rw [show nSh l i = 0 from if_pos c, Nat.add_zero]
      rw [e] at hn
      refine Ev.step (fun k => ?_) hn
      rw [spec_SavedBytes.l0, if_pos (by omega), et, if_pos (by omega), ei]
    · have e : svN l (i + 1) = svN l i + sharedN (rd_T49 l ((i - 1 : Nat) : Int)).f0 (rd_T49 l (i : Int)).f0 := by show svN l i + nSh l i = _; rw [show nSh l i = _ from if_neg c]
      have h3 := (of_decide_eq_true (ha ((i - 1 : Nat) : Int))).1
      have h4 := svN_le l ha i
      have h5 := shared_le (rd_T49 l ((i - 1 : Nat) : Int)).f0 (rd_T49 l (i : Int)).f0 (by omega)
      have en : wrap64 (((svN l i : Nat) : Int) + ((sharedN (rd_T49 l ((i - 1 : Nat) : Int)).f0 (rd_T49 l (i : Int)).f0 : Nat) : Int)) = ((svN l (i + 1) : Nat) : Int) := by
        rw [e, wrap64_id (by omega) (by omega)]
        rfl
      refine Ev.step (f := fun k => (spec_l20Shared.f k (rd_T49 l ((i - 1 : Nat) : Int)).f0 (rd_T49 l (i : Int)).f0).bind fun t => spec_SavedBytes.l0 k l (wrap64 (((svN l i : Nat) : Int) + t)) ((i + 1 : Nat) : Int)) (fun k => ?_) (Ev.bind (specShared_ev _ _ (by omega)) (by rw [en]; exact hn))
      rw [spec_SavedBytes.l0, if_pos (by omega), et, if_neg (by omega), em, if_pos (by omega), if_pos (by omega), if_pos (by omega), ei]
theorem FnExactSavedBytes : laws_FnExactSavedBytes.Pure := by
  intro s _
  unfold laws_FnExactSavedBytes.f
  refine Ev.rounds ?_
  by_cases hz : (s.size : Int) > 1048576
  · exact Ev.if_pos hz (Ev.now _)
  refine Ev.if_neg hz ?_
  have hs : s.size ≤ 1048576 := by omega
  obtain ⟨g, q1, q2⟩ : ∃ g : Int × Int, Ev (fun k => spec_SavedBytes.f k s) g ∧ Ev (fun k => impl_SavedBytes.f k s) g := by
    have hi := implDec_ev s hs
    unfold spec_SavedBytes.f impl_SavedBytes.f
    by_cases h : ∃ l : List S49, Q.Good l ∧ encB l = s
    · obtain ⟨l, hg, rfl⟩ := h
      rw [decI_enc l hg] at hi
      have h16 := hg.2.1
      have hsh := run_short l hg.2.2
      have a1 := spec_loop l (by omega) (short_all l hsh) (l.length - 1) 1 (by omega) hg.1 (by omega)
      exact ⟨_, Ev.bind (readS_good l hg hs) (Ev.if_pos rfl a1), Ev.bind hi (Ev.if_pos rfl (Ev.if_pos (by show l.length ≤ 1000; omega) (Ev.if_pos hsh (Ev.now _))))⟩
    · rw [decI_not s h] at hi
      obtain ⟨a, b, hr⟩ := readS_not s hs h
      exact ⟨(0, 6), Ev.bind hr (Ev.if_neg (by simp) (Ev.now _)), Ev.bind hi (Ev.if_neg (by simp) (Ev.now _))⟩
  exact Ev.bind q1 (Ev.bind q2 (Ev.if_pos rfl (Ev.if_pos rfl (Ev.now _))))
end Go.Proofs.Ytogndjjoeahccaa.Pure
