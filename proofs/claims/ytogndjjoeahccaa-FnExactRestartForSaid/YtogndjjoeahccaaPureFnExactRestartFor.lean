/- The law FnExactRestartFor, as a statement over numbers and lists. No condition. -/
import Derived.Test.YtogndjjoeahccaaSayFnExactRestartFor
import Derived.Test.YtogndjjoeahccaaSpecRead
import Derived.Test.YtogndjjoeahccaaRunKeys
import Derived.Test.YtogndjjoeahccaaKeyOk
namespace Go.Proofs.Ytogndjjoeahccaa.Pure
open Go.RowKit Go.Proofs.Ytogndjjoeahccaa.Q Go.Proofs.YtogndjjoeahccaaW.PrintWords
set_option linter.unusedVariables false
def bestR (P : Nat → Bool) : Nat → Nat → Int → Int
  | 0, _, b => b
  | d + 1, i, b => bestR P d (i + 1) (if P (4 * i) = true then (i : Int) else b)
theorem bestR_stop (P : Nat → Bool) : ∀ (d i : Nat) (b : Int), (∀ j, i ≤ j → j < i + d → P (4 * j) = false) → bestR P d i b = b
  | 0, i, b, h => rfl
  | d + 1, i, b, h => by
    unfold bestR
    rw [if_neg (by rw [h i (by omega) (by omega)]; decide)]
    exact bestR_stop P d (i + 1) b fun j h1 h2 => h j (by omega) (by omega)
def lessK (l : List S49) (key : ByteArray) (j : Nat) : Bool := Op.bytesLess (rd_T49 l (j : Int)).f0.toList key.toList
theorem spec_loop (l : List S49) (key : ByteArray) (rs : List Int) (hm : rs.length = (l.length + 3) / 4) (hl : l.length ≤ 1000) (d : Nat) : ∀ (i : Nat) (b : Int), i ≤ rs.length → rs.length - i = d → Ev (fun k => spec_RestartFor.l0 k key l rs b (i : Int)) (bestR (lessK l key) d i b, 0) := by
  induction d with
  | zero =>
    intro i b h1 h2
    refine Ev.step (f := fun _ => some (b, 0)) (fun k => ?_) (Ev.now _)
    rw [spec_RestartFor.l0, if_neg (by omega)]
  | succ d ih =>
    intro i b h1 h2
    have ei : wrap64 ((i : Int) + 1) = ((i + 1 : Nat) : Int) := by unfold wrap64; omega
    have e4 : wrap64 ((i : Int) * 4) = ((4 * i : Nat) : Int) := by unfold wrap64; omega
    unfold bestR
    by_cases c : lessK l key (4 * i) = true
    · rw [if_pos c]
      refine Ev.step (fun k => ?_) (ih (i + 1) (i : Int) (by omega) (by omega))
      rw [spec_RestartFor.l0, e4, if_pos (by omega), if_pos (by omega), if_pos (by omega), if_pos (show Op.bytesLess (rd_T49 l ((4 * i : Nat) : Int)).f0.toList key.toList = true from c), ei]
    · rw [if_neg c]
      refine Ev.step (fun k => ?_) (ih (i + 1) b (by omega) (by omega))
      rw [spec_RestartFor.l0, e4, if_pos (by omega), if_pos (by omega), if_pos (by omega), if_neg (show ¬ Op.bytesLess (rd_T49 l ((4 * i : Nat) : Int)).f0.toList key.toList = true from c), ei]
theorem impl_loop (l : List S49) (key : ByteArray) (hr : runFrom l l.length 0 = true) (hl : l.length ≤ 1000) (d : Nat) : ∀ (i : Nat) (b : Int), i ≤ (l.length + 3) / 4 → (l.length + 3) / 4 - i = d → Ev (fun k => impl_RestartFor.l0 k key l b ((4 * i : Nat) : Int)) (bestR (lessK l key) d i b, 0) := by
  induction d with
  | zero =>
    intro i b h1 h2
    refine Ev.step (f := fun _ => some (b, 0)) (fun k => ?_) (Ev.now _)
    rw [impl_RestartFor.l0, if_neg (by omega)]
  | succ d ih =>
    intro i b h1 h2
    have ei : wrap64 (((4 * i : Nat) : Int) + 4) = ((4 * (i + 1) : Nat) : Int) := by unfold wrap64; omega
    have e4 : wrap64 (Int.tdiv ((4 * i : Nat) : Int) 4) = (i : Int) := by
      rw [Int.tdiv_eq_ediv_of_nonneg (by omega)]
      unfold wrap64
      omega
    by_cases c : lessK l key (4 * i) = true
    · unfold bestR
      rw [if_pos c]
      refine Ev.step (fun k => ?_) (ih (i + 1) (i : Int) (by omega) (by omega))
      rw [impl_RestartFor.l0, if_pos (by omega), if_pos (by omega), if_pos (show Op.bytesLess (rd_T49 l ((4 * i : Nat) : Int)).f0.toList key.toList = true from c), ei, e4]
    · rw [bestR_stop]
      · refine Ev.step (f := fun _ => some (b, 0)) (fun k => ?_) (Ev.now _)
        rw [impl_RestartFor.l0, if_pos (by omega), if_pos (by omega), if_neg (show ¬ Op.bytesLess (rd_T49 l ((4 * i : Nat) : Int)).f0.toList key.toList = true from c)]
      · intro j h3 h4
        cases hq : lessK l key (4 * j) with
        | false => rfl
        | true =>
          refine absurd ?_ c
          have := keys_fall l hr key.toList (4 * i) (4 * j - 4 * i) (by omega)
          rw [show 4 * i + (4 * j - 4 * i) = 4 * j from by omega] at this
          exact this hq
theorem FnExactRestartFor : laws_FnExactRestartFor.Pure := by
  intro s key _ _
  unfold laws_FnExactRestartFor.f
  refine Ev.rounds ?_
  by_cases hz : (s.size : Int) > 1048576
  · exact Ev.if_pos hz (Ev.now _)
  refine Ev.if_neg hz ?_
  by_cases hz2 : (key.size : Int) > 1048576
  · exact Ev.if_pos hz2 (Ev.now _)
  refine Ev.if_neg hz2 ?_
  have hs : s.size ≤ 1048576 := by omega
  obtain ⟨g, q1, q2⟩ : ∃ g : Int × Int, Ev (fun k => spec_RestartFor.f k s key) g ∧ Ev (fun k => impl_RestartFor.f k s key) g := by
    have hi := implDec_ev s hs
    unfold spec_RestartFor.f impl_RestartFor.f impl_seekIn.f
    by_cases h : ∃ l : List S49, Q.Good l ∧ encB l = s
    · obtain ⟨l, hg, rfl⟩ := h
      rw [decI_enc l hg] at hi
      have h16 := hg.2.1
      cases hk : okKey key with
      | false =>
        have k1 := l17Key_eq key
        have k2 := implKey_eq key
        rw [hk] at k1 k2
        exact ⟨(0, 1), Ev.bind (readS_good l hg hs) (Ev.if_pos rfl (Ev.bind1 k1 (Ev.if_neg (by decide) (Ev.now _)))), Ev.bind (Ev.bind hi (Ev.if_pos rfl (Ev.bind1 k2 (Ev.if_neg (by decide) (Ev.now _))))) (Ev.if_neg (by decide) (Ev.now _))⟩
      | true =>
        have k1 := l17Key_eq key
        have k2 := implKey_eq key
        rw [hk] at k1 k2
        have m := rest_len l l.length
        have a1 := spec_loop l key (restL l l.length) m (by omega) ((l.length + 3) / 4) 0 0 (by omega) (by omega)
        have a2 := impl_loop l key hg.2.2 (by omega) ((l.length + 3) / 4) 0 0 (by omega) (by omega)
        exact ⟨_, Ev.bind (readS_good l hg hs) (Ev.if_pos rfl (Ev.bind1 k1 (Ev.if_pos rfl a1))), Ev.bind (Ev.bind hi (Ev.if_pos rfl (Ev.bind1 k2 (Ev.if_pos rfl (Ev.now _))))) (Ev.if_pos rfl a2)⟩
    · rw [decI_not s h] at hi
      obtain ⟨a, b, hr⟩ := readS_not s hs h
      exact ⟨(0, 6), Ev.bind hr (Ev.if_neg (by simp) (Ev.now _)), Ev.bind (Ev.bind hi (Ev.if_neg (by simp) (Ev.now _))) (Ev.if_neg (by simp) (Ev.now _))⟩
  exact Ev.bind q1 (Ev.bind q2 (Ev.if_pos rfl (Ev.if_pos rfl (Ev.now _))))
end Go.Proofs.Ytogndjjoeahccaa.Pure
