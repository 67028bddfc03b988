/- The law FnExactSeekBlock, as a statement over numbers and lists. No condition. -/
import Derived.Test.YtogndjjoeahccaaSayFnExactSeekBlock
import Derived.Test.YtogndjjoeahccaaSpecRead
import Derived.Test.YtogndjjoeahccaaRunKeys
import Derived.Test.YtogndjjoeahccaaKeyOk
import Derived.Test.YtogndjjoeahccaaXSeekBlock
namespace Go.Proofs.Ytogndjjoeahccaa.Pure
open Go.RowKit Go.Proofs.Ytogndjjoeahccaa.Q Go.Proofs.YtogndjjoeahccaaW.PrintWords
set_option linter.unusedVariables false
theorem sk_less (key : ByteArray) (seq : Int) (x : S49) (h : Op.bytesLess x.f0.toList key.toList = true) : skP key seq x = false := by
  unfold skP
  have h1 := blk_asym x.f0.toList key.toList (Or.inr h)
  have h2 : (x.f0.toList == key.toList) = false := by
    rw [beq_eq_false_iff_ne]
    intro e
    have := blk_asym x.f0.toList key.toList (Or.inl e)
    rw [e] at h this
    rw [h] at this
    cases this
  rw [h1, h2]
  rfl
theorem sk_same (key : ByteArray) (seq : Int) (x : S49) (h : x.f0.toList = key.toList) : skP key seq x = decide (x.f1 ≤ seq) := by
  unfold skP
  rw [blk_asym x.f0.toList key.toList (Or.inl h), beq_iff_eq.2 h, Bool.false_or, Bool.true_and]
theorem sk_more (key : ByteArray) (seq : Int) (x : S49) (h1 : ¬ Op.bytesLess x.f0.toList key.toList = true) (h2 : ¬ x.f0.toList = key.toList) : skP key seq x = true := by
  unfold skP
  rw [← StrCmp.bytesLess_total x.f0.toList key.toList, Bool.eq_false_iff.2 h1, beq_eq_false_iff_ne.2 h2]
  rfl
theorem spec_loop (l : List S49) (key : ByteArray) (seq : Int) (hl : l.length ≤ 1000) (d : Nat) : ∀ i : Nat, i ≤ l.length → l.length - i = d → (∀ (j : Nat) (y : S49), j < i → l[j]? = some y → skP key seq y = false) → Ev (fun k => spec_SeekBlock.l0 k key seq l (i : Int)) (seekR key seq l, 0) := by
  induction d with
  | zero =>
    intro i h1 h2 h3
    have hi := idxOf_miss (skP key seq) l fun j y hy => h3 j y (by have := (List.getElem?_eq_some_iff.1 hy).1; omega) hy
    have hs : seekR key seq l = (l.length : Int) := by unfold seekR; rw [hi]; rfl
    rw [hs]
    refine Ev.step (f := fun _ => some ((l.length : Int), 0)) (fun k => ?_) (Ev.now _)
    rw [spec_SeekBlock.l0, if_neg (by omega), show i = l.length from by omega]
  | succ d ih =>
    intro i h1 h2 h3
    have hi : i < l.length := by omega
    have ei : wrap64 ((i : Int) + 1) = ((i + 1 : Nat) : Int) := by unfold wrap64; omega
    have hx : rd_T49 l (i : Int) = l[i] := by simp [rd_T49, hi]
    have more : skP key seq (rd_T49 l (i : Int)) = false → ∀ (j : Nat) (y : S49), j < i + 1 → l[j]? = some y → skP key seq y = false := by
      intro hq j y hj hy
      by_cases e : j = i
      · subst e
        rw [List.getElem?_eq_getElem hi] at hy
        rw [← Option.some.inj hy, ← hx]
        exact hq
      · exact h3 j y (by omega) hy
    have hit : skP key seq (rd_T49 l (i : Int)) = true → seekR key seq l = (i : Int) := by
      intro hq
      have := idxOf_hit (skP key seq) l i l[i] (List.getElem?_eq_getElem hi) (by rw [← hx]; exact hq) h3
      unfold seekR
      rw [this, if_neg (by omega)]
    by_cases c1 : Op.bytesLess (rd_T49 l (i : Int)).f0.toList key.toList = true
    · refine Ev.step (fun k => ?_) (ih (i + 1) (by omega) (by omega) (more (sk_less key seq _ c1)))
      rw [spec_SeekBlock.l0, if_pos (by omega), if_pos (by omega), if_pos c1, ei]
    · by_cases c2 : (rd_T49 l (i : Int)).f0.toList = key.toList
      · have hs := sk_same key seq _ c2
        by_cases c3 : (rd_T49 l (i : Int)).f1 > seq
        · rw [decide_eq_false (by omega)] at hs
          refine Ev.step (fun k => ?_) (ih (i + 1) (by omega) (by omega) (more hs))
          rw [spec_SeekBlock.l0, if_pos (by omega), if_pos (by omega), if_neg c1, if_pos c2, if_pos c3, ei]
        · rw [decide_eq_true (by omega)] at hs
          rw [hit hs]
          refine Ev.step (f := fun _ => some ((i : Int), 0)) (fun k => ?_) (Ev.now _)
          rw [spec_SeekBlock.l0, if_pos (by omega), if_pos (by omega), if_neg c1, if_pos c2, if_neg c3]
      · rw [hit (sk_more key seq _ c1 c2)]
        refine Ev.step (f := fun _ => some ((i : Int), 0)) (fun k => ?_) (Ev.now _)
        rw [spec_SeekBlock.l0, if_pos (by omega), if_pos (by omega), if_neg c1, if_neg c2]
theorem FnExactSeekBlock : laws_FnExactSeekBlock.Pure := by
  intro s key seq _ _ _
  unfold laws_FnExactSeekBlock.f
  refine Ev.rounds ?_
  by_cases hz : (s.size : Int) > 1048576
  · exact Ev.if_pos hz (Ev.now _)
  refine Ev.if_neg hz ?_
  by_cases hz2 : (key.size : Int) > 1048576
  · exact Ev.if_pos hz2 (Ev.now _)
  refine Ev.if_neg hz2 ?_
  have hs : s.size ≤ 1048576 := by omega
  obtain ⟨g, q1, q2⟩ : ∃ g : Int × Int, Ev (fun k => spec_SeekBlock.f k s key seq) g ∧ Ev (fun k => impl_SeekBlock.f k s key seq) g := by
    have hi := implDec_ev s hs
    unfold spec_SeekBlock.f impl_SeekBlock.f impl_seekIn.f
    by_cases h : ∃ l : List S49, Q.Good l ∧ encB l = s
    · obtain ⟨l, hg, rfl⟩ := h
      rw [decI_enc l hg] at hi
      have h16 := hg.2.1
      cases hk : okKey key with
      | false =>
        have k1 := l17Key_eq key
        have k2 := implKey_eq key
        rw [hk] at k1 k2
        exact ⟨(0, 1), Ev.bind (readS_good l hg hs) (Ev.if_pos rfl (Ev.bind1 k1 (Ev.if_neg (by decide) (Ev.now _)))), Ev.bind (Ev.bind hi (Ev.if_pos rfl (Ev.bind1 k2 (Ev.if_neg (by decide) (Ev.now _))))) (Ev.if_neg (by decide) (Ev.now _))⟩
      | true =>
        have k1 := l17Key_eq key
        have k2 := implKey_eq key
        rw [hk] at k1 k2
        have a1 := spec_loop l key seq (by omega) l.length 0 (by omega) (by omega) (fun j y hj => absurd hj (by omega))
        exact ⟨_, Ev.bind (readS_good l hg hs) (Ev.if_pos rfl (Ev.bind1 k1 (Ev.if_pos rfl a1))), Ev.bind (Ev.bind hi (Ev.if_pos rfl (Ev.bind1 k2 (Ev.if_pos rfl (Ev.now _))))) (Ev.if_pos rfl (Ev.now _))⟩
    · rw [decI_not s h] at hi
      obtain ⟨a, b, hr⟩ := readS_not s hs h
      exact ⟨(0, 6), Ev.bind hr (Ev.if_neg (by simp) (Ev.now _)), Ev.bind (Ev.bind hi (Ev.if_neg (by simp) (Ev.now _))) (Ev.if_neg (by simp) (Ev.now _))⟩
  exact Ev.bind q1 (Ev.bind q2 (Ev.if_pos rfl (Ev.if_pos rfl (Ev.now _))))
end Go.Proofs.Ytogndjjoeahccaa.Pure
