/- The law FnExactDecodeBlock, as a statement over numbers and lists. No condition. -/
import Derived.Test.YtogndjjoeahccaaSayFnExactDecodeBlock
import Derived.Test.YtogndjjoeahccaaSpecRead
import Derived.Test.YtogndjjoeahccaaMarkRec
import Derived.Test.YtogndjjoeahccaaEqRecS
namespace Go.Proofs.Ytogndjjoeahccaa.Pure
open Go.RowKit Go.Proofs.Ytogndjjoeahccaa.Q Go.Proofs.YtogndjjoeahccaaW.PrintWords
set_option linter.unusedVariables false
theorem FnExactDecodeBlock : laws_FnExactDecodeBlock.Pure := by
  intro s _
  unfold laws_FnExactDecodeBlock.f
  refine Ev.rounds ?_
  by_cases hz : (s.size : Int) > 1048576
  · exact Ev.if_pos hz (Ev.now _)
  refine Ev.if_neg hz ?_
  have hs : s.size ≤ 1048576 := by omega
  obtain ⟨g, q1, q2, hgl⟩ : ∃ g : List S49 × Int, Ev (fun k => spec_DecodeBlock.f k s) g ∧ Ev (fun k => impl_DecodeBlock.f k s) g ∧ g.1.length ≤ 16 := by
    have hi := implDec_ev s hs
    unfold spec_DecodeBlock.f impl_DecodeBlock.f
    by_cases h : ∃ l : List S49, Q.Good l ∧ encB l = s
    · obtain ⟨l, hg, rfl⟩ := h
      rw [decI_enc l hg] at hi
      exact ⟨(l, 0), Ev.bind (readS_good l hg hs) (Ev.if_pos rfl (Ev.now _)), Ev.bind hi (Ev.if_pos rfl (Ev.now _)), hg.2.1⟩
    · rw [decI_not s h] at hi
      obtain ⟨a, b, hr⟩ := readS_not s hs h
      exact ⟨([], 6), Ev.bind hr (Ev.if_neg (by simp) (Ev.now _)), Ev.bind hi (Ev.if_neg (by simp) (Ev.now _)), by simp⟩
  have n2 : (1 : Int) + 5 * ((g.1.length : Nat) : Int) ≤ 9223372036854775800 := by omega
  have mg := markRecordS_ev g.1 1 (by omega) n2
  have hd := heldRecordS_ev g.1.length 1 (by omega) n2
  have eg := eqRecordS_self g.1 (by omega)
  have q3 : ¬ ((1 : Int) + 5 * ((g.1.length : Nat) : Int) < 0) := by omega
  have jj1 : Ev (fun k => laws_FnExactDecodeBlock.j1 k (markedR 1 g.1.length) (1 + 5 * (g.1.length : Int)) (g.2 != g.2)) true := by
    refine Ev.step (f := fun k => (laws_heldRecordS.f k (markedR 1 g.1.length) 1).bind fun t => if t < 0 then some false else if t = 1 + 5 * (g.1.length : Int) then some true else some false) (fun k => ?_) (Ev.bind hd (Ev.if_neg q3 (Ev.if_pos rfl (Ev.now _))))
    rw [laws_FnExactDecodeBlock.j1, if_neg (by simp)]
  refine Ev.bind q1 (Ev.bind q2 (Ev.bind eg (Ev.if_pos rfl ?_)))
  refine Ev.step (f := fun k => (laws_markRecordS.f k g.1 1).bind fun bt => (laws_heldRecordS.f k bt.2 1).bind fun t => if t < 0 then some false else if t = bt.1 then ((impl_DecodeBlock.f k s).bind fun b2 => (laws_eqRecordS.f k b2.1 g.1).bind fun t3 => if t3 = true then laws_FnExactDecodeBlock.j1 k bt.2 bt.1 (b2.2 != g.2) else laws_FnExactDecodeBlock.j1 k bt.2 bt.1 true) else some false) (fun k => ?_) (Ev.bind mg (Ev.bind hd (Ev.if_neg q3 (Ev.if_pos rfl (Ev.bind q2 (Ev.bind eg (Ev.if_pos rfl jj1)))))))
  rw [laws_FnExactDecodeBlock.j0, if_neg (by simp)]
end Go.Proofs.Ytogndjjoeahccaa.Pure
