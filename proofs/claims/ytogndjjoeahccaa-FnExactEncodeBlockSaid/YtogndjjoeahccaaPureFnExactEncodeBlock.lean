/- The law FnExactEncodeBlock, as a statement over numbers and lists. No condition. -/
import Derived.Test.YtogndjjoeahccaaSayFnExactEncodeBlock
import Derived.Test.YtogndjjoeahccaaRunS
import Derived.Test.YtogndjjoeahccaaRecS
import Derived.Test.YtogndjjoeahccaaEncOk
import Derived.Test.YtogndjjoeahccaaXEncBlock
namespace Go.Proofs.Ytogndjjoeahccaa.Pure
open Go.RowKit Go.Proofs.Ytogndjjoeahccaa.Q Go.Proofs.YtogndjjoeahccaaW.PrintWords
set_option linter.unusedVariables false
theorem FnExactEncodeBlock : laws_FnExactEncodeBlock.Pure := by
  intro l hg
  obtain ⟨hl, hb, he⟩ : l.length ≤ maxLen ∧ l.length * 64 ≤ 140737488351232 ∧ ∀ y ∈ l, _ := hg
  have hs : ∀ x ∈ l, small x := by
    intro x hx
    obtain ⟨g0, _, _, g3, g4⟩ := he x hx
    exact ⟨g0, g3, g4⟩
  have hw : ∀ x ∈ l.map toR, (Lit.int .i64 x.f1).wf = true := by
    intro x hx
    obtain ⟨y, hy, rfl⟩ := List.mem_map.1 hx
    exact (he y hy).2.1
  obtain ⟨r, e, a, b, c⟩ := szRecordS_ev l hs (by omega) 1048576 (by omega) (by omega)
  unfold laws_FnExactEncodeBlock.f
  refine Ev.rounds ?_
  refine Ev.bind e ?_
  by_cases h : r < 0
  · exact Ev.if_pos h (Ev.now _)
  refine Ev.if_neg h ?_
  have hn := c (by omega)
  have hlen : ((l.map toR).length : Int) ≤ 1000000000 := by rw [List.length_map]; omega
  have p1 := l17Run_ev (l.map toR) hlen
  have p2 := implRun_eq (l.map toR) hlen hw
  have t := toRecordS_ev l (by omega)
  have ex := eqRecordS_self (l.map toR) (by omega)
  obtain ⟨g, q1, q2⟩ : ∃ g : ByteArray × Int, Ev (fun k => spec_EncodeBlock.f k (l.map toR)) g ∧ Ev (fun k => impl_EncodeBlock.f k (l.map toR)) g := by
    have sj : ∀ b : Bool, b = true → Ev (fun k => spec_EncodeBlock.j0 k (l.map toR) b) ((⟨#[]⟩ : ByteArray), 1) := fun b hb => Ev.step (f := fun _ => some ((⟨#[]⟩ : ByteArray), 1)) (fun k => by rw [spec_EncodeBlock.j0, if_pos hb]) (Ev.now _)
    have ij : ∀ b : Bool, b = true → Ev (fun k => impl_EncodeBlock.j0 k (l.map toR) b) ((⟨#[]⟩ : ByteArray), 1) := fun b hb => Ev.step (f := fun _ => some ((⟨#[]⟩ : ByteArray), 1)) (fun k => by rw [impl_EncodeBlock.j0, if_pos hb]) (Ev.now _)
    unfold spec_EncodeBlock.f impl_EncodeBlock.f
    by_cases hz : ((l.map toR).length : Int) = 0
    · refine ⟨((⟨#[]⟩ : ByteArray), 1), ?_, Ev.if_pos hz (ij true rfl)⟩
      refine Ev.bind p1 ?_
      cases runFrom (l.map toR) (l.map toR).length 0 with
      | true => exact Ev.if_pos rfl (sj _ (beq_iff_eq.2 hz))
      | false => exact Ev.if_neg (by decide) (sj true rfl)
    · cases hv : runFrom (l.map toR) (l.map toR).length 0 with
      | false =>
        rw [hv] at p1 p2
        exact ⟨((⟨#[]⟩ : ByteArray), 1), Ev.bind p1 (Ev.if_neg (by decide) (sj true rfl)), Ev.if_neg hz (Ev.bind1 p2 (ij _ rfl))⟩
      | true =>
        have hsh := run_short _ hv
        rw [hv] at p1 p2
        by_cases h16 : ((l.map toR).length : Int) > 16
        · refine ⟨((⟨#[]⟩ : ByteArray), 4), Ev.bind p1 (Ev.if_pos rfl (Ev.step (f := fun _ => some ((⟨#[]⟩ : ByteArray), 4)) (fun k => ?_) (Ev.now _))), Ev.if_neg hz (Ev.bind1 p2 (Ev.step (f := fun _ => some ((⟨#[]⟩ : ByteArray), 4)) (fun k => ?_) (Ev.now _)))⟩
          · rw [spec_EncodeBlock.j0, if_neg (by simpa using hz), if_pos h16]
          · rw [impl_EncodeBlock.j0, if_neg (by decide), if_pos h16]
        · have se := l20Encode_ev (l.map toR) (by omega) hsh
          have ie : impl_encodeBlock.f (l.map toR) = some (encB (l.map toR)) := by
            unfold impl_encodeBlock.f
            rw [if_pos ⟨by omega, by omega⟩, if_pos hsh]
          refine ⟨(encB (l.map toR), 0), Ev.bind p1 (Ev.if_pos rfl (Ev.step (f := fun k => (spec_l20Encode.f k (l.map toR)).bind fun t => some (t.1, 0)) (fun k => ?_) (Ev.bind se (Ev.now _)))), Ev.if_neg hz (Ev.bind1 p2 (Ev.step (f := fun _ => some (encB (l.map toR), 0)) (fun k => ?_) (Ev.now _)))⟩
          · rw [spec_EncodeBlock.j0, if_neg (by simpa using hz), if_neg h16]
          · rw [impl_EncodeBlock.j0, if_neg (by decide), if_neg h16, ie, Option.bind_some]
  refine Ev.bind t (Ev.bind q1 (Ev.bind t (Ev.bind q2 (Ev.if_pos rfl ?_))))
  refine Ev.step (f := fun k => (laws_toRecordS.f k l).bind fun t1 => (laws_eqRecordS.f k (l.map toR) t1).bind fun t2 => if t2 = true then some true else some false) (fun k => ?_) (Ev.bind t (Ev.bind ex (Ev.if_pos rfl (Ev.now _))))
  rw [laws_FnExactEncodeBlock.j0, if_neg (by simp)]
end Go.Proofs.Ytogndjjoeahccaa.Pure
