/- The law FnExactRecordText, as a statement over numbers and lists. No condition. -/
import Derived.Test.YtogndjjoeahccaaDoorSayFnExactRecordText
import Derived.Test.YtogndjjoeahccaaDoorTextOk
import Derived.Test.YtogndjjoeahccaaDoorSzRec
namespace Go.Proofs.YtogndjjoeahccaaDoor.Pure
open Go.RowKit Go.Proofs.YtogndjjoeahccaaDoor.Q Go.Proofs.YtogndjjoeahccaaDoorW.PrintWords
theorem FnExactRecordText : laws_FnExactRecordText.Pure := by
  intro x hg
  unfold laws_FnExactRecordText.f
  refine Ev.rounds ?_
  obtain ⟨r, hr⟩ : ∃ r, laws_szRecord.f x.f0 x.f1 x.f2 x.f3 x.f4 1048576 = some r := by
    unfold laws_szRecord.f
    repeat' split
    all_goals exact ⟨_, rfl⟩
  refine Ev.bind1 hr ?_
  by_cases h : r < 0
  · exact Ev.if_pos h (Ev.now _)
  refine Ev.if_neg h (Ev.bind1 rfl ?_)
  have sv := l17Valid_ev x.f0 x.f1 x.f2 x.f3 x.f4
  have iv := implRec_ev x.f0 x.f1 x.f2 x.f3 x.f4
  cases ok : okRec x.f0 x.f1 x.f2 x.f3 x.f4 with
  | false =>
    rw [ok] at sv iv
    have s : Ev (fun k => spec_RecordText.f k x.f0 x.f1 x.f2 x.f3 x.f4) (⟨#[]⟩ : ByteArray) := Ev.bind sv (Ev.if_neg (by decide) (Ev.now _))
    have i : Ev (fun k => impl_RecordText.f k x.f0 x.f1 x.f2 x.f3 x.f4) (⟨#[]⟩ : ByteArray) := Ev.bind iv (Ev.if_neg (by decide) (Ev.now _))
    exact Ev.bind s (Ev.bind1 rfl (Ev.bind i (Ev.if_pos rfl (Ev.now _))))
  | true =>
    rw [ok] at sv iv
    obtain ⟨k1, s0, s1, n0, n1, v1, e1⟩ := okRec_facts ok
    have st := stext_ev x.f0 x.f1 x.f2 x.f3 x.f4 (by omega) (by omega) (by omega) (by omega) s1 (by omega) (by omega)
    have it := itext_ev x.f0 x.f1 x.f2 x.f3 x.f4 (by omega) (by omega) (by omega) (by omega) s1 (by omega) (by omega)
    have s : Ev (fun k => spec_RecordText.f k x.f0 x.f1 x.f2 x.f3 x.f4) (textB x.f0 x.f1 x.f2 x.f3 x.f4) := Ev.bind sv (Ev.if_pos rfl (Ev.bind st (Ev.now _)))
    have i : Ev (fun k => impl_RecordText.f k x.f0 x.f1 x.f2 x.f3 x.f4) (textB x.f0 x.f1 x.f2 x.f3 x.f4) := Ev.bind iv (Ev.if_pos rfl (Ev.bind it (Ev.now _)))
    exact Ev.bind s (Ev.bind1 rfl (Ev.bind i (Ev.if_pos rfl (Ev.now _))))
end Go.Proofs.YtogndjjoeahccaaDoor.Pure
