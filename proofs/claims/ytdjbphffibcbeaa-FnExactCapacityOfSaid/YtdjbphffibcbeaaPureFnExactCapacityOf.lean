/- The law FnExactCapacityOf, as a statement over numbers and lists. No condition. -/
import Derived.Test.YtdjbphffibcbeaaSayFnExactCapacityOf
import Derived.Test.YtdjbphffibcbeaaSpecDev
import Derived.Test.YtdjbphffibcbeaaXCapacity
import Derived.Test.YtdjbphffibcbeaaQ12
import Derived.Test.YtdjbphffibcbeaaZoneC
namespace Go.Proofs.Ytdjbphffibcbeaa.Pure
open Go.RowKit Go.Proofs.Ytdjbphffibcbeaa.Q Go.Proofs.YtdjbphffibcbeaaW.PrintWords
set_option linter.unusedVariables false
theorem devIn {x : S29} (h : G15 x) : DevIn x := by
  obtain ⟨⟨_, ⟨_, hb, hy⟩, _⟩, ⟨_, hz, he⟩⟩ := h
  exact ⟨by omega, fun y q => by obtain ⟨_, _, _, ⟨_, g2, g3⟩⟩ := hy y q; exact ⟨by omega, fun z hz => g3 z hz⟩, by omega, fun y q => by obtain ⟨_, ⟨_, g1, _⟩, _, _, ⟨_, g4, _⟩, ⟨_, g5, g6⟩⟩ := he y q; exact ⟨by omega, by omega, by omega, fun z hz => g6 z hz⟩⟩
theorem FnExactCapacityOf : laws_FnExactCapacityOf.Pure := by
  intro x gx
  have hx := devIn gx
  unfold laws_FnExactCapacityOf.f
  refine Ev.rounds ?_
  obtain ⟨r1, e1, q1⟩ := szDev_ev x hx 1048576 (by omega) (by omega)
  by_cases c1 : r1 < 0
  · exact Ev.bind e1 (Ev.if_pos c1 (Ev.now _))
  have tx := toDev_ev x hx
  have b0 := hx.blocks
  have hp := toB_len x.f0.f1 hx.pages
  have hl : (x.f0.f1.map toB).length ≤ 9223372036854775806 := by rw [List.length_map]; omega
  have hz := toZ_sh x.f1 hx.each
  have s := sdev_ev x.f0.f0.f0 x.f0.f0.f1 x.f0.f0.f2 (x.f0.f1.map toB) x.f0.f2 x.f0.f3 x.f0.f4 x.f0.f5 (x.f1.map toZ) (fun z hz => by have := hp z hz; omega) hl (fun y hy => by have q := hz y hy; obtain ⟨q1, q4, q5⟩ := q; exact ⟨by omega, by omega, by omega⟩)
  have i : Ev (fun k => impl_CapacityOf.f x.f0.f0.f0 x.f0.f0.f1 x.f0.f0.f2 (x.f0.f1.map toB) x.f0.f2 x.f0.f3 x.f0.f4 x.f0.f5 (x.f1.map toZ)) (if devB x.f0.f0.f0 x.f0.f0.f1 x.f0.f0.f2 (x.f0.f1.map toB) x.f0.f2 x.f0.f3 x.f0.f5 (x.f1.map toZ) = true then wrap64 (wrap64 (x.f0.f0.f0 - 1) * x.f0.f0.f2) else 0) := ⟨0, fun _ _ => rfl⟩
  have sc : Ev (fun k => spec_CapacityOf.f k x.f0.f0.f0 x.f0.f0.f1 x.f0.f0.f2 (x.f0.f1.map toB) x.f0.f2 x.f0.f3 x.f0.f4 x.f0.f5 (x.f1.map toZ)) (if devB x.f0.f0.f0 x.f0.f0.f1 x.f0.f0.f2 (x.f0.f1.map toB) x.f0.f2 x.f0.f3 x.f0.f5 (x.f1.map toZ) = true then wrap64 (wrap64 (x.f0.f0.f0 - 1) * x.f0.f0.f2) else 0) := by
    unfold spec_CapacityOf.f
    refine Ev.bind s ?_
    cases devB x.f0.f0.f0 x.f0.f0.f1 x.f0.f0.f2 (x.f0.f1.map toB) x.f0.f2 x.f0.f3 x.f0.f5 (x.f1.map toZ) with
    | true => exact Ev.now _
    | false => exact Ev.now _
  have ex := eqDev_self x hx
  exact Ev.bind e1 (Ev.if_neg c1 (Ev.bind tx (Ev.bind sc (Ev.bind tx (Ev.bind i (Ev.if_pos rfl (Ev.bind tx (Ev.bind ex (Ev.if_pos rfl (Ev.now _))))))))))
end Go.Proofs.Ytdjbphffibcbeaa.Pure
