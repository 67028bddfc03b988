/- The law FnExactSameDevice, as a statement over numbers and lists. No condition. -/
import Derived.Test.YtaecdlhomihejaaSayFnExactSameDevice
import Derived.Test.YtaecdlhomihejaaSpecZ
import Derived.Test.YtaecdlhomihejaaXSameDevice
namespace Go.Proofs.Ytaecdlhomihejaa.Pure
open Go.RowKit Go.Proofs.Ytaecdlhomihejaa.Q Go.Proofs.YtaecdlhomihejaaW.PrintWords
set_option linter.unusedVariables false
theorem devIn {x : S84} (h : G15 x) : DevIn x := by
  obtain ⟨⟨_, ⟨_, hb, hy⟩, _⟩, ⟨_, hz, he⟩⟩ := h
  exact ⟨by omega, fun y q => by obtain ⟨_, _, _, ⟨_, g2, g3⟩⟩ := hy y q; exact ⟨by omega, fun z hz => g3 z hz⟩, by omega, fun y q => by obtain ⟨_, ⟨_, g1, _⟩, _, _, ⟨_, g4, _⟩, ⟨_, g5, g6⟩⟩ := he y q; exact ⟨by omega, by omega, by omega, fun z hz => g6 z hz⟩⟩
theorem FnExactSameDevice : laws_FnExactSameDevice.Pure := by
  intro x y gx gy
  have hx := devIn gx
  have hy := devIn gy
  unfold laws_FnExactSameDevice.f
  refine Ev.rounds ?_
  obtain ⟨r1, e1, q1⟩ := szDev_ev x hx 1048576 (by omega) (by omega)
  by_cases c1 : r1 < 0
  · exact Ev.bind e1 (Ev.if_pos c1 (Ev.now _))
  obtain ⟨r2, e2, q2⟩ := szDev_ev y hy r1 (by omega) (by omega)
  by_cases c2 : r2 < 0
  · exact Ev.bind e1 (Ev.if_neg c1 (Ev.bind e2 (Ev.if_pos c2 (Ev.now _))))
  have tx := toDev_ev x hx
  have ty := toDev_ev y hy
  have b0 := hx.blocks
  have b1 := hx.zones
  have hp := toB_len x.f0.f1 hx.pages
  have hl : (x.f0.f1.map toB).length ≤ 9223372036854775806 := by rw [List.length_map]; omega
  have hz : (x.f1.map toZ).length ≤ 9223372036854775806 := by rw [List.length_map]; omega
  have s := sDev_ev x.f0.f0.f0 x.f0.f0.f1 x.f0.f0.f2 (x.f0.f1.map toB) x.f0.f2 x.f0.f3 x.f0.f4 x.f0.f5 (x.f1.map toZ) y.f0.f0.f0 y.f0.f0.f1 y.f0.f0.f2 (y.f0.f1.map toB) y.f0.f2 y.f0.f3 y.f0.f4 y.f0.f5 (y.f1.map toZ) (fun z hz => by have := hp z hz; omega) hl (toZ_sh x.f1 hx.each) hz
  have i : Ev (fun k => impl_SameDevice.f x.f0.f0.f0 x.f0.f0.f1 x.f0.f0.f2 (x.f0.f1.map toB) x.f0.f2 x.f0.f3 x.f0.f4 x.f0.f5 (x.f1.map toZ) y.f0.f0.f0 y.f0.f0.f1 y.f0.f0.f2 (y.f0.f1.map toB) y.f0.f2 y.f0.f3 y.f0.f4 y.f0.f5 (y.f1.map toZ)) (sameFl x.f0.f0.f0 x.f0.f0.f1 x.f0.f0.f2 (x.f0.f1.map toB) x.f0.f2 x.f0.f3 x.f0.f4 x.f0.f5 y.f0.f0.f0 y.f0.f0.f1 y.f0.f0.f2 (y.f0.f1.map toB) y.f0.f2 y.f0.f3 y.f0.f4 y.f0.f5 && eqAll sameZ (x.f1.map toZ) (y.f1.map toZ)) := ⟨0, fun _ _ => rfl⟩
  have ex := eqDev_self x hx
  have ey := eqDev_self y hy
  refine Ev.bind e1 (Ev.if_neg c1 (Ev.bind e2 (Ev.if_neg c2 (Ev.bind tx (Ev.bind ty (Ev.bind s (Ev.bind tx (Ev.bind ty (Ev.bind i (Ev.if_neg (by simp) (Ev.bind tx (Ev.bind ex (Ev.if_pos rfl (Ev.bind ty (Ev.bind ey (Ev.if_pos rfl (Ev.now _)))))))))))))))))
end Go.Proofs.Ytaecdlhomihejaa.Pure
