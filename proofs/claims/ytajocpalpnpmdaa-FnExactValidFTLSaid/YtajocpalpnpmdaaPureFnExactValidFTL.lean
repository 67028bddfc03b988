/- The law FnExactValidFTL, as a statement over numbers and lists. No condition. -/
import Derived.Test.YtajocpalpnpmdaaSayFnExactValidFTL
import Derived.Test.YtajocpalpnpmdaaFtlC
import Derived.Test.YtajocpalpnpmdaaFtlEq
namespace Go.Proofs.Ytajocpalpnpmdaa.Pure
open Go.RowKit Go.Proofs.Ytajocpalpnpmdaa.Q Go.Proofs.YtajocpalpnpmdaaW.PrintWords
set_option linter.unusedVariables false
theorem ftlIn {x : S34} (h : G14 x) : FtlIn x := by
  obtain ⟨⟨_, ⟨_, hb, hy⟩, _⟩, ⟨_, _, ⟨_, hm, _⟩, ⟨_, ht, _⟩⟩, ⟨⟨_, hh, _⟩, _⟩, _, ⟨_, ho, _⟩, ⟨_, hl, _⟩, _⟩ := h
  exact ⟨by omega, fun y q => by obtain ⟨_, _, _, ⟨_, g2, g3⟩⟩ := hy y q; exact ⟨by omega, fun z hz => g3 z hz⟩, by omega, by omega, by omega, by omega, by omega⟩
theorem FnExactValidFTL : laws_FnExactValidFTL.Pure := by
  intro x gx
  have hx := ftlIn gx
  unfold laws_FnExactValidFTL.f
  refine Ev.rounds ?_
  obtain ⟨r1, e1, q1⟩ := szFtl_ev x hx 1048576 (by omega) (by omega)
  by_cases c1 : r1 < 0
  · exact Ev.bind e1 (Ev.if_pos c1 (Ev.now _))
  have tx := toFtl_ev x hx
  have hp := toB_len x.f0.f1 hx.pages
  have b0 := hx.blocks
  have hs : spec_ValidFTL.f x.f0.f0.f0 x.f0.f0.f1 x.f0.f0.f2 (x.f0.f1.map toB) x.f0.f2 x.f0.f3 x.f0.f4 x.f0.f5 x.f1.f0 x.f1.f1 x.f1.f2 x.f1.f3 x.f2.f0 x.f2.f1 x.f3 x.f4 x.f5 x.f6 x.f7 = some (ftlS x.f0.f0.f0 x.f0.f0.f1 x.f0.f0.f2 (x.f0.f1.map toB) x.f0.f2 x.f0.f3 x.f0.f5 x.f1.f0 x.f1.f1 x.f1.f2 x.f1.f3 x.f2.f0 x.f2.f1 x.f3 x.f4 x.f5 x.f6 x.f7) := by
    unfold spec_ValidFTL.f
    exact if_pos ⟨by rw [List.length_map]; omega, List.all_eq_true.2 fun y hy => decide_eq_true (hp y hy)⟩
  have hi : impl_ValidFTL.f x.f0.f0.f0 x.f0.f0.f1 x.f0.f0.f2 (x.f0.f1.map toB) x.f0.f2 x.f0.f3 x.f0.f4 x.f0.f5 x.f1.f0 x.f1.f1 x.f1.f2 x.f1.f3 x.f2.f0 x.f2.f1 x.f3 x.f4 x.f5 x.f6 x.f7 = some (ftlS x.f0.f0.f0 x.f0.f0.f1 x.f0.f0.f2 (x.f0.f1.map toB) x.f0.f2 x.f0.f3 x.f0.f5 x.f1.f0 x.f1.f1 x.f1.f2 x.f1.f3 x.f2.f0 x.f2.f1 x.f3 x.f4 x.f5 x.f6 x.f7) := by
    rw [ftlS_eq]
    rfl
  have ex := eqFtl_self x hx
  exact Ev.bind e1 (Ev.if_neg c1 (Ev.bind tx (Ev.bind1 hs (Ev.bind tx (Ev.bind1 hi (Ev.if_neg (by simp) (Ev.bind tx (Ev.bind ex (Ev.if_pos rfl (Ev.now _))))))))))
end Go.Proofs.Ytajocpalpnpmdaa.Pure
