/- The law FnExactFreeBlocks, as a statement over numbers and lists. No condition. -/
import Derived.Test.YtajocpalpnpmdaaSayFnExactFreeBlocks
import Derived.Test.YtajocpalpnpmdaaXRowFreeBlocks
namespace Go.Proofs.Ytajocpalpnpmdaa.Pure
open Go.RowKit Go.Proofs.Ytajocpalpnpmdaa.Q Go.Proofs.YtajocpalpnpmdaaW.PrintWords
set_option linter.unusedVariables false
theorem FnExactFreeBlocks : laws_FnExactFreeBlocks.Pure := by
  intro x h
  obtain ⟨⟨_, ⟨_, hb, hy⟩, _⟩, ⟨_, _, ⟨_, hm, _⟩, ⟨_, ht, _⟩⟩, ⟨⟨_, hh, _⟩, _⟩, _, ⟨_, ho, _⟩, ⟨_, hl, _⟩, _⟩ := h
  unfold laws_FnExactFreeBlocks.f
  rw [if_pos ⟨by omega, List.all_eq_true.2 fun y q => okPgB_mk (by obtain ⟨_, _, _, ⟨_, g2, g3⟩⟩ := hy y q; exact ⟨by omega, fun z hz => g3 z hz⟩), by omega, by omega, by omega, by omega, by omega⟩]
end Go.Proofs.Ytajocpalpnpmdaa.Pure
