/- What reads as a datum, and weighs no more than the reach, is a value of its kind whose numbers and sizes are in range. Conditions: those that stand before each theorem. -/
import Derived.Test.YtogndjjoeahccaaDoorWWords
import Derived.ChangeArms
import Derived.SizedLaws
import Derived.WideShapes
namespace Go.Proofs.YtogndjjoeahccaaDoor.Opens
open Go.RowKit Go.Proofs.YtogndjjoeahccaaDoorW.PrintWords
set_option linter.unusedVariables false
section
variable {H : Type} {enc : TypeId × Value → H} {P : Program} {W : World}

def Opens {α : Type} {H : Type} (enc : TypeId × Value → H) (P : Program) (W : World) (t : TypeId) (d : Kd α) (G : α → Prop) : Prop :=
  ∀ (fuel : Nat) (cs : List Value) (dd : DataW H) (ps : List MemPlace), DataW.trod enc P W 0 (fun _ => true) true fuel t cs = some (dd, ps) → (∀ n ∈ dd.weights P t, n ≤ reachBytes) → ∃ x, d.K W x cs ∧ G x

theorem opens_string {t : TypeId} (ht : P.underlying t = some .string) : Opens enc P W t Kd.string (fun s => s.size ≤ 140737488351232) := by
  intro fuel cs dd ps h hw
  obtain ⟨s, rfl, hx, _⟩ := DataW.trod_string ht h
  obtain ⟨rfl, _⟩ := Prod.mk.inj hx
  have z := hw s.data.toList.length (by simp [DataW.weights])
  rw [Array.length_toList] at z
  exact ⟨s, rfl, z⟩

end
end Go.Proofs.YtogndjjoeahccaaDoor.Opens
