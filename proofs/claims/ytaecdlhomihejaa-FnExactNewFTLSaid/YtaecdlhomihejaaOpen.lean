/- What reads as a datum, and weighs no more than the reach, is a value of its kind whose numbers and sizes are in range. Conditions: those that stand before each theorem. -/
import Derived.Test.YtaecdlhomihejaaWWords
import Derived.ChangeArms
import Derived.SizedLaws
import Derived.WideShapes
namespace Go.Proofs.Ytaecdlhomihejaa.Opens
open Go.RowKit Go.Proofs.YtaecdlhomihejaaW.PrintWords
set_option linter.unusedVariables false
section
variable {H : Type} {enc : TypeId × Value → H} {P : Program} {W : World}

def Opens {α : Type} {H : Type} (enc : TypeId × Value → H) (P : Program) (W : World) (t : TypeId) (d : Kd α) (G : α → Prop) : Prop :=
  ∀ (fuel : Nat) (cs : List Value) (dd : DataW H) (ps : List MemPlace), DataW.trod enc P W 0 (fun _ => true) true fuel t cs = some (dd, ps) → (∀ n ∈ dd.weights P t, n ≤ reachBytes) → ∃ x, d.K W x cs ∧ G x

theorem opens_int {t : TypeId} {k : IntKind} (ht : P.underlying t = some (.int k)) : Opens enc P W t (Kd.int k) (fun x => (Lit.int k x).wf = true) := by
  intro fuel cs dd ps h _
  obtain ⟨n, rfl, _, hw⟩ := DataW.trod_int ht h
  exact ⟨n, rfl, hw⟩

def OpensF {β : Type} (enc : TypeId × Value → H) (P : Program) (W : World) (off : Nat) (fs : List Field) (d : Kd β) (G : β → Prop) : Prop :=
  ∀ (n : Nat) (cs : List Value) (xs : List (DataW H × List MemPlace)), xs.length = fs.length →
    (∀ (i : Nat) (f : Field), fs[i]? = some f → DataW.trod enc P W 0 (fun _ => true) true n f.type ((cs.drop f.offset).take (P.cellsOf f.type)) = xs[i]?) →
    (cs.drop off).length = d.sz → (∀ m ∈ DataW.weightsEach P (fs.map (·.type)) (xs.map (·.1)), m ≤ reachBytes) → ∃ x, d.K W x (cs.drop off) ∧ G x
theorem opensF_one {β : Type} {off : Nat} {f : Field} {d : Kd β} {G : β → Prop} (ho : f.offset = off) (hc : P.cellsOf f.type = d.sz) (h : Opens enc P W f.type d G) : OpensF enc P W off [f] d G := by
  intro n cs xs hl hf hlen hw
  match xs, hl with
  | [y], _ =>
    have h1 := hf 0 f rfl
    rw [ho, hc, List.take_of_length_le (by omega)] at h1
    exact h n _ y.1 y.2 h1 (fun m hm => hw m (by simp [DataW.weightsEach, hm]))
theorem opensF_cons {β γ : Type} {off : Nat} {f : Field} {fs : List Field} {d : Kd β} {d2 : Kd γ} {G : β → Prop} {G2 : γ → Prop} (ho : f.offset = off) (hc : P.cellsOf f.type = d.sz) (h : Opens enc P W f.type d G) (h2 : OpensF enc P W (off + d.sz) fs d2 G2) :
    OpensF enc P W off (f :: fs) (Kd.pair d d2) (fun x => G x.1 ∧ G2 x.2) := by
  intro n cs xs hl hf hlen hw
  match xs, hl with
  | y :: ys, hl' =>
    have h1 := hf 0 f rfl
    rw [ho, hc] at h1
    obtain ⟨x, hK, hG⟩ := h n _ y.1 y.2 h1 (fun m hm => hw m (by simp [DataW.weightsEach, hm]))
    have hlen' : cs.length - off = d.sz + d2.sz := by rw [← List.length_drop]; exact hlen
    obtain ⟨x2, hK2, hG2⟩ := h2 n cs ys (by simpa using hl') (fun i g hg => hf (i + 1) g hg) (by rw [List.length_drop]; omega) (fun m hm => hw m (by simp only [List.map_cons, DataW.weightsEach, List.mem_append]; exact .inr hm))
    refine ⟨(x, x2), ⟨_, _, ?_, hK, hK2⟩, hG, hG2⟩
    rw [← List.drop_drop, List.take_append_drop]
theorem opens_struct {α β : Type} {t : TypeId} {fs : Array Field} {d : Kd β} {G : β → Prop} {proj : α → β} (mk : β → α) (hmk : ∀ y, proj (mk y) = y) (ht : P.underlying t = some (.struct fs)) (hc : P.cellsOf t = d.sz) (h : OpensF enc P W 0 fs.toList d G) :
    Opens enc P W t (Kd.iso d proj) (fun x => G (proj x)) := by
  intro fuel cs dd ps hd hw
  obtain ⟨xs, n, _, hx, hl, hlen, hf⟩ := DataW.trod_struct ht hd
  obtain ⟨rfl, _⟩ := Prod.mk.inj hx
  obtain ⟨x, hK, hG⟩ := h n cs xs (by simpa using hlen) (fun i f hi => hf i f (by simpa using hi)) (by simp [hl, hc]) (fun m hm => hw m (by simpa [DataW.weights, ht] using hm))
  refine ⟨mk x, ?_, by show G (proj (mk x)); rw [hmk]; exact hG⟩
  show d.K W (proj (mk x)) cs
  rw [hmk]
  exact hK
end
end Go.Proofs.Ytaecdlhomihejaa.Opens
