/- What each parameter of these laws is known to be: of its kind, its numbers in range, its sizes within the reach. Conditions: the argument reads as data and weighs no more than the reach. -/
import Derived.Test.YtajocpalpnpmdaaWWords
import Derived.ChangeArms
import Derived.SizedLaws
import Derived.WideShapes
import Derived.Test.YtajocpalpnpmdaaQ0
namespace Go.Proofs.Ytajocpalpnpmdaa.Opens
open Go.RowKit Go.Proofs.YtajocpalpnpmdaaW.PrintWords
set_option linter.unusedVariables false
section
variable {H : Type} {enc : TypeId × Value → H} {P : Program} {W : World}

def Opens {α : Type} {H : Type} (enc : TypeId × Value → H) (P : Program) (W : World) (t : TypeId) (d : Kd α) (G : α → Prop) : Prop :=
  ∀ (fuel : Nat) (cs : List Value) (dd : DataW H) (ps : List MemPlace), DataW.trod enc P W 0 (fun _ => true) true fuel t cs = some (dd, ps) → (∀ n ∈ dd.weights P t, n ≤ reachBytes) → ∃ x, d.K W x cs ∧ G x

theorem opens_int {t : TypeId} {k : IntKind} (ht : P.underlying t = some (.int k)) : Opens enc P W t (Kd.int k) (fun x => (Lit.int k x).wf = true) := by
  intro fuel cs dd ps h _
  obtain ⟨n, rfl, _, hw⟩ := DataW.trod_int ht h
  exact ⟨n, rfl, hw⟩
theorem opens_bool {t : TypeId} (ht : P.underlying t = some .bool) : Opens enc P W t Kd.bool (fun _ => True) := by
  intro fuel cs dd ps h _
  obtain ⟨n, rfl, _⟩ := DataW.trod_bool ht h
  exact ⟨n, rfl, trivial⟩
theorem opens_string {t : TypeId} (ht : P.underlying t = some .string) : Opens enc P W t Kd.string (fun s => s.size ≤ 140737488351232) := by
  intro fuel cs dd ps h hw
  obtain ⟨s, rfl, hx, _⟩ := DataW.trod_string ht h
  obtain ⟨rfl, _⟩ := Prod.mk.inj hx
  have z := hw s.data.toList.length (by simp [DataW.weights])
  rw [Array.length_toList] at z
  exact ⟨s, rfl, z⟩
theorem weightsAll_mem {e : TypeId} {d : DataW H} {n : Nat} (hn : n ∈ d.weights P e) : ∀ {l : List (DataW H)}, d ∈ l → n ∈ DataW.weightsAll P e l
  | x :: l, h => by
    rw [DataW.weightsAll, List.mem_append]
    rcases List.mem_cons.1 h with rfl | h
    · exact .inl hn
    · exact .inr (weightsAll_mem hn h)
theorem list_of {α : Type} {p : Nat → α → Prop} : ∀ n, (∀ i, i < n → ∃ x, p i x) → ∃ xs : List α, xs.length = n ∧ ∀ i x, xs[i]? = some x → p i x
  | 0, _ => ⟨[], rfl, fun i x h => by simp at h⟩
  | n + 1, h => by
    obtain ⟨xs, hl, hp⟩ := list_of n (fun i hi => h i (by omega))
    obtain ⟨x, hx⟩ := h n (by omega)
    refine ⟨xs ++ [x], by simp [hl], fun i y hy => ?_⟩
    by_cases hi : i < xs.length
    · rw [List.getElem?_append_left hi] at hy
      exact hp i y hy
    · rw [List.getElem?_append_right (by omega)] at hy
      obtain rfl : i = n := by
        have := (List.getElem?_eq_some_iff.1 hy).1
        simp at this
        omega
      rw [hl] at hy
      simp at hy
      subst hy
      exact hx
theorem opens_slice {α : Type} {t e : TypeId} {d : Kd α} {G : α → Prop} {B : Nat} (ht : P.underlying t = some (.slice e)) (hc : P.cellsOf e = d.sz) (hB : P.bytesOf e = B) (he : Opens enc P W e d G) :
    Opens enc P W t (Kd.slice e d) (fun l => l.length ≤ maxLen ∧ l.length * B ≤ 140737488351232 ∧ ∀ x ∈ l, G x) := by
  intro fuel cs dd ps h hw
  rcases DataW.trod_slice ht h with ⟨rfl, _⟩ | ⟨a, len, cap, elems, rest, n, _, rfl, hx, _, hl, hm, hlen, hel, _, _⟩
  · exact ⟨[], ⟨none, 0, rfl, Nat.le_refl _, rfl, by simp, fun h => absurd h (by simp)⟩, by simp, by simp, by simp⟩
  obtain ⟨rfl, _⟩ := Prod.mk.inj hx
  have hwl : (elems.length + rest.length) * B ≤ reachBytes := by
    have z := hw ((elems.length + rest.length) * P.bytesOf e) (by simp [DataW.weights, ht])
    rwa [hB] at z
  have hwm : ∀ y, y ∈ elems → ∀ m ∈ y.1.weights P e, m ≤ reachBytes := by
    intro y hy m hm2
    refine hw m ?_
    simp only [DataW.weights, ht, List.mem_cons, List.mem_append]
    exact .inr (.inl (weightsAll_mem hm2 (List.mem_map_of_mem hy)))
  have each : ∀ i, i < len → ∃ x, (∃ c, c.length = d.sz ∧ d.K W x c ∧ ∀ j u, c[j]? = some u → W.cell? (a.add (i * d.sz + j)) = some u) ∧ G x := by
    intro i hi
    have h1 := hel i hi
    have h2 : elems[i]? = some (elems[i]'(by omega)) := List.getElem?_eq_getElem _
    rw [h2, Option.bind_eq_some_iff] at h1
    obtain ⟨c, hcs, hy⟩ := h1
    obtain ⟨x, hK, hG⟩ := he n c _ _ hy (hwm _ (List.getElem_mem _))
    obtain ⟨_, hcl, hcell⟩ := World.cells?_some hcs
    rw [hc] at hcl
    refine ⟨x, ⟨c, hcl, hK, fun j u hu => ?_⟩, hG⟩
    have hj : j < d.sz := by
      have := (List.getElem?_eq_some_iff.1 hu).1
      omega
    have z := hcell j (by rw [hc]; exact hj)
    rw [hu, hc] at z
    rw [← z]
    congr 1
    by_cases h4 : i * d.sz = 0 <;> by_cases h5 : j = 0 <;> simp [Addr.add, h4, h5, Nat.add_assoc]
  obtain ⟨xs, hxl, hxp⟩ := list_of len each
  refine ⟨xs, ⟨some a, cap, by rw [hxl], by omega, rfl, ?_, fun _ => ⟨a, rfl, fun j p hp => ?_⟩⟩, by omega, ?_, fun x hx => ?_⟩
  · rw [hxl]
    have : maxLen ≤ 9223372036854775807 := by decide
    omega
  · obtain ⟨⟨c, h1, h2, h3⟩, _⟩ := hxp j p hp
    exact ⟨c, h1, h2, h3⟩
  · have : xs.length * B ≤ (elems.length + rest.length) * B := Nat.mul_le_mul_right _ (by omega)
    exact Nat.le_trans this hwl
  · obtain ⟨i, hi⟩ := List.getElem?_of_mem hx
    exact (hxp i x hi).2

def OpensF {β : Type} (enc : TypeId × Value → H) (P : Program) (W : World) (off : Nat) (fs : List Field) (d : Kd β) (G : β → Prop) : Prop :=
  ∀ (n : Nat) (cs : List Value) (xs : List (DataW H × List MemPlace)), xs.length = fs.length →
    (∀ (i : Nat) (f : Field), fs[i]? = some f → DataW.trod enc P W 0 (fun _ => true) true n f.type ((cs.drop f.offset).take (P.cellsOf f.type)) = xs[i]?) →
    (cs.drop off).length = d.sz → (∀ m ∈ DataW.weightsEach P (fs.map (·.type)) (xs.map (·.1)), m ≤ reachBytes) → ∃ x, d.K W x (cs.drop off) ∧ G x
theorem opensF_one {β : Type} {off : Nat} {f : Field} {d : Kd β} {G : β → Prop} (ho : f.offset = off) (hc : P.cellsOf f.type = d.sz) (h : Opens enc P W f.type d G) : OpensF enc P W off [f] d G := by
  intro n cs xs hl hf hlen hw
  match xs, hl with
  | [y], _ =>
    have h1 := hf 0 f rfl
    rw [ho, hc, List.take_of_length_le (by omega)] at h1
    exact h n _ y.1 y.2 h1 (fun m hm => hw m (by simp [DataW.weightsEach, hm]))
theorem opensF_cons {β γ : Type} {off : Nat} {f : Field} {fs : List Field} {d : Kd β} {d2 : Kd γ} {G : β → Prop} {G2 : γ → Prop} (ho : f.offset = off) (hc : P.cellsOf f.type = d.sz) (h : Opens enc P W f.type d G) (h2 : OpensF enc P W (off + d.sz) fs d2 G2) :
    OpensF enc P W off (f :: fs) (Kd.pair d d2) (fun x => G x.1 ∧ G2 x.2) := by
  intro n cs xs hl hf hlen hw
  match xs, hl with
  | y :: ys, hl' =>
    have h1 := hf 0 f rfl
    rw [ho, hc] at h1
    obtain ⟨x, hK, hG⟩ := h n _ y.1 y.2 h1 (fun m hm => hw m (by simp [DataW.weightsEach, hm]))
    have hlen' : cs.length - off = d.sz + d2.sz := by rw [← List.length_drop]; exact hlen
    obtain ⟨x2, hK2, hG2⟩ := h2 n cs ys (by simpa using hl') (fun i g hg => hf (i + 1) g hg) (by rw [List.length_drop]; omega) (fun m hm => hw m (by simp only [List.map_cons, DataW.weightsEach, List.mem_append]; exact .inr hm))
    refine ⟨(x, x2), ⟨_, _, ?_, hK, hK2⟩, hG, hG2⟩
    rw [← List.drop_drop, List.take_append_drop]
theorem opens_struct {α β : Type} {t : TypeId} {fs : Array Field} {d : Kd β} {G : β → Prop} {proj : α → β} (mk : β → α) (hmk : ∀ y, proj (mk y) = y) (ht : P.underlying t = some (.struct fs)) (hc : P.cellsOf t = d.sz) (h : OpensF enc P W 0 fs.toList d G) :
    Opens enc P W t (Kd.iso d proj) (fun x => G (proj x)) := by
  intro fuel cs dd ps hd hw
  obtain ⟨xs, n, _, hx, hl, hlen, hf⟩ := DataW.trod_struct ht hd
  obtain ⟨rfl, _⟩ := Prod.mk.inj hx
  obtain ⟨x, hK, hG⟩ := h n cs xs (by simpa using hlen) (fun i f hi => hf i f (by simpa using hi)) (by simp [hl, hc]) (fun m hm => hw m (by simpa [DataW.weights, ht] using hm))
  refine ⟨mk x, ?_, by show G (proj (mk x)); rw [hmk]; exact hG⟩
  show d.K W (proj (mk x)) cs
  rw [hmk]
  exact hK
end
end Go.Proofs.Ytajocpalpnpmdaa.Opens
namespace Go.Proofs.Ytajocpalpnpmdaa.Q
open Go.RowKit Go.Proofs.YtajocpalpnpmdaaW.PrintWords Go.Proofs.Ytajocpalpnpmdaa.Opens
set_option linter.unusedVariables false
def G0 (x : ByteArray) : Prop := x.size ≤ 140737488351232
def G1 (x : Int) : Prop := (Lit.int .i64 x).wf = true
def G2 (_ : Bool) : Prop := True
def G3 (x : List ByteArray) : Prop := x.length ≤ maxLen ∧ x.length * 16 ≤ 140737488351232 ∧ ∀ y ∈ x, G0 y
def G4 (x : S103) : Prop := G1 x.f0 ∧ G1 x.f1 ∧ G2 x.f2 ∧ G3 x.f3
def G7 (x : List Int) : Prop := x.length ≤ maxLen ∧ x.length * 8 ≤ 140737488351232 ∧ ∀ y ∈ x, G1 y
def G8 (x : List Bool) : Prop := x.length ≤ maxLen ∧ x.length * 1 ≤ 140737488351232 ∧ ∀ y ∈ x, G2 y
def G10 (x : List (S103)) : Prop := x.length ≤ maxLen ∧ x.length * 48 ≤ 140737488351232 ∧ ∀ y ∈ x, G4 y
def G11 (x : S23) : Prop := G1 x.f0 ∧ G1 x.f1 ∧ G1 x.f2
def G12 (x : S26) : Prop := G11 x.f0 ∧ G10 x.f1 ∧ G1 x.f2 ∧ G1 x.f3 ∧ G2 x.f4 ∧ G1 x.f5
def G13 (x : S30) : Prop := G1 x.f0 ∧ G1 x.f1 ∧ G7 x.f2 ∧ G8 x.f3
def G14 (x : S32) : Prop := G7 x.f0 ∧ G1 x.f1
def G15 (x : S34) : Prop := G12 x.f0 ∧ G13 x.f1 ∧ G14 x.f2 ∧ G1 x.f3 ∧ G7 x.f4 ∧ G7 x.f5 ∧ G1 x.f6 ∧ G1 x.f7
section
variable {H : Type} {enc : TypeId × Value → H} {W : World}
theorem op2 : Opens enc Try.prog W 2 (Kd.int .i64) G1 := opens_int Try.underlying2
theorem op23 : Opens enc Try.prog W 23 k23 G11 := opens_struct (fun y => (⟨y.1, y.2.1, y.2.2⟩ : S23)) (fun _ => rfl) Try.underlying23 (by kernel_rfl) (opensF_cons rfl (by kernel_rfl) op2 (opensF_cons rfl (by kernel_rfl) op2 (opensF_one rfl (by kernel_rfl) op2)))
theorem op4 : Opens enc Try.prog W 4 Kd.bool G2 := opens_bool Try.underlying4
theorem op9 : Opens enc Try.prog W 9 Kd.string G0 := opens_string Try.underlying9
theorem op90 : Opens enc Try.prog W 90 (Kd.slice 9 Kd.string) G3 := opens_slice Try.underlying90 (by kernel_rfl) (by kernel_rfl) op9
theorem op103 : Opens enc Try.prog W 103 k103 G4 := opens_struct (fun y => (⟨y.1, y.2.1, y.2.2.1, y.2.2.2⟩ : S103)) (fun _ => rfl) Try.underlying103 (by kernel_rfl) (opensF_cons rfl (by kernel_rfl) op2 (opensF_cons rfl (by kernel_rfl) op2 (opensF_cons rfl (by kernel_rfl) op4 (opensF_one rfl (by kernel_rfl) op90))))
theorem op24 : Opens enc Try.prog W 24 (Kd.slice 103 k103) G10 := opens_slice Try.underlying24 (by kernel_rfl) (by kernel_rfl) op103
theorem op26 : Opens enc Try.prog W 26 k26 G12 := opens_struct (fun y => (⟨y.1, y.2.1, y.2.2.1, y.2.2.2.1, y.2.2.2.2.1, y.2.2.2.2.2⟩ : S26)) (fun _ => rfl) Try.underlying26 (by kernel_rfl) (opensF_cons rfl (by kernel_rfl) op23 (opensF_cons rfl (by kernel_rfl) op24 (opensF_cons rfl (by kernel_rfl) op2 (opensF_cons rfl (by kernel_rfl) op2 (opensF_cons rfl (by kernel_rfl) op4 (opensF_one rfl (by kernel_rfl) op2))))))
theorem op27 : Opens enc Try.prog W 27 (Kd.slice 2 (Kd.int .i64)) G7 := opens_slice Try.underlying27 (by kernel_rfl) (by kernel_rfl) op2
theorem op28 : Opens enc Try.prog W 28 (Kd.slice 4 Kd.bool) G8 := opens_slice Try.underlying28 (by kernel_rfl) (by kernel_rfl) op4
theorem op30 : Opens enc Try.prog W 30 k30 G13 := opens_struct (fun y => (⟨y.1, y.2.1, y.2.2.1, y.2.2.2⟩ : S30)) (fun _ => rfl) Try.underlying30 (by kernel_rfl) (opensF_cons rfl (by kernel_rfl) op2 (opensF_cons rfl (by kernel_rfl) op2 (opensF_cons rfl (by kernel_rfl) op27 (opensF_one rfl (by kernel_rfl) op28))))
theorem op32 : Opens enc Try.prog W 32 k32 G14 := opens_struct (fun y => (⟨y.1, y.2⟩ : S32)) (fun _ => rfl) Try.underlying32 (by kernel_rfl) (opensF_cons rfl (by kernel_rfl) op27 (opensF_one rfl (by kernel_rfl) op2))
theorem op34 : Opens enc Try.prog W 34 k34 G15 := opens_struct (fun y => (⟨y.1, y.2.1, y.2.2.1, y.2.2.2.1, y.2.2.2.2.1, y.2.2.2.2.2.1, y.2.2.2.2.2.2.1, y.2.2.2.2.2.2.2⟩ : S34)) (fun _ => rfl) Try.underlying34 (by kernel_rfl) (opensF_cons rfl (by kernel_rfl) op26 (opensF_cons rfl (by kernel_rfl) op30 (opensF_cons rfl (by kernel_rfl) op32 (opensF_cons rfl (by kernel_rfl) op2 (opensF_cons rfl (by kernel_rfl) op27 (opensF_cons rfl (by kernel_rfl) op27 (opensF_cons rfl (by kernel_rfl) op2 (opensF_one rfl (by kernel_rfl) op2))))))))
end
end Go.Proofs.Ytajocpalpnpmdaa.Q
