/- A region that draws its order, walked in a given order by one repeated step: the steps of PrintLast with the order told ahead. Conditions: those before each theorem. -/
import Derived.Test.YtdjbphffibcbeaaWLast
namespace Go.Proofs.YtdjbphffibcbeaaW.PrintLast
section
variable {P : Program} {ops : Array Oper} {Q : Exit → Act → World → Prop} {md : Region.Mode} {S : World → Prop} {ds : List Nat}
structure Ord (is : List (Nat × Nat × Option Tmp)) (P : Program) (md : Region.Mode) (ops : Array Oper) (Q : Exit → Act → World → Prop) (S : World → Prop) (ds : List Nat) (fuel : Nat) (l : Array Bool) (a : Act) (w : World) : Prop where
  out : wpAnyLast P md ops Q S ds fuel l a w
theorem ord_ (is : List (Nat × Nat × Option Tmp)) {fuel : Nat} {l : Array Bool} {a : Act} {w : World} (h : Ord is P md ops Q S ds fuel l a w) : wpAnyLast P md ops Q S ds fuel l a w := h.out
theorem Ord.nil {fuel : Nat} {l : Array Bool} {a : Act} {w : World} (h : wpAnyLast P md ops Q S ds fuel l a w) : Ord [] P md ops Q S ds fuel l a w := ⟨h⟩
theorem Ord.off {i : Nat} {is : List (Nat × Nat × Option Tmp)} {N : Option Tmp} {oi : Oper} {fuel : Nat} {l : Array Bool} {a : Act} {w : World} (hi : ops[i]? = some oi) (hN : oi.dst = N) (hc : anyB md ops l (l.setIfInBounds i true) i = true)
    (hQ : ∀ c a w, Q (.panic c) (a.put oi.dst undef) w → Q (.panic c) a w) (hw : Region.wanted oi (yielded ops a.tmps) = false) {a' : Act} (ha : a.put N undef = a')
    (h : Ord is P md ops Q S ds fuel (l.setIfInBounds i true) a' w) : Ord ((0, i, N) :: is) P md ops Q S ds (fuel + 1) l a w := ⟨pure_ _ hi hN hc hQ (Or.inr ⟨hw, rfl⟩) ha h.out⟩
theorem Ord.take {i : Nat} {is : List (Nat × Nat × Option Tmp)} {N : Option Tmp} {oi : Oper} {v : Value} {fuel : Nat} {l : Array Bool} {a : Act} {w : World} (hi : ops[i]? = some oi) (hN : oi.dst = N) (hc : takeB md ops ds l (l.setIfInBounds i true) i = true)
    (hQ : ∀ c a w, Q (.panic c) (a.put oi.dst v) w → Q (.panic c) a w) (hS : S w) (hw : Region.wanted oi (yielded ops a.tmps) = true) (hy : ∀ w', S w' → (execOp a.eval oi).run P w' = .ok (.value v) w') {a' : Act} (ha : a.put N v = a')
    (h : Ord is P md ops Q S ds fuel (l.setIfInBounds i true) a' w) : Ord ((2, i, N) :: is) P md ops Q S ds (fuel + 1) l a w := ⟨take_ _ hi hN hc hQ (Or.inl ⟨hw, hy⟩) hS ha h.out⟩
end
end Go.Proofs.YtdjbphffibcbeaaW.PrintLast
