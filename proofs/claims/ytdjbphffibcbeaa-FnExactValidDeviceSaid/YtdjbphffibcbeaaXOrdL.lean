/- The steps of XOrd, with the row of temporaries and what has come up told as literal lists at each step, their setting by definition alone. Conditions: those before each theorem. -/
import Derived.Test.YtdjbphffibcbeaaXOrd
import Derived.Test.YtdjbphffibcbeaaWTab
namespace Go.Proofs.YtdjbphffibcbeaaW.PrintLast
section
variable {P : Program} {ops : Array Oper} {Q : Exit → Act → World → Prop} {md : Region.Mode} {S : World → Prop} {ds : List Nat}
theorem s0 {α : Type} {a b : α} {l : List α} : (a :: l).set 0 b = b :: l := rfl
theorem s1 {α : Type} {a b : α} {l : List α} {n : Nat} : (a :: l).set (n + 1) b = a :: l.set n b := rfl
theorem set_lit {α : Type} {t t' : List α} {j : Nat} {v : α} (h : t.set j v = t') : t.toArray.setIfInBounds j v = t'.toArray := by
  subst h
  simp
theorem put_lit {t t' : List Value} {df : List Deferred} {j : Tmp} {v : Value} (h : t.set j v = t') : Act.put ⟨t.toArray, df⟩ (some j) v = ⟨t'.toArray, df⟩ := by
  show (⟨t.toArray.setIfInBounds j v, df⟩ : Act) = _
  rw [set_lit h]
theorem Ord.pureL {i : Nat} {is : List (Nat × Nat × Option Tmp)} {j : Tmp} {oi : Oper} {v : Value} {fuel : Nat} {l l' : List Bool} {t t' : List Value} {df : List Deferred} {w : World} (hi : ops[i]? = some oi) (hN : oi.dst = some j)
    (hQ : ∀ c a w, Q (.panic c) (a.put oi.dst v) w → Q (.panic c) a w) (hw : Region.wanted oi (yielded ops t.toArray) = true) (_hl : l.set i true = l') (hc : anyB md ops l.toArray l'.toArray i = true) (hy : ∀ w, (execOp (Act.eval ⟨t.toArray, df⟩) oi).run P w = .ok (.value v) w) (ha : t.set j v = t')
    (h : Ord is P md ops Q S ds fuel l'.toArray ⟨t'.toArray, df⟩ w) : Ord ((1, i, some j) :: is) P md ops Q S ds (fuel + 1) l.toArray ⟨t.toArray, df⟩ w := ⟨pure_ _ hi hN hc hQ (Or.inl ⟨hw, hy⟩) (put_lit ha) h.out⟩
theorem Ord.offL {i : Nat} {is : List (Nat × Nat × Option Tmp)} {j : Tmp} {oi : Oper} {fuel : Nat} {l l' : List Bool} {t t' : List Value} {df : List Deferred} {w : World} (hi : ops[i]? = some oi) (hN : oi.dst = some j)
    (hQ : ∀ c a w, Q (.panic c) (a.put oi.dst undef) w → Q (.panic c) a w) (hw : Region.wanted oi (yielded ops t.toArray) = false) (_hl : l.set i true = l') (hc : anyB md ops l.toArray l'.toArray i = true) (ha : t.set j undef = t')
    (h : Ord is P md ops Q S ds fuel l'.toArray ⟨t'.toArray, df⟩ w) : Ord ((0, i, some j) :: is) P md ops Q S ds (fuel + 1) l.toArray ⟨t.toArray, df⟩ w := ⟨pure_ _ hi hN hc hQ (Or.inr ⟨hw, rfl⟩) (put_lit ha) h.out⟩
theorem Ord.takeL {i : Nat} {is : List (Nat × Nat × Option Tmp)} {j : Tmp} {oi : Oper} {v : Value} {fuel : Nat} {l l' : List Bool} {t t' : List Value} {df : List Deferred} {w : World} (hi : ops[i]? = some oi) (hN : oi.dst = some j)
    (hQ : ∀ c a w, Q (.panic c) (a.put oi.dst v) w → Q (.panic c) a w) (hS : S w) (hw : Region.wanted oi (yielded ops t.toArray) = true) (_hl : l.set i true = l') (hc : takeB md ops ds l.toArray l'.toArray i = true) (hy : ∀ w', S w' → (execOp (Act.eval ⟨t.toArray, df⟩) oi).run P w' = .ok (.value v) w') (ha : t.set j v = t')
    (h : Ord is P md ops Q S ds fuel l'.toArray ⟨t'.toArray, df⟩ w) : Ord ((2, i, some j) :: is) P md ops Q S ds (fuel + 1) l.toArray ⟨t.toArray, df⟩ w := ⟨take_ _ hi hN hc hQ (Or.inl ⟨hw, hy⟩) hS (put_lit ha) h.out⟩
end
end Go.Proofs.YtdjbphffibcbeaaW.PrintLast
