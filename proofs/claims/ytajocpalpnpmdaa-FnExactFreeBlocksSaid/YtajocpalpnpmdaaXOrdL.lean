/- The steps of XOrd, with the row of temporaries and what has come up told as literal lists at each step, their setting by definition alone. Conditions: those before each theorem. -/
import Derived.Test.YtajocpalpnpmdaaWLast
import Derived.Test.YtajocpalpnpmdaaWTab
namespace Go.Proofs.YtajocpalpnpmdaaW.PrintLast
section
variable {P : Program} {ops : Array Oper} {Q : Exit → Act → World → Prop} {md : Region.Mode} {S : World → Prop} {ds : List Nat}
structure Ord (is : List (Nat × Nat × Option Tmp)) (P : Program) (md : Region.Mode) (ops : Array Oper) (Q : Exit → Act → World → Prop) (S : World → Prop) (ds : List Nat) (fuel : Nat) (l : Array Bool) (a : Act) (w : World) : Prop where
  out : wpAnyLast P md ops Q S ds fuel l a w
theorem ord_ (is : List (Nat × Nat × Option Tmp)) {fuel : Nat} {l : Array Bool} {a : Act} {w : World} (h : Ord is P md ops Q S ds fuel l a w) : wpAnyLast P md ops Q S ds fuel l a w := h.out
theorem Ord.nil {fuel : Nat} {l : Array Bool} {a : Act} {w : World} (h : wpAnyLast P md ops Q S ds fuel l a w) : Ord [] P md ops Q S ds fuel l a w := ⟨h⟩
theorem Ord.off {i : Nat} {is : List (Nat × Nat × Option Tmp)} {N : Option Tmp} {oi : Oper} {fuel : Nat} {l : Array Bool} {a : Act} {w : World} (hi : ops[i]? = some oi) (hN : oi.dst = N) (hc : anyB md ops l (l.setIfInBounds i true) i = true)
    (hQ : ∀ c a w, Q (.panic c) (a.put oi.dst undef) w → Q (.panic c) a w) (hw : Region.wanted oi (yielded ops a.tmps) = false) {a' : Act} (ha : a.put N undef = a')
    (h : Ord is P md ops Q S ds fuel (l.setIfInBounds i true) a' w) : Ord ((0, i, N) :: is) P md ops Q S ds (fuel + 1) l a w := ⟨pure_ _ hi hN hc hQ (Or.inr ⟨hw, rfl⟩) ha h.out⟩
theorem Ord.take {i : Nat} {is : List (Nat × Nat × Option Tmp)} {N : Option Tmp} {oi : Oper} {v : Value} {fuel : Nat} {l : Array Bool} {a : Act} {w : World} (hi : ops[i]? = some oi) (hN : oi.dst = N) (hc : takeB md ops ds l (l.setIfInBounds i true) i = true)
    (hQ : ∀ c a w, Q (.panic c) (a.put oi.dst v) w → Q (.panic c) a w) (hS : S w) (hw : Region.wanted oi (yielded ops a.tmps) = true) (hy : ∀ w', S w' → (execOp a.eval oi).run P w' = .ok (.value v) w') {a' : Act} (ha : a.put N v = a')
    (h : Ord is P md ops Q S ds fuel (l.setIfInBounds i true) a' w) : Ord ((2, i, N) :: is) P md ops Q S ds (fuel + 1) l a w := ⟨take_ _ hi hN hc hQ (Or.inl ⟨hw, hy⟩) hS ha h.out⟩
end
end Go.Proofs.YtajocpalpnpmdaaW.PrintLast
namespace Go.Proofs.YtajocpalpnpmdaaW.PrintLast
section
variable {P : Program} {ops : Array Oper} {Q : Exit → Act → World → Prop} {md : Region.Mode} {S : World → Prop} {ds : List Nat}
theorem s0 {α : Type} {a b : α} {l : List α} : (a :: l).set 0 b = b :: l := rfl
theorem s1 {α : Type} {a b : α} {l : List α} {n : Nat} : (a :: l).set (n + 1) b = a :: l.set n b := rfl
theorem set_lit {α : Type} {t t' : List α} {j : Nat} {v : α} (h : t.set j v = t') : t.toArray.setIfInBounds j v = t'.toArray := by
  subst h
  simp
theorem put_lit {t t' : List Value} {df : List Deferred} {j : Tmp} {v : Value} (h : t.set j v = t') : Act.put ⟨t.toArray, df⟩ (some j) v = ⟨t'.toArray, df⟩ := by
  show (⟨t.toArray.setIfInBounds j v, df⟩ : Act) = _
  rw [set_lit h]
theorem Ord.pureL {i : Nat} {is : List (Nat × Nat × Option Tmp)} {j : Tmp} {oi : Oper} {v : Value} {fuel : Nat} {l l' : List Bool} {t t' : List Value} {df : List Deferred} {w : World} (hi : ops[i]? = some oi) (hN : oi.dst = some j)
    (hQ : ∀ c a w, Q (.panic c) (a.put oi.dst v) w → Q (.panic c) a w) (hw : Region.wanted oi (yielded ops t.toArray) = true) (_hl : l.set i true = l') (hc : anyB md ops l.toArray l'.toArray i = true) (hy : ∀ w, (execOp (Act.eval ⟨t.toArray, df⟩) oi).run P w = .ok (.value v) w) (ha : t.set j v = t')
    (h : Ord is P md ops Q S ds fuel l'.toArray ⟨t'.toArray, df⟩ w) : Ord ((1, i, some j) :: is) P md ops Q S ds (fuel + 1) l.toArray ⟨t.toArray, df⟩ w := ⟨pure_ _ hi hN hc hQ (Or.inl ⟨hw, hy⟩) (put_lit ha) h.out⟩
theorem Ord.offL {i : Nat} {is : List (Nat × Nat × Option Tmp)} {j : Tmp} {oi : Oper} {fuel : Nat} {l l' : List Bool} {t t' : List Value} {df : List Deferred} {w : World} (hi : ops[i]? = some oi) (hN : oi.dst = some j)
    (hQ : ∀ c a w, Q (.panic c) (a.put oi.dst undef) w → Q (.panic c) a w) (hw : Region.wanted oi (yielded ops t.toArray) = false) (_hl : l.set i true = l') (hc : anyB md ops l.toArray l'.toArray i = true) (ha : t.set j undef = t')
    (h : Ord is P md ops Q S ds fuel l'.toArray ⟨t'.toArray, df⟩ w) : Ord ((0, i, some j) :: is) P md ops Q S ds (fuel + 1) l.toArray ⟨t.toArray, df⟩ w := ⟨pure_ _ hi hN hc hQ (Or.inr ⟨hw, rfl⟩) (put_lit ha) h.out⟩
theorem Ord.takeL {i : Nat} {is : List (Nat × Nat × Option Tmp)} {j : Tmp} {oi : Oper} {v : Value} {fuel : Nat} {l l' : List Bool} {t t' : List Value} {df : List Deferred} {w : World} (hi : ops[i]? = some oi) (hN : oi.dst = some j)
    (hQ : ∀ c a w, Q (.panic c) (a.put oi.dst v) w → Q (.panic c) a w) (hS : S w) (hw : Region.wanted oi (yielded ops t.toArray) = true) (_hl : l.set i true = l') (hc : takeB md ops ds l.toArray l'.toArray i = true) (hy : ∀ w', S w' → (execOp (Act.eval ⟨t.toArray, df⟩) oi).run P w' = .ok (.value v) w') (ha : t.set j v = t')
    (h : Ord is P md ops Q S ds fuel l'.toArray ⟨t'.toArray, df⟩ w) : Ord ((2, i, some j) :: is) P md ops Q S ds (fuel + 1) l.toArray ⟨t.toArray, df⟩ w := ⟨take_ _ hi hN hc hQ (Or.inl ⟨hw, hy⟩) hS (put_lit ha) h.out⟩
theorem Ord.midL {i : Nat} {is : List (Nat × Nat × Option Tmp)} {j : Tmp} {oi : Oper} {v : Value} {fuel : Nat} {l l' : List Bool} {t t' : List Value} {df : List Deferred} {w : World} (hi : ops[i]? = some oi) (hN : oi.dst = some j)
    (hQ : ∀ c a w, Q (.panic c) (a.put oi.dst v) w → Q (.panic c) a w) (hy : YieldsIf P ops S oi v ⟨t.toArray, df⟩) (hS : S w) (_hl : l.set i true = l') (hc : takeB md ops ds l.toArray l'.toArray i = true) (ha : t.set j v = t')
    (h : Ord is P md ops Q S ds fuel l'.toArray ⟨t'.toArray, df⟩ w) : Ord ((3, i, some j) :: is) P md ops Q S ds (fuel + 1) l.toArray ⟨t.toArray, df⟩ w := ⟨take_ _ hi hN hc hQ hy hS (put_lit ha) h.out⟩
end
end Go.Proofs.YtajocpalpnpmdaaW.PrintLast
