/- The two tests of a record, as one truth value. No condition. -/
import Derived.Test.YtogndjjoeahccaaDoorQ2
import Derived.Test.YtogndjjoeahccaaDoorQ9
import Derived.Test.YtogndjjoeahccaaDoorKeyOk
namespace Go.Proofs.YtogndjjoeahccaaDoor.Q
open Go.RowKit Go.Proofs.YtogndjjoeahccaaDoorW.PrintWords
def okRec (key : ByteArray) (seq kind : Int) (val en : ByteArray) : Bool :=
  okKey key && (decide (1 ≤ seq ∧ seq ≤ 1000000) &&
    (if kind = 1 then decide ((val.size : Int) ≤ 16) && en.toList == []
     else if kind = 2 then val.toList == [] && en.toList == []
     else if kind = 3 then val.toList == [] && (okKey en && Op.bytesLess key.toList en.toList)
     else false))
theorem l17Valid_eq (k : Nat) (a : ByteArray) (b c : Int) (d e : ByteArray) : spec_l17Valid.f (k + 1) a b c d e = some (okRec a b c d e) := by
  unfold spec_l17Valid.f okRec
  simp only [l17Key_eq, l00In_eq, Option.bind_some]
  by_cases h1 : okKey a = true
  · by_cases h2 : 1 ≤ b ∧ b ≤ 1000000
    · simp only [h1, h2, and_self, decide_true, Bool.not_true, if_true, spec_l17Valid.j0, Bool.false_eq_true, if_false, l17Key_eq, Option.bind_some, Bool.true_and]
      by_cases c1 : c = 1
      · simp only [c1, if_true]
        by_cases d1 : (d.size : Int) ≤ 16 <;> simp [d1]
      · by_cases c2 : c = 2
        · simp only [c2, if_true]
          by_cases d1 : d.toList = [] <;> simp [d1]
        · by_cases c3 : c = 3
          · simp only [c3, if_true]
            by_cases d1 : d.toList = []
            · by_cases e1 : okKey e = true <;> simp [d1, e1]
            · simp [d1]
          · simp [c1, c2, c3]
    · simp [h1, h2, spec_l17Valid.j0]
  · simp [h1, spec_l17Valid.j0]
theorem implRec_eq (k : Nat) (a : ByteArray) (b c : Int) (d e : ByteArray) : impl_ValidRecord.f (k + 1) a b c d e = some (okRec a b c d e) := by
  unfold impl_ValidRecord.f okRec
  simp only [implKey_eq, within_eq, Option.bind_some]
  by_cases h1 : okKey a = true
  · by_cases h2 : 1 ≤ b ∧ b ≤ 1000000
    · simp only [h1, h2, and_self, decide_true, Bool.not_true, if_true, impl_ValidRecord.j0, Bool.false_eq_true, if_false, implKey_eq, Option.bind_some, Bool.true_and]
      by_cases c1 : c = 1
      · simp only [c1, if_true]
        by_cases d1 : (d.size : Int) ≤ 16 <;> simp [d1]
      · by_cases c2 : c = 2
        · simp only [c2, if_true]
          by_cases d1 : d.toList = [] <;> simp [d1]
        · by_cases c3 : c = 3
          · simp only [c3, if_true]
            by_cases d1 : d.toList = []
            · by_cases e1 : okKey e = true <;> simp [d1, e1]
            · simp [d1]
          · simp [c1, c2, c3]
    · simp [h1, h2, impl_ValidRecord.j0]
  · simp [h1, impl_ValidRecord.j0]
theorem l17Valid_ev (a : ByteArray) (b c : Int) (d e : ByteArray) : Ev (fun k => spec_l17Valid.f k a b c d e) (okRec a b c d e) :=
  ⟨1, fun k hk => by obtain ⟨m, rfl⟩ : ∃ m, k = m + 1 := ⟨k - 1, by omega⟩; exact l17Valid_eq m a b c d e⟩
theorem implRec_ev (a : ByteArray) (b c : Int) (d e : ByteArray) : Ev (fun k => impl_ValidRecord.f k a b c d e) (okRec a b c d e) :=
  ⟨1, fun k hk => by obtain ⟨m, rfl⟩ : ∃ m, k = m + 1 := ⟨k - 1, by omega⟩; exact implRec_eq m a b c d e⟩
end Go.Proofs.YtogndjjoeahccaaDoor.Q
