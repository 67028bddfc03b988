/- Comparisons of strings by '>' and '<=' are told by '<'. No condition. -/
import Derived.WalkKit
namespace Go.Proofs.YtogndjjoeahccaaDoor.StrCmp
open Go
theorem u8_eq (x y : UInt8) : (x == y) = decide (x.toNat = y.toNat) := by
  rw [Bool.eq_iff_iff]
  simp [UInt8.toNat_inj]
theorem u8_lt (x y : UInt8) : decide (x < y) = decide (x.toNat < y.toNat) := decide_eq_decide.2 UInt8.lt_iff_toNat_lt
theorem bytesLess_total (a b : List UInt8) : (!(Op.bytesLess a b || a == b)) = Op.bytesLess b a := by
  induction a generalizing b with
  | nil => cases b <;> simp [Op.bytesLess]
  | cons x a ih =>
    cases b with
    | nil => simp [Op.bytesLess]
    | cons y b =>
      have h := ih b
      have e1 : (x :: a == y :: b) = ((x == y) && (a == b)) := rfl
      rw [e1]
      simp only [Op.bytesLess, u8_eq, u8_lt]
      by_cases h1 : x.toNat < y.toNat
      · have h2 : ¬ y.toNat < x.toNat := by omega
        have h4 : ¬ y.toNat = x.toNat := by omega
        simp [h1, h2, h4]
      · by_cases h2 : y.toNat < x.toNat
        · have h3 : ¬ x.toNat = y.toNat := by omega
          simp [h1, h2, h3]
        · have h3 : x.toNat = y.toNat := by omega
          simp only [h3, decide_true, Bool.true_and, Nat.lt_irrefl, decide_false, Bool.false_or]
          exact h
theorem gtr_t (t : TypeId) (a b : ByteArray) : binOp .gtr t (.string a) (.string b) = pure (.bool (Op.bytesLess b.toList a.toList)) := by
  rw [← bytesLess_total]
  simp [binOp, Op.stringOp]
attribute [go_sem] gtr_t
end Go.Proofs.YtogndjjoeahccaaDoor.StrCmp
