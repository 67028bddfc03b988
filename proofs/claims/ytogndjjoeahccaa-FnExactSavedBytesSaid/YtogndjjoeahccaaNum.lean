/- Facts on whole numbers, their bits, and rounds. Conditions: those that stand before each theorem. -/
import Derived.Test.YtogndjjoeahccaaWMore
import Derived.Laws.BitsLemmas
namespace Go.Proofs.Ytogndjjoeahccaa.Q
open Go.RowKit Go.Proofs.YtogndjjoeahccaaW.PrintWords
set_option linter.unusedVariables false
theorem wrap64_id {x : Int} (h0 : -9223372036854775808 ≤ x) (h1 : x ≤ 9223372036854775807) : wrap64 x = x := by unfold wrap64; omega
theorem Ev.if_pos {α : Type} {g f : Nat → Option α} {c : Prop} [Decidable c] {r : α} (hc : c) (h : Ev g r) : Ev (fun k => if c then g k else f k) r := by
  obtain ⟨K, h⟩ := h
  exact ⟨K, fun k hk => (_root_.if_pos hc).trans (h k hk)⟩
theorem Ev.if_neg {α : Type} {g f : Nat → Option α} {c : Prop} [Decidable c] {r : α} (hc : ¬ c) (h : Ev f r) : Ev (fun k => if c then g k else f k) r := by
  obtain ⟨K, h⟩ := h
  exact ⟨K, fun k hk => (_root_.if_neg hc).trans (h k hk)⟩
theorem Ev.bind1 {α β : Type} {g : Option α} {f : Nat → α → Option β} {a : α} {r : β} (h : g = some a) (k : Ev (fun n => f n a) r) : Ev (fun n => g.bind (f n)) r := by
  obtain ⟨K, k⟩ := k
  subst h
  exact ⟨K, fun n hn => k n hn⟩
theorem wraps_i64 (n : Int) (h₀ : 0 ≤ n) (h₁ : n < 2 ^ 63) : IntKind.i64.wrap n = n := by rw [IntKind.wrap_i64]; omega
theorem ofInt_mod (x : Int) : BitVec.ofInt 64 x = BitVec.ofInt 64 (x % 18446744073709551616) := by
  apply BitVec.eq_of_toNat_eq
  rw [BitVec.toNat_ofInt, BitVec.toNat_ofInt]
  congr 1
  omega
theorem bits64_mod (op : BinOp) (x y : Int) : bits op .i64 x y = bits op .i64 (x % 18446744073709551616) (y % 18446744073709551616) := by
  unfold bits
  show IntKind.i64.wrap _ = IntKind.i64.wrap _
  have e1 : BitVec.ofInt IntKind.i64.bits x = BitVec.ofInt IntKind.i64.bits (x % 18446744073709551616) := ofInt_mod x
  have e2 : BitVec.ofInt IntKind.i64.bits y = BitVec.ofInt IntKind.i64.bits (y % 18446744073709551616) := ofInt_mod y
  rw [e1, e2]
theorem and_nat64 (a b : Nat) (ha : a < 18446744073709551616) (hb : b < 18446744073709551616) : bits .and .i64 a b = IntKind.i64.wrap ((a &&& b : Nat) : Int) := by
  simp only [bits, BitVec.ofInt_natCast, BitVec.toNat_and, BitVec.toNat_ofNat]
  show IntKind.i64.wrap (((a % 2 ^ 64) &&& (b % 2 ^ 64) : Nat) : Int) = _
  rw [Nat.mod_eq_of_lt (by omega), Nat.mod_eq_of_lt (by omega)]
theorem rd_get (l : List Int) (i : Nat) (h : i < l.length) : rd l (i : Int) = l[i] := by simp [rd, h]
theorem bt_get (s : ByteArray) (i : Nat) (h : i < s.size) : bt s (i : Int) = ((s[i]'h).toNat : Int) := by simp [bt, h]
end Go.Proofs.Ytogndjjoeahccaa.Q
