/- Facts on whole numbers, their bits, and rounds. Conditions: those that stand before each theorem. -/
import Derived.Test.YtogndjjoeahccaaDoorWMore
import Derived.Laws.BitsLemmas
namespace Go.Proofs.YtogndjjoeahccaaDoor.Q
open Go.RowKit Go.Proofs.YtogndjjoeahccaaDoorW.PrintWords
set_option linter.unusedVariables false
theorem wrap64_id {x : Int} (h0 : -9223372036854775808 ≤ x) (h1 : x ≤ 9223372036854775807) : wrap64 x = x := by unfold wrap64; omega
theorem wrap64_wf (x : Int) : -9223372036854775808 ≤ wrap64 x ∧ wrap64 x ≤ 9223372036854775807 := by unfold wrap64; omega
theorem wf_i64 {x : Int} (h : (Lit.int .i64 x).wf = true) : -9223372036854775808 ≤ x ∧ x ≤ 9223372036854775807 := by
  simp [Lit.wf, IntKind.min, IntKind.max, IntKind.signed, IntKind.bits] at h
  omega
theorem maxLen_le : maxLen ≤ 9223372036854775807 := by decide
theorem Ev.if_pos {α : Type} {g f : Nat → Option α} {c : Prop} [Decidable c] {r : α} (hc : c) (h : Ev g r) : Ev (fun k => if c then g k else f k) r := by
  obtain ⟨K, h⟩ := h
  exact ⟨K, fun k hk => (_root_.if_pos hc).trans (h k hk)⟩
theorem Ev.if_neg {α : Type} {g f : Nat → Option α} {c : Prop} [Decidable c] {r : α} (hc : ¬ c) (h : Ev f r) : Ev (fun k => if c then g k else f k) r := by
  obtain ⟨K, h⟩ := h
  exact ⟨K, fun k hk => (_root_.if_neg hc).trans (h k hk)⟩
theorem Ev.bind1 {α β : Type} {g : Option α} {f : Nat → α → Option β} {a : α} {r : β} (h : g = some a) (k : Ev (fun n => f n a) r) : Ev (fun n => g.bind (f n)) r := by
  obtain ⟨K, k⟩ := k
  subst h
  exact ⟨K, fun n hn => k n hn⟩
theorem bits_xor_nat (k : IntKind) (j : Nat) (hj : j ≤ k.bits) (hk : ∀ n : Int, 0 ≤ n → n < 2 ^ j → k.wrap n = n) (a b : Nat) (ha : a < 2 ^ j) (hb : b < 2 ^ j) :
    bits .xor k a b = ((a ^^^ b : Nat) : Int) := by
  have hp : 2 ^ j ≤ 2 ^ k.bits := Nat.pow_le_pow_right (by decide) hj
  have ha' : a % 2 ^ k.bits = a := Nat.mod_eq_of_lt (Nat.lt_of_lt_of_le ha hp)
  have hb' : b % 2 ^ k.bits = b := Nat.mod_eq_of_lt (Nat.lt_of_lt_of_le hb hp)
  have cast : ∀ n : Nat, n < 2 ^ j → ((n : Nat) : Int) < 2 ^ j := fun n h => by exact_mod_cast h
  simp only [bits, BitVec.ofInt_natCast, BitVec.toNat_xor, BitVec.toNat_ofNat, ha', hb']
  exact hk _ (Int.natCast_nonneg _) (cast _ (Nat.xor_lt_two_pow ha hb))
theorem wraps_u32 (n : Int) (h₀ : 0 ≤ n) (h₁ : n < 2 ^ 32) : IntKind.u32.wrap n = n := by rw [IntKind.wrap_u32]; omega
theorem wraps_i64 (n : Int) (h₀ : 0 ≤ n) (h₁ : n < 2 ^ 63) : IntKind.i64.wrap n = n := by rw [IntKind.wrap_i64]; omega
theorem wrap_u64 (n : Int) : IntKind.u64.wrap n = n % 18446744073709551616 := by simp [IntKind.wrap, IntKind.bits, IntKind.signed]
theorem wraps_u64 (n : Int) (h₀ : 0 ≤ n) (h₁ : n < 2 ^ 64) : IntKind.u64.wrap n = n := by rw [wrap_u64]; omega
/-- '^' of two numbers below 2^32 is one number below 2^32, as int64 and as uint32. -/
theorem xor32 {a b : Int} (ha : 0 ≤ a) (ha2 : a < 4294967296) (hb : 0 ≤ b) (hb2 : b < 4294967296) : ∃ n : Nat, n < 4294967296 ∧ bits .xor .i64 a b = (n : Int) ∧ bits .xor .u32 a b = (n : Int) := by
  obtain ⟨a, rfl⟩ := Int.eq_ofNat_of_zero_le ha
  obtain ⟨b, rfl⟩ := Int.eq_ofNat_of_zero_le hb
  have ha3 : a < 2 ^ 32 := by omega
  have hb3 : b < 2 ^ 32 := by omega
  refine ⟨a ^^^ b, Nat.xor_lt_two_pow ha3 hb3, ?_, ?_⟩
  · exact bits_xor_nat .i64 63 (by decide) wraps_i64 a b (by omega) (by omega)
  · exact bits_xor_nat .u32 32 (by decide) wraps_u32 a b ha3 hb3
/-- Bits of an int64 do not hang on how its two's complement is told. -/
theorem ofInt_mod (x : Int) : BitVec.ofInt 64 x = BitVec.ofInt 64 (x % 18446744073709551616) := by
  apply BitVec.eq_of_toNat_eq
  rw [BitVec.toNat_ofInt, BitVec.toNat_ofInt]
  congr 1
  omega
theorem bits64_mod (op : BinOp) (x y : Int) : bits op .i64 x y = bits op .i64 (x % 18446744073709551616) (y % 18446744073709551616) := by
  unfold bits
  show IntKind.i64.wrap _ = IntKind.i64.wrap _
  have e1 : BitVec.ofInt IntKind.i64.bits x = BitVec.ofInt IntKind.i64.bits (x % 18446744073709551616) := ofInt_mod x
  have e2 : BitVec.ofInt IntKind.i64.bits y = BitVec.ofInt IntKind.i64.bits (y % 18446744073709551616) := ofInt_mod y
  rw [e1, e2]
theorem and_nat64 (a b : Nat) (ha : a < 18446744073709551616) (hb : b < 18446744073709551616) : bits .and .i64 a b = IntKind.i64.wrap ((a &&& b : Nat) : Int) := by
  simp only [bits, BitVec.ofInt_natCast, BitVec.toNat_and, BitVec.toNat_ofNat]
  show IntKind.i64.wrap (((a % 2 ^ 64) &&& (b % 2 ^ 64) : Nat) : Int) = _
  rw [Nat.mod_eq_of_lt (by omega), Nat.mod_eq_of_lt (by omega)]
/-- '& 0xffffffff' of any int64. -/
theorem mask32 (x : Int) (h0 : -9223372036854775808 ≤ x) (h1 : x ≤ 9223372036854775807) : bits .and .i64 x 4294967295 = x % 4294967296 := by
  rw [bits64_mod]
  obtain ⟨a, ha⟩ := Int.eq_ofNat_of_zero_le (a := x % 18446744073709551616) (by omega)
  have e := and_nat64 a 4294967295 (by omega) (by omega)
  rw [ha, show (4294967295 : Int) % 18446744073709551616 = ((4294967295 : Nat) : Int) from by decide, e, show (4294967295 : Nat) = 2 ^ 32 - 1 from rfl, Nat.and_two_pow_sub_one_eq_mod, wraps_i64 _ (by omega) (by omega)]
  omega
/-! ### lists read by an index -/
theorem rd_get (l : List Int) (i : Nat) (h : i < l.length) : rd l (i : Int) = l[i] := by simp [rd, h]
theorem rdOf_get {α : Type} (d : α) (l : List α) (i : Nat) (h : i < l.length) : rdOf d l (i : Int) = l[i] := by simp [rdOf, h]
theorem bt_get (s : ByteArray) (i : Nat) (h : i < s.size) : bt s (i : Int) = ((s[i]'h).toNat : Int) := by simp [bt, h]
end Go.Proofs.YtogndjjoeahccaaDoor.Q
