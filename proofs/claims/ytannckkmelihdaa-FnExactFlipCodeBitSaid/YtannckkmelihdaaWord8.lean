/- A word of eight bytes as a number, read and written by the program. Conditions: those before each theorem. -/
import Derived.Test.YtannckkmelihdaaQ1
import Derived.Test.YtannckkmelihdaaQ2
import Derived.Test.YtannckkmelihdaaNum
namespace Go.Proofs.Ytannckkmelihdaa.Q
open Go.RowKit Go.Proofs.YtannckkmelihdaaW.PrintWords Go.Proofs.YtannckkmelihdaaW.PrintLast
set_option linter.unusedVariables false
def dig (n : Int) (i : Nat) : Int := n / 2 ^ (8 * i) % 256
def digs (n : Int) (s : Nat) : List Int := (List.range s).map (dig n)
theorem digs_length (n : Int) (s : Nat) : (digs n s).length = s := by simp [digs]
theorem digs_succ (n : Int) (s : Nat) : digs n (s + 1) = digs n s ++ [dig n s] := by simp [digs, List.range_succ]
def fixB (n : Int) (s : Nat) : ByteArray := strOfNums (digs n s)
theorem shr_dig (n : Int) (i : Nat) (hi : i < 8) : shr .i64 n (8 * (i : Int)) % 256 = dig n i := by
  unfold shr dig
  have e : (8 * (i : Int)).toNat = 8 * i := by omega
  rw [e, Nat.min_eq_left (by show 8 * i ≤ 64; omega)]
theorem fixed_loop (n : Int) (s : Nat) (hs : s ≤ 8) (d : Nat) : ∀ i : Nat, i ≤ s → s - i = d → Ev (fun k => impl_fixed.l0 k n (digs n i ++ List.replicate (s - i) 0) (s : Int) i) (fixB n s) := by
  induction d with
  | zero =>
    intro i h1 h2
    obtain rfl : i = s := by omega
    refine Ev.step (f := fun _ => some (fixB n i)) (fun k => ?_) (Ev.now _)
    rw [impl_fixed.l0, if_neg (by omega)]
    simp [fixB]
  | succ d ih =>
    intro i h1 h2
    refine Ev.step (fun k => ?_) (ih (i + 1) (by omega) (by omega))
    have hl : (digs n i ++ List.replicate (s - i) (0 : Int)).length = s := by simp [digs_length]; omega
    rw [impl_fixed.l0, if_pos (by omega), wrap64_id (x := 8 * (i : Int)) (by omega) (by omega), if_pos (by omega), if_pos (by omega), hl, if_pos (by omega), shr_dig n i (by omega), wrap64_id (by omega) (by omega), Int.toNat_natCast]
    have e : (digs n i ++ List.replicate (s - i) (0 : Int)).set i (dig n i) = digs n (i + 1) ++ List.replicate (s - (i + 1)) 0 := by
      rw [List.set_append_right _ _ (by rw [digs_length]; omega), digs_length, Nat.sub_self, show s - i = (s - (i + 1)) + 1 from by omega, List.replicate_succ, List.set_cons_zero, digs_succ]
      simp
    rw [e]
    rfl
theorem fixed_ev (n : Int) (s : Nat) (hs : s ≤ 8) : Ev (fun k => impl_fixed.f k n (s : Int)) (fixB n s) := by
  have h := fixed_loop n s hs s 0 (by omega) (by omega)
  obtain ⟨K, h⟩ := h
  refine ⟨K, fun k hk => ?_⟩
  have h1 := h k hk
  dsimp only at h1 ⊢
  unfold impl_fixed.f
  rw [if_pos (by omega), if_pos (by omega)]
  simp only [Option.bind_some, Int.toNat_natCast, List.length_replicate]
  simpa [digs] using h1
/-- Byte i of a string. -/
def by8 (s : ByteArray) (i : Nat) : Nat := (bt s (i : Int)).toNat
theorem by8_eq (s : ByteArray) (i : Nat) : bt s (i : Int) = (by8 s i : Int) := by have := (bt_range s (i : Int)).1; unfold by8; omega
theorem by8_lt (s : ByteArray) (i : Nat) : by8 s i < 256 := by have := (bt_range s (i : Int)).2; unfold by8; omega
def num8 (s : ByteArray) : Nat → Nat
  | 0 => 0
  | i + 1 => 2 ^ (8 * i) * by8 s i + num8 s i
theorem num8_lt (s : ByteArray) : ∀ i, num8 s i < 2 ^ (8 * i)
  | 0 => by simp [num8]
  | i + 1 => by
    have h1 := num8_lt s i
    have h2 := by8_lt s i
    unfold num8
    have e : 2 ^ (8 * (i + 1)) = 2 ^ (8 * i) * 256 := by rw [show 8 * (i + 1) = 8 * i + 8 from by omega, Nat.pow_add]
    rw [e]
    have h3 : 2 ^ (8 * i) * by8 s i ≤ 2 ^ (8 * i) * 255 := Nat.mul_le_mul_left _ (by omega)
    omega
theorem num8_big (s : ByteArray) (i : Nat) (h : i ≤ 8) : num8 s i < 18446744073709551616 := Nat.lt_of_lt_of_le (num8_lt s i) (Nat.pow_le_pow_right (by decide) (by omega : 8 * i ≤ 64))
theorem or_nat64 (a b : Nat) (ha : a < 18446744073709551616) (hb : b < 18446744073709551616) : bits .or .i64 a b = IntKind.i64.wrap ((a ||| b : Nat) : Int) := by
  have ha' : a % 2 ^ IntKind.i64.bits = a := Nat.mod_eq_of_lt ha
  have hb' : b % 2 ^ IntKind.i64.bits = b := Nat.mod_eq_of_lt hb
  simp only [bits, BitVec.ofInt_natCast, BitVec.toNat_or, BitVec.toNat_ofNat, ha', hb']
theorem wrap_mod (x : Int) : wrap64 x % 18446744073709551616 = x % 18446744073709551616 := by unfold wrap64; omega
theorem or_wrap (a b : Nat) (ha : a < 18446744073709551616) (hb : b < 18446744073709551616) : bits .or .i64 (wrap64 a) (wrap64 b) = wrap64 ((a ||| b : Nat) : Int) := by
  rw [bits64_mod, wrap_mod, wrap_mod, ← bits64_mod, or_nat64 a b ha hb, i64_w]
theorem shl8 (b i : Nat) (hi : i < 8) : shl .i64 (b : Int) (8 * (i : Int)) = wrap64 ((2 ^ (8 * i) * b : Nat) : Int) := by
  unfold shl
  have t : (8 * (i : Int)).toNat = 8 * i := by omega
  have t2 : 8 * i ≤ IntKind.i64.bits := by show 8 * i ≤ 64; omega
  have h4 : (b : Int) * 2 ^ (8 * i) = ((2 ^ (8 * i) * b : Nat) : Int) := by
    rw [Int.mul_comm]
    simp
  rw [t, Nat.min_eq_left t2, h4, i64_w]
theorem dec8_step (s : ByteArray) (i : Nat) (hi : i < 8) : bits .or .i64 (wrap64 ((num8 s i : Nat) : Int)) (wrap64 ((2 ^ (8 * i) * by8 s i : Nat) : Int)) = wrap64 ((num8 s (i + 1) : Nat) : Int) := by
  have hn1 := num8_big s i (Nat.le_of_lt hi)
  have hc : 2 ^ (8 * i) * by8 s i < 18446744073709551616 := Nat.lt_of_le_of_lt (Nat.le_add_right _ (num8 s i)) (num8_big s (i + 1) hi)
  rw [or_wrap _ _ hn1 hc, show num8 s (i + 1) = 2 ^ (8 * i) * by8 s i + num8 s i from rfl, Nat.two_pow_add_eq_or_of_lt (num8_lt s i), Nat.or_comm]
theorem dec8_loop (s : ByteArray) (hs : s.size = 8) (d : Nat) : ∀ i : Nat, i ≤ s.size → s.size - i = d → Ev (fun k => impl_DecodeFixed.l0 k s (wrap64 ((num8 s i : Nat) : Int)) (s.size : Int) i) (wrap64 ((num8 s s.size : Nat) : Int)) := by
  induction d with
  | zero =>
    intro i h1 h2
    obtain rfl : i = s.size := by omega
    refine Ev.step (f := fun _ => some (wrap64 ((num8 s s.size : Nat) : Int))) (fun k => ?_) (Ev.now _)
    rw [impl_DecodeFixed.l0, if_neg (by omega)]
  | succ d ih =>
    intro i h1 h2
    have f1 : (i : Int) < (s.size : Int) := by omega
    have f2 : (0 : Int) ≤ (i : Int) := by omega
    have f3 : (0 : Int) ≤ 8 * (i : Int) := by omega
    have e2 : wrap64 (8 * (i : Int)) = 8 * (i : Int) := wrap64_id (by omega) (by omega)
    have e3 : wrap64 ((i : Int) + 1) = ((i + 1 : Nat) : Int) := by rw [wrap64_id (by omega) (by omega)]; rfl
    have e4 : wrap64 (bt s (i : Int)) = (by8 s i : Int) := by
      have hb := by8_lt s i
      rw [by8_eq]
      exact wrap64_id (by omega) (by omega)
    have ihh := ih (i + 1) (by omega) (by omega)
    have hi : i < 8 := by omega
    refine Ev.step (fun k => ?_) ihh
    rw [impl_DecodeFixed.l0, if_pos f1, if_pos f2, if_pos f1, e2, if_pos f3, e3, e4, shl8 _ i hi, dec8_step s i hi]
theorem dec8_ev (s : ByteArray) (hs : s.size = 8) : Ev (fun k => impl_DecodeFixed.f k s) (wrap64 ((num8 s 8 : Nat) : Int)) := by
  have h := dec8_loop s hs s.size 0 (by omega) (by omega)
  rw [hs, show wrap64 ((num8 s 0 : Nat) : Int) = 0 from by unfold num8 wrap64; omega] at h
  unfold impl_DecodeFixed.f
  rw [hs]
  exact Ev.if_neg (by decide) h
/-- The digits of a number that is told as int64. -/
theorem dig_nat (M i : Nat) : (M : Int) / 2 ^ (8 * i) % 256 = ((M / 2 ^ (8 * i) % 256 : Nat) : Int) := by
  rw [Int.natCast_emod, Int.natCast_ediv, Int.natCast_pow]
  rfl
theorem dig_wrap (M : Nat) (hM : M < 18446744073709551616) (i : Nat) (hi : i < 8) : dig (wrap64 (M : Int)) i = ((M / 2 ^ (8 * i) % 256 : Nat) : Int) := by
  unfold dig
  by_cases h : M < 9223372036854775808
  · rw [wrap64_id (by omega) (by omega)]
    exact dig_nat M i
  · have hp : (18446744073709551616 : Int) = 2 ^ (8 * i) * (256 * 2 ^ (56 - 8 * i)) := by
      have e : (18446744073709551616 : Int) = 2 ^ (8 * i + (8 + (56 - 8 * i))) := by
        rw [show 8 * i + (8 + (56 - 8 * i)) = 64 from by omega]
        rfl
      rw [e, Int.pow_add, Int.pow_add]
      rfl
    have hw : wrap64 (M : Int) = (M : Int) + 2 ^ (8 * i) * (-(256 * 2 ^ (56 - 8 * i))) := by
      have h1 : wrap64 (M : Int) = (M : Int) - 18446744073709551616 := by unfold wrap64; omega
      rw [h1, hp, Int.mul_neg]
      rfl
    have hne : (2 : Int) ^ (8 * i) ≠ 0 := Int.pow_ne_zero (by decide)
    rw [hw, Int.add_mul_ediv_left _ _ hne, show -(256 * (2 : Int) ^ (56 - 8 * i)) = 256 * (-(2 ^ (56 - 8 * i))) from by rw [Int.mul_neg], Int.add_mul_emod_self_left]
    exact dig_nat M i
/-- The bytes of the number that some bytes tell. -/
theorem num8_digs (s : ByteArray) : ∀ n i : Nat, i < n → num8 s n / 2 ^ (8 * i) % 256 = by8 s i
  | 0, i, h => absurd h (Nat.not_lt_zero _)
  | n + 1, i, h => by
    have hb := by8_lt s n
    have hr := num8_lt s n
    unfold num8
    by_cases c : i = n
    · subst c
      rw [Nat.mul_add_div (Nat.pow_pos (by decide)), Nat.div_eq_of_lt hr, Nat.add_zero, Nat.mod_eq_of_lt hb]
    · have e : 2 ^ (8 * n) = 2 ^ (8 * i) * (256 * 2 ^ (8 * (n - i - 1))) := by
        rw [show (256 : Nat) = 2 ^ 8 from rfl, ← Nat.pow_add, ← Nat.pow_add]
        congr 1
        omega
      rw [e, Nat.mul_assoc, Nat.mul_add_div (Nat.pow_pos (by decide)), Nat.mul_assoc, Nat.mul_add_mod]
      exact num8_digs s n i (by omega)
theorem num8_dig (s : ByteArray) (i : Nat) (hi : i < 8) : num8 s 8 / 2 ^ (8 * i) % 256 = by8 s i := num8_digs s 8 i hi
theorem bytes_by8 (s : ByteArray) (i : Nat) (h : i < s.size) : (bytesOf s).getD i 0 = (by8 s i : Int) := by
  rw [← by8_eq, ← rd_bytesOf]
  simp [rd]
theorem str_bytes (s : ByteArray) : strOfNums (bytesOf s) = s := by
  apply ByteArray.ext
  apply Array.ext'
  simp [strOfNums, bytesOf, Function.comp_def]
/-- A number whose digits are a list's. -/
theorem fixB_list (M : Nat) (hM : M < 18446744073709551616) (l : List Int) (hl : l.length = 8) (h : ∀ i : Nat, i < 8 → l.getD i 0 = ((M / 2 ^ (8 * i) % 256 : Nat) : Int)) : fixB (wrap64 (M : Int)) 8 = strOfNums l := by
  unfold fixB
  congr 1
  apply List.ext_getElem
  · rw [digs_length, hl]
  · intro i h1 h2
    have hi : i < 8 := by omega
    have := h i hi
    rw [List.getD_eq_getElem?_getD, List.getElem?_eq_getElem h2, Option.getD_some] at this
    rw [this]
    simp only [digs, List.getElem_map, List.getElem_range]
    exact dig_wrap M hM i hi
end Go.Proofs.Ytannckkmelihdaa.Q
