/- The two readings of a little-endian number are one. Conditions: at most 7 bytes. -/
import Derived.Test.YtolffokfddjceaaQ1
import Derived.Test.YtolffokfddjceaaQ3
import Derived.Test.YtolffokfddjceaaNum
namespace Go.Proofs.Ytolffokfddjceaa.Q
open Go.RowKit Go.Proofs.YtolffokfddjceaaW.PrintWords
set_option linter.unusedVariables false
theorem bits_or_nat (a b : Nat) (ha : a < 2 ^ 63) (hb : b < 2 ^ 63) : Go.bits .or .i64 (a : Int) (b : Int) = ((a ||| b : Nat) : Int) := by
  have ha' : a % 2 ^ IntKind.i64.bits = a := Nat.mod_eq_of_lt (Nat.lt_of_lt_of_le ha (by decide))
  have hb' : b % 2 ^ IntKind.i64.bits = b := Nat.mod_eq_of_lt (Nat.lt_of_lt_of_le hb (by decide))
  simp only [Go.bits, BitVec.ofInt_natCast, BitVec.toNat_or, BitVec.toNat_ofNat, ha', hb']
  have h := Nat.or_lt_two_pow ha hb
  exact wraps_i64 _ (Int.natCast_nonneg _) (by exact_mod_cast h)
/-- What lies below a power of two is laid beside what lies above it. -/
theorem or_low (q k b : Nat) (hb : b < 2 ^ k) (hq : 2 ^ k * q + b < 2 ^ 63) : Go.bits .or .i64 ((2 ^ k * q : Nat) : Int) (b : Int) = ((2 ^ k * q + b : Nat) : Int) := by
  rw [bits_or_nat _ _ (by omega) (by omega), Nat.two_pow_add_eq_or_of_lt hb]
theorem or_high (q k b : Nat) (hb : b < 2 ^ k) (hq : 2 ^ k * q + b < 2 ^ 63) : Go.bits .or .i64 (b : Int) ((2 ^ k * q : Nat) : Int) = ((2 ^ k * q + b : Nat) : Int) := by
  rw [bits_or_nat _ _ (by omega) (by omega), Nat.or_comm, Nat.two_pow_add_eq_or_of_lt hb]
/-- Byte i of a string. -/
def btN (s : ByteArray) (i : Nat) : Nat := (bt s (i : Int)).toNat
theorem btN_eq (s : ByteArray) (i : Nat) : bt s (i : Int) = (btN s i : Int) := by have := (bt_range s (i : Int)).1; unfold btN; omega
theorem btN_lt (s : ByteArray) (i : Nat) : btN s i < 256 := by have := (bt_range s (i : Int)).2; unfold btN; omega
/-- The number that the first n bytes tell. -/
def numN (s : ByteArray) : Nat → Nat
  | 0 => 0
  | i + 1 => 2 ^ (8 * i) * btN s i + numN s i
theorem numN_lt (s : ByteArray) : ∀ i, numN s i < 2 ^ (8 * i)
  | 0 => by simp [numN]
  | i + 1 => by
    have h1 := numN_lt s i
    have h2 := btN_lt s i
    unfold numN
    have e : 2 ^ (8 * (i + 1)) = 2 ^ (8 * i) * 256 := by rw [show 8 * (i + 1) = 8 * i + 8 from by omega, Nat.pow_add]
    rw [e]
    have h3 : 2 ^ (8 * i) * btN s i ≤ 2 ^ (8 * i) * 255 := Nat.mul_le_mul_left _ (by omega)
    omega
theorem pow_small (i : Nat) (h : i ≤ 7) : 2 ^ (8 * i) ≤ 2 ^ 56 := Nat.pow_le_pow_right (by decide) (by omega)
theorem dec_wraps (s : ByteArray) (i : Nat) (h : i ≤ 1000) : wrap64 (8 * (i : Int)) = 8 * (i : Int) ∧ wrap64 ((i : Int) + 1) = ((i + 1 : Nat) : Int) ∧ wrap64 (bt s (i : Int)) = (btN s i : Int) := by
  have hb := btN_lt s i
  refine ⟨wrap64_id (by omega) (by omega), ?_, ?_⟩
  · rw [wrap64_id (by omega) (by omega)]
    rfl
  · rw [btN_eq]
    exact wrap64_id (by omega) (by omega)
theorem shl_byte (s : ByteArray) (i : Nat) (h : i ≤ 7) (h3 : 2 ^ (8 * i) * btN s i < 2 ^ 63) : shl .i64 (btN s i : Int) (8 * (i : Int)) = ((2 ^ (8 * i) * btN s i : Nat) : Int) := by
  unfold shl
  have t : (8 * (i : Int)).toNat = 8 * i := by omega
  have t2 : 8 * i ≤ IntKind.i64.bits := by show 8 * i ≤ 64; omega
  have h4 : (btN s i : Int) * 2 ^ (8 * i) = ((2 ^ (8 * i) * btN s i : Nat) : Int) := by
    rw [Int.mul_comm]
    simp
  rw [t, Nat.min_eq_left t2, h4]
  exact wraps_i64 _ (Int.natCast_nonneg _) (by exact_mod_cast h3)
theorem dec_loop (s : ByteArray) (hs : s.size ≤ 7) (d : Nat) : ∀ i : Nat, i ≤ s.size → s.size - i = d → Ev (fun k => impl_DecodeFixed.l0 k s ((numN s i : Nat) : Int) (s.size : Int) i) ((numN s s.size : Nat) : Int) := by
  induction d with
  | zero =>
    intro i h1 h2
    obtain rfl : i = s.size := by omega
    refine Ev.step (f := fun _ => some ((numN s s.size : Nat) : Int)) (fun k => ?_) (Ev.now _)
    rw [impl_DecodeFixed.l0, if_neg (by omega)]
  | succ d ih =>
    intro i h1 h2
    have hb := btN_lt s i
    have hn := numN_lt s i
    have hn2 := numN_lt s (i + 1)
    have hp := pow_small i (by omega)
    have hp2 := pow_small (i + 1) (by omega)
    have ihh := ih (i + 1) (by omega) (by omega)
    have f1 : (i : Int) < (s.size : Int) := by omega
    have f2 : (0 : Int) ≤ (i : Int) := by omega
    have f3 : (0 : Int) ≤ 8 * (i : Int) := by omega
    have h5 : numN s (i + 1) < 2 ^ 63 := by omega
    have h3 : 2 ^ (8 * i) * btN s i < 2 ^ 63 := Nat.lt_of_le_of_lt (Nat.le_add_right _ (numN s i)) h5
    have e4 := shl_byte s i (by omega) h3
    have e5 : Go.bits .or .i64 ((numN s i : Nat) : Int) ((2 ^ (8 * i) * btN s i : Nat) : Int) = ((numN s (i + 1) : Nat) : Int) := or_high (btN s i) (8 * i) (numN s i) hn h5
    obtain ⟨e1, e2, e3⟩ := dec_wraps s i (by omega)
    refine Ev.step (fun k => ?_) ihh
    rw [impl_DecodeFixed.l0, if_pos f1, if_pos f2, if_pos f1, e1, if_pos f3, e2, e3, e4, e5]
theorem dec_ev (s : ByteArray) (hs : s.size ≤ 7) : Ev (fun k => impl_DecodeFixed.f k s) ((numN s s.size : Nat) : Int) := by
  unfold impl_DecodeFixed.f
  exact Ev.if_neg (by omega) (dec_loop s hs s.size 0 (by omega) (by omega))
/-- The number that d bytes from place i on tell. -/
def numT (s : ByteArray) : Nat → Nat → Nat
  | _, 0 => 0
  | i, d + 1 => numT s (i + 1) d * 256 + btN s i
theorem numT_lt (s : ByteArray) : ∀ d i, numT s i d < 2 ^ (8 * d)
  | 0, i => by simp [numT]
  | d + 1, i => by
    have h1 := numT_lt s d (i + 1)
    have h2 := btN_lt s i
    have e : 2 ^ (8 * (d + 1)) = 2 ^ (8 * d) * 256 := by rw [show 8 * (d + 1) = 8 * d + 8 from by omega, Nat.pow_add]
    rw [e]
    show numT s (i + 1) d * 256 + btN s i < _
    omega
theorem numT_numN (s : ByteArray) : ∀ d i, numN s (i + d) = 2 ^ (8 * i) * numT s i d + numN s i
  | 0, i => by simp [numT]
  | d + 1, i => by
    have h := numT_numN s d (i + 1)
    have e : 2 ^ (8 * (i + 1)) = 2 ^ (8 * i) * 256 := by rw [show 8 * (i + 1) = 8 * i + 8 from by omega, Nat.pow_add]
    rw [show i + (d + 1) = i + 1 + d from by omega, h, e]
    show _ = 2 ^ (8 * i) * (numT s (i + 1) d * 256 + btN s i) + numN s i
    have e2 : numN s (i + 1) = 2 ^ (8 * i) * btN s i + numN s i := rfl
    rw [e2, Nat.mul_add, Nat.mul_assoc, Nat.mul_comm 256]
    omega
theorem num_wrap1 (i : Int) (h0 : 0 ≤ i) (h1 : i ≤ 1000) : wrap64 (i - 1) = i - 1 := wrap64_id (by omega) (by omega)
theorem num_wrap2 (n : Nat) (h : n < 2 ^ 48) : wrap64 ((n : Int) * 256) = ((2 ^ 8 * n : Nat) : Int) := by
  rw [wrap64_id (by omega) (by omega)]
  omega
theorem num_loop (s : ByteArray) (hs : s.size ≤ 7) (i : Nat) : ∀ d : Nat, i + d = s.size → Ev (fun k => spec_l17Num.l0 k s ((numT s i d : Nat) : Int) ((i : Int) - 1)) ((numT s 0 s.size : Nat) : Int) := by
  induction i with
  | zero =>
    intro d h
    obtain rfl : d = s.size := by omega
    refine Ev.step (f := fun _ => some ((numT s 0 s.size : Nat) : Int)) (fun k => ?_) (Ev.now _)
    rw [spec_l17Num.l0, if_neg (by omega)]
  | succ i ih =>
    intro d h
    have hb := btN_lt s i
    have hn : numT s (i + 1) d < 2 ^ 48 := Nat.lt_of_lt_of_le (numT_lt s d (i + 1)) (Nat.pow_le_pow_right (by decide) (by omega))
    have h5 : 2 ^ 8 * numT s (i + 1) d + btN s i < 2 ^ 63 := by omega
    have hv : numT s i (d + 1) = 2 ^ 8 * numT s (i + 1) d + btN s i := by show numT s (i + 1) d * 256 + btN s i = _; omega
    have ihh := ih (d + 1) (by omega)
    have e0 : ((i + 1 : Nat) : Int) - 1 = (i : Int) := by omega
    have f1 : (i : Int) ≥ 0 := by omega
    have f2 : (0 : Int) ≤ (i : Int) := by omega
    have f3 : (i : Int) < (s.size : Int) := by omega
    have e5 : Go.bits .or .i64 ((2 ^ 8 * numT s (i + 1) d : Nat) : Int) (btN s i : Int) = ((numT s i (d + 1) : Nat) : Int) := by
      rw [hv]
      exact or_low (numT s (i + 1) d) 8 (btN s i) hb h5
    have e2 := num_wrap1 (i : Int) f2 (by omega)
    have e4 := num_wrap2 (numT s (i + 1) d) hn
    obtain ⟨_, _, e3⟩ := dec_wraps s i (by omega)
    generalize numT s (i + 1) d = m at e4 e5 ⊢
    rw [e0]
    refine Ev.step (fun k => ?_) ihh
    rw [spec_l17Num.l0, if_pos f1, if_pos f2, if_pos f3, e2, e3, e4, e5]
theorem num_ev (s : ByteArray) (hs : s.size ≤ 7) : Ev (fun k => spec_l17Num.f k s) ((numN s s.size : Nat) : Int) := by
  have h := num_loop s hs s.size 0 (by omega)
  have e := numT_numN s s.size 0
  rw [Nat.zero_add] at e
  have e2 : numN s s.size = numT s 0 s.size := by rw [e]; simp [numN]
  have e3 : wrap64 ((s.size : Int) - 1) = (s.size : Int) - 1 := wrap64_id (by omega) (by omega)
  rw [e2]
  unfold spec_l17Num.f
  rw [e3]
  exact h
end Go.Proofs.Ytolffokfddjceaa.Q
