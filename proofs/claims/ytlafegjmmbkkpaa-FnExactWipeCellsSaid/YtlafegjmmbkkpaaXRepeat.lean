/- The contract of strings.Repeat at the text of one zero, up to sixty-four times. Conditions: those before each theorem. -/
import Derived.Test.YtlafegjmmbkkpaaQ0
import Derived.Test.YtlafegjmmbkkpaaNum
import Derived.Lib.Bytealg
namespace Go.Proofs.Ytlafegjmmbkkpaa.Q
open Go.RowKit Go.Proofs.YtlafegjmmbkkpaaW.PrintWords Go.Proofs.YtlafegjmmbkkpaaW.PrintMore
set_option linter.unusedVariables false
def zer : ByteArray := ⟨#[48, 48, 48, 48, 48, 48, 48, 48, 48, 48, 48, 48, 48, 48, 48, 48, 48, 48, 48, 48, 48, 48, 48, 48, 48, 48, 48, 48, 48, 48, 48, 48, 48, 48, 48, 48, 48, 48, 48, 48, 48, 48, 48, 48, 48, 48, 48, 48, 48, 48, 48, 48, 48, 48, 48, 48, 48, 48, 48, 48, 48, 48, 48, 48]⟩
def strings_Repeat.f (a0 : ByteArray) (a1 : Int) : Option ByteArray := if a0.toList = [48] ∧ 0 ≤ a1 ∧ a1 ≤ 64 then some (zer.extract 0 a1.toNat) else none
theorem hasP_lite (s p : ByteArray) (b : Bool) (W : World) (hle : decide (p.size ≤ s.size) = true) (hb : ((s.extract 0 p.size).toList == p.toList) = b) :
    Calls Try.prog 52 #[.string s, .string p] W fun e w' => e = .returned (.bool b) ∧ w' = W := by
  have hl : p.size ≤ s.size := of_decide_eq_true hle
  have hlz : (p.size : Int) ≤ (s.size : Int) := by omega
  go_enter Try.func52, Try.ntmps52
  go_wp2
  go_ret
  exact ⟨rfl, rfl⟩
theorem hasP_calls (s p : ByteArray) (b : Bool) (W : World) (hle : decide (p.size ≤ s.size) = true) (hb0 : (s.data.toList.take p.data.toList.length == p.data.toList) = b) :
    Calls Try.prog 45 #[.string s, .string p] W fun e w' => e = .returned (.bool b) ∧ w' = W := by
  have hb : ((s.extract 0 p.size).toList == p.toList) = b := by
    rw [Lib.toList_data, Lib.toList_data, ByteArray.data_extract, Array.toList_extract, ← hb0, data_length]
    rfl
  have hc := hasP_lite s p b W hle hb
  clear hle hb hb0
  go_enter Try.func45, Try.ntmps45
  go_wp2_with (go_at_call 52; refine hc.mono ?_; rintro e w' ⟨rfl, rfl⟩)
  go_ret
  exact ⟨rfl, rfl⟩
theorem mask_small : ∀ n : Nat, n < 65 → Go.bits .and .u64 (n : Int) 4294967295 = (n : Int) := by decide
theorem mask_one : Go.bits .and .u64 1 4294967295 = 1 := by decide
theorem mask_zero : Go.bits .and .u64 0 4294967295 = 0 := by decide
theorem wrap_small : ∀ n : Nat, n < 65 → IntKind.u64.wrap (n : Int) = (n : Int) := by decide
theorem mul64_calls (n : Nat) (hn : n ≤ 64) (W : World) : Calls Try.prog 51 #[.int .u64 1, .int .u64 (n : Int)] W fun e w' => e = .returned (.tuple #[.int .u64 0, .int .u64 (n : Int)]) ∧ w' = W := by
  have h1 := mask_one
  have h2 := mask_small n (by omega)
  have h3 := wrap_small n (by omega)
  have h4 : (n : Int) / 4294967296 = 0 := by omega
  have h5 := mask_zero
  go_enter Try.func51, Try.ntmps51
  go_wp2
  go_ret2
  exact ⟨rfl, rfl⟩
theorem mul_calls (n : Nat) (hn : n ≤ 64) (W : World) : Calls Try.prog 44 #[.int .u64 1, .int .u64 (n : Int)] W fun e w' => e = .returned (.tuple #[.int .u64 0, .int .u64 (n : Int)]) ∧ w' = W := by
  have hc := mul64_calls n hn W
  go_enter Try.func44, Try.ntmps44
  go_wp2_with (go_at_call 51; refine hc.mono ?_; rintro e w' ⟨rfl, rfl⟩)
  go_ret2
  exact ⟨rfl, rfl⟩
set_option maxHeartbeats 2000000 in
set_option maxRecDepth 100000 in
theorem strings_Repeat.calls (a0 : ByteArray) (a1 : Int) (r : ByteArray) (w : World) (h : strings_Repeat.f a0 a1 = some r) :
    Calls Try.prog 40 #[.string a0, .int .i64 a1] w fun e w' => e = .returned (.string r) ∧ Drawn0 w w' := by
  unfold strings_Repeat.f at h
  by_cases c : a0.toList = [48] ∧ 0 ≤ a1 ∧ a1 ≤ 64
  · rw [if_pos c] at h
    obtain rfl := Option.some.inj h
    obtain ⟨c1, c2, c3⟩ := c
    obtain rfl : a0 = ⟨#[48]⟩ := by
      have h1 := Lib.toList_data a0
      rw [c1] at h1
      exact ByteArray.ext (Array.ext' h1.symm)
    obtain ⟨n, rfl⟩ := Int.eq_ofNat_of_zero_le c2
    have hn : n ≤ 64 := by omega
    clear h c1 c2
    rw [Int.toNat_natCast]
    by_cases n0 : n = 0
    · subst n0
      go_enter Try.func40, Try.ntmps40
      go_wp2
      go_ret
      exact ⟨rfl, Drawn0.refl _⟩
    by_cases n1 : n = 1
    · subst n1
      go_enter Try.func40, Try.ntmps40
      go_wp2
      go_ret
      exact ⟨rfl, Drawn0.refl _⟩
    have e0 : ((n : Int) == 0) = false := beq_eq_false_iff_ne.2 (by omega)
    have e1 : ((n : Int) == 1) = false := beq_eq_false_iff_ne.2 (by omega)
    have e2 : decide ((n : Int) < 0) = false := decide_eq_false (by omega)
    have e3 := wrap_small n (by omega)
    have e4 : decide ((n : Int) > 9223372036854775807) = false := decide_eq_false (by omega)
    have e5 : wrap64 (n : Int) = (n : Int) := wrap64_id (by omega) (by omega)
    have e6 : decide ((n : Int) ≤ 128) = true := decide_eq_true (by omega)
    have e7 : decide ((n : Int) ≤ 64) = true := decide_eq_true (by omega)
    have HM := Aside0.mk (mul_calls n hn)
    clear n0 n1 c3
    go_enter Try.func40, Try.ntmps40
    go_wp2_with (first | (go_at_call 44; refine (HM.out _).mono ?_; rintro e w1 ⟨rfl, rfl⟩) | (go_at_call 45; refine (hasP_calls _ _ false _ (by decide) (by decide)).mono ?_; rintro e w1 ⟨rfl, rfl⟩) | (go_at_call 45; refine (hasP_calls _ _ true _ (by decide) (by decide)).mono ?_; rintro e w1 ⟨rfl, rfl⟩))
    go_ret
    exact ⟨rfl, Drawn0.refl _⟩
  · rw [if_neg c] at h
    cases h
end Go.Proofs.Ytlafegjmmbkkpaa.Q
