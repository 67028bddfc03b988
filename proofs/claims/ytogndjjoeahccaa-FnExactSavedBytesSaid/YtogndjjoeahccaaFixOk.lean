/- The two little-endian encodings of a number are one. Conditions: the size is 0 to 8, the number is an int64. -/
import Derived.Test.YtogndjjoeahccaaQ3
import Derived.Test.YtogndjjoeahccaaQ8
import Derived.Test.YtogndjjoeahccaaNum
namespace Go.Proofs.Ytogndjjoeahccaa.Q
open Go.RowKit Go.Proofs.YtogndjjoeahccaaW.PrintWords
set_option linter.unusedVariables false
def dig (n : Int) (i : Nat) : Int := n / 2 ^ (8 * i) % 256
def digs (n : Int) (s : Nat) : List Int := (List.range s).map (dig n)
theorem digs_length (n : Int) (s : Nat) : (digs n s).length = s := by simp [digs]
theorem digs_succ (n : Int) (s : Nat) : digs n (s + 1) = digs n s ++ [dig n s] := by simp [digs, List.range_succ]
def fixB (n : Int) (s : Nat) : ByteArray := strOfNums (digs n s)
theorem mask8 (x : Int) : bits .and .i64 x 255 = x % 256 := by
  rw [bits64_mod]
  obtain ⟨a, ha⟩ := Int.eq_ofNat_of_zero_le (a := x % 18446744073709551616) (by omega)
  have e := and_nat64 a 255 (by omega) (by omega)
  rw [ha, show (255 : Int) % 18446744073709551616 = ((255 : Nat) : Int) from by decide, e, show (255 : Nat) = 2 ^ 8 - 1 from rfl, Nat.and_two_pow_sub_one_eq_mod, wraps_i64 _ (by omega) (by omega)]
  omega
theorem div_step (n : Int) (i : Nat) : n / 2 ^ (8 * i) / 256 = n / 2 ^ (8 * (i + 1)) := by
  rw [Int.ediv_ediv_of_nonneg (by have := Int.pow_pos (n := 2) (m := 8 * i) (by omega); omega)]
  congr 1
  rw [show 8 * (i + 1) = 8 * i + 8 from by omega, Int.pow_add]
  rfl
theorem l17Fix_loop (n : Int) (s : Nat) (hs : s ≤ 1000000) (d : Nat) : ∀ i : Nat, i ≤ s → s - i = d → Ev (fun k => spec_l17Fix.l0 k (n / 2 ^ (8 * i)) (s : Int) (digs n i) i) (fixB n s) := by
  induction d with
  | zero =>
    intro i h1 h2
    obtain rfl : i = s := by omega
    refine Ev.step (f := fun _ => some (fixB n i)) (fun k => ?_) (Ev.now _)
    rw [spec_l17Fix.l0, if_neg (by omega)]
    rfl
  | succ d ih =>
    intro i h1 h2
    refine Ev.step (fun k => ?_) (ih (i + 1) (by omega) (by omega))
    rw [spec_l17Fix.l0, if_pos (by omega), if_pos (by rw [digs_length]; omega), mask8, Int.emod_emod_of_dvd _ (by decide), div_step, wrap64_id (by omega) (by omega), digs_succ]
    rfl
theorem l17Fix_ev (n : Int) (s : Nat) (hs : s ≤ 1000000) : Ev (fun k => spec_l17Fix.f k n (s : Int)) (fixB n s) := by
  have h := l17Fix_loop n s hs s 0 (by omega) (by omega)
  simpa [digs, spec_l17Fix.f] using h
theorem shr_dig (n : Int) (i : Nat) (hi : i < 8) : shr .i64 n (8 * (i : Int)) % 256 = dig n i := by
  unfold shr dig
  have e : (8 * (i : Int)).toNat = 8 * i := by omega
  rw [e, Nat.min_eq_left (by show 8 * i ≤ 64; omega)]
theorem fixed_loop (n : Int) (s : Nat) (hs : s ≤ 8) (d : Nat) : ∀ i : Nat, i ≤ s → s - i = d → Ev (fun k => impl_fixed.l0 k n (digs n i ++ List.replicate (s - i) 0) (s : Int) i) (fixB n s) := by
  induction d with
  | zero =>
    intro i h1 h2
    obtain rfl : i = s := by omega
    refine Ev.step (f := fun _ => some (fixB n i)) (fun k => ?_) (Ev.now _)
    rw [impl_fixed.l0, if_neg (by omega)]
    simp [fixB]
  | succ d ih =>
    intro i h1 h2
    refine Ev.step (fun k => ?_) (ih (i + 1) (by omega) (by omega))
    have hl : (digs n i ++ List.replicate (s - i) (0 : Int)).length = s := by simp [digs_length]; omega
    rw [impl_fixed.l0, if_pos (by omega), wrap64_id (x := 8 * (i : Int)) (by omega) (by omega), if_pos (by omega), if_pos (by omega), hl, if_pos (by omega), shr_dig n i (by omega), wrap64_id (by omega) (by omega), Int.toNat_natCast]
    have e : (digs n i ++ List.replicate (s - i) (0 : Int)).set i (dig n i) = digs n (i + 1) ++ List.replicate (s - (i + 1)) 0 := by
      rw [List.set_append_right _ _ (by rw [digs_length]; omega), digs_length, Nat.sub_self, show s - i = (s - (i + 1)) + 1 from by omega, List.replicate_succ, List.set_cons_zero, digs_succ]
      simp
    rw [e]
    rfl
theorem fixed_ev (n : Int) (s : Nat) (hs : s ≤ 8) : Ev (fun k => impl_fixed.f k n (s : Int)) (fixB n s) := by
  have h := fixed_loop n s hs s 0 (by omega) (by omega)
  obtain ⟨K, h⟩ := h
  refine ⟨K, fun k hk => ?_⟩
  have h1 := h k hk
  dsimp only at h1 ⊢
  unfold impl_fixed.f
  rw [if_pos (by omega), if_pos (by omega)]
  simp only [Option.bind_some, Int.toNat_natCast, List.length_replicate]
  simpa [digs] using h1
end Go.Proofs.Ytogndjjoeahccaa.Q
