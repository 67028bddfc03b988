/- The law FnExactBitsSet, as a statement over numbers and lists. No condition. -/
import Derived.Test.YtannckkmelihdaaSayFnExactBitsSet
import Derived.Test.YtannckkmelihdaaXOnes8
import Derived.Test.YtannckkmelihdaaInOk
namespace Go.Proofs.Ytannckkmelihdaa.Pure
open Go.RowKit Go.Proofs.Ytannckkmelihdaa.Q Go.Proofs.YtannckkmelihdaaW.PrintWords
/-- How many of a byte's lowest bits are one. -/
def pop (b : Int) : Nat → Int
  | 0 => 0
  | j + 1 => pop b j + b / 2 ^ j % 2
theorem pop_range (b : Int) (j : Nat) : 0 ≤ pop b j ∧ pop b j ≤ j := by
  induction j with
  | zero => simp [pop]
  | succ j ih =>
    simp only [pop]
    have h1 : 0 ≤ b / 2 ^ j % 2 := Int.emod_nonneg _ (by omega)
    have h2 : b / 2 ^ j % 2 < 2 := Int.emod_lt_of_pos _ (by omega)
    omega
theorem pop_ones_fin : ∀ n : Fin 256, pop (n.val : Int) 8 = ((Lib.onesCount n.val : Nat) : Int) := by decide +kernel
theorem pop_ones (b : Int) (h0 : 0 ≤ b) (h1 : b ≤ 255) : pop b 8 = ((Lib.onesCount b.toNat : Nat) : Int) := by
  have h := pop_ones_fin ⟨b.toNat, by omega⟩
  simp only [Int.toNat_of_nonneg h0] at h
  exact h
theorem bit_at (b : Int) (h0 : 0 ≤ b) (h1 : b ≤ 255) (j : Nat) (hj : j < 8) : wrap64 (bits .and .u8 (shr .u8 b j) 1) = b / 2 ^ j % 2 := by
  have e : shr .u8 b j = b / 2 ^ j := by
    unfold shr
    rw [Int.toNat_natCast, Nat.min_eq_left (by show j ≤ 8; omega)]
  have p : (0 : Int) < 2 ^ j := Int.pow_pos (by omega)
  have h2 : 0 ≤ b / 2 ^ j := Int.ediv_nonneg h0 (by omega)
  have h3 : b / 2 ^ j ≤ b := Int.ediv_le_self _ h0
  have m := bits_mask .u8 8 (by decide) wraps_u8 1 (by decide) (b / 2 ^ j) h2 (by omega)
  rw [e, show (1 : Int) = 2 ^ 1 - 1 from rfl, m]
  have h4 : 0 ≤ b / 2 ^ j % 2 := Int.emod_nonneg _ (by omega)
  have h5 : b / 2 ^ j % 2 < 2 := Int.emod_lt_of_pos _ (by omega)
  exact wrap64_id (by omega) (by omega)
theorem inner (s : ByteArray) (i : Nat) (hi : i < s.size) (acc : Int) (ha : 0 ≤ acc) (hb : acc ≤ 1000000) (r : Int) (h : Ev (fun k => spec_BitsSet.l0 k s (acc + pop (bt s i) 8) (wrap64 ((i : Int) + 1))) r) (d : Nat) :
    ∀ j : Nat, j ≤ 8 → 8 - j = d → Ev (fun k => spec_BitsSet.l1 k s (acc + pop (bt s i) j) i j) r := by
  have hr := bt_range s i
  induction d with
  | zero =>
    intro j h1 h2
    obtain rfl : j = 8 := by omega
    refine Ev.step (fun k => ?_) h
    rw [spec_BitsSet.l1, if_neg (by omega)]
  | succ d ih =>
    intro j h1 h2
    have hp := pop_range (bt s i) j
    have hp2 := pop_range (bt s i) (j + 1)
    have h4 : 0 ≤ bt s i / 2 ^ j % 2 := Int.emod_nonneg _ (by omega)
    have h5 : bt s i / 2 ^ j % 2 < 2 := Int.emod_lt_of_pos _ (by omega)
    refine Ev.step (fun k => ?_) (ih (j + 1) (by omega) (by omega))
    rw [spec_BitsSet.l1, if_pos (by omega), if_pos (by omega), if_pos (by omega), if_pos (by omega), bit_at _ hr.1 hr.2 j (by omega), wraps_u64 _ (by omega) (by omega), wrap64_id (by omega) (by omega)]
    simp only [pop]
    rw [show acc + pop (bt s ↑i) j + bt s ↑i / 2 ^ j % 2 = acc + (pop (bt s ↑i) j + bt s ↑i / 2 ^ j % 2) from by omega]
    rfl
theorem outer (s : ByteArray) (hs : s.size ≤ 80) (d : Nat) : ∀ (i : Nat) (acc : Int), i ≤ s.size → s.size - i = d → 0 ≤ acc → acc ≤ 8 * i →
    ∃ r, Ev (fun k => spec_BitsSet.l0 k s acc i) r ∧ Ev (fun k => impl_CountOnes.l0 k s acc (s.size : Int) i) r := by
  induction d with
  | zero =>
    intro i acc h1 h2 h3 h4
    refine ⟨acc, Ev.step (f := fun _ => some acc) (fun k => ?_) (Ev.now _), Ev.step (f := fun _ => some acc) (fun k => ?_) (Ev.now _)⟩
    · rw [spec_BitsSet.l0, if_neg (by omega)]
    · rw [impl_CountOnes.l0, if_neg (by omega)]
  | succ d ih =>
    intro i acc h1 h2 h3 h4
    have hr := bt_range s i
    have hp := pop_range (bt s i) 8
    obtain ⟨r, p1, p2⟩ := ih (i + 1) (acc + pop (bt s i) 8) (by omega) (by omega) (by omega) (by omega)
    have w : wrap64 ((i : Int) + 1) = ((i + 1 : Nat) : Int) := by rw [wrap64_id (by omega) (by omega)]; rfl
    refine ⟨r, ?_, ?_⟩
    · have q := inner s i (by omega) acc h3 (by omega) r (by rw [w]; exact p1) 8 0 (by omega) (by omega)
      refine Ev.step (fun k => ?_) q
      rw [spec_BitsSet.l0, if_pos (by omega)]
      simp [pop]
    · refine Ev.step (fun k => ?_) p2
      have e : bits_OnesCount8.f (bt s i) = some (pop (bt s i) 8) := by
        unfold bits_OnesCount8.f
        rw [if_pos hr, pop_ones _ hr.1 hr.2]
      rw [impl_CountOnes.l0, if_pos (by omega), if_pos (by omega), if_pos (by omega), e]
      simp only [Option.bind_some]
      rw [wrap64_id (x := acc + _) (by omega) (by omega), w]
theorem FnExactBitsSet : laws_FnExactBitsSet.Pure := by
  intro s hs
  unfold laws_FnExactBitsSet.f spec_BitsSet.f impl_BitsSet.f spec_l21Size.f impl_filterOk.f
  simp only [l00In_eq, within_eq, Option.bind_some]
  by_cases h : 1 ≤ (s.size : Int) ∧ (s.size : Int) ≤ 80
  · obtain ⟨r, ⟨K1, e1⟩, ⟨K2, e2⟩⟩ := outer s (by omega) s.size 0 0 (by omega) (by omega) (by omega) (by omega)
    have e1 := e1 (K1 + K2) (by omega)
    have e2 := e2 (K1 + K2) (by omega)
    dsimp only at e1 e2
    refine ⟨K1 + K2, ?_⟩
    simp only [h, and_self, decide_true, if_true]
    unfold impl_CountOnes.f
    rw [show (0 : Int) = ((0 : Nat) : Int) from rfl] at *
    split
    · rfl
    · rw [e1, e2]
      simp
  · exact ⟨0, by simp [h]⟩
end Go.Proofs.Ytannckkmelihdaa.Pure
