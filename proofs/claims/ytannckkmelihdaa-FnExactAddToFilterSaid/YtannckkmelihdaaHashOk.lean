/- The two hashes of a key come to one number below 2^32. Conditions: the string is within the reach, the seed is an int64. -/
import Derived.Test.YtannckkmelihdaaQ1
import Derived.Test.YtannckkmelihdaaQ1
import Derived.Test.YtannckkmelihdaaNum
namespace Go.Proofs.Ytannckkmelihdaa.Q
open Go.RowKit Go.Proofs.YtannckkmelihdaaW.PrintWords
theorem hash_loop (s : ByteArray) (hs : s.size ≤ 140737488351232) (d : Nat) : ∀ (i : Nat) (h : Int), i ≤ s.size → s.size - i = d → 0 ≤ h → h < 4294967296 →
    ∃ r, Ev (fun k => spec_l21Hash.l0 k s h i) r ∧ Ev (fun k => impl_KeyHash.l0 k s h (s.size : Int) i) r ∧ 0 ≤ r ∧ r < 4294967296 := by
  induction d with
  | zero =>
    intro i h h1 h2 h3 h4
    refine ⟨h, Ev.step (f := fun _ => some h) (fun k => ?_) (Ev.now h), Ev.step (f := fun _ => some h) (fun k => ?_) (Ev.now h), h3, h4⟩
    · rw [spec_l21Hash.l0, if_neg (by omega)]
    · rw [impl_KeyHash.l0, if_neg (by omega), wrap64_id (by omega) (by omega)]
  | succ d ih =>
    intro i h h1 h2 h3 h4
    have hb := bt_range s i
    obtain ⟨n, hn, e1, e2⟩ := xor32 h3 h4 hb.1 (by omega)
    obtain ⟨r, p1, p2, p3⟩ := ih (i + 1) ((n : Int) * 16777619 % 4294967296) (by omega) (by omega) (by omega) (by omega)
    refine ⟨r, Ev.step (fun k => ?_) p1, Ev.step (fun k => ?_) p2, p3⟩
    · rw [spec_l21Hash.l0, if_pos (by omega), if_pos (by omega), wrap64_id (x := bt s i) (by omega) (by omega), e1, wrap64_id (x := (n : Int) * 16777619) (by omega) (by omega), mask32 _ (by omega) (by omega), wrap64_id (x := (i : Int) + 1) (by omega) (by omega)]
      rfl
    · rw [impl_KeyHash.l0, if_pos (by omega), if_pos (by omega), if_pos (by omega), Int.emod_eq_of_lt (a := bt s i) (by omega) (by omega), e2, wrap64_id (x := (i : Int) + 1) (by omega) (by omega)]
      rfl
theorem hash_same (s : ByteArray) (hs : s.size ≤ 140737488351232) (seed : Int) (h0 : -9223372036854775808 ≤ seed) (h1 : seed ≤ 9223372036854775807) :
    ∃ r, Ev (fun k => spec_l21Hash.f k s seed) r ∧ Ev (fun k => impl_KeyHash.f k s seed) r ∧ 0 ≤ r ∧ r < 4294967296 := by
  obtain ⟨n, hn, e1, e2⟩ := xor32 (a := 2166136261) (b := seed % 4294967296) (by omega) (by omega) (by omega) (by omega)
  obtain ⟨r, p1, p2, p3⟩ := hash_loop s hs s.size 0 n (by omega) (by omega) (by omega) (by omega)
  refine ⟨r, ?_, ?_, p3⟩
  · unfold spec_l21Hash.f
    rw [mask32 _ h0 h1, e1]
    exact p1
  · unfold impl_KeyHash.f
    rw [e2]
    exact p2
end Go.Proofs.Ytannckkmelihdaa.Q
