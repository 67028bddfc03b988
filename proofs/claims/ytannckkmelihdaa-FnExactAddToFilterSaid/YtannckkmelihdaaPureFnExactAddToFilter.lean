/- The law FnExactAddToFilter, as a statement over numbers and texts. No condition. -/
import Derived.Test.YtannckkmelihdaaSayFnExactAddToFilter
import Derived.Test.YtannckkmelihdaaKeyOk
import Derived.Test.YtannckkmelihdaaHashOk
import Derived.Test.YtannckkmelihdaaXAddI
namespace Go.Proofs.Ytannckkmelihdaa.Pure
open Go.RowKit Go.Proofs.Ytannckkmelihdaa.Q Go.Proofs.YtannckkmelihdaaW.PrintWords
set_option linter.unusedVariables false
theorem or1 (a : Int) (h0 : 0 ≤ a) (h1 : a < 4294967296) : 0 ≤ Go.bits .or .i64 a 1 ∧ Go.bits .or .i64 a 1 < 4294967296 := by
  obtain ⟨n, rfl⟩ := Int.eq_ofNat_of_zero_le h0
  have hn : n < 2 ^ 32 := by omega
  have e : Go.bits .or .i64 (n : Int) 1 = ((n ||| 1 : Nat) : Int) := by
    show IntKind.i64.wrap _ = _
    have e1 : BitVec.ofInt IntKind.i64.bits (n : Int) = BitVec.ofNat 64 n := BitVec.ofInt_natCast ..
    have e2 : BitVec.ofInt IntKind.i64.bits (1 : Int) = BitVec.ofNat 64 1 := rfl
    have h3 := Nat.or_lt_two_pow hn (show 1 < 2 ^ 32 by omega)
    have e3 : (BitVec.ofInt IntKind.i64.bits (n : Int) ||| BitVec.ofInt IntKind.i64.bits (1 : Int)).toNat = n ||| 1 := by
      rw [e1, e2]
      show (BitVec.ofNat 64 n ||| BitVec.ofNat 64 1).toNat = n ||| 1
      rw [BitVec.toNat_or, BitVec.toNat_ofNat, BitVec.toNat_ofNat, Nat.mod_eq_of_lt (show n < 2 ^ 64 by omega), Nat.mod_eq_of_lt (show 1 < 2 ^ 64 by omega)]
    show IntKind.i64.wrap (((BitVec.ofInt IntKind.i64.bits (n : Int) ||| BitVec.ofInt IntKind.i64.bits (1 : Int)).toNat : Nat) : Int) = _
    rw [e3]
    exact wraps_i64 _ (by omega) (by omega)
  have := Nat.or_lt_two_pow hn (show 1 < 2 ^ 32 by omega)
  rw [e]
  omega
def probe (h s n : Int) (i : Int) : Int := Int.tmod (wrap64 (h + wrap64 (i * s))) (wrap64 (8 * n))
theorem probe_range (h s n i : Int) (h0 : 0 ≤ h ∧ h < 4294967296) (h1 : 0 ≤ s ∧ s < 4294967296) (hn : 1 ≤ n ∧ n ≤ 1000000) (hi : i = 0 ∨ i = 1 ∨ i = 2 ∨ i = 3) : 0 ≤ probe h s n i ∧ probe h s n i < 8 * n := by
  unfold probe
  have e : wrap64 (8 * n) = 8 * n := by unfold wrap64; omega
  have e2 : 0 ≤ wrap64 (h + wrap64 (i * s)) := by
    rcases hi with rfl | rfl | rfl | rfl <;> (rw [wrap64_id (x := _ * s) (by omega) (by omega), wrap64_id (by omega) (by omega)]; omega)
  rw [e]
  refine ⟨Int.tmod_nonneg _ e2, ?_⟩
  rw [Int.tmod_eq_emod_of_nonneg e2]
  exact Int.emod_lt_of_pos _ (by omega)
def probesL (h s n : Int) : List Int := [probe h s n 0, probe h s n 1, probe h s n 2, probe h s n 3]
theorem spec_probes (h s n : Int) (hn : 1 ≤ n ∧ n ≤ 1000000) : Ev (fun k => spec_l21Probes.l0 k n [] h s 0) (probesL h s n) := by
  have e : wrap64 (8 * n) ≠ 0 := by unfold wrap64; omega
  have st : ∀ (i : Int) (acc : List Int) (k : Nat), i < 4 → -100 ≤ i → acc.length < 5 → spec_l21Probes.l0 (k + 1) n acc h s i = spec_l21Probes.l0 k n (acc ++ [probe h s n i]) h s (i + 1) := by
    intro i acc k h1 h2 h3
    rw [spec_l21Probes.l0, if_pos h1, if_neg e, if_pos (by omega), wrap64_id (x := i + 1) (by omega) (by omega)]
    rfl
  refine Ev.step (fun k => st 0 [] k (by omega) (by omega) (by simp)) (Ev.step (fun k => st 1 _ k (by omega) (by omega) (by simp)) (Ev.step (fun k => st 2 _ k (by omega) (by omega) (by simp)) (Ev.step (fun k => st 3 _ k (by omega) (by omega) (by simp)) (Ev.step (f := fun _ => some (probesL h s n)) (fun k => ?_) (Ev.now _)))))
  rw [spec_l21Probes.l0, if_neg (by omega)]
  rfl
theorem impl_probes_ev (h s n : Int) (hn : 1 ≤ n ∧ n ≤ 1000000) : Ev (fun k => impl_probes.l0 k n h s [] 0) (probesL h s n) := by
  have e : wrap64 (8 * n) ≠ 0 := by unfold wrap64; omega
  have st : ∀ (i : Int) (acc : List Int) (k : Nat), i < 4 → -100 ≤ i → acc.length < 5 → impl_probes.l0 (k + 1) n h s acc i = impl_probes.l0 k n h s (acc ++ [probe h s n i]) (i + 1) := by
    intro i acc k h1 h2 h3
    rw [impl_probes.l0, if_pos h1, if_neg e, if_pos (by omega), wrap64_id (x := i + 1) (by omega) (by omega)]
    rfl
  refine Ev.step (fun k => st 0 [] k (by omega) (by omega) (by simp)) (Ev.step (fun k => st 1 _ k (by omega) (by omega) (by simp)) (Ev.step (fun k => st 2 _ k (by omega) (by omega) (by simp)) (Ev.step (fun k => st 3 _ k (by omega) (by omega) (by simp)) (Ev.step (f := fun _ => some (probesL h s n)) (fun k => ?_) (Ev.now _)))))
  rw [impl_probes.l0, if_neg (by omega)]
  rfl
theorem add_same (f key : ByteArray) (hf : 1 ≤ (f.size : Int) ∧ (f.size : Int) ≤ 80) (hk : key.size ≤ 140737488351232) : ∃ v, Ev (fun k => spec_l21Add.f k f key) v ∧ Ev (fun k => impl_added.f k f [key]) v := by
  obtain ⟨h, a1, a2, a3, a4⟩ := hash_same key hk 0 (by omega) (by omega)
  obtain ⟨s, b1, b2, b3, b4⟩ := hash_same key hk 1 (by omega) (by omega)
  have hs := or1 s b3 b4
  have hin : ∀ b ∈ probesL h (Go.bits .or .i64 s 1) (f.size : Int), 0 ≤ b ∧ b < 8 * (f.size : Int) := by
    intro b hb
    simp only [probesL, List.mem_cons, List.not_mem_nil, or_false] at hb
    rcases hb with rfl | rfl | rfl | rfl <;> exact probe_range h _ (f.size : Int) _ ⟨a3, a4⟩ hs (by omega) (by simp)
  have hF : addF f (probesL h (Go.bits .or .i64 s 1) (f.size : Int)) = some (strOfNums (addL f (probesL h (Go.bits .or .i64 s 1) (f.size : Int)) (probesL h (Go.bits .or .i64 s 1) (f.size : Int)).length)) := by
    unfold addF
    rw [if_pos (by omega), if_pos (List.all_eq_true.2 fun b hb => decide_eq_true (hin b hb))]
  refine ⟨strOfNums (addL f (probesL h (Go.bits .or .i64 s 1) (f.size : Int)) (probesL h (Go.bits .or .i64 s 1) (f.size : Int)).length), ?_, ?_⟩
  · unfold spec_l21Add.f spec_l21Probes.f
    refine Ev.bind (a := probesL h (Go.bits .or .i64 s 1) (f.size : Int)) (Ev.bind a1 (Ev.bind b1 (spec_probes h _ (f.size : Int) (by omega)))) ?_
    rw [hF]
    exact Ev.now _
  · unfold impl_added.f impl_probes.f
    refine Ev.bind (a := probesL h (Go.bits .or .i64 s 1) (f.size : Int)) (Ev.bind a2 (Ev.bind b2 (impl_probes_ev h _ (f.size : Int) (by omega)))) ?_
    rw [hF]
    exact Ev.now _
theorem FnExactAddToFilter : laws_FnExactAddToFilter.Pure := by
  intro x y hx hy
  unfold laws_FnExactAddToFilter.f
  refine Ev.rounds ?_
  by_cases h1 : (x.size : Int) > 1048576
  · exact Ev.if_pos h1 (Ev.now _)
  refine Ev.if_neg h1 ?_
  by_cases h2 : (y.size : Int) > 1048576
  · exact Ev.if_pos h2 (Ev.now _)
  refine Ev.if_neg h2 ?_
  have es : spec_l21Size.f (x.size : Int) = some (decide (1 ≤ (x.size : Int) ∧ (x.size : Int) ≤ 80)) := by
    unfold spec_l21Size.f
    rw [l00In_eq]
    rfl
  have ei : impl_filterOk.f x = some (decide (1 ≤ (x.size : Int) ∧ (x.size : Int) ≤ 80)) := by
    unfold impl_filterOk.f
    rw [within_eq]
    rfl
  obtain ⟨v, p, i⟩ : ∃ v : ByteArray × Int, Ev (fun k => spec_AddToFilter.f k x y) v ∧ Ev (fun k => impl_AddToFilter.f k x y) v := by
    unfold spec_AddToFilter.f impl_AddToFilter.f
    by_cases c : 1 ≤ (x.size : Int) ∧ (x.size : Int) ≤ 80
    · rw [decide_eq_true c] at es ei
      cases hk : okKey y with
      | true =>
        obtain ⟨v, p, i⟩ := add_same x y c (by omega)
        exact ⟨(v, 0), Ev.bind1 es (Ev.if_pos rfl (Ev.bind1 (l17Key_eq y) (Ev.if_pos hk (Ev.bind p (Ev.now _))))), Ev.bind1 ei (Ev.if_pos rfl (Ev.bind1 (implKey_eq y) (Ev.if_pos hk (Ev.bind i (Ev.now _)))))⟩
      | false =>
        exact ⟨(⟨#[]⟩, 1), Ev.bind1 es (Ev.if_pos rfl (Ev.bind1 (l17Key_eq y) (Ev.if_neg (by rw [hk]; decide) (Ev.now _)))), Ev.bind1 ei (Ev.if_pos rfl (Ev.bind1 (implKey_eq y) (Ev.if_neg (by rw [hk]; decide) (Ev.now _))))⟩
    · rw [decide_eq_false c] at es ei
      exact ⟨(⟨#[]⟩, 1), Ev.bind1 es (Ev.if_neg (by decide) (Ev.now _)), Ev.bind1 ei (Ev.if_neg (by decide) (Ev.now _))⟩
  exact Ev.bind p (Ev.bind i (Ev.if_pos rfl (Ev.if_pos rfl (Ev.now _))))
end Go.Proofs.Ytannckkmelihdaa.Pure
