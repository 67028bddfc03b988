/- The law FnExactWearExcess, as a statement over numbers and lists. No condition. -/
import Derived.Test.YtcdkkdlaalbgiaaSayFnExactWearExcess
import Derived.Test.YtcdkkdlaalbgiaaInt64C
import Derived.Test.YtcdkkdlaalbgiaaEqInt64S
import Derived.Test.YtcdkkdlaalbgiaaBoolC
import Derived.Test.YtcdkkdlaalbgiaaEqBoolS
import Derived.Test.YtcdkkdlaalbgiaaGapOk
import Derived.Test.YtcdkkdlaalbgiaaXWearExcess
namespace Go.Proofs.Ytcdkkdlaalbgiaa.Pure
open Go.RowKit Go.Proofs.Ytcdkkdlaalbgiaa.Q Go.Proofs.YtcdkkdlaalbgiaaW.PrintWords
set_option linter.unusedVariables false
def mx (a b : Int) : Int := if a > b then a else b
/-- The excess of one count. -/
def gx (o s m : Int) : Int := if m * o - (s - m) > 0 then (m * o - (s - m) + o - 1) / o else 0
theorem l00Max_eq (a b : Int) : spec_l00Max.f a b = some (mx a b) := by
  unfold spec_l00Max.f mx
  by_cases h : a > b
  · rw [if_pos h, if_pos h]
  · rw [if_neg h, if_neg h]
theorem mul_range (m o : Int) (hm : 0 ≤ m ∧ m ≤ 1000) (ho : 1 ≤ o ∧ o ≤ 1048576) : 0 ≤ m * o ∧ m * o ≤ 1048576000 :=
  ⟨Int.mul_nonneg hm.1 (by omega), by
    have h1 : m * o ≤ 1000 * o := Int.mul_le_mul_of_nonneg_right hm.2 (by omega)
    omega⟩
theorem gx_nonneg (o s m : Int) (ho : 1 ≤ o) : 0 ≤ gx o s m := by
  unfold gx
  split
  · exact Int.ediv_nonneg (by omega) (by omega)
  · omega
theorem gx_mono (o s m m' : Int) (ho : 1 ≤ o) (h : m ≤ m') : gx o s m ≤ gx o s m' := by
  have h1 : m * o ≤ m' * o := Int.mul_le_mul_of_nonneg_right h (by omega)
  unfold gx
  by_cases c : m * o - (s - m) > 0
  · rw [if_pos c, if_pos (by omega)]
    exact Int.ediv_le_ediv (by omega) (by omega)
  · rw [if_neg c]
    exact gx_nonneg o s m' ho
theorem fold_gx (o s : Int) (ho : 1 ≤ o) (er : List Int) : ∀ (bs : List Int) (a v : Int), (∀ b ∈ bs, 0 ≤ b) → (a < 0 → v = 0) → (0 ≤ a → v = gx o s (rd er a)) → (bs ≠ [] ∨ 0 ≤ a) →
    bs.foldl (fun v b => mx v (gx o s (rd er b))) v = gx o s (rd er (bs.foldl (bstep gtB er) a))
  | [], a, v, _, _, h2, h3 => h2 (by rcases h3 with h | h; exact absurd rfl h; exact h)
  | b :: bs, a, v, hb, h1, h2, _ => by
    have h0 : 0 ≤ b := hb b (List.mem_cons_self ..)
    have key : 0 ≤ bstep gtB er a b ∧ mx v (gx o s (rd er b)) = gx o s (rd er (bstep gtB er a b)) := by
      unfold bstep gtB
      by_cases c : a < 0
      · rw [if_pos c, h1 c]
        refine ⟨h0, ?_⟩
        have := gx_nonneg o s (rd er b) ho
        unfold mx
        split <;> omega
      · rw [if_neg c, h2 (by omega)]
        by_cases c2 : rd er b > rd er a
        · rw [if_pos (decide_eq_true c2)]
          refine ⟨h0, ?_⟩
          have := gx_mono o s _ _ ho (show rd er a ≤ rd er b by omega)
          unfold mx
          split <;> omega
        · rw [if_neg (show ¬ (decide (rd er b > rd er a) = true) by rw [decide_eq_false c2]; decide)]
          have hm := gx_mono o s _ _ ho (show rd er b ≤ rd er a by omega)
          by_cases c3 : rd er b = rd er a
          · rw [if_pos c3]
            by_cases c4 : b < a
            · rw [if_pos c4, c3]
              refine ⟨h0, ?_⟩
              unfold mx
              split <;> omega
            · rw [if_neg c4]
              refine ⟨by omega, ?_⟩
              unfold mx
              split <;> omega
          · rw [if_neg c3]
            refine ⟨by omega, ?_⟩
            unfold mx
            split <;> omega
    rw [List.foldl_cons, List.foldl_cons]
    exact fold_gx o s ho er bs _ _ (fun x hx => hb x (List.mem_cons_of_mem _ hx)) (fun h => absurd key.1 (by omega)) (fun _ => key.2) (Or.inr key.1)
theorem sum_range (er : List Int) : ∀ (bs : List Int) (s : Int), (∀ b ∈ bs, 0 ≤ rd er b ∧ rd er b ≤ 1000) → 0 ≤ s → s + 1000 * bs.length ≤ 1000000000000 → 0 ≤ bs.foldl (fun s b => wrap64 (s + rd er b)) s ∧ bs.foldl (fun s b => wrap64 (s + rd er b)) s ≤ s + 1000 * bs.length
  | [], s, _, h1, h2 => by
    simp only [List.foldl_nil, List.length_nil]
    omega
  | b :: bs, s, hb, h1, h2 => by
    have h := hb b (List.mem_cons_self ..)
    rw [List.length_cons] at h2
    have e : wrap64 (s + rd er b) = s + rd er b := by unfold wrap64; omega
    have ih := sum_range er bs (s + rd er b) (fun x hx => hb x (List.mem_cons_of_mem _ hx)) (by omega) (by omega)
    rw [List.foldl_cons, List.length_cons, e]
    omega
theorem l1_loop (er : List Int) (bad : List Bool) (o s : Int) (ho : 1 ≤ o ∧ o ≤ 1048576) (hs : 0 ≤ s ∧ s ≤ 1000000000000) (hl : (er.length : Int) ≤ 1048576) (hr : ∀ x ∈ er, 0 ≤ x ∧ x ≤ 1000) (d : Nat) : ∀ (i : Nat) (v : Int), i ≤ er.length → er.length - i = d →
    Ev (fun k => spec_WearExcess.l1 k er bad s (o + 1) v i) ((goodFrom bad d i).foldl (fun v b => mx v (gx o s (rd er b))) v) ∨ v < 0 := by
  induction d with
  | zero =>
    intro i v h1 h2
    refine Or.inl (Ev.step (f := fun _ => some v) (fun k => ?_) (Ev.now _))
    rw [spec_WearExcess.l1, if_neg (by omega)]
  | succ d ih =>
    intro i v h1 h2
    by_cases hv : v < 0
    · exact Or.inr hv
    have ei : wrap64 ((i : Int) + 1) = ((i + 1 : Nat) : Int) := by unfold wrap64; omega
    have h0 : (0 : Int) ≤ i := by omega
    have hlt : (i : Int) < er.length := by omega
    have hi : i < er.length := by omega
    have hx := hr er[i] (List.getElem_mem hi)
    rw [← rd_get er i hi] at hx
    have hmr := mul_range _ o hx ho
    have eo : wrap64 (o + 1 - 1) = o := by unfold wrap64; omega
    unfold goodFrom
    by_cases c : goodB bad i = true
    · rw [if_pos c, List.foldl_cons]
      have hg := gx_nonneg o s (rd er i) ho.1
      rcases ih (i + 1) (mx v (gx o s (rd er i))) (by omega) (by omega) with hev | hneg
      · refine Or.inl (Ev.step (fun k => ?_) hev)
        have e1 : wrap64 (wrap64 (rd er i * o) - wrap64 (s - rd er i)) = rd er i * o - (s - rd er i) := by
          rw [wrap64_id (x := rd er i * o) (by omega) (by omega), wrap64_id (x := s - rd er i) (by omega) (by omega), wrap64_id (by omega) (by omega)]
        rw [spec_WearExcess.l1, if_pos hlt, if_pos h0, l12Good_eq bad i h0, c, Option.bind_some, if_pos rfl, eo, e1, ei]
        by_cases c2 : rd er i * o - (s - rd er i) > 0
        · rw [if_pos c2, if_neg (by omega : ¬ o = 0), wrap64_id (x := rd er i * o - (s - rd er i) + (o + 1)) (by omega) (by omega), wrap64_id (x := rd er i * o - (s - rd er i) + (o + 1) - 2) (by omega) (by omega), Int.tdiv_eq_ediv_of_nonneg (by omega)]
          have hq := Int.ediv_nonneg (a := rd er i * o - (s - rd er i) + (o + 1) - 2) (b := o) (by omega) (by omega)
          have hq2 : (rd er i * o - (s - rd er i) + (o + 1) - 2) / o ≤ rd er i * o - (s - rd er i) + (o + 1) - 2 := Int.ediv_le_self _ (by omega)
          rw [wrap64_id (by omega) (by omega), l00Max_eq, Option.bind_some]
          unfold gx
          rw [if_pos c2, show rd er i * o - (s - rd er i) + (o + 1) - 2 = rd er i * o - (s - rd er i) + o - 1 from by omega]
        · rw [if_neg c2]
          unfold gx
          rw [if_neg c2, show mx v 0 = v from by unfold mx; split <;> omega]
      · exact absurd hneg (by unfold mx; split <;> omega)
    · rw [if_neg c]
      rw [Bool.not_eq_true] at c
      rcases ih (i + 1) v (by omega) (by omega) with hev | hneg
      · refine Or.inl (Ev.step (fun k => ?_) hev)
        rw [spec_WearExcess.l1, if_pos hlt, if_pos h0, l12Good_eq bad i h0, c, Option.bind_some, if_neg (by decide), ei]
      · exact absurd hneg hv
theorem l0_loop (er : List Int) (bad : List Bool) (r : Int) (hl : (er.length : Int) ≤ 1048576) (d : Nat) : ∀ (i : Nat) (s c : Int), i ≤ er.length → er.length - i = d → 0 ≤ c → c ≤ i →
    Ev (fun k => if c + (goodFrom bad d i).length < 2 then some 0 else spec_WearExcess.l1 k er bad ((goodFrom bad d i).foldl (fun s b => wrap64 (s + rd er b)) s) (c + (goodFrom bad d i).length) 0 0) r → Ev (fun k => spec_WearExcess.l0 k er bad s c i) r := by
  induction d with
  | zero =>
    intro i s c h1 h2 h3 h4 h
    refine Ev.step (fun k => ?_) h
    rw [spec_WearExcess.l0, if_neg (by omega)]
    simp only [goodFrom, List.length_nil, List.foldl_nil, Int.natCast_zero, Int.add_zero]
  | succ d ih =>
    intro i s c h1 h2 h3 h4 h
    have ei : wrap64 ((i : Int) + 1) = ((i + 1 : Nat) : Int) := by unfold wrap64; omega
    have ec : wrap64 (c + 1) = c + 1 := by unfold wrap64; omega
    have h0 : (0 : Int) ≤ i := by omega
    have hlt : (i : Int) < er.length := by omega
    unfold goodFrom at h
    by_cases g : goodB bad i = true
    · rw [if_pos g, List.length_cons, List.foldl_cons, show c + ((goodFrom bad d (i + 1)).length + 1 : Nat) = c + 1 + (goodFrom bad d (i + 1)).length from by omega] at h
      refine Ev.step (fun k => ?_) (ih (i + 1) (wrap64 (s + rd er i)) (c + 1) (by omega) (by omega) (by omega) (by omega) h)
      rw [spec_WearExcess.l0, if_pos hlt, l12Good_eq bad i h0, g, Option.bind_some, if_pos rfl, if_pos h0, ec, ei]
    · rw [if_neg g] at h
      rw [Bool.not_eq_true] at g
      refine Ev.step (fun k => ?_) (ih (i + 1) s c (by omega) (by omega) (by omega) (by omega) h)
      rw [spec_WearExcess.l0, if_pos hlt, l12Good_eq bad i h0, g, Option.bind_some, if_neg (by decide), ei]
theorem exOf_gx (m o s : Int) (hm : 0 ≤ m ∧ m ≤ 1000) (ho : 1 ≤ o ∧ o ≤ 1048576) (hs : 0 ≤ s ∧ s ≤ 1000000000000) : exOf m o s = gx o s m := by
  have hmr := mul_range m o hm ho
  unfold exOf gx
  rw [wrap64_id (x := m * o) (by omega) (by omega), wrap64_id (x := s - m) (by omega) (by omega), wrap64_id (x := m * o - (s - m)) (by omega) (by omega), wrap64_id (x := m * o - (s - m) + o) (by omega) (by omega), wrap64_id (x := m * o - (s - m) + o - 1) (by omega) (by omega)]
  have hnb : -2000000000000 ≤ m * o - (s - m) ∧ m * o - (s - m) ≤ 2000000000000 := by omega
  generalize m * o - (s - m) = n at *
  by_cases c : n > 0
  · rw [if_pos c, Int.tdiv_eq_ediv_of_nonneg (by omega)]
    have hq := Int.ediv_nonneg (a := n + o - 1) (b := o) (by omega) (by omega)
    have hq2 : (n + o - 1) / o ≤ n + o - 1 := Int.ediv_le_self _ (by omega)
    have hb : n ≤ 2000000000000 := by omega
    rw [wrap64_id (by omega) (by omega), Int.max_eq_right hq]
  · rw [if_neg c]
    have hq : Int.tdiv (n + o - 1) o ≤ 0 := by
      by_cases c2 : 0 ≤ n + o - 1
      · rw [Int.tdiv_eq_ediv_of_nonneg c2, Int.ediv_eq_zero_of_lt c2 (by omega)]
        omega
      · have := Int.tdiv_nonneg (a := -(n + o - 1)) (b := o) (by omega) (by omega)
        rw [Int.neg_tdiv] at this
        omega
    have hq3 : -(1000000000000000) ≤ Int.tdiv (n + o - 1) o := by
      by_cases c2 : 0 ≤ n + o - 1
      · rw [Int.tdiv_eq_ediv_of_nonneg c2]
        have := Int.ediv_nonneg (a := n + o - 1) (b := o) c2 (by omega)
        omega
      · have e : Int.tdiv (n + o - 1) o = -(Int.tdiv (-(n + o - 1)) o) := by rw [Int.neg_tdiv]; omega
        rw [e, Int.tdiv_eq_ediv_of_nonneg (by omega)]
        have : (-(n + o - 1)) / o ≤ -(n + o - 1) := Int.ediv_le_self _ (by omega)
        omega
    rw [wrap64_id (by omega) (by omega), Int.max_eq_left hq]
theorem excess_ev (er : List Int) (bad : List Bool) (hl : (er.length : Int) ≤ 1048576) : Ev (fun k => spec_WearExcess.f k er bad) (excessOf er bad) := by
  unfold spec_WearExcess.f excessOf
  refine Ev.bind (counted_ev er (by omega)) ?_
  have hlen := goodL_length er bad
  by_cases c : allIn er 0 1000 = true
  · refine Ev.if_pos c ?_
    refine l0_loop er bad _ hl er.length 0 0 0 (by omega) (by omega) (by omega) (by omega) ?_
    show Ev (fun k => if 0 + ((goodL er bad).length : Int) < 2 then some 0 else spec_WearExcess.l1 k er bad (sumOf er (goodL er bad)) (0 + ((goodL er bad).length : Int)) 0 0) _
    by_cases c2 : ((goodL er bad).length : Int) - 1 < 1
    · rw [if_pos c2]
      exact Ev.if_pos (by omega) (Ev.now _)
    · rw [if_neg c2, if_pos c]
      refine Ev.if_neg (by omega) ?_
      have hr : ∀ x ∈ er, 0 ≤ x ∧ x ≤ 1000 := allIn_le c
      have hrd : ∀ b ∈ goodL er bad, 0 ≤ rd er b ∧ rd er b ≤ 1000 := by
        intro b hb
        have h := goodL_mem er bad b hb
        obtain ⟨n, rfl⟩ := Int.eq_ofNat_of_zero_le h.1
        rw [rd_get er n (by omega)]
        exact hr _ (List.getElem_mem _)
      have hs := sum_range er (goodL er bad) 0 hrd (by omega) (by omega)
      have hne : goodL er bad ≠ [] := by intro h; rw [h] at c2; simp at c2
      have hbest := bestL_some gtB er (goodL er bad) (goodL_mem er bad) hne
      have hbr : 0 ≤ rd er (bestL gtB er (goodL er bad)) ∧ rd er (bestL gtB er (goodL er bad)) ≤ 1000 := by
        obtain ⟨n, hn⟩ := Int.eq_ofNat_of_zero_le hbest.1
        rw [hn, rd_get er n (by omega)]
        exact hr _ (List.getElem_mem _)
      have hs2 : 0 ≤ sumOf er (goodL er bad) ∧ sumOf er (goodL er bad) ≤ 1000000000000 := ⟨hs.1, by have := hs.2; unfold sumOf; omega⟩
      have e2 := exOf_gx _ (((goodL er bad).length : Int) - 1) (sumOf er (goodL er bad)) hbr (by omega) hs2
      have hf := fold_gx (((goodL er bad).length : Int) - 1) (sumOf er (goodL er bad)) (by omega) er (goodL er bad) (-1) 0 (fun b h => (goodL_mem er bad b h).1) (fun _ => rfl) (fun h => absurd h (by omega)) (Or.inl hne)
      rw [e2]
      rcases l1_loop er bad (((goodL er bad).length : Int) - 1) (sumOf er (goodL er bad)) (by omega) hs2 hl hr er.length 0 0 (by omega) (by omega) with h | h
      · have hf2 : (goodFrom bad er.length 0).foldl (fun v b => mx v (gx (((goodL er bad).length : Int) - 1) (sumOf er (goodL er bad)) (rd er b))) 0 = _ := hf
        rw [hf2, show ((goodL er bad).length : Int) - 1 + 1 = 0 + ((goodL er bad).length : Int) from by omega] at h
        exact h
      · omega
  · refine Ev.if_neg c ?_
    rw [if_neg c]
    by_cases c2 : ((goodL er bad).length : Int) - 1 < 1
    · rw [if_pos c2]; exact Ev.now _
    · rw [if_neg c2]; exact Ev.now _
theorem FnExactWearExcess : laws_FnExactWearExcess.Pure := by
  intro x y hx hy
  unfold laws_FnExactWearExcess.f
  refine Ev.rounds ?_
  by_cases h1 : (x.length : Int) > 1048576
  · exact Ev.if_pos h1 (Ev.now _)
  refine Ev.if_neg h1 ?_
  by_cases h2 : (y.length : Int) > 1048576
  · exact Ev.if_pos h2 (Ev.now _)
  refine Ev.if_neg h2 ?_
  have t1 := toInt64S_ev x (by omega)
  have t2 := toBoolS_ev y (by omega)
  have q : impl_WearExcess.f x y = some (excessOf x y) := by
    unfold impl_WearExcess.f
    rw [if_pos (by omega)]
  have p := excess_ev x y (by omega)
  refine Ev.bind t1 (Ev.bind t2 (Ev.bind p (Ev.bind t1 (Ev.bind t2 (Ev.bind1 q (Ev.if_pos rfl ?_))))))
  refine Ev.bind t1 (Ev.bind (eqInt64S_ev x x (by omega)) (Ev.if_pos (by simp) ?_))
  exact Ev.bind t2 (Ev.bind (eqBoolS_ev y y (by omega)) (Ev.if_pos (by simp) (Ev.now _)))
end Go.Proofs.Ytcdkkdlaalbgiaa.Pure
