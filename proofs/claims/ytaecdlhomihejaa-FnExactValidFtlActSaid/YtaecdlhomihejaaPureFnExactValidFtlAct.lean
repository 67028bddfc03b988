/- The law FnExactValidFtlAct, as a statement over numbers and lists. No condition. -/
import Derived.Test.YtaecdlhomihejaaSayFnExactValidFtlAct
import Derived.Test.YtaecdlhomihejaaInt64C
import Derived.Test.YtaecdlhomihejaaEqInt64S
import Derived.Test.YtaecdlhomihejaaStrS
import Derived.Test.YtaecdlhomihejaaInOk
import Derived.Test.YtaecdlhomihejaaXAllW
import Derived.Test.YtaecdlhomihejaaXDataOk
namespace Go.Proofs.Ytaecdlhomihejaa.Pure
open Go.RowKit Go.Proofs.Ytaecdlhomihejaa.Q Go.Proofs.YtaecdlhomihejaaW.PrintWords
set_option linter.unusedVariables false
def dataB (l : List ByteArray) : Bool := !(l.any offSize)
theorem data_loop (x : Int) (a : List Int) (l : List ByteArray) (hl : l.length ≤ 9223372036854775806) (d : Nat) : ∀ i : Nat, i ≤ l.length → l.length - i = d → Ev (fun k => spec_ValidFtlAct.l1 k i x a l) (dataB (l.drop i)) := by
  induction d with
  | zero =>
    intro i h1 h2
    rw [List.drop_of_length_le (by omega)]
    refine Ev.step (f := fun _ => some true) (fun k => ?_) (Ev.now _)
    rw [spec_ValidFtlAct.l1, if_neg (by omega)]
  | succ d ih =>
    intro i h1 h2
    have hi : i < l.length := by omega
    rw [List.drop_eq_getElem_cons hi]
    have hb := rdS_get l i hi
    revert hb
    generalize l[i]'hi = b
    intro hb
    have ei : wrap64 ((i : Int) + 1) = ((i + 1 : Nat) : Int) := by unfold wrap64; omega
    by_cases hin : (b.size : Int) = 64
    · have e1 : dataB (b :: l.drop (i + 1)) = dataB (l.drop (i + 1)) := by
        unfold dataB
        rw [List.any_cons, show offSize b = false from by simp [offSize, hin], Bool.false_or]
      rw [e1]
      refine Ev.step (fun k => ?_) (ih (i + 1) (by omega) (by omega))
      rw [spec_ValidFtlAct.l1, if_pos (by omega), if_pos (by omega), hb, if_pos hin, ei]
    · have e1 : dataB (b :: l.drop (i + 1)) = false := by
        unfold dataB
        rw [List.any_cons, show offSize b = true from by simp [offSize, hin], Bool.true_or]
        rfl
      rw [e1]
      refine Ev.step (f := fun _ => some false) (fun k => ?_) (Ev.now _)
      rw [spec_ValidFtlAct.l1, if_pos (by omega), if_pos (by omega), hb, if_neg hin]
theorem lpns_loop (x : Int) (a : List Int) (l : List ByteArray) (ha : a.length ≤ 9223372036854775806) (hl : l.length ≤ 9223372036854775806) (d : Nat) : ∀ i : Nat, i ≤ a.length → a.length - i = d → Ev (fun k => spec_ValidFtlAct.l0 k i x a l) (allIn (a.drop i) 0 47 && dataB l) := by
  induction d with
  | zero =>
    intro i h1 h2
    rw [List.drop_of_length_le (by omega)]
    have := data_loop x a l hl l.length 0 (by omega) (by omega)
    rw [List.drop_zero] at this
    refine Ev.step (fun k => ?_) this
    rw [spec_ValidFtlAct.l0, if_neg (by omega)]
    rfl
  | succ d ih =>
    intro i h1 h2
    have hi : i < a.length := by omega
    rw [List.drop_eq_getElem_cons hi]
    have hb := rd_get a i hi
    revert hb
    generalize a[i]'hi = b
    intro hb
    have ei : wrap64 ((i : Int) + 1) = ((i + 1 : Nat) : Int) := by unfold wrap64; omega
    by_cases hin : 0 ≤ b ∧ b ≤ 47
    · have e1 : allIn (b :: a.drop (i + 1)) 0 47 = allIn (a.drop (i + 1)) 0 47 := by
        unfold allIn
        rw [List.all_cons, decide_eq_true hin, Bool.true_and]
      rw [e1]
      refine Ev.step (fun k => ?_) (ih (i + 1) (by omega) (by omega))
      rw [spec_ValidFtlAct.l0, if_pos (by omega), if_pos (by omega), hb, l00In_eq, decide_eq_true hin, Option.bind_some, if_pos rfl, ei]
    · have e1 : allIn (b :: a.drop (i + 1)) 0 47 = false := by
        unfold allIn
        rw [List.all_cons, decide_eq_false hin, Bool.false_and]
      rw [e1, Bool.false_and]
      refine Ev.step (f := fun _ => some false) (fun k => ?_) (Ev.now _)
      rw [spec_ValidFtlAct.l0, if_pos (by omega), if_pos (by omega), hb, l00In_eq, decide_eq_false hin, Option.bind_some, if_neg (by decide)]
theorem j0_ev (lo hi n x : Int) (a : List Int) (l : List ByteArray) (ha : a.length ≤ 9223372036854775806) (hl : l.length ≤ 9223372036854775806) :
    Ev (fun k => spec_ValidFtlAct.j0 k lo hi n x a l) (decide (lo ≤ (a.length : Int) ∧ (a.length : Int) ≤ hi ∧ (l.length : Int) = n) && (allIn a 0 47 && dataB l)) := by
  have off : ∀ k, spec_ValidFtlAct.j1 (k + 1) true x a l = some false := fun k => by rw [spec_ValidFtlAct.j1, if_pos rfl]
  have step : ∀ b, Ev (fun k => spec_ValidFtlAct.j1 k b x a l) (!b && (allIn a 0 47 && dataB l)) := fun b => by
    cases b with
    | true => exact Ev.step (f := fun _ => some false) (fun k => off k) (Ev.now _)
    | false =>
      have := lpns_loop x a l ha hl a.length 0 (by omega) (by omega)
      rw [List.drop_zero] at this
      refine Ev.step (fun k => ?_) this
      rw [spec_ValidFtlAct.j1, if_neg (by decide)]
      rfl
  by_cases c1 : (a.length : Int) < lo
  · rw [decide_eq_false (by omega), Bool.false_and]
    refine Ev.step (fun k => ?_) (step true)
    rw [spec_ValidFtlAct.j0, if_pos c1]
  by_cases c2 : (a.length : Int) > hi
  · rw [decide_eq_false (by omega), Bool.false_and]
    refine Ev.step (fun k => ?_) (step true)
    rw [spec_ValidFtlAct.j0, if_neg c1, if_pos c2]
  by_cases c3 : (l.length : Int) = n
  · rw [decide_eq_true ⟨by omega, by omega, c3⟩, Bool.true_and]
    have := step false
    refine Ev.step (fun k => ?_) this
    rw [spec_ValidFtlAct.j0, if_neg c1, if_neg c2, show ((l.length : Int) != n) = false by simp [c3]]
  · rw [decide_eq_false (by omega), Bool.false_and]
    refine Ev.step (fun k => ?_) (step true)
    rw [spec_ValidFtlAct.j0, if_neg c1, if_neg c2, show ((l.length : Int) != n) = true by simp [c3]]
def shapeB (x : Int) (n m : Nat) : Bool :=
  if x = 1 then decide (n = 1 ∧ m = 1) else if x = 2 then decide (1 ≤ n ∧ n ≤ 4 ∧ m = n) else if x = 3 then decide (n = 1 ∧ m = 0) else decide ((x = 4 ∨ x = 5 ∨ x = 6) ∧ n = 0 ∧ m = 0)
def actB (x : Int) (a : List Int) (l : List ByteArray) : Bool := shapeB x a.length l.length && (allIn a 0 47 && dataB l)
theorem spec_ev (x : Int) (a : List Int) (l : List ByteArray) (ha : a.length ≤ 9223372036854775806) (hl : l.length ≤ 9223372036854775806) : Ev (fun k => spec_ValidFtlAct.f k x a l) (actB x a l) := by
  have go : ∀ lo hi n, shapeB x a.length l.length = decide (lo ≤ (a.length : Int) ∧ (a.length : Int) ≤ hi ∧ (l.length : Int) = n) → Ev (fun k => spec_ValidFtlAct.j0 k lo hi n x a l) (actB x a l) := fun lo hi n h => by
    unfold actB
    rw [h]
    exact j0_ev lo hi n x a l ha hl
  unfold spec_ValidFtlAct.f
  by_cases c1 : x = 1
  · exact Ev.if_pos c1 (go _ _ _ (by subst c1; unfold shapeB; rw [if_pos rfl]; exact decide_eq_decide.2 (by omega)))
  refine Ev.if_neg c1 ?_
  by_cases c2 : x = 2
  · exact Ev.if_pos c2 (go _ _ _ (by unfold shapeB; rw [if_neg c1, if_pos c2]; exact decide_eq_decide.2 (by omega)))
  refine Ev.if_neg c2 ?_
  by_cases c3 : x = 3
  · exact Ev.if_pos c3 (go _ _ _ (by unfold shapeB; rw [if_neg c1, if_neg c2, if_pos c3]; exact decide_eq_decide.2 (by omega)))
  refine Ev.if_neg c3 ?_
  by_cases c4 : x = 4
  · exact Ev.if_pos c4 (go _ _ _ (by unfold shapeB; rw [if_neg c1, if_neg c2, if_neg c3]; exact decide_eq_decide.2 (by omega)))
  refine Ev.if_neg c4 ?_
  by_cases c5 : x = 5
  · exact Ev.if_pos c5 (go _ _ _ (by unfold shapeB; rw [if_neg c1, if_neg c2, if_neg c3]; exact decide_eq_decide.2 (by omega)))
  refine Ev.if_neg c5 ?_
  by_cases c6 : x = 6
  · exact Ev.if_pos c6 (go _ _ _ (by unfold shapeB; rw [if_neg c1, if_neg c2, if_neg c3]; exact decide_eq_decide.2 (by omega)))
  · refine Ev.if_neg c6 ?_
    have e : actB x a l = false := by
      unfold actB shapeB
      rw [if_neg c1, if_neg c2, if_neg c3, decide_eq_false (by omega), Bool.false_and]
    rw [e]
    exact Ev.now _
theorem two_if (n m p q : Int) : (if n = p then some (m == q) else some false) = some (decide (n = p ∧ m = q)) := by
  by_cases h : n = p
  · rw [if_pos h]
    by_cases g : m = q <;> simp [h, g]
  · rw [if_neg h, decide_eq_false (fun c => h c.1)]
theorem ij0_ev (x : Int) (a : List Int) (l : List ByteArray) (hd : dataB l = true) (ha : allIn a 0 47 = true) : Ev (fun k => impl_ValidFtlAct.j0 k false x a l) (actB x a l) := by
  refine Ev.step (f := fun _ => some (actB x a l)) (fun k => ?_) (Ev.now _)
  rw [impl_ValidFtlAct.j0, if_neg (by decide)]
  have e : actB x a l = shapeB x a.length l.length := by unfold actB; rw [hd, ha]; simp
  rw [e]
  unfold shapeB impl_groupOk.f impl_dataOk.f
  have hd2 : (!l.any offSize) = true := hd
  rw [within_eq, Option.bind_some, hd2]
  by_cases c1 : x = 1
  · rw [if_pos c1, if_pos c1]
    rw [two_if]
    exact congrArg some (decide_eq_decide.2 (by omega))
  rw [if_neg c1, if_neg c1]
  by_cases c2 : x = 2
  · rw [if_pos c2, if_pos c2]
    by_cases d1 : 1 ≤ (a.length : Int) ∧ (a.length : Int) ≤ 4
    · rw [decide_eq_true d1, if_pos rfl]
      by_cases d2 : (l.length : Int) = (a.length : Int)
      · rw [if_pos d2, decide_eq_true (show 1 ≤ a.length ∧ a.length ≤ 4 ∧ l.length = a.length by omega)]
        rfl
      · rw [if_neg d2, decide_eq_false (show ¬ (1 ≤ a.length ∧ a.length ≤ 4 ∧ l.length = a.length) by omega)]
        rfl
    · rw [decide_eq_false d1, if_neg (by decide), decide_eq_false (show ¬ (1 ≤ a.length ∧ a.length ≤ 4 ∧ l.length = a.length) by omega)]
      rfl
  rw [if_neg c2, if_neg c2]
  by_cases c3 : x = 3
  · rw [if_pos c3, if_pos c3]
    rw [two_if]
    exact congrArg some (decide_eq_decide.2 (by omega))
  rw [if_neg c3, if_neg c3]
  by_cases c4 : x = 4
  · rw [if_pos c4]
    rw [two_if]
    exact congrArg some (decide_eq_decide.2 (by omega))
  rw [if_neg c4]
  by_cases c5 : x = 5
  · rw [if_pos c5]
    rw [two_if]
    exact congrArg some (decide_eq_decide.2 (by omega))
  rw [if_neg c5]
  by_cases c6 : x = 6
  · rw [if_pos c6]
    rw [two_if]
    exact congrArg some (decide_eq_decide.2 (by omega))
  · rw [if_neg c6, decide_eq_false (by omega)]
theorem impl_ev (x : Int) (a : List Int) (l : List ByteArray) : Ev (fun k => impl_ValidFtlAct.f k x a l) (actB x a l) := by
  have off : ∀ k, impl_ValidFtlAct.j0 (k + 1) true x a l = some false := fun k => by rw [impl_ValidFtlAct.j0, if_pos rfl]
  unfold impl_ValidFtlAct.f
  refine Ev.bind1 (by unfold impl_allWithin.f; rfl) ?_
  cases ha : allIn a 0 47 with
  | true =>
    refine Ev.if_pos rfl (Ev.bind1 (show impl_dataOk.f l = some (dataB l) from rfl) ?_)
    cases hd : dataB l with
    | true => exact ij0_ev x a l hd ha
    | false =>
      have e : actB x a l = false := by unfold actB; rw [hd]; simp
      rw [e]
      exact Ev.step (f := fun _ => some false) (fun k => off k) (Ev.now _)
  | false =>
    have e : actB x a l = false := by unfold actB; rw [ha]; simp
    rw [e]
    exact Ev.if_neg (by decide) (Ev.step (f := fun _ => some false) (fun k => off k) (Ev.now _))
theorem FnExactValidFtlAct : laws_FnExactValidFtlAct.Pure := by
  intro x hg
  obtain ⟨_, ⟨ha, _, _⟩, ⟨hl, _, hs⟩⟩ : G0 x.f0 ∧ (x.f1.length ≤ maxLen ∧ _ ∧ _) ∧ (x.f2.length ≤ maxLen ∧ _ ∧ ∀ y ∈ x.f2, G1 y) := hg
  have hm := maxLen_le
  have hs2 : ∀ y ∈ x.f2, y.size ≤ 140737488351232 := hs
  have hsz : ∃ r, Ev (fun k => laws_szFtlAct.f k x.f0 x.f1 x.f2 1048576) r ∧ (0 ≤ r → x.f1.length ≤ 1048576 ∧ x.f2.length ≤ 1048576) := by
    unfold laws_szFtlAct.f
    obtain ⟨r1, e1, a1, b1, d1⟩ := szInt64S_some x.f1 1048576 (by omega) (by omega) (by omega)
    by_cases h1 : r1 < 0
    · exact ⟨-1, Ev.bind1 e1 (Ev.if_pos h1 (Ev.now _)), by omega⟩
    · obtain ⟨r2, e2, a2, b2, d2⟩ := szStringS_ev x.f2 hs2 (by omega) r1 (by omega) (by omega)
      have := d1 (by omega)
      by_cases h2 : r2 < 0
      · exact ⟨-1, Ev.bind1 e1 (Ev.if_neg h1 (Ev.bind e2 (Ev.if_pos h2 (Ev.now _)))), by omega⟩
      · have := d2 (by omega)
        exact ⟨r2, Ev.bind1 e1 (Ev.if_neg h1 (Ev.bind e2 (Ev.if_neg h2 (Ev.now _)))), fun _ => by omega⟩
  obtain ⟨r, e, b⟩ := hsz
  unfold laws_FnExactValidFtlAct.f
  refine Ev.rounds ?_
  refine Ev.bind e ?_
  by_cases h : r < 0
  · exact Ev.if_pos h (Ev.now _)
  · obtain ⟨n1, n2⟩ := b (by omega)
    have t : Ev (fun k => laws_toFtlAct.f k x.f0 x.f1 x.f2) (x.f0, x.f1, x.f2) := by
      unfold laws_toFtlAct.f
      exact Ev.bind (toInt64S_ev x.f1 (by omega)) (Ev.bind (toStringS_ev x.f2 (by omega)) (Ev.now _))
    have q : Ev (fun k => laws_eqFtlAct.f k x.f0 x.f1 x.f2 x.f0 x.f1 x.f2) true := by
      unfold laws_eqFtlAct.f
      refine Ev.if_pos rfl (Ev.bind (eqInt64S_ev x.f1 x.f1 (by omega)) (Ev.if_pos (decide_eq_true rfl) (Ev.bind (eqStringS_self x.f2 (by omega)) (Ev.if_pos rfl (Ev.now _)))))
    refine Ev.if_neg h (Ev.bind t (Ev.bind (spec_ev x.f0 x.f1 x.f2 (by omega) (by omega)) (Ev.bind t (Ev.bind (impl_ev x.f0 x.f1 x.f2) (Ev.if_neg (by simp) (Ev.bind t (Ev.bind q (Ev.if_pos rfl (Ev.now _)))))))))
end Go.Proofs.Ytaecdlhomihejaa.Pure
