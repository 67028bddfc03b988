/- The law FnExactLookMem, as a statement over numbers and lists. No condition. -/
import Derived.Test.YtolffokfddjceaaSayFnExactLookMem
import Derived.Test.YtolffokfddjceaaRunOk
import Derived.Test.YtolffokfddjceaaRecS
namespace Go.Proofs.Ytolffokfddjceaa.Pure
open Go.RowKit Go.Proofs.Ytolffokfddjceaa.Q Go.Proofs.YtolffokfddjceaaW.PrintWords
set_option linter.unusedVariables false
/-- Whether a record affects a key. -/
def affB (x : S26) (key : ByteArray) : Bool := if x.f2 = 3 then (if Op.bytesLess key.toList x.f0.toList = true then false else Op.bytesLess key.toList x.f4.toList) else (x.f0.toList == key.toList)
theorem implAff_eq (x : S26) (key : ByteArray) : impl_Record_affects.f x.f0 x.f1 x.f2 x.f3 x.f4 key = some (affB x key) := by
  unfold impl_Record_affects.f affB
  repeat' split
  all_goals rfl
theorem specAff_eq (x : S26) (key : ByteArray) : spec_l17Affects.f x.f0 x.f1 x.f2 x.f3 x.f4 key = some (affB x key) := by
  have e0 : impl_Record_affects.f x.f0 x.f1 x.f2 x.f3 x.f4 key = spec_l17Affects.f x.f0 x.f1 x.f2 x.f3 x.f4 key := rfl
  rw [← e0, implAff_eq]
def pick (x : S26) (key : ByteArray) (seq : Int) (b : S26) : S26 := if affB x key = true then (if x.f1 ≤ seq then (if x.f1 > b.f1 then x else b) else b) else b
def newest (l : List S26) (key : ByteArray) (seq : Int) : Nat → Nat → S26 → S26
  | 0, _, b => b
  | d + 1, i, b => newest l key seq d (i + 1) (pick (rd_T26 l (i : Int)) key seq b)
def tup (b : S26) : ByteArray × Int × Int × ByteArray × ByteArray × Bool := (b.f0, b.f1, b.f2, b.f3, b.f4, decide (b.f1 > 0))
theorem spec_loop (l : List S26) (key : ByteArray) (seq : Int) (hl : (l.length : Int) ≤ 1000000000) (d : Nat) : ∀ (i : Nat) (b : S26), i ≤ l.length → l.length - i = d → Ev (fun k => spec_l17Newest.l0 k l key seq i b.f0 b.f1 b.f2 b.f3 b.f4) (tup (newest l key seq d i b)) := by
  induction d with
  | zero =>
    intro i b h1 h2
    refine Ev.step (f := fun _ => some (tup b)) (fun k => ?_) (Ev.now _)
    rw [spec_l17Newest.l0, if_neg (by omega)]
    rfl
  | succ d ih =>
    intro i b h1 h2
    have ei : wrap64 ((i : Int) + 1) = ((i + 1 : Nat) : Int) := by unfold wrap64; omega
    refine Ev.step (fun k => ?_) (ih (i + 1) (pick (rd_T26 l (i : Int)) key seq b) (by omega) (by omega))
    rw [spec_l17Newest.l0, if_pos (by omega), if_pos (by omega), specAff_eq, Option.bind_some, ei]
    unfold pick
    generalize rd_T26 l (i : Int) = x
    cases affB x key <;> by_cases h1 : x.f1 ≤ seq <;> by_cases h2 : x.f1 > b.f1 <;> simp [h1, h2]
theorem impl_loop (l : List S26) (key : ByteArray) (seq : Int) (hl : (l.length : Int) ≤ 1000000000) (d : Nat) : ∀ (i : Nat) (b : S26), i ≤ l.length → l.length - i = d → Ev (fun k => impl_look.l0 k key seq l (l.length : Int) i b.f0 b.f1 b.f2 b.f3 b.f4) (tup (newest l key seq d i b)) := by
  induction d with
  | zero =>
    intro i b h1 h2
    refine Ev.step (f := fun _ => some (tup b)) (fun k => ?_) (Ev.now _)
    rw [impl_look.l0, if_neg (by omega)]
    rfl
  | succ d ih =>
    intro i b h1 h2
    have ei : wrap64 ((i : Int) + 1) = ((i + 1 : Nat) : Int) := by unfold wrap64; omega
    refine Ev.step (fun k => ?_) (ih (i + 1) (pick (rd_T26 l (i : Int)) key seq b) (by omega) (by omega))
    rw [impl_look.l0, if_pos (by omega), if_pos (by omega), if_pos (by omega), implAff_eq, Option.bind_some, ei]
    unfold pick
    generalize rd_T26 l (i : Int) = x
    cases affB x key <;> by_cases h1 : x.f1 ≤ seq <;> by_cases h2 : x.f1 > b.f1 <;> simp [h1, h2]
theorem FnExactLookMem : laws_FnExactLookMem.Pure := by
  intro l key seq hg _ _
  obtain ⟨hl, hb, he⟩ : l.length ≤ maxLen ∧ l.length * 64 ≤ 140737488351232 ∧ ∀ y ∈ l, _ := hg
  have hs : ∀ x ∈ l, small x := by
    intro x hx
    obtain ⟨g0, _, _, g3, g4⟩ := he x hx
    exact ⟨g0, g3, g4⟩
  have hw : ∀ x ∈ l.map toR, (Lit.int .i64 x.f1).wf = true := by
    intro x hx
    obtain ⟨y, hy, rfl⟩ := List.mem_map.1 hx
    exact (he y hy).2.1
  obtain ⟨r, e, a, b, c⟩ := szRecordS_ev l hs (by omega) 1048576 (by omega) (by omega)
  unfold laws_FnExactLookMem.f
  refine Ev.rounds ?_
  by_cases hk : (key.size : Int) > 1048576
  · exact Ev.if_pos hk (Ev.now _)
  refine Ev.if_neg hk ?_
  refine Ev.bind e ?_
  by_cases h : r < 0
  · exact Ev.if_pos h (Ev.now _)
  refine Ev.if_neg h ?_
  have hn := c (by omega)
  have hlen : ((l.map toR).length : Int) ≤ 1000000000 := by rw [List.length_map]; omega
  have p1 := l17Run_ev (l.map toR) hlen
  have p2 := implRun_eq (l.map toR) hlen hw
  have t := toRecordS_ev l (by omega)
  obtain ⟨v, q1, q2⟩ : ∃ v, Ev (fun k => spec_LookMem.f k (l.map toR) key seq) v ∧ Ev (fun k => impl_LookMem.f k (l.map toR) key seq) v := by
    have im : impl_ValidMem.f (l.map toR) = some (decide (((l.map toR).length : Int) ≤ 24) && runFrom (l.map toR) (l.map toR).length 0) := by
      unfold impl_ValidMem.f
      by_cases c24 : ((l.map toR).length : Int) ≤ 24
      · rw [if_pos c24, p2, decide_eq_true c24, Bool.true_and]
        rfl
      · rw [if_neg c24, decide_eq_false c24, Bool.false_and]
    have sm : Ev (fun k => spec_l18Valid.f k (l.map toR)) (decide (((l.map toR).length : Int) ≤ 24) && runFrom (l.map toR) (l.map toR).length 0) := by
      unfold spec_l18Valid.f
      by_cases c24 : ((l.map toR).length : Int) ≤ 24
      · rw [decide_eq_true c24, Bool.true_and]
        exact Ev.if_pos c24 (Ev.bind p1 (Ev.now _))
      · rw [decide_eq_false c24, Bool.false_and]
        exact Ev.if_neg c24 (Ev.now _)
    unfold spec_LookMem.f impl_LookMem.f
    cases hv : (decide (((l.map toR).length : Int) ≤ 24) && runFrom (l.map toR) (l.map toR).length 0) with
    | true =>
      rw [hv] at im sm
      cases ho : okKey key with
      | true =>
        have s0 := spec_loop (l.map toR) key seq hlen (l.map toR).length 0 z26 (by omega) (by omega)
        have i0 := impl_loop (l.map toR) key seq hlen (l.map toR).length 0 z26 (by omega) (by omega)
        exact ⟨_, Ev.bind sm (Ev.if_pos rfl (Ev.bind1 (l17Key_eq key) (Ev.if_pos ho (Ev.bind s0 (Ev.now _))))), Ev.bind1 im (Ev.if_pos rfl (Ev.bind1 (implKey_eq key) (Ev.if_pos ho (Ev.bind i0 (Ev.now _)))))⟩
      | false =>
        have ho' : ¬ okKey key = true := by rw [ho]; decide
        exact ⟨_, Ev.bind sm (Ev.if_pos rfl (Ev.bind1 (l17Key_eq key) (Ev.if_neg ho' (Ev.now _)))), Ev.bind1 im (Ev.if_pos rfl (Ev.bind1 (implKey_eq key) (Ev.if_neg ho' (Ev.now _))))⟩
    | false =>
      rw [hv] at im sm
      exact ⟨_, Ev.bind sm (Ev.if_neg (by decide) (Ev.now _)), Ev.bind1 im (Ev.if_neg (by decide) (Ev.now _))⟩
  refine Ev.bind t (Ev.bind q1 (Ev.bind t (Ev.bind q2 (Ev.bind1 (eqRecord_self _ _ _ _ _) (Ev.if_pos rfl ?_)))))
  refine Ev.step (f := fun k => ((laws_toRecordS.f k l).bind fun t213 => ((laws_eqRecordS.f k (l.map toR) t213).bind fun t216 => (if t216 = true then (some true) else (some false))))) (fun k => ?_) (Ev.bind t (Ev.bind (eqRecordS_self _ (by omega)) (Ev.if_pos rfl (Ev.now _))))
  rw [laws_FnExactLookMem.j0, if_neg (by simp)]
end Go.Proofs.Ytolffokfddjceaa.Pure
