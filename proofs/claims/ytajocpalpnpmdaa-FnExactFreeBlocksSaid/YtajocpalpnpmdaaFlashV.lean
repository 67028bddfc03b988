/- A flash array's test, as a truth value: what both sides answer for a geometry and for a block. Conditions: those before each theorem. -/
import Derived.Test.YtajocpalpnpmdaaQ9
import Derived.Test.YtajocpalpnpmdaaQ5
import Derived.Test.YtajocpalpnpmdaaQ2
import Derived.Test.YtajocpalpnpmdaaInOk
import Derived.Lib.Strings
import Derived.Test.YtajocpalpnpmdaaNum
namespace Go.Proofs.Ytajocpalpnpmdaa.Q
open Go.RowKit Go.Proofs.YtajocpalpnpmdaaW.PrintWords
set_option linter.unusedVariables false
theorem toList_nil (s : ByteArray) : s.toList = ([] : List UInt8) ↔ s.size = 0 := by
  rw [Lib.toList_data, Array.toList_eq_nil_iff, ← Array.size_eq_zero_iff]
  rfl
def pgB (n : Int) (i : Nat) (s : ByteArray) : Bool := decide (s.size = 0) || (decide (s.size = 91) && decide ((i : Int) < n))
def pgAll (n : Int) : Nat → List ByteArray → Bool
  | _, [] => true
  | i, s :: l => pgB n i s && pgAll n (i + 1) l
def blkB (p : Int) (x : S92) : Bool := decide (0 ≤ x.f0 ∧ x.f0 ≤ 1000) && (decide (0 ≤ x.f1 ∧ x.f1 ≤ p) && (decide ((x.f3.length : Int) = p) && pgAll x.f1 0 x.f3))
def geoB (d b p : Int) : Bool := decide (2 ≤ d ∧ d ≤ 3) && (decide (4 ≤ b ∧ b ≤ 12) && (decide (p = 8) || decide (p = 16)))
def flashB (d b p : Int) (l : List S92) (u v : Int) (z : Int) : Bool := geoB d b p && (decide ((l.length : Int) = wrap64 (d * b)) && (decide (-1 ≤ u ∧ u ≤ 1000000) && (decide (0 ≤ v ∧ v ≤ 91) && (decide (0 ≤ z) && l.all (blkB p)))))
theorem rdB_get (l : List ByteArray) (i : Nat) (h : i < l.length) : rdOf ByteArray.empty l (i : Int) = l[i] := by simp [rdOf, h]
theorem iblk_loop (l : List ByteArray) (e n : Int) (b : Bool) (hl : l.length ≤ 9223372036854775807) (d : Nat) : ∀ i : Nat, i ≤ l.length → l.length - i = d → Ev (fun k => impl_Geometry_blockOk.l0 k l (l.length : Int) i e n b l) (pgAll n i (l.drop i)) := by
  induction d with
  | zero =>
    intro i h1 h2
    rw [List.drop_of_length_le (by omega)]
    refine Ev.step (f := fun _ => some true) (fun k => ?_) (Ev.now _)
    rw [impl_Geometry_blockOk.l0, if_neg (by omega)]
  | succ d ih =>
    intro i h1 h2
    have hi : i < l.length := by omega
    rw [List.drop_eq_getElem_cons hi]
    have hb := rdB_get l i hi
    revert hb
    generalize l[i]'hi = s
    intro hb
    have ei : wrap64 ((i : Int) + 1) = ((i + 1 : Nat) : Int) := by unfold wrap64; omega
    have ih1 := ih (i + 1) (by omega) (by omega)
    by_cases c1 : s.toList = ([] : List UInt8)
    · have c1' := (toList_nil s).1 c1
      have e1 : pgAll n i (s :: l.drop (i + 1)) = pgAll n (i + 1) (l.drop (i + 1)) := by simp [pgAll, pgB, c1']
      rw [e1]
      refine Ev.step (fun k => ?_) ih1
      rw [impl_Geometry_blockOk.l0, if_pos (by omega), if_pos (by omega), if_pos (by omega), hb, if_pos c1, ei]
    · have c1' : ¬ s.size = 0 := fun q => c1 ((toList_nil s).2 q)
      by_cases c2 : (s.size : Int) = 91
      · have c2' : s.size = 91 := by omega
        by_cases c3 : (i : Int) ≥ n
        · have e1 : pgAll n i (s :: l.drop (i + 1)) = false := by
            have : ¬ (i : Int) < n := by omega
            simp [pgAll, pgB, c2', this]
          rw [e1]
          refine Ev.step (f := fun _ => some false) (fun k => ?_) (Ev.now _)
          rw [impl_Geometry_blockOk.l0, if_pos (by omega), if_pos (by omega), if_pos (by omega), hb, if_neg c1, if_pos c2, if_pos c3]
        · have e1 : pgAll n i (s :: l.drop (i + 1)) = pgAll n (i + 1) (l.drop (i + 1)) := by
            have : (i : Int) < n := by omega
            simp [pgAll, pgB, c2', this]
          rw [e1]
          refine Ev.step (fun k => ?_) ih1
          rw [impl_Geometry_blockOk.l0, if_pos (by omega), if_pos (by omega), if_pos (by omega), hb, if_neg c1, if_pos c2, if_neg c3, ei]
      · have c2' : ¬ s.size = 91 := by omega
        have e1 : pgAll n i (s :: l.drop (i + 1)) = false := by simp [pgAll, pgB, c1', c2']
        rw [e1]
        refine Ev.step (f := fun _ => some false) (fun k => ?_) (Ev.now _)
        rw [impl_Geometry_blockOk.l0, if_pos (by omega), if_pos (by omega), if_pos (by omega), hb, if_neg c1, if_neg c2]
theorem iblk_ev (d b p : Int) (x : S92) (hl : x.f3.length ≤ 9223372036854775807) : Ev (fun k => impl_Geometry_blockOk.f k d b p x.f0 x.f1 x.f2 x.f3) (blkB p x) := by
  have off : ∀ q, Ev (fun k => impl_Geometry_blockOk.j0 k true x.f0 x.f1 x.f2 x.f3) (false && q) := fun q => Ev.step (f := fun _ => some false) (fun k => by rw [impl_Geometry_blockOk.j0, if_pos rfl]) (Ev.now _)
  unfold impl_Geometry_blockOk.f blkB
  rw [within_eq]
  by_cases c1 : 0 ≤ x.f0 ∧ x.f0 ≤ 1000
  · rw [decide_eq_true c1, Bool.true_and]
    refine Ev.bind1 rfl (Ev.if_pos rfl ?_)
    rw [within_eq]
    by_cases c2 : 0 ≤ x.f1 ∧ x.f1 ≤ p
    · rw [decide_eq_true c2, Bool.true_and]
      refine Ev.bind1 rfl (Ev.if_pos rfl ?_)
      by_cases c3 : (x.f3.length : Int) = p
      · rw [decide_eq_true c3, Bool.true_and, show ((x.f3.length : Int) != p) = false by simp [c3]]
        have := iblk_loop x.f3 x.f0 x.f1 x.f2 hl x.f3.length 0 (by omega) (by omega)
        rw [List.drop_zero] at this
        refine Ev.step (fun k => ?_) this
        rw [impl_Geometry_blockOk.j0, if_neg (by decide)]
        rfl
      · rw [decide_eq_false c3, show ((x.f3.length : Int) != p) = true by simp [c3]]
        exact off _
    · rw [decide_eq_false c2]
      exact Ev.bind1 rfl (Ev.if_neg (by decide) (off _))
  · rw [decide_eq_false c1]
    exact Ev.bind1 rfl (Ev.if_neg (by decide) (off _))
theorem igeo_eq (d b p : Int) : impl_ValidGeometry.f d b p = some (geoB d b p) := by
  unfold impl_ValidGeometry.f geoB
  rw [within_eq, Option.bind_some, within_eq]
  by_cases c1 : 2 ≤ d ∧ d ≤ 3
  · rw [decide_eq_true c1, if_pos rfl, Bool.true_and, Option.bind_some]
    by_cases c2 : 4 ≤ b ∧ b ≤ 12
    · rw [decide_eq_true c2, if_pos rfl, Bool.true_and]
      by_cases c3 : p = 8
      · rw [if_pos c3, decide_eq_true c3, Bool.true_or]
      · rw [if_neg c3, decide_eq_false c3, Bool.false_or]
        rfl
    · rw [decide_eq_false c2, if_neg (by decide), Bool.false_and]
  · rw [decide_eq_false c1, if_neg (by decide), Bool.false_and]
theorem sblk_loop (l : List ByteArray) (e n : Int) (b : Bool) (hl : l.length ≤ 9223372036854775807) (d : Nat) : ∀ i : Nat, i ≤ l.length → l.length - i = d → Ev (fun k => spec_l06Block.l0 k (l.length : Int) i e n b l) (pgAll n i (l.drop i)) := by
  induction d with
  | zero =>
    intro i h1 h2
    rw [List.drop_of_length_le (by omega)]
    refine Ev.step (f := fun _ => some true) (fun k => ?_) (Ev.now _)
    rw [spec_l06Block.l0, if_neg (by omega)]
  | succ d ih =>
    intro i h1 h2
    have hi : i < l.length := by omega
    rw [List.drop_eq_getElem_cons hi]
    have hb := rdB_get l i hi
    revert hb
    generalize l[i]'hi = s
    intro hb
    have ei : wrap64 ((i : Int) + 1) = ((i + 1 : Nat) : Int) := by unfold wrap64; omega
    have ih1 := ih (i + 1) (by omega) (by omega)
    by_cases c1 : (s.size : Int) = 0
    · have c1' : s.size = 0 := by omega
      have e1 : pgAll n i (s :: l.drop (i + 1)) = pgAll n (i + 1) (l.drop (i + 1)) := by simp [pgAll, pgB, c1']
      rw [e1]
      refine Ev.step (fun k => ?_) ih1
      rw [spec_l06Block.l0, if_pos (by omega), if_pos (by omega), if_pos (by omega), hb, if_pos c1, ei]
    · have c1' : ¬ s.size = 0 := by omega
      by_cases c2 : (s.size : Int) = 91
      · have c2' : s.size = 91 := by omega
        by_cases c3 : (i : Int) ≥ n
        · have e1 : pgAll n i (s :: l.drop (i + 1)) = false := by
            have : ¬ (i : Int) < n := by omega
            simp [pgAll, pgB, c2', this]
          rw [e1]
          refine Ev.step (f := fun _ => some false) (fun k => ?_) (Ev.now _)
          rw [spec_l06Block.l0, if_pos (by omega), if_pos (by omega), if_pos (by omega), hb, if_neg c1, if_pos c2, if_pos c3]
        · have e1 : pgAll n i (s :: l.drop (i + 1)) = pgAll n (i + 1) (l.drop (i + 1)) := by
            have : (i : Int) < n := by omega
            simp [pgAll, pgB, c2', this]
          rw [e1]
          refine Ev.step (fun k => ?_) ih1
          rw [spec_l06Block.l0, if_pos (by omega), if_pos (by omega), if_pos (by omega), hb, if_neg c1, if_pos c2, if_neg c3, ei]
      · have c2' : ¬ s.size = 91 := by omega
        have e1 : pgAll n i (s :: l.drop (i + 1)) = false := by simp [pgAll, pgB, c1', c2']
        rw [e1]
        refine Ev.step (f := fun _ => some false) (fun k => ?_) (Ev.now _)
        rw [spec_l06Block.l0, if_pos (by omega), if_pos (by omega), if_pos (by omega), hb, if_neg c1, if_neg c2]
theorem sblk_ev (p : Int) (x : S92) (hl : x.f3.length ≤ 9223372036854775807) : Ev (fun k => spec_l06Block.f k x.f0 x.f1 x.f2 x.f3 p) (blkB p x) := by
  have off : ∀ q, Ev (fun k => spec_l06Block.j0 k p true x.f0 x.f1 x.f2 x.f3) (false && q) := fun q => Ev.step (f := fun _ => some false) (fun k => by rw [spec_l06Block.j0, if_pos rfl]) (Ev.now _)
  unfold spec_l06Block.f blkB
  rw [l00In_eq]
  by_cases c1 : 0 ≤ x.f0 ∧ x.f0 ≤ 1000
  · rw [decide_eq_true c1, Bool.true_and]
    refine Ev.bind1 rfl (Ev.if_pos rfl ?_)
    rw [l00In_eq]
    by_cases c2 : 0 ≤ x.f1 ∧ x.f1 ≤ p
    · rw [decide_eq_true c2, Bool.true_and]
      refine Ev.bind1 rfl (Ev.if_pos rfl ?_)
      by_cases c3 : (x.f3.length : Int) = p
      · rw [decide_eq_true c3, Bool.true_and, show ((x.f3.length : Int) != p) = false by simp [c3]]
        have := sblk_loop x.f3 x.f0 x.f1 x.f2 hl x.f3.length 0 (by omega) (by omega)
        rw [List.drop_zero] at this
        refine Ev.step (fun k => ?_) this
        rw [spec_l06Block.j0, if_neg (by decide), ← c3]
        rfl
      · rw [decide_eq_false c3, show ((x.f3.length : Int) != p) = true by simp [c3]]
        exact off _
    · rw [decide_eq_false c2]
      exact Ev.bind1 rfl (Ev.if_neg (by decide) (off _))
  · rw [decide_eq_false c1]
    exact Ev.bind1 rfl (Ev.if_neg (by decide) (off _))
end Go.Proofs.Ytajocpalpnpmdaa.Q
