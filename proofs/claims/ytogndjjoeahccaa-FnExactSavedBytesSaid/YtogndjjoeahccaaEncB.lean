/- The encoding of a block, in plain lists. Conditions: those before each theorem. -/
import Derived.Test.YtogndjjoeahccaaSharedN
import Derived.Test.YtogndjjoeahccaaFixOk
import Derived.Test.YtogndjjoeahccaaQ0
namespace Go.Proofs.Ytogndjjoeahccaa.Q
open Go.RowKit Go.Proofs.YtogndjjoeahccaaW.PrintWords
set_option linter.unusedVariables false
def dataX (x : S49) : ByteArray := if x.f2 = 3 then x.f4 else x.f3
def entry (x : S49) (n : Nat) : ByteArray :=
  (((((fixB (n : Int) 1 ++ fixB ((x.f0.size : Int) - (n : Int)) 1) ++ fixB x.f1 3) ++ fixB x.f2 1) ++ fixB ((dataX x).size : Int) 1) ++ x.f0.extract n x.f0.size) ++ dataX x
def nSh (l : List S49) (i : Nat) : Nat := if i % 4 = 0 then 0 else sharedN (rd_T49 l ((i - 1 : Nat) : Int)).f0 (rd_T49 l (i : Int)).f0
def entB (l : List S49) (i : Nat) : ByteArray := entry (rd_T49 l (i : Int)) (nSh l i)
def bodyB (l : List S49) : Nat → List UInt8
  | 0 => []
  | i + 1 => bodyB l i ++ (entB l i).data.toList
def offB (l : List S49) : Nat → List UInt8
  | 0 => []
  | i + 1 => if i % 4 = 0 then offB l i ++ (fixB ((bodyB l i).length : Int) 2).data.toList else offB l i
def encB (l : List S49) : ByteArray := ((⟨(bodyB l l.length).toArray⟩ : ByteArray) ++ ⟨(offB l l.length).toArray⟩) ++ fixB (((l.length + 3) / 4 : Nat) : Int) 1
def shortE (x : S49) : Bool := decide (x.f0.size ≤ 1048576 ∧ (dataX x).size ≤ 1048576)
theorem fixE_size (n : Int) (s : Nat) : (fixB n s).size = s := by unfold fixB; simp [strOfNums, ByteArray.size, digs_length]
theorem nSh_le (l : List S49) (i : Nat) (h : ∀ j, shortE (rd_T49 l j) = true) : nSh l i ≤ (rd_T49 l (i : Int)).f0.size := by
  unfold nSh
  split
  · omega
  · refine (shared_le _ _ ?_).2
    have := (of_decide_eq_true (h ((i - 1 : Nat) : Int))).1
    omega
theorem ext_size (s : ByteArray) (n : Nat) : (s.extract n s.size).size = s.size - n := by simp
theorem entry_size (x : S49) (n : Nat) : (entry x n).size = 7 + (x.f0.size - n) + (dataX x).size := by
  unfold entry
  simp only [ByteArray.size_append, fixE_size, ext_size]
theorem entB_size (l : List S49) (i : Nat) (h : ∀ j, shortE (rd_T49 l j) = true) : 7 ≤ (entB l i).size ∧ (entB l i).size ≤ 3000000 := by
  obtain ⟨h1, h2⟩ := of_decide_eq_true (h (i : Int))
  unfold entB
  rw [entry_size]
  omega
theorem body_len (l : List S49) (h : ∀ j, shortE (rd_T49 l j) = true) : ∀ i, (bodyB l i).length ≤ i * 3000000 ∧ i * 7 ≤ (bodyB l i).length
  | 0 => by simp [bodyB]
  | i + 1 => by
    have h1 := body_len l h i
    have h2 := entB_size l i h
    unfold bodyB
    rw [List.length_append, data_length]
    omega
theorem off_len (l : List S49) : ∀ i, (offB l i).length = 2 * ((i + 3) / 4)
  | 0 => by simp [offB]
  | i + 1 => by
    have h1 := off_len l i
    unfold offB
    split
    · rw [List.length_append, data_length, fixE_size]
      omega
    · omega
theorem short_all (l : List S49) (h : (l.all shortE) = true) : ∀ j, shortE (rd_T49 l j) = true := by
  intro j
  unfold rd_T49
  rw [List.getD_eq_getElem?_getD]
  by_cases hj : j.toNat < l.length
  · rw [List.getElem?_eq_getElem hj]
    exact List.all_eq_true.1 h _ (List.getElem_mem hj)
  · rw [List.getElem?_eq_none (by omega)]
    rfl
end Go.Proofs.Ytogndjjoeahccaa.Q
