/- The two encodings of a record are one. Condition: its strings are short. -/
import Derived.Test.YtolffokfddjceaaQ8
import Derived.Test.YtolffokfddjceaaQ9
import Derived.Test.YtolffokfddjceaaFixOk
namespace Go.Proofs.Ytolffokfddjceaa.Q
open Go.RowKit Go.Proofs.YtolffokfddjceaaW.PrintWords
set_option linter.unusedVariables false
/-- What follows the key. -/
def recData (c : Int) (d e : ByteArray) : ByteArray := if c = 3 then e else d
def putB (a : ByteArray) (b c : Int) (d e : ByteArray) : ByteArray :=
  ((((fixB c 1 ++ fixB b 3) ++ fixB (a.size : Int) 1) ++ a) ++ fixB ((recData c d e).size : Int) 1) ++ recData c d e
theorem l17Data_eq (a : ByteArray) (b c : Int) (d e : ByteArray) : spec_l17Data.f a b c d e = some (recData c d e) := by
  unfold spec_l17Data.f recData
  by_cases h : c = 3
  · rw [if_pos h, if_pos h]
  · rw [if_neg h, if_neg h]
theorem other_eq (a : ByteArray) (b c : Int) (d e : ByteArray) : impl_Record_other.f a b c d e = some (recData c d e) := by
  unfold impl_Record_other.f recData
  by_cases h : c = 3
  · rw [if_pos h, if_pos h]
  · rw [if_neg h, if_neg h]
theorem strOfNums_size (l : List Int) : (strOfNums l).size = l.length := by simp [strOfNums, ByteArray.size]
theorem fixB_size (n : Int) (s : Nat) : (fixB n s).size = s := by unfold fixB; rw [strOfNums_size, digs_length]
theorem put_size (a : ByteArray) (b c : Int) (d e : ByteArray) : (putB a b c d e).size = 6 + a.size + (recData c d e).size := by
  unfold putB
  simp only [ByteArray.size_append, fixB_size]
  omega
theorem l17Put_ev (a : ByteArray) (b c : Int) (d e : ByteArray) (ha : a.size ≤ 1000000000000000) (hd : (recData c d e).size ≤ 1000000000000000) : Ev (fun k => spec_l17Put.f k a b c d e) (putB a b c d e) := by
  obtain ⟨K1, e1⟩ := l17Fix_ev c 1 (by omega)
  obtain ⟨K2, e2⟩ := l17Fix_ev b 3 (by omega)
  obtain ⟨K3, e3⟩ := l17Fix_ev (a.size : Int) 1 (by omega)
  obtain ⟨K4, e4⟩ := l17Fix_ev ((recData c d e).size : Int) 1 (by omega)
  refine ⟨K1 + K2 + K3 + K4, fun k hk => ?_⟩
  have f1 := e1 k (by omega)
  have f2 := e2 k (by omega)
  have f3 := e3 k (by omega)
  have f4 := e4 k (by omega)
  dsimp only at f1 f2 f3 f4 ⊢
  rw [show ((1 : Nat) : Int) = 1 from rfl] at f1 f3 f4
  rw [show ((3 : Nat) : Int) = 3 from rfl] at f2
  unfold spec_l17Put.f putB
  simp only [l17Data_eq, Option.bind_some, f1, f2, f3, f4, fixB_size]
  rw [if_pos (by omega), if_pos (by omega), if_pos (by omega), if_pos (by omega), if_pos (by omega)]
theorem put_ev (a : ByteArray) (b c : Int) (d e : ByteArray) (ha : a.size ≤ 1000000000000000) (hd : (recData c d e).size ≤ 1000000000000000) : Ev (fun k => impl_Record_put.f k a b c d e) (putB a b c d e) := by
  obtain ⟨K1, e1⟩ := fixed_ev c 1 (by omega)
  obtain ⟨K2, e2⟩ := fixed_ev b 3 (by omega)
  obtain ⟨K3, e3⟩ := fixed_ev (a.size : Int) 1 (by omega)
  obtain ⟨K4, e4⟩ := fixed_ev ((recData c d e).size : Int) 1 (by omega)
  refine ⟨K1 + K2 + K3 + K4, fun k hk => ?_⟩
  have f1 := e1 k (by omega)
  have f2 := e2 k (by omega)
  have f3 := e3 k (by omega)
  have f4 := e4 k (by omega)
  dsimp only at f1 f2 f3 f4 ⊢
  rw [show ((1 : Nat) : Int) = 1 from rfl] at f1 f3 f4
  rw [show ((3 : Nat) : Int) = 3 from rfl] at f2
  unfold impl_Record_put.f putB
  simp only [other_eq, Option.bind_some, f1, f2, f3, f4, fixB_size]
  rw [if_pos (by omega), if_pos (by omega), if_pos (by omega), if_pos (by omega), if_pos (by omega)]
end Go.Proofs.Ytolffokfddjceaa.Q
