/- The specification's reading at a place is that of the rest from there. Conditions: those before each theorem. -/
import Derived.Test.YtogndjjoeahccaaSpecDec
namespace Go.Proofs.Ytogndjjoeahccaa.Q
open Go.RowKit Go.Proofs.YtogndjjoeahccaaW.PrintWords
set_option linter.unusedVariables false
theorem rest_list (s : ByteArray) (p : Nat) : (s.extract p s.size).data.toList = s.data.toList.drop p := by
  rw [Lib.extract_data]
  exact List.take_of_length_le (by rw [List.length_drop, data_length]; exact Nat.le_refl _)
theorem btN_shift (s : ByteArray) (p j : Nat) : btN (s.extract p s.size) j = btN s (p + j) := by
  rw [btN_list, btN_list, rest_list, List.getD_eq_getElem?_getD, List.getD_eq_getElem?_getD, List.getElem?_drop]
theorem ext_shift (s : ByteArray) (p a b : Nat) : (s.extract p s.size).extract a b = s.extract (p + a) (p + b) := by
  apply ba_ext
  rw [Lib.extract_data (s.extract p s.size), rest_list, Lib.extract_data, List.drop_drop, show p + b - (p + a) = b - a from by omega]
theorem nxRec_ent (s bf : ByteArray) (p : Nat) : nxRec s bf p = entRec (s.extract p s.size) bf := by
  have hk : nxKey s bf p = entKey (s.extract p s.size) bf := by
    unfold nxKey entKey
    rw [btN_shift, btN_shift, ext_shift, Nat.add_assoc p 7]
    rfl
  have ht : nxText s p = entText (s.extract p s.size) := by
    unfold nxText entText
    rw [btN_shift, btN_shift, ext_shift, Nat.add_assoc p 7, ← Nat.add_assoc p (7 + btN s (p + 1))]
  unfold nxRec entRec
  rw [hk, ht, btN_shift, ext_shift]
  by_cases h : btN s (p + 5) = 3
  · rw [if_pos h, if_pos (by omega)]
  · rw [if_neg h, if_neg (by omega)]
end Go.Proofs.Ytogndjjoeahccaa.Q
