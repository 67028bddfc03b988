/- One entry of a block, read again. Conditions: those before each theorem. -/
import Derived.Test.YtogndjjoeahccaaXEntries
import Derived.Test.YtogndjjoeahccaaEncB
import Derived.Test.YtogndjjoeahccaaRunS
import Derived.Laws.BytesArg
namespace Go.Proofs.Ytogndjjoeahccaa.Q
open Go.RowKit Go.Proofs.YtogndjjoeahccaaW.PrintWords
set_option linter.unusedVariables false
theorem ba_ext {a b : ByteArray} (h : a.data.toList = b.data.toList) : a = b := by
  cases a; cases b
  congr
  exact Array.toList_inj.1 h
theorem btN_list (s : ByteArray) (i : Nat) : btN s i = (s.data.toList.getD i 0).toNat := by
  unfold btN bt
  by_cases h : i < s.size
  · have h2 : i < s.data.toList.length := by rw [data_length]; exact h
    rw [dif_pos (by simpa using h), List.getD_eq_getElem?_getD, List.getElem?_eq_getElem h2]
    simp only [Int.toNat_natCast]
    rfl
  · have h2 : ¬ i < s.data.toList.length := by rw [data_length]; exact h
    rw [dif_neg (by simpa using h), List.getD_eq_getElem?_getD, List.getElem?_eq_none (by omega)]
    rfl
theorem byte1 (v : Int) : (fixB v 1).data.toList = [UInt8.ofNat (v % 256).toNat] := by simp [fixB, strOfNums_data, digs, dig]
theorem byte3 (v : Int) : (fixB v 3).data.toList = [UInt8.ofNat (v % 256).toNat, UInt8.ofNat (v / 256 % 256).toNat, UInt8.ofNat (v / 65536 % 256).toNat] := by
  simp [fixB, strOfNums_data, digs, dig, List.range_succ]
theorem entry_list (x : S49) (n : Nat) : (entry x n).data.toList = UInt8.ofNat ((n : Int) % 256).toNat :: UInt8.ofNat (((x.f0.size : Int) - (n : Int)) % 256).toNat :: UInt8.ofNat (x.f1 % 256).toNat :: UInt8.ofNat (x.f1 / 256 % 256).toNat :: UInt8.ofNat (x.f1 / 65536 % 256).toNat :: UInt8.ofNat (x.f2 % 256).toNat :: UInt8.ofNat (((dataX x).size : Int) % 256).toNat :: (x.f0.data.toList.drop n ++ (dataX x).data.toList) := by
  unfold entry
  simp only [ByteArray.data_append, Array.toList_append, byte1, byte3, Lib.extract_data, List.cons_append, List.nil_append]
  rw [List.take_of_length_le (by rw [List.length_drop, data_length]; exact Nat.le_refl _)]
theorem u8_nat (v : Int) (h0 : 0 ≤ v) (h1 : v < 256) : (UInt8.ofNat v.toNat).toNat = v.toNat := by
  rw [UInt8.toNat_ofNat']
  omega
theorem ent_read (x : S49) (n : Nat) (r key y : ByteArray) (hy : y.data.toList = (entry x n).data.toList ++ r.data.toList) (ho : okX x = true) (hn : n ≤ x.f0.size) (hk : n ≤ key.size) (hp : key.data.toList.take n = x.f0.data.toList.take n) :
    y.size = 7 + (x.f0.size - n) + (dataX x).size + r.size ∧ btN y 0 = n ∧ btN y 1 = x.f0.size - n ∧ btN y 6 = (dataX x).size ∧ entKey y key = x.f0 ∧ entRec y key = x ∧ entRest y = r := by
  obtain ⟨o1, o2, o3, o4, o5, o6, o7, o8, o9⟩ := ok_parts x ho
  rw [entry_list] at hy
  have hsz : y.size = 7 + (x.f0.size - n) + (dataX x).size + r.size := by
    rw [← data_length, hy]
    simp only [List.cons_append, List.length_cons, List.length_append, List.length_drop, data_length]
    omega
  have b0 : btN y 0 = n := by rw [btN_list, hy]; simp only [List.cons_append, List.getD_cons_zero]; rw [u8_nat _ (by omega) (by omega)]; omega
  have b1 : btN y 1 = x.f0.size - n := by rw [btN_list, hy]; simp only [List.cons_append, List.getD_cons_zero, List.getD_cons_succ]; rw [u8_nat _ (by omega) (by omega)]; omega
  have b5 : btN y 5 = x.f2.toNat := by rw [btN_list, hy]; simp only [List.cons_append, List.getD_cons_zero, List.getD_cons_succ]; rw [u8_nat _ (by omega) (by omega)]; omega
  have b6 : btN y 6 = (dataX x).size := by rw [btN_list, hy]; simp only [List.cons_append, List.getD_cons_zero, List.getD_cons_succ]; rw [u8_nat _ (by omega) (by omega)]; omega
  have hx3 : (y.extract 2 5).data.toList = [UInt8.ofNat (x.f1 % 256).toNat, UInt8.ofNat (x.f1 / 256 % 256).toNat, UInt8.ofNat (x.f1 / 65536 % 256).toNat] := by
    rw [Lib.extract_data, hy]; rfl
  have hnum : (numN (y.extract 2 5) 3 : Int) = x.f1 := by
    simp only [numN, btN_list, hx3, List.getD_cons_zero, List.getD_cons_succ]
    rw [u8_nat _ (by omega) (by omega), u8_nat _ (by omega) (by omega), u8_nat _ (by omega) (by omega)]
    omega
  have hdl : (x.f0.data.toList.drop n).length = x.f0.size - n := by rw [List.length_drop, data_length]
  have hkey : entKey y key = x.f0 := by
    apply ba_ext
    unfold entKey
    rw [b0, b1, ByteArray.data_append, Array.toList_append, Lib.extract_data, Lib.extract_data, hy, List.drop_zero, Nat.sub_zero, hp]
    simp only [List.cons_append, List.drop_succ_cons, List.drop_zero]
    rw [show 7 + (x.f0.size - n) - 7 = (x.f0.data.toList.drop n).length from by rw [hdl]; omega, List.append_assoc, List.take_left]
    exact List.take_append_drop _ _
  have htext : entText y = dataX x := by
    apply ba_ext
    unfold entText
    rw [b1, b6, Lib.extract_data, hy]
    rw [show 7 + (x.f0.size - n) = (x.f0.data.toList.drop n).length + 7 from by rw [hdl]; omega]
    simp only [List.cons_append, List.drop_succ_cons, List.append_assoc]
    rw [List.drop_left, show (x.f0.data.toList.drop n).length + 7 + (dataX x).size - ((x.f0.data.toList.drop n).length + 7) = (dataX x).data.toList.length from by rw [data_length]; omega, List.take_left]
  have hrest : entRest y = r := by
    apply ba_ext
    unfold entRest
    rw [b1, b6, Lib.extract_data, hsz, hy]
    rw [show 7 + (x.f0.size - n) + (dataX x).size = ((x.f0.data.toList.drop n) ++ (dataX x).data.toList).length + 7 from by rw [List.length_append, hdl, data_length]; omega]
    simp only [List.cons_append, List.drop_succ_cons]
    rw [List.drop_left]
    exact List.take_of_length_le (by rw [data_length]; omega)
  refine ⟨hsz, b0, b1, b6, hkey, ?_, hrest⟩
  unfold entRec
  rw [hkey, htext, hnum, b5]
  obtain ⟨f0, f1, f2, f3, f4⟩ := x
  by_cases h3 : f2 = 3
  · subst h3
    have e3 : f3 = ⟨#[]⟩ := by
      have := o8 rfl
      apply ba_ext
      exact List.eq_nil_of_length_eq_zero (by rw [data_length]; exact this)
    subst e3
    rfl
  · have e4 : f4 = ⟨#[]⟩ := by
      have := o9 h3
      apply ba_ext
      exact List.eq_nil_of_length_eq_zero (by rw [data_length]; exact this)
    subst e4
    dsimp only at o5 o6 ⊢
    rw [if_neg (by omega), show ((f2.toNat : Nat) : Int) = f2 from by omega]
    simp only [dataX, h3, if_false]
end Go.Proofs.Ytogndjjoeahccaa.Q
