/- The two orders of records are one. No condition. -/
import Derived.Test.YtogndjjoeahccaaQ2
import Derived.Test.YtogndjjoeahccaaQ5
import Derived.Test.YtogndjjoeahccaaQ4
import Derived.Test.YtogndjjoeahccaaXStrCompare
import Derived.Test.YtogndjjoeahccaaStrCmp
import Derived.Test.YtogndjjoeahccaaNum
namespace Go.Proofs.Ytogndjjoeahccaa.Q
open Go.RowKit Go.Proofs.YtogndjjoeahccaaW.PrintWords
set_option linter.unusedVariables false
theorem ba_toList (s : ByteArray) : s.toList = s.data.toList := Lib.toList_data s
theorem cmp_lists (a b : List UInt8) : (Lib.compareBytes a b = 0 ↔ a = b) ∧ (Lib.compareBytes a b < 0 ↔ Op.bytesLess a b = true) := by
  induction a generalizing b with
  | nil => cases b <;> simp [Lib.compareBytes, Op.bytesLess]
  | cons x a ih =>
    cases b with
    | nil => simp [Lib.compareBytes, Op.bytesLess]
    | cons y b =>
      obtain ⟨h1, h2⟩ := ih b
      have e1 : (x < y) ↔ x.toNat < y.toNat := UInt8.lt_iff_toNat_lt
      have e2 : (y < x) ↔ y.toNat < x.toNat := UInt8.lt_iff_toNat_lt
      have e3 : (x = y) ↔ x.toNat = y.toNat := UInt8.toNat_inj.symm
      simp only [Lib.compareBytes, Op.bytesLess]
      by_cases c1 : x < y
      · have c2 : ¬ x = y := by rw [e3]; rw [e1] at c1; omega
        rw [if_pos c1]
        simp [c1, c2]
      · by_cases c2 : y < x
        · have c3 : ¬ x = y := by rw [e3]; rw [e2] at c2; omega
          rw [if_neg c1, if_pos c2]
          simp [c1, c3]
        · have c3 : x = y := by rw [e3]; rw [e1] at c1; rw [e2] at c2; omega
          rw [if_neg c1, if_neg c2]
          subst c3
          simp [c1, h1, h2]
theorem cmpB_zero (a b : ByteArray) : cmpB a b = 0 ↔ a.toList = b.toList := by rw [ba_toList, ba_toList]; exact (cmp_lists _ _).1
theorem cmpB_neg (a b : ByteArray) : cmpB a b < 0 ↔ Op.bytesLess a.toList b.toList = true := by rw [ba_toList, ba_toList]; exact (cmp_lists _ _).2
def recLess (a : ByteArray) (b c : Int) (d e : ByteArray) (a' : ByteArray) (b' c' : Int) (d' e' : ByteArray) : Bool :=
  if a.toList = a'.toList then (if b = b' then (if c = c' then (if d.toList = d'.toList then Op.bytesLess e.toList e'.toList else Op.bytesLess d.toList d'.toList) else decide (c < c')) else decide (b > b')) else Op.bytesLess a.toList a'.toList
theorem l17Less_eq (a : ByteArray) (b c : Int) (d e : ByteArray) (a' : ByteArray) (b' c' : Int) (d' e' : ByteArray) : spec_l17Less.f a b c d e a' b' c' d' e' = some (recLess a b c d e a' b' c' d' e') := by
  unfold spec_l17Less.f recLess
  repeat' split
  all_goals rfl
def cmpI (x y : Int) : Int := if x < y then -1 else if x > y then 1 else 0
theorem cmpCompare_eq (x y : Int) : cmp_Compare_int64.f x y = some (cmpI x y) := by
  unfold cmp_Compare_int64.f cmp_isNaN_int64.f cmpI
  simp only [Option.bind_some, bne_self_eq_false, Bool.false_eq_true, if_false]
  repeat' split
  all_goals rfl
theorem cmpI_zero (x y : Int) : cmpI x y = 0 ↔ x = y := by
  unfold cmpI
  by_cases h1 : x < y
  · rw [if_pos h1]; omega
  · rw [if_neg h1]
    by_cases h2 : x > y
    · rw [if_pos h2]; omega
    · rw [if_neg h2]; omega
theorem cmpI_neg (x y : Int) : cmpI x y < 0 ↔ x < y := by
  unfold cmpI
  by_cases h1 : x < y
  · rw [if_pos h1]; omega
  · rw [if_neg h1]
    by_cases h2 : x > y
    · rw [if_pos h2]; omega
    · rw [if_neg h2]; omega
def orI : List Int → Int
  | [] => 0
  | x :: xs => if x = 0 then orI xs else x
theorem cmpOr_loop (l : List Int) (hl : l.length ≤ 1000000) (d : Nat) : ∀ i : Nat, i ≤ l.length → l.length - i = d → Ev (fun k => cmp_Or_int.l0 k 0 l (l.length : Int) i) (orI (l.drop i)) := by
  induction d with
  | zero =>
    intro i h1 h2
    rw [List.drop_of_length_le (by omega)]
    refine Ev.step (f := fun _ => some 0) (fun k => ?_) (Ev.now _)
    rw [cmp_Or_int.l0, if_neg (by omega)]
  | succ d ih =>
    intro i h1 h2
    have e1 : l.drop i = l[i] :: l.drop (i + 1) := List.drop_eq_getElem_cons (by omega)
    have e2 : orI (l.drop i) = if l[i] = 0 then orI (l.drop (i + 1)) else l[i] := by rw [e1]; rfl
    by_cases h : l[i] = 0
    · rw [e2, if_pos h]
      refine Ev.step (fun k => ?_) (ih (i + 1) (by omega) (by omega))
      rw [cmp_Or_int.l0, if_pos (by omega), if_pos (by omega), if_pos (by omega), rd_get l i (by omega), if_pos h, wrap64_id (by omega) (by omega)]
      rfl
    · rw [e2, if_neg h]
      refine Ev.step (f := fun _ => some l[i]) (fun k => ?_) (Ev.now _)
      rw [cmp_Or_int.l0, if_pos (by omega), if_pos (by omega), if_pos (by omega), rd_get l i (by omega), if_neg h]
theorem cmpOr_ev (l : List Int) (hl : l.length ≤ 1000000) : Ev (fun k => cmp_Or_int.f k l) (orI l) := cmpOr_loop l hl l.length 0 (by omega) (by omega)
def cmpRec (a : ByteArray) (b c : Int) (d e : ByteArray) (a' : ByteArray) (b' c' : Int) (d' e' : ByteArray) : Int := orI [cmpB a a', cmpI b' b, cmpI c c', cmpB d d', cmpB e e']
theorem compareRecords_ev (a : ByteArray) (b c : Int) (d e : ByteArray) (a' : ByteArray) (b' c' : Int) (d' e' : ByteArray) : Ev (fun k => impl_compareRecords.f k a b c d e a' b' c' d' e') (cmpRec a b c d e a' b' c' d' e') := by
  obtain ⟨K, h⟩ := cmpOr_ev [cmpB a a', cmpI b' b, cmpI c c', cmpB d d', cmpB e e'] (by simp)
  refine ⟨K, fun k hk => ?_⟩
  have h1 := h k hk
  dsimp only at h1 ⊢
  unfold impl_compareRecords.f strings_Compare.f
  simp only [cmpCompare_eq, Option.bind_some]
  rw [h1]
  rfl
theorem cmpRec_neg (a : ByteArray) (b c : Int) (d e : ByteArray) (a' : ByteArray) (b' c' : Int) (d' e' : ByteArray) : decide (cmpRec a b c d e a' b' c' d' e' < 0) = recLess a b c d e a' b' c' d' e' := by
  rw [Bool.eq_iff_iff, decide_eq_true_iff]
  unfold cmpRec recLess
  simp only [orI]
  by_cases h1 : a.toList = a'.toList
  · rw [if_pos ((cmpB_zero _ _).2 h1), if_pos h1]
    by_cases h2 : b = b'
    · rw [if_pos ((cmpI_zero _ _).2 h2.symm), if_pos h2]
      by_cases h3 : c = c'
      · rw [if_pos ((cmpI_zero _ _).2 h3), if_pos h3]
        by_cases h4 : d.toList = d'.toList
        · rw [if_pos ((cmpB_zero _ _).2 h4), if_pos h4]
          by_cases h5 : e.toList = e'.toList
          · rw [if_pos ((cmpB_zero _ _).2 h5), ← cmpB_neg, (cmpB_zero _ _).2 h5]
          · rw [if_neg (fun q => h5 ((cmpB_zero _ _).1 q)), ← cmpB_neg]
        · rw [if_neg (fun q => h4 ((cmpB_zero _ _).1 q)), if_neg h4, ← cmpB_neg]
      · rw [if_neg (fun q => h3 ((cmpI_zero _ _).1 q)), if_neg h3, cmpI_neg, decide_eq_true_iff]
    · rw [if_neg (fun q => h2 ((cmpI_zero _ _).1 q).symm), if_neg h2, cmpI_neg, decide_eq_true_iff]
  · rw [if_neg (fun q => h1 ((cmpB_zero _ _).1 q)), if_neg h1, ← cmpB_neg]
end Go.Proofs.Ytogndjjoeahccaa.Q
