/- The text of a record, on both sides. Conditions: those before each theorem. -/
import Derived.Test.YtogndjjoeahccaaDoorQ4
import Derived.Test.YtogndjjoeahccaaDoorQ11
import Derived.Test.YtogndjjoeahccaaDoorXDecimal
import Derived.Test.YtogndjjoeahccaaDoorNum
import Derived.Test.YtogndjjoeahccaaDoorRecOk
import Derived.Lib.Strings
namespace Go.Proofs.YtogndjjoeahccaaDoor.Q
open Go.RowKit Go.Proofs.YtogndjjoeahccaaDoorW.PrintWords
set_option linter.unusedVariables false
theorem ba_mk (a : ByteArray) (l : List UInt8) (h : a.data.toList = l) : a = ⟨l.toArray⟩ := by
  subst h
  cases a
  rfl
theorem ba_append (a b : ByteArray) : (a ++ b).data.toList = a.data.toList ++ b.data.toList := by
  rw [ByteArray.data_append, Array.toList_append]
theorem ba_assoc (a b c : ByteArray) : (a ++ b) ++ c = a ++ (b ++ c) := ByteArray.append_assoc
theorem digits_len : ∀ n : Nat, (Lib.decDigits n).length ≤ n + 1 := by
  intro n
  induction n using Nat.strongRecOn with
  | ind n ih =>
    rw [Lib.decDigits]
    by_cases h : n < 10
    · rw [dif_pos h]; simp
    · rw [dif_neg h, List.length_append]
      have := ih (n / 10) (by omega)
      simp only [List.length_singleton]
      omega
theorem decB_size (n : Int) (h0 : 0 ≤ n) (h1 : n ≤ 1000000) : (decB n).size ≤ 1000001 := by
  have := digits_len n.toNat
  unfold decB Lib.itoa
  rw [if_neg (by omega)]
  show (Lib.decDigits n.toNat).toArray.size ≤ _
  rw [List.size_toArray]
  omega
theorem one_byte (m : Nat) (h : m < 256) : strOfNums [(m : Int)] = ⟨#[UInt8.ofNat m]⟩ := by simp [strOfNums]
theorem dec_ev (d : Nat) : ∀ n : Nat, n ≤ 1000000 → n = d → Ev (fun k => spec_l17Dec.f k (n : Int)) (decB (n : Int)) := by
  induction d using Nat.strongRecOn with
  | ind d ih =>
    intro n hn hd
    have e0 : decB (n : Int) = ⟨(Lib.decDigits n).toArray⟩ := by
      unfold decB Lib.itoa
      rw [if_neg (by omega), Int.toNat_natCast]
    by_cases h : n < 10
    · refine Ev.step (f := fun _ => some (decB (n : Int))) (fun k => ?_) (Ev.now _)
      rw [spec_l17Dec.f, if_pos (by omega), e0, Lib.decDigits, dif_pos h, show (wrap64 (48 + (n : Int))) % 256 = ((48 + n : Nat) : Int) from by unfold wrap64; omega, one_byte _ (by omega)]
    · have e1 : wrap64 (Int.tdiv (n : Int) 10) = ((n / 10 : Nat) : Int) := by
        rw [Int.tdiv_eq_ediv_of_nonneg (by omega)]; unfold wrap64; omega
      have e2 : (wrap64 (48 + (Int.tmod (n : Int) 10))) % 256 = ((48 + n % 10 : Nat) : Int) := by
        rw [Int.tmod_eq_emod_of_nonneg (by omega)]; unfold wrap64; omega
      have ih1 := ih (n / 10) (by omega) (n / 10) (by omega) rfl
      have hs := decB_size ((n / 10 : Nat) : Int) (by omega) (by omega)
      have e3 : decB ((n / 10 : Nat) : Int) ++ (⟨#[UInt8.ofNat (48 + n % 10)]⟩ : ByteArray) = decB (n : Int) := by
        rw [e0, Lib.decDigits, dif_neg h]
        refine ba_mk _ _ ?_
        rw [ba_append]
        unfold decB Lib.itoa
        rw [if_neg (by omega), Int.toNat_natCast]
      have h1 : (strOfNums [((48 + n % 10 : Nat) : Int)]) = ⟨#[UInt8.ofNat (48 + n % 10)]⟩ := one_byte _ (by omega)
      have h2 : (⟨#[UInt8.ofNat (48 + n % 10)]⟩ : ByteArray).size = 1 := rfl
      refine Ev.step (f := fun k => (spec_l17Dec.f k ((n / 10 : Nat) : Int)).bind fun t => (some ([((48 + n % 10 : Nat) : Int)] : List Int)).bind fun y => if t.size + (strOfNums y).size ≤ 9223372036854775807 then some (t ++ strOfNums y) else none) (fun k => ?_) (Ev.bind ih1 (Ev.bind1 rfl (Ev.if_pos (by rw [h1, h2]; omega) (by rw [h1, e3]; exact Ev.now _))))
      rw [spec_l17Dec.f, if_neg (by omega), e1, e2]
def digB : ByteArray := ⟨#[48, 49, 50, 51, 52, 53, 54, 55, 56, 57, 97, 98, 99, 100, 101, 102]⟩
def hexL (s : ByteArray) : Nat → Nat → List Int → List Int
  | 0, _, acc => acc
  | d + 1, i, acc => hexL s d (i + 1) (acc ++ [bt digB (bt s (i : Int) / 16), bt digB (bt s (i : Int) % 16)])
theorem hexL_len (s : ByteArray) : ∀ (d i : Nat) (acc : List Int), (hexL s d i acc).length = acc.length + 2 * d
  | 0, _, _ => rfl
  | d + 1, i, acc => by rw [hexL, hexL_len s d, List.length_append]; simp only [List.length_cons, List.length_nil]; omega
def hexB (s : ByteArray) : ByteArray := if s.toList = ([] : List UInt8) then ⟨#[45]⟩ else strOfNums (hexL s s.size 0 [])
theorem and15 : ∀ c : Fin 256, Go.bits .and .u8 ((c.val : Nat) : Int) 15 = ((c.val % 16 : Nat) : Int) := by decide +kernel
theorem and15_bt (s : ByteArray) (i : Int) : Go.bits .and .u8 (bt s i) 15 = bt s i % 16 := by
  obtain ⟨h0, h1⟩ := bt_range s i
  have := and15 ⟨(bt s i).toNat, by omega⟩
  simp only at this
  rw [show (((bt s i).toNat : Nat) : Int) = bt s i from by omega] at this
  rw [this]
  omega
theorem hexB_size (s : ByteArray) : (hexB s).size ≤ 2 * s.size + 1 := by
  unfold hexB
  by_cases h : s.toList = ([] : List UInt8)
  · rw [if_pos h]; show 1 ≤ _; omega
  · rw [if_neg h, strOfNums_size, hexL_len]; simp
theorem shex_loop (s : ByteArray) (hl : s.size ≤ 1048576) (d : Nat) : ∀ (i : Nat) (acc : List Int), i ≤ s.size → s.size - i = d → acc.length ≤ 2 * i → Ev (fun k => spec_l17Hex.l0 k s digB acc i) (strOfNums (hexL s d i acc)) := by
  induction d with
  | zero =>
    intro i acc h1 h2 h3
    refine Ev.step (f := fun _ => some (strOfNums acc)) (fun k => ?_) (Ev.now _)
    rw [spec_l17Hex.l0, if_neg (by omega)]
  | succ d ih =>
    intro i acc h1 h2 h3
    have ei : wrap64 ((i : Int) + 1) = ((i + 1 : Nat) : Int) := by unfold wrap64; omega
    obtain ⟨r0, r1⟩ := bt_range s (i : Int)
    have hd : digB.size = 16 := rfl
    rw [hexL]
    refine Ev.step (fun k => ?_) (ih (i + 1) _ (by omega) (by omega) (by rw [List.length_append]; simp only [List.length_cons, List.length_nil]; omega))
    rw [spec_l17Hex.l0, if_pos (by omega), if_pos (by omega), and15_bt, hd, if_pos (by omega), if_pos (by omega), if_pos (by omega), if_pos (by omega)]
    simp only [Option.bind_some, List.length_cons, List.length_nil]
    rw [if_pos (by omega), ei]
theorem shex_ev (s : ByteArray) (hl : s.size ≤ 1048576) : Ev (fun k => spec_l17Hex.f k s) (hexB s) := by
  unfold spec_l17Hex.f hexB
  by_cases h : s.toList = ([] : List UInt8)
  · rw [if_pos h]; exact Ev.if_pos h (Ev.now _)
  · rw [if_neg h]; exact Ev.if_neg h (shex_loop s hl _ 0 [] (by omega) rfl (by simp))
theorem ihex_loop (s : ByteArray) (hl : s.size ≤ 1048576) (d : Nat) : ∀ (i : Nat) (acc : List Int), i ≤ s.size → s.size - i = d → acc.length ≤ 2 * i → Ev (fun k => impl_hexText.l0 k s acc (s.size : Int) i) (strOfNums (hexL s d i acc)) := by
  induction d with
  | zero =>
    intro i acc h1 h2 h3
    refine Ev.step (f := fun _ => some (strOfNums acc)) (fun k => ?_) (Ev.now _)
    rw [impl_hexText.l0, if_neg (by omega)]
  | succ d ih =>
    intro i acc h1 h2 h3
    have ei : wrap64 ((i : Int) + 1) = ((i + 1 : Nat) : Int) := by unfold wrap64; omega
    obtain ⟨r0, r1⟩ := bt_range s (i : Int)
    have e1 : (Int.tdiv (bt s (i : Int)) 16) % 256 = bt s (i : Int) / 16 := by rw [Int.tdiv_eq_ediv_of_nonneg r0]; omega
    have e2 : Int.tmod (bt s (i : Int)) 16 = bt s (i : Int) % 16 := by rw [Int.tmod_eq_emod_of_nonneg r0]
    rw [hexL]
    refine Ev.step (fun k => ?_) (ih (i + 1) _ (by omega) (by omega) (by rw [List.length_append]; simp only [List.length_cons, List.length_nil]; omega))
    rw [impl_hexText.l0, if_pos (by omega), if_pos (by omega), if_pos (by omega), e1, e2, if_pos (by omega), if_pos (by omega), if_pos (by omega), if_pos (by omega)]
    simp only [Option.bind_some, List.length_cons, List.length_nil]
    rw [if_pos (by omega), ei]
    rfl
theorem ihex_ev (s : ByteArray) (hl : s.size ≤ 1048576) : Ev (fun k => impl_hexText.f k s) (hexB s) := by
  unfold impl_hexText.f hexB
  by_cases h : s.toList = ([] : List UInt8)
  · rw [if_pos h]; exact Ev.if_pos h (Ev.now _)
  · rw [if_neg h]; exact Ev.if_neg h (ihex_loop s hl _ 0 [] (by omega) rfl (by simp))
def wordsB : List ByteArray := [(⟨#[]⟩ : ByteArray), (⟨#[112, 117, 116]⟩ : ByteArray), (⟨#[100, 101, 108, 101, 116, 101]⟩ : ByteArray), (⟨#[114, 97, 110, 103, 101]⟩ : ByteArray)]
def spB : ByteArray := ⟨#[32]⟩
def otherB (kind : Int) (v e : ByteArray) : ByteArray := if kind = 3 then e else v
def textB (key : ByteArray) (seq kind : Int) (v e : ByteArray) : ByteArray :=
  if kind = 2 then (((rdOf ByteArray.empty wordsB kind ++ spB) ++ decB seq) ++ spB) ++ hexB key
  else (((((rdOf ByteArray.empty wordsB kind ++ spB) ++ decB seq) ++ spB) ++ hexB key) ++ spB) ++ hexB (otherB kind v e)
theorem word_size (kind : Int) (h0 : 0 ≤ kind) (h1 : kind < 4) : (rdOf ByteArray.empty wordsB kind).size ≤ 6 := by
  obtain ⟨n, rfl⟩ := Int.eq_ofNat_of_zero_le h0
  match n, h1 with
  | 0, _ => decide
  | 1, _ => decide
  | 2, _ => decide
  | 3, _ => decide
  | n + 4, h => omega
theorem otherB_size (kind : Int) (v e : ByteArray) (hv : v.size ≤ 1048576) (he : e.size ≤ 1048576) : (otherB kind v e).size ≤ 1048576 := by unfold otherB; split <;> assumption
theorem stext_ev (key : ByteArray) (seq kind : Int) (v e : ByteArray) (hk : key.size ≤ 1048576) (hv : v.size ≤ 1048576) (he : e.size ≤ 1048576) (s0 : 0 ≤ seq) (s1 : seq ≤ 1000000) (h0 : 0 ≤ kind) (h1 : kind < 4) :
    Ev (fun k => spec_l17Text.f k key seq kind v e) (textB key seq kind v e) := by
  have a1 := word_size kind h0 h1
  have a2 := decB_size seq s0 s1
  have a3 := hexB_size key
  have a4 := hexB_size (otherB kind v e)
  have a5 := otherB_size kind v e hv he
  obtain ⟨n, rfl⟩ := Int.eq_ofNat_of_zero_le s0
  have d1 := dec_ev n n (by omega) rfl
  have x1 := shex_ev key hk
  have x2 := shex_ev (otherB kind v e) a5
  have ed : spec_l17Data.f key (n : Int) kind v e = some (otherB kind v e) := by
    unfold spec_l17Data.f otherB
    split <;> rfl
  unfold spec_l17Text.f textB
  refine Ev.bind1 (a := wordsB) rfl (Ev.if_pos h0 (Ev.if_pos (by show kind < ((4 : Nat) : Int); omega) (Ev.if_pos (by omega) (Ev.bind d1 (Ev.if_pos (by omega) (Ev.if_pos (by omega) (Ev.bind x1 (Ev.if_pos (by omega) ?_))))))))
  by_cases c : kind = 2
  · rw [if_pos c]
    exact Ev.if_pos c (Ev.now _)
  · rw [if_neg c]
    refine Ev.if_neg c (Ev.bind1 ed (Ev.bind x2 (Ev.if_pos (by omega) (Ev.if_pos (by omega) ?_))))
    rw [ba_assoc (_ ++ _) spB]
    exact Ev.now _
theorem itext_ev (key : ByteArray) (seq kind : Int) (v e : ByteArray) (hk : key.size ≤ 1048576) (hv : v.size ≤ 1048576) (he : e.size ≤ 1048576) (s0 : 0 ≤ seq) (s1 : seq ≤ 1000000) (h0 : 0 ≤ kind) (h1 : kind < 4) :
    Ev (fun k => impl_Record_text.f k key seq kind v e) (textB key seq kind v e) := by
  have a1 := word_size kind h0 h1
  have a2 := decB_size seq s0 s1
  have a3 := hexB_size key
  have a4 := hexB_size (otherB kind v e)
  have a5 := otherB_size kind v e hv he
  have d1 : impl_decimal.f seq = some (decB seq) := by unfold impl_decimal.f; rw [if_pos ⟨by omega, by omega⟩]
  have x1 := ihex_ev key hk
  have x2 := ihex_ev (otherB kind v e) a5
  have ed : impl_Record_other.f key seq kind v e = some (otherB kind v e) := by
    unfold impl_Record_other.f otherB
    split <;> rfl
  unfold impl_Record_text.f textB
  refine Ev.bind1 (a := wordsB) rfl (Ev.if_pos h0 (Ev.if_pos (by show kind < ((4 : Nat) : Int); omega) (Ev.if_pos (by omega) (Ev.bind1 d1 (Ev.if_pos (by omega) (Ev.if_pos (by omega) (Ev.bind x1 (Ev.if_pos (by omega) ?_))))))))
  by_cases c : kind = 2
  · rw [if_pos c]
    exact Ev.if_pos c (Ev.now _)
  · rw [if_neg c]
    exact Ev.if_neg c (Ev.if_pos (by omega) (Ev.bind1 ed (Ev.bind x2 (Ev.if_pos (by omega) (Ev.now _)))))
theorem okRec_facts {key : ByteArray} {seq kind : Int} {v e : ByteArray} (h : okRec key seq kind v e = true) : key.size ≤ 8 ∧ 1 ≤ seq ∧ seq ≤ 1000000 ∧ 1 ≤ kind ∧ kind ≤ 3 ∧ v.size ≤ 16 ∧ e.size ≤ 8 := by
  have nil : ∀ s : ByteArray, (s.toList == ([] : List UInt8)) = true → s.size = 0 := fun s hs => by
    have : s.toList = [] := by simpa using hs
    rw [Lib.toList_data] at this
    have := congrArg List.length this
    simpa using this
  unfold okRec at h
  simp only [Bool.and_eq_true, decide_eq_true_eq] at h
  obtain ⟨h1, h2, h3⟩ := h
  have k1 : key.size ≤ 8 := by unfold okKey at h1; simp only [decide_eq_true_eq] at h1; omega
  by_cases c1 : kind = 1
  · rw [if_pos c1] at h3
    simp only [Bool.and_eq_true, decide_eq_true_eq] at h3
    have := nil _ h3.2
    exact ⟨k1, h2.1, h2.2, by omega, by omega, by omega, by omega⟩
  · rw [if_neg c1] at h3
    by_cases c2 : kind = 2
    · rw [if_pos c2] at h3
      simp only [Bool.and_eq_true] at h3
      have a := nil _ h3.1
      have b := nil _ h3.2
      exact ⟨k1, h2.1, h2.2, by omega, by omega, by omega, by omega⟩
    · rw [if_neg c2] at h3
      by_cases c3 : kind = 3
      · rw [if_pos c3] at h3
        simp only [Bool.and_eq_true] at h3
        have a := nil _ h3.1
        have b : e.size ≤ 8 := by have := h3.2.1; unfold okKey at this; simp only [decide_eq_true_eq] at this; omega
        exact ⟨k1, h2.1, h2.2, by omega, by omega, by omega, b⟩
      · rw [if_neg c3] at h3
        cases h3
end Go.Proofs.YtogndjjoeahccaaDoor.Q
