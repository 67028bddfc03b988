/- Reading a record's text, on both sides: the words, the numbers, the bytes. Conditions: those before each theorem. -/
import Derived.Test.YtogndjjoeahccaaDoorQ1
import Derived.Test.YtogndjjoeahccaaDoorQ8
import Derived.Test.YtogndjjoeahccaaDoorTextOk
import Derived.Test.YtogndjjoeahccaaDoorXReadNum
import Derived.Test.YtogndjjoeahccaaDoorXSplit
import Derived.Test.YtogndjjoeahccaaDoorXIdxB
import Derived.Lib.SplitLaws
import Derived.Lib.IndexBytes
import Derived.Lib.AtoiAllCases
import Derived.Lib.ParseIntBTie
namespace Go.Proofs.YtogndjjoeahccaaDoor.Q
open Go.RowKit Go.Proofs.YtogndjjoeahccaaDoorW.PrintWords
set_option linter.unusedVariables false
theorem bt_at (s : ByteArray) (i : Nat) (c : UInt8) (h : s.data.toList[i]? = some c) : bt s (i : Int) = (c.toNat : Int) := by
  obtain ⟨hlt, e⟩ := List.getElem?_eq_some_iff.1 h
  have hi : i < s.size := by simpa using hlt
  rw [bt_get s i hi, ← e]
  simp [ByteArray.getElem_eq_getElem_data]
def valF (l : List UInt8) (acc : Nat) : Nat := l.foldl (fun a c => a * 10 + (c.toNat - 48)) acc
theorem valF_ge (l : List UInt8) : ∀ acc, acc ≤ valF l acc := by
  induction l with
  | nil => intro acc; exact Nat.le_refl _
  | cons c r ih => intro acc; exact Nat.le_trans (by omega) (ih (acc * 10 + (c.toNat - 48)))
theorem digits_are (n : Nat) : (∀ c ∈ Lib.decDigits n, 48 ≤ c.toNat ∧ c.toNat ≤ 57) ∧ valF (Lib.decDigits n) 0 = n ∧ Lib.decDigits n ≠ [] := by
  induction n using Nat.strongRecOn with
  | ind n ih =>
    have t : ∀ m, m < 10 → (UInt8.ofNat (48 + m)).toNat = 48 + m := fun m hm => by
      rw [UInt8.toNat_ofNat']; omega
    rw [Lib.decDigits]
    by_cases h : n < 10
    · rw [dif_pos h]
      refine ⟨fun c hc => ?_, ?_, by simp⟩
      · rw [List.mem_singleton] at hc; subst hc; rw [t n h]; omega
      · show 0 * 10 + ((UInt8.ofNat (48 + n)).toNat - 48) = n
        rw [t n h]; omega
    · obtain ⟨i1, i2, i3⟩ := ih (n / 10) (by omega)
      rw [dif_neg h]
      refine ⟨fun c hc => ?_, ?_, by simp⟩
      · rcases List.mem_append.1 hc with hc | hc
        · exact i1 c hc
        · rw [List.mem_singleton] at hc; subst hc; rw [t _ (by omega)]; omega
      · unfold valF at i2 ⊢
        rw [List.foldl_append, i2]
        show n / 10 * 10 + ((UInt8.ofNat (48 + n % 10)).toNat - 48) = n
        rw [t _ (by omega)]; omega
theorem digits_le (k : Nat) : ∀ n, n < 10 ^ (k + 1) → (Lib.decDigits n).length ≤ k + 1 := by
  induction k with
  | zero => intro n h; rw [Lib.decDigits, dif_pos (by simpa using h)]; simp
  | succ k ih =>
    intro n h
    rw [Lib.decDigits]
    by_cases c : n < 10
    · rw [dif_pos c]; simp
    · rw [dif_neg c, List.length_append]
      rw [Nat.pow_succ] at h
      have := ih (n / 10) (by generalize 10 ^ (k + 1) = p at h ⊢; omega)
      simp only [List.length_cons, List.length_nil]
      omega
theorem parse_digits : ∀ (l : List UInt8) (acc : Nat), (∀ c ∈ l, 48 ≤ c.toNat ∧ c.toNat ≤ 57) → valF l acc ≤ 1000000 → Lib.parseUint10 acc l = .ok (valF l acc)
  | [], acc, _, _ => rfl
  | c :: r, acc, hd, hv => by
    have h1 := valF_ge r (acc * 10 + (c.toNat - 48))
    have hv' : valF r (acc * 10 + (c.toNat - 48)) ≤ 1000000 := hv
    rw [Lib.parseUint10, if_pos (hd c (by simp)), if_neg (by omega), if_neg (by omega)]
    exact parse_digits r _ (fun x hx => hd x (by simp [hx])) hv'
theorem decB_data (n : Nat) : (decB (n : Int)).data.toList = Lib.decDigits n := by
  unfold decB Lib.itoa
  rw [if_neg (by omega), Int.toNat_natCast]
theorem rdN_dec (n : Nat) (h : n ≤ 1000000) : rdN (decB (n : Int)) = some (n : Int) := by
  obtain ⟨h1, h2, h3⟩ := digits_are n
  have e : Lib.parseIntB 64 (decB (n : Int)).data.toList = .ok (n : Int) := by
    rw [Lib.parseIntB_64, decB_data]
    cases hd : Lib.decDigits n with
    | nil => exact absurd hd h3
    | cons c r =>
      rw [hd] at h1 h2
      have hc := h1 c (by simp)
      rw [Lib.atoiAll_plain c r (by omega) (by omega), Lib.parseMag, if_neg (by simp), parse_digits _ _ h1 (by rw [h2]; exact h), h2]
      unfold Lib.signless
      simp only
      rw [if_neg (by omega)]
  unfold rdN
  rw [e]
  simp
theorem int_step (acc c : Nat) (h0 : 48 ≤ c) (h1 : c ≤ 57) (h : acc * 10 + (c - 48) ≤ 1000000) : wrap64 ((wrap64 ((acc : Int) * 10)) + ((((c : Nat) : Int) - 48) % 256)) = ((acc * 10 + (c - 48) : Nat) : Int) := by unfold wrap64; omega
theorem int_loop (w : ByteArray) : ∀ (r : List UInt8) (i acc : Nat), w.data.toList.drop i = r → i + r.length = w.size → w.size ≤ 1048576 → (∀ c ∈ r, 48 ≤ c.toNat ∧ c.toNat ≤ 57) → valF r acc ≤ 1000000 →
    Ev (fun k => spec_l17Int.l0 k w (acc : Int) (i : Int)) ((valF r acc : Nat) : Int)
  | [], i, acc, _, hi, _, _, _ => by
    refine Ev.step (f := fun _ => some (acc : Int)) (fun k => ?_) (Ev.now _)
    simp only [List.length_nil] at hi
    rw [spec_l17Int.l0, if_neg (by omega)]
  | c :: r, i, acc, hr, hi, hw, hd, hv => by
    simp only [List.length_cons] at hi
    have h1 := valF_ge r (acc * 10 + (c.toNat - 48))
    have hv' : valF r (acc * 10 + (c.toNat - 48)) ≤ 1000000 := hv
    have hc := hd c (by simp)
    have hb : bt w (i : Int) = (c.toNat : Int) := bt_at w i c (by have := congrArg List.head? hr; simpa [List.head?_drop] using this)
    have hr' : w.data.toList.drop (i + 1) = r := by rw [← List.drop_drop, hr]; rfl
    refine Ev.step (fun k => ?_) (int_loop w r (i + 1) (acc * 10 + (c.toNat - 48)) hr' (by omega) hw (fun x hx => hd x (by simp [hx])) hv')
    have hv2 : acc * 10 + (c.toNat - 48) ≤ 1000000 := Nat.le_trans h1 hv'
    have e1 := int_step acc c.toNat hc.1 hc.2 hv2
    clear hv hv' h1 hv2 hd hr hr'
    have e2 : wrap64 ((i : Int) + 1) = ((i + 1 : Nat) : Int) := by unfold wrap64; omega
    rw [spec_l17Int.l0, if_pos (by omega), if_pos (by omega), hb, if_neg (by omega), if_neg (by omega), e1, e2]
theorem int_tot (w : ByteArray) (hw : w.size ≤ 1048576) (d : Nat) : ∀ (i : Nat) (acc : Int), i ≤ w.size → w.size - i = d → ∃ v, Ev (fun k => spec_l17Int.l0 k w acc (i : Int)) v := by
  induction d with
  | zero =>
    intro i acc h1 h2
    refine ⟨acc, Ev.step (f := fun _ => some acc) (fun k => ?_) (Ev.now _)⟩
    rw [spec_l17Int.l0, if_neg (by omega)]
  | succ d ih =>
    intro i acc h1 h2
    have e2 : wrap64 ((i : Int) + 1) = ((i + 1 : Nat) : Int) := by unfold wrap64; omega
    by_cases c1 : bt w (i : Int) < 48
    · refine ⟨-1, Ev.step (f := fun _ => some (-1)) (fun k => ?_) (Ev.now _)⟩
      rw [spec_l17Int.l0, if_pos (by omega), if_pos (by omega), if_pos c1]
    · by_cases c2 : bt w (i : Int) > 57
      · refine ⟨-1, Ev.step (f := fun _ => some (-1)) (fun k => ?_) (Ev.now _)⟩
        rw [spec_l17Int.l0, if_pos (by omega), if_pos (by omega), if_neg c1, if_pos c2]
      · obtain ⟨v, hv⟩ := ih (i + 1) (wrap64 ((wrap64 (acc * 10)) + (((bt w (i : Int)) - 48) % 256))) (by omega) (by omega)
        refine ⟨v, Ev.step (fun k => ?_) hv⟩
        rw [spec_l17Int.l0, if_pos (by omega), if_pos (by omega), if_neg c1, if_neg c2, e2]
theorem sint_ev (w : ByteArray) (hw : w.size ≤ 1048576) : ∃ v, Ev (fun k => spec_l17Int.f k w) v ∧ ∀ n : Nat, n ≤ 1000000 → w = decB (n : Int) → v = (n : Int) := by
  by_cases hd : ∃ n : Nat, n ≤ 1000000 ∧ w = decB (n : Int)
  · obtain ⟨n, hn, rfl⟩ := hd
    obtain ⟨h1, h2, h3⟩ := digits_are n
    have hl := digits_le 6 n (by rw [show (10 : Nat) ^ (6 + 1) = 10000000 from by decide]; omega)
    have hs : (decB (n : Int)).size = (Lib.decDigits n).length := by rw [← decB_data]; simp
    have hp := List.length_pos_iff.2 h3
    have hev := int_loop (decB (n : Int)) (Lib.decDigits n) 0 0 (by rw [decB_data]; rfl) (by omega) hw h1 (by rw [h2]; exact hn)
    rw [h2] at hev
    refine ⟨n, ?_, fun m hm e => ?_⟩
    · unfold spec_l17Int.f
      refine Ev.if_neg (by omega) (Ev.step (fun k => ?_) hev)
      rw [spec_l17Int.j0, if_neg (by rw [decide_eq_true_eq]; omega)]
      rfl
    · have := congrArg rdN e
      rw [rdN_dec n hn, rdN_dec m hm] at this
      exact Option.some.inj this
  · obtain ⟨v, hv⟩ := int_tot w hw w.size 0 0 (by omega) (by omega)
    by_cases c1 : (w.size : Int) < 1
    · exact ⟨-1, Ev.if_pos c1 (Ev.step (f := fun _ => some (-1)) (fun k => by rw [spec_l17Int.j0, if_pos rfl]) (Ev.now _)), fun n hn e => absurd ⟨n, hn, e⟩ hd⟩
    · by_cases c2 : (w.size : Int) > 7
      · exact ⟨-1, Ev.if_neg c1 (Ev.step (f := fun _ => some (-1)) (fun k => by rw [spec_l17Int.j0, if_pos (decide_eq_true c2)]) (Ev.now _)), fun n hn e => absurd ⟨n, hn, e⟩ hd⟩
      · exact ⟨v, Ev.if_neg c1 (Ev.step (fun k => by rw [spec_l17Int.j0, if_neg (by rw [decide_eq_true_eq]; exact c2)]; rfl) hv), fun n hn e => absurd ⟨n, hn, e⟩ hd⟩
def bytC (vf : Int → Int → Int) (w : ByteArray) : Nat → Nat → List Int → List Int
  | 0, _, acc => acc
  | d + 1, i, acc => if i + 1 < w.size then bytC vf w d (i + 2) (acc ++ [vf (bt w (i : Int)) (bt w ((i + 1 : Nat) : Int))]) else acc
theorem bytC_len (vf : Int → Int → Int) (w : ByteArray) : ∀ (d i : Nat) (acc : List Int), (bytC vf w d i acc).length ≤ acc.length + d
  | 0, _, _ => Nat.le_refl _
  | d + 1, i, acc => by
    rw [bytC]
    split
    · have := bytC_len vf w d (i + 2) (acc ++ [vf (bt w (i : Int)) (bt w ((i + 1 : Nat) : Int))])
      rw [List.length_append] at this
      simp only [List.length_cons, List.length_nil] at this
      omega
    · omega
def hexV (vf : Int → Int → Int) (w : ByteArray) : ByteArray := if w.toList = ([45] : List UInt8) then ⟨#[]⟩ else strOfNums (bytC vf w w.size 0 [])
def dgS (c : Int) : Int := if 48 ≤ c ∧ c ≤ 57 then (c - 48) % 256 else if 97 ≤ c ∧ c ≤ 102 then (((c - 97) % 256) + 10) % 256 else 16
def vfS (a b : Int) : Int := Go.bits .or .u8 ((dgS a * 16) % 256) (Go.bits .and .u8 (dgS b) 15)
def vfI (a b : Int) : Int := (wrap64 ((wrap64 (16 * idxB digB a)) + idxB digB b)) % 256
theorem vfS_ok : ∀ x : Fin 256, vfS (bt digB ((x.val : Int) / 16)) (bt digB ((x.val : Int) % 16)) = (x.val : Int) := by decide +kernel
theorem vfI_ok : ∀ x : Fin 256, vfI (bt digB ((x.val : Int) / 16)) (bt digB ((x.val : Int) % 16)) = (x.val : Int) := by decide +kernel
theorem dgS_ev (c : Int) : Ev (fun k => spec_l17Digit.f k c) (dgS c) := by
  unfold spec_l17Digit.f dgS
  by_cases h1 : c ≥ 48
  · refine Ev.if_pos h1 ?_
    by_cases h2 : c ≤ 57
    · rw [if_pos ⟨h1, h2⟩]
      exact Ev.step (f := fun _ => some ((c - 48) % 256)) (fun k => by rw [spec_l17Digit.j0, if_pos (decide_eq_true h2)]) (Ev.now _)
    · rw [if_neg (by omega)]
      refine Ev.step (f := fun _ => some (if 97 ≤ c ∧ c ≤ 102 then (((c - 97) % 256) + 10) % 256 else 16)) (fun k => ?_) (Ev.now _)
      rw [spec_l17Digit.j0, if_neg (by rw [decide_eq_true_eq]; exact h2)]
      by_cases h3 : c ≥ 97
      · by_cases h4 : c ≤ 102
        · rw [if_pos h3, if_pos h4, if_pos (⟨h3, h4⟩ : 97 ≤ c ∧ c ≤ 102)]
        · rw [if_pos h3, if_neg h4, if_neg (fun h : 97 ≤ c ∧ c ≤ 102 => h4 h.2)]
      · rw [if_neg h3, if_neg (fun h : 97 ≤ c ∧ c ≤ 102 => h3 h.1)]
  · rw [if_neg (by omega), if_neg (by omega)]
    refine Ev.if_neg h1 (Ev.step (f := fun _ => some 16) (fun k => ?_) (Ev.now _))
    rw [spec_l17Digit.j0, if_neg (by decide), if_neg (by omega)]
theorem sbytes_loop (w : ByteArray) (hw : w.size ≤ 1048576) (d : Nat) : ∀ (i : Nat) (acc : List Int), i ≤ w.size + 1 → w.size - i ≤ d → acc.length ≤ i → Ev (fun k => spec_l17Bytes.l0 k w acc (i : Int)) (strOfNums (bytC vfS w d i acc)) := by
  induction d with
  | zero =>
    intro i acc h1 h2 h3
    have e1 : wrap64 ((i : Int) + 1) = ((i + 1 : Nat) : Int) := by unfold wrap64; omega
    refine Ev.step (f := fun _ => some (strOfNums acc)) (fun k => ?_) (Ev.now _)
    rw [spec_l17Bytes.l0, e1, if_neg (by omega)]
  | succ d ih =>
    intro i acc h1 h2 h3
    have e1 : wrap64 ((i : Int) + 1) = ((i + 1 : Nat) : Int) := by unfold wrap64; omega
    have e2 : wrap64 ((i : Int) + 2) = ((i + 2 : Nat) : Int) := by unfold wrap64; omega
    rw [bytC]
    by_cases c : i + 1 < w.size
    · rw [if_pos c]
      have hi := ih (i + 2) (acc ++ [vfS (bt w (i : Int)) (bt w ((i + 1 : Nat) : Int))]) (by omega) (by omega) (by rw [List.length_append]; simp only [List.length_cons, List.length_nil]; omega)
      refine Ev.step (f := fun k => (spec_l17Digit.f k (bt w (i : Int))).bind fun t113 => (spec_l17Digit.f k (bt w ((i + 1 : Nat) : Int))).bind fun t114 => spec_l17Bytes.l0 k w (acc ++ [Go.bits .or .u8 ((t113 * 16) % 256) (Go.bits .and .u8 t114 15)]) ((i + 2 : Nat) : Int)) (fun k => ?_) (Ev.bind (dgS_ev _) (Ev.bind (dgS_ev _) hi))
      rw [spec_l17Bytes.l0, e1, e2, if_pos (by omega), if_pos (by omega), if_pos (by omega)]
      simp only [if_pos (show (0 : Int) ≤ ((i + 1 : Nat) : Int) by omega), if_pos (show acc.length < 140737488355328 by omega)]
    · rw [if_neg c]
      refine Ev.step (f := fun _ => some (strOfNums acc)) (fun k => ?_) (Ev.now _)
      rw [spec_l17Bytes.l0, e1, if_neg (by omega)]
theorem sbytes_ev (w : ByteArray) (hw : w.size ≤ 1048576) : Ev (fun k => spec_l17Bytes.f k w) (hexV vfS w) := by
  unfold spec_l17Bytes.f hexV
  by_cases h : w.toList = ([45] : List UInt8)
  · rw [if_pos h]; exact Ev.if_pos h (Ev.now _)
  · rw [if_neg h]; exact Ev.if_neg h (sbytes_loop w hw _ 0 [] (by omega) (by omega) (by simp))
theorem ihx_loop (w : ByteArray) (hw : w.size ≤ 1048576) (d : Nat) : ∀ (i : Nat) (acc : List Int), i ≤ w.size + 1 → w.size - i ≤ d → acc.length ≤ i → (bytC vfI w d i acc).length ≤ 1048576 →
    Ev (fun k => impl_readHex.l0 k w acc (i : Int)) (strOfNums (bytC vfI w d i acc), (hexB (strOfNums (bytC vfI w d i acc))).toList == w.toList) := by
  induction d with
  | zero =>
    intro i acc h1 h2 h3 h4
    have e1 : wrap64 ((i : Int) + 1) = ((i + 1 : Nat) : Int) := by unfold wrap64; omega
    refine Ev.step (f := fun k => (impl_hexText.f k (strOfNums acc)).bind fun t229 => (some (strOfNums acc, (t229.toList == w.toList)))) (fun k => ?_) (Ev.bind (ihex_ev _ (by rw [strOfNums_size]; exact h4)) (Ev.now _))
    rw [impl_readHex.l0, e1, if_neg (by omega)]
  | succ d ih =>
    intro i acc h1 h2 h3 h4
    have e1 : wrap64 ((i : Int) + 1) = ((i + 1 : Nat) : Int) := by unfold wrap64; omega
    have e2 : wrap64 ((i : Int) + 2) = ((i + 2 : Nat) : Int) := by unfold wrap64; omega
    rw [bytC] at h4 ⊢
    by_cases c : i + 1 < w.size
    · rw [if_pos c] at h4 ⊢
      have hi := ih (i + 2) (acc ++ [vfI (bt w (i : Int)) (bt w ((i + 1 : Nat) : Int))]) (by omega) (by omega) (by rw [List.length_append]; simp only [List.length_cons, List.length_nil]; omega) h4
      refine Ev.step (fun k => ?_) hi
      rw [impl_readHex.l0, e1, e2, if_pos (by omega), if_pos (by omega), if_pos (by omega)]
      simp only [if_pos (show (0 : Int) ≤ ((i + 1 : Nat) : Int) by omega), if_pos (show acc.length < 140737488355328 by omega), strings_IndexByte.f, Option.bind_some]
      rfl
    · rw [if_neg c] at h4 ⊢
      refine Ev.step (f := fun k => (impl_hexText.f k (strOfNums acc)).bind fun t229 => (some (strOfNums acc, (t229.toList == w.toList)))) (fun k => ?_) (Ev.bind (ihex_ev _ (by rw [strOfNums_size]; exact h4)) (Ev.now _))
      rw [impl_readHex.l0, e1, if_neg (by omega)]
def hexOk (w : ByteArray) : Bool := if w.toList = ([45] : List UInt8) then true else (hexB (hexV vfI w)).toList == w.toList
theorem ihx_ev (w : ByteArray) (hw : w.size ≤ 1048576) : Ev (fun k => impl_readHex.f k w) (hexV vfI w, hexOk w) := by
  unfold impl_readHex.f hexOk hexV
  by_cases h : w.toList = ([45] : List UInt8)
  · rw [if_pos h, if_pos h]; exact Ev.if_pos h (Ev.now _)
  · rw [if_neg h, if_neg h]
    have := bytC_len vfI w w.size 0 []
    simp only [List.length_nil] at this
    exact Ev.if_neg h (ihx_loop w hw _ 0 [] (by omega) (by omega) (by simp) (by omega))
def HexAt (x : ByteArray) (L : List Int) (j : Nat) : Prop := L[2 * j]? = some (bt digB (bt x (j : Int) / 16)) ∧ L[2 * j + 1]? = some (bt digB (bt x (j : Int) % 16))
theorem hexL_at (x : ByteArray) (d : Nat) : ∀ (i : Nat) (acc : List Int), acc.length = 2 * i → (∀ j, j < i → HexAt x acc j) → ∀ j, j < i + d → HexAt x (hexL x d i acc) j := by
  induction d with
  | zero => intro i acc _ h j hj; exact h j (by omega)
  | succ d ih =>
    intro i acc hl h j hj
    rw [hexL]
    refine ih (i + 1) _ (by rw [List.length_append]; simp only [List.length_cons, List.length_nil]; omega) (fun m hm => ?_) j (by omega)
    by_cases e : m = i
    · subst e
      constructor
      · rw [List.getElem?_append_right (by omega), show 2 * m - acc.length = 0 by omega]; rfl
      · rw [List.getElem?_append_right (by omega), show 2 * m + 1 - acc.length = 1 by omega]; rfl
    · have hm' := h m (by omega)
      exact ⟨by rw [List.getElem?_append_left (by omega)]; exact hm'.1, by rw [List.getElem?_append_left (by omega)]; exact hm'.2⟩
theorem bt_nums (L : List Int) (i : Nat) (x : Int) (h : L[i]? = some x) (h0 : 0 ≤ x) (h1 : x < 256) : bt (strOfNums L) (i : Int) = x := by
  rw [bt_at (strOfNums L) i (UInt8.ofNat x.toNat) (by rw [strOfNums_data, List.getElem?_map, h]; rfl), UInt8.toNat_ofNat']
  omega
theorem strOfNums_own (t : ByteArray) : strOfNums (t.data.toList.map fun x => (x.toNat : Int)) = t := by
  refine (ba_mk t _ ?_).symm
  rw [List.map_map]
  have : ((fun n : Int => UInt8.ofNat n.toNat) ∘ fun x : UInt8 => (x.toNat : Int)) = id := by funext x; simp
  rw [this, List.map_id]
theorem bytC_hex (vf : Int → Int → Int) (hvf : ∀ x : Fin 256, vf (bt digB ((x.val : Int) / 16)) (bt digB ((x.val : Int) % 16)) = (x.val : Int)) (x : ByteArray) (hx : ¬ x.toList = []) (d : Nat) :
    ∀ (j : Nat), j ≤ x.size → x.size - j ≤ d → bytC vf (hexB x) d (2 * j) ((x.data.toList.take j).map fun c => (c.toNat : Int)) = x.data.toList.map fun c => (c.toNat : Int) := by
  have e : hexB x = strOfNums (hexL x x.size 0 []) := by unfold hexB; rw [if_neg hx]
  have hs : (hexB x).size = 2 * x.size := by rw [e, strOfNums_size, hexL_len]; simp
  have hat := hexL_at x x.size 0 [] rfl (fun j hj => absurd hj (Nat.not_lt_zero _))
  have hsz : x.data.toList.length = x.size := by simp
  induction d with
  | zero =>
    intro j h1 h2
    rw [bytC, List.take_of_length_le (by omega)]
  | succ d ih =>
    intro j h1 h2
    rw [bytC, hs]
    by_cases c : j < x.size
    · rw [if_pos (by omega)]
      obtain ⟨r0, r1⟩ := bt_range x (j : Int)
      obtain ⟨a1, a2⟩ := hat j (by omega)
      have hv := hvf ⟨(bt x (j : Int)).toNat, by omega⟩
      simp only at hv
      rw [show (((bt x (j : Int)).toNat : Nat) : Int) = bt x (j : Int) from by omega] at hv
      have b1 := bt_range digB (bt x (j : Int) / 16)
      have b2 := bt_range digB (bt x (j : Int) % 16)
      have n1 := bt_nums _ _ _ a1 b1.1 (by omega)
      have n2 := bt_nums _ _ _ a2 b2.1 (by omega)
      rw [← e] at n1 n2
      rw [n1, n2, hv]
      have hg : x.data.toList[j]? = some (x.data.toList[j]'(by omega)) := List.getElem?_eq_getElem (by omega)
      have hb := bt_at x j _ hg
      have := ih (j + 1) (by omega) (by omega)
      rw [List.take_succ_eq_append_getElem (by omega : j < x.data.toList.length), List.map_append] at this
      rw [hb]
      exact this
    · rw [if_neg (by omega), List.take_of_length_le (by omega)]
theorem hexV_hex (vf : Int → Int → Int) (hvf : ∀ x : Fin 256, vf (bt digB ((x.val : Int) / 16)) (bt digB ((x.val : Int) % 16)) = (x.val : Int)) (x : ByteArray) : hexV vf (hexB x) = x := by
  by_cases hx : x.toList = ([] : List UInt8)
  · have e : hexB x = ⟨#[45]⟩ := by unfold hexB; rw [if_pos hx]
    rw [e]
    unfold hexV
    rw [if_pos (by rw [Lib.toList_data])]
    rw [Lib.toList_data] at hx
    exact (ba_mk x [] hx).symm
  · have e : hexB x = strOfNums (hexL x x.size 0 []) := by unfold hexB; rw [if_neg hx]
    have hs : (hexB x).size = 2 * x.size := by rw [e, strOfNums_size, hexL_len]; simp
    unfold hexV
    rw [if_neg (fun h => by rw [Lib.toList_data] at h; have := congrArg List.length h; simp at this; omega)]
    have := bytC_hex vf hvf x hx (hexB x).size 0 (by omega) (by omega)
    rw [List.take_zero] at this
    rw [show (0 : Nat) = 2 * 0 from rfl, show ([] : List Int) = List.map (fun c : UInt8 => (c.toNat : Int)) [] from rfl, this]
    exact strOfNums_own x
theorem hexOk_hex (x : ByteArray) : hexOk (hexB x) = true := by
  unfold hexOk
  split
  · rfl
  · rw [hexV_hex vfI vfI_ok]; simp
end Go.Proofs.YtogndjjoeahccaaDoor.Q
