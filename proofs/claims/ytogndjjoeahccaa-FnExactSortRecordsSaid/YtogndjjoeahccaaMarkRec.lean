/- Marking and holding of lists of records. Conditions: those that stand before each theorem. -/
import Derived.Test.YtogndjjoeahccaaQ6
import Derived.Test.YtogndjjoeahccaaQ7
import Derived.Test.YtogndjjoeahccaaNum
namespace Go.Proofs.Ytogndjjoeahccaa.Q
open Go.RowKit Go.Proofs.YtogndjjoeahccaaW.PrintWords
set_option linter.unusedVariables false
def mtl : Nat → Int → ByteArray → ByteArray
  | 0, _, b => (⟨#[109]⟩ : ByteArray) ++ b
  | d + 1, n, b => if n > 0 then mtl d (n / 10) (strOfNums [(wrap64 (48 + (Int.tmod n 10))) % 256] ++ b) else (⟨#[109]⟩ : ByteArray) ++ b
def mt (n : Int) : ByteArray := if n ≤ 0 then (⟨#[109, 48]⟩ : ByteArray) else mtl 19 n (⟨#[]⟩ : ByteArray)
theorem mtl_ev : ∀ (d : Nat) (n : Int) (b : ByteArray), n ≤ 9223372036854775807 → n < 10 ^ d → b.size + d ≤ 1000 → Ev (fun k => laws_markText.l0 k n b) (mtl d n b)
  | 0, n, b, hm, hn, hb => by
    refine Ev.step (f := fun _ => some ((⟨#[109]⟩ : ByteArray) ++ b)) (fun k => ?_) (Ev.now _)
    rw [laws_markText.l0, if_neg (by simp at hn; omega), if_pos (by omega)]
  | d + 1, n, b, hm, hn, hb => by
    unfold mtl
    by_cases h : n > 0
    · rw [if_pos h]
      have hs : (strOfNums [(wrap64 (48 + (Int.tmod n 10))) % 256]).size = 1 := by simp [strOfNums, ByteArray.size]
      have hd : n / 10 < 10 ^ d := by
        apply Int.ediv_lt_of_lt_mul (by decide)
        rw [Int.pow_succ] at hn
        exact hn
      refine Ev.step (fun k => ?_) (mtl_ev d (n / 10) _ (by omega) hd (by rw [ByteArray.size_append, hs]; omega))
      rw [laws_markText.l0, if_pos h, Option.bind_some, hs, if_pos (by omega), Int.tdiv_eq_ediv_of_nonneg (by omega), wrap64_id (x := n / 10) (by omega) (by omega)]
    · rw [if_neg h]
      refine Ev.step (f := fun _ => some ((⟨#[109]⟩ : ByteArray) ++ b)) (fun k => ?_) (Ev.now _)
      rw [laws_markText.l0, if_neg h, if_pos (by omega)]
theorem mt_ev (n : Int) (hn : n ≤ 9223372036854775807) : Ev (fun k => laws_markText.f k n) (mt n) := by
  unfold laws_markText.f mt
  by_cases h : n ≤ 0
  · rw [if_pos h]
    exact Ev.if_pos h (Ev.now _)
  · rw [if_neg h]
    exact Ev.if_neg h (mtl_ev 19 n _ hn (by omega) (show 0 + 19 ≤ 1000 by decide))
def markR (m : Int → ByteArray) (c : Int) : S49 := ⟨m c, c + 1, c + 2, m (c + 3), m (c + 4)⟩
def markedG (m : Int → ByteArray) (c : Int) (n : Nat) : List S49 := (List.range n).map (fun i : Nat => markR m (c + 5 * (i : Int)))
theorem markedG_length (m : Int → ByteArray) (c : Int) (n : Nat) : (markedG m c n).length = n := by simp [markedG]
def markedR (c : Int) (n : Nat) : List S49 := markedG mt c n
theorem w_all (c : Int) (h0 : 0 ≤ c) (h1 : c ≤ 9223372036854775800) : wrap64 (c + 1) = c + 1 ∧ wrap64 (c + 1 + 1) = c + 2 ∧ wrap64 (c + 2 + 1) = c + 3 ∧ wrap64 (c + 3 + 1) = c + 4 ∧ wrap64 (c + 4 + 1) = c + 5 := by
  refine ⟨?_, ?_, ?_, ?_, ?_⟩ <;> (unfold wrap64; omega)
theorem rdR_set (l : List S49) (i : Nat) (a : S49) (h : i < l.length) : rd_T49 (l.set i a) (i : Int) = a := by simp [rd_T49, h]
set_option maxHeartbeats 400000 in
theorem markRecordS_loop (m : Int → ByteArray) (hm : ∀ n : Int, n ≤ 9223372036854775807 → Ev (fun k => laws_markText.f k n) (m n)) (l : List S49) (c0 : Int) (h0 : 0 ≤ c0) (hb : c0 + 5 * l.length ≤ 9223372036854775800) (d : Nat) : ∀ i : Nat, i ≤ l.length → l.length - i = d →
    Ev (fun k => laws_markRecordS.l0 k (markedG m c0 i ++ l.drop i) (c0 + 5 * i) i) (c0 + 5 * l.length, markedG m c0 l.length) := by
  induction d with
  | zero =>
    intro i h1 h2
    obtain rfl : i = l.length := by omega
    refine Ev.step (f := fun _ => some (c0 + 5 * (l.length : Int), markedG m c0 l.length)) (fun k => ?_) (Ev.now _)
    rw [laws_markRecordS.l0, if_neg (by simp [markedG_length])]
    simp
  | succ d ih =>
    intro i h1 h2
    have hl : (markedG m c0 i ++ l.drop i).length = l.length := by simp [markedG_length]; omega
    have e : (markedG m c0 i ++ l.drop i).set i (markR m (c0 + 5 * i)) = markedG m c0 (i + 1) ++ l.drop (i + 1) := by
      rw [List.set_append_right _ _ (by simp [markedG_length])]
      rw [List.drop_eq_getElem_cons (by omega), markedG_length, Nat.sub_self, List.set_cons_zero]
      simp [markedG, List.range_succ]
    have ihh := ih (i + 1) (by omega) (by omega)
    rw [← e] at ihh
    generalize hX : markedG m c0 i ++ l.drop i = X at hl ihh ⊢
    have wi : wrap64 ((i : Int) + 1) = ((i + 1 : Nat) : Int) := by rw [wrap64_id (by omega) (by omega)]; rfl
    have h5 : c0 + 5 * (i : Int) + 5 = c0 + 5 * ((i + 1 : Nat) : Int) := by omega
    have b1 : (0 : Int) ≤ (i : Int) := by omega
    have b2 : c0 + 5 * (i : Int) ≤ 9223372036854775807 := by omega
    have b3 : c0 + 5 * (i : Int) + 3 ≤ 9223372036854775807 := by omega
    have b4 : c0 + 5 * (i : Int) + 4 ≤ 9223372036854775807 := by omega
    have b5 : (i : Int) < (X.length : Int) := by omega
    have hi : i < X.length := by omega
    have hrd : ∀ a : S49, rd_T49 (X.set i a) (i : Int) = a := fun a => rdR_set _ _ _ hi
    have W := w_all (c0 + 5 * (i : Int)) (by omega) (by omega)
    rw [h5] at W
    obtain ⟨w1, w2, w3, w4, w5⟩ := W
    refine Ev.step (f := fun k => (laws_markText.f k (c0 + 5 * (i : Int))).bind fun t171 => (laws_markText.f k (c0 + 5 * (i : Int) + 3)).bind fun t175 => (laws_markText.f k (c0 + 5 * (i : Int) + 4)).bind fun t177 => laws_markRecordS.l0 k (X.set i ⟨t171, c0 + 5 * (i : Int) + 1, c0 + 5 * (i : Int) + 2, t175, t177⟩) (c0 + 5 * ((i + 1 : Nat) : Int)) ((i + 1 : Nat) : Int)) (fun k => ?_) (Ev.bind (hm _ b2) (Ev.bind (hm _ b3) (Ev.bind (hm _ b4) ihh)))
    rw [laws_markRecordS.l0, if_pos b5]
    simp only [if_pos b1, Option.bind_some, Int.toNat_natCast, w1, w2, w3, w4, w5, wi, hrd, List.set_set]
theorem markRecordS_ev (l : List S49) (c : Int) (h0 : 0 ≤ c) (hb : c + 5 * l.length ≤ 9223372036854775800) : Ev (fun k => laws_markRecordS.f k l c) (c + 5 * l.length, markedR c l.length) := by
  have h := markRecordS_loop mt mt_ev l c h0 hb l.length 0 (by omega) (by omega)
  have e : (markedG mt c 0 ++ l.drop 0) = l := by simp [markedG]
  rw [e, show c + 5 * ((0 : Nat) : Int) = c from by omega] at h
  exact h
theorem heldRecordS_loop (m : Int → ByteArray) (hm : ∀ n : Int, n ≤ 9223372036854775807 → Ev (fun k => laws_markText.f k n) (m n)) (n : Nat) (c0 : Int) (h0 : 0 ≤ c0) (hb : c0 + 5 * n ≤ 9223372036854775800) (d : Nat) : ∀ i : Nat, i ≤ n → n - i = d →
    Ev (fun k => laws_heldRecordS.l0 k (markedG m c0 n) (c0 + 5 * i) i) (c0 + 5 * n) := by
  induction d with
  | zero =>
    intro i h1 h2
    obtain rfl : i = n := by omega
    refine Ev.step (f := fun _ => some (c0 + 5 * (i : Int))) (fun k => ?_) (Ev.now _)
    rw [laws_heldRecordS.l0, if_neg (by simp [markedG_length])]
  | succ d ih =>
    intro i h1 h2
    have hr : rd_T49 (markedG m c0 n) (i : Int) = markR m (c0 + 5 * (i : Int)) := by
      have hi : i < (markedG m c0 n).length := by rw [markedG_length]; omega
      have e1 : rd_T49 (markedG m c0 n) (i : Int) = (markedG m c0 n)[i] := by simp [rd_T49, hi]
      rw [e1]
      simp [markedG]
    have wi : wrap64 ((i : Int) + 1) = ((i + 1 : Nat) : Int) := by rw [wrap64_id (by omega) (by omega)]; rfl
    have h5 : c0 + 5 * (i : Int) + 5 = c0 + 5 * ((i + 1 : Nat) : Int) := by omega
    have b1 : (0 : Int) ≤ (i : Int) := by omega
    have b2 : c0 + 5 * (i : Int) ≤ 9223372036854775807 := by omega
    have b3 : c0 + 5 * (i : Int) + 3 ≤ 9223372036854775807 := by omega
    have b4 : c0 + 5 * (i : Int) + 4 ≤ 9223372036854775807 := by omega
    have b5 : (i : Int) < (n : Int) := by omega
    have ihh := ih (i + 1) (by omega) (by omega)
    have W := w_all (c0 + 5 * (i : Int)) (by omega) (by omega)
    rw [h5] at W
    obtain ⟨w1, w2, w3, w4, w5⟩ := W
    refine Ev.step (f := fun k => (laws_markText.f k (c0 + 5 * (i : Int))).bind fun t180 => if (m (c0 + 5 * (i : Int))).toList = t180.toList then ((laws_markText.f k (c0 + 5 * (i : Int) + 3)).bind fun t184 => if (m (c0 + 5 * (i : Int) + 3)).toList = t184.toList then ((laws_markText.f k (c0 + 5 * (i : Int) + 4)).bind fun t186 => if (m (c0 + 5 * (i : Int) + 4)).toList = t186.toList then laws_heldRecordS.l0 k (markedG m c0 n) (c0 + 5 * ((i + 1 : Nat) : Int)) ((i + 1 : Nat) : Int) else some (-1)) else some (-1)) else some (-1)) (fun k => ?_) (Ev.bind (hm _ b2) (Ev.if_pos rfl (Ev.bind (hm _ b3) (Ev.if_pos rfl (Ev.bind (hm _ b4) (Ev.if_pos rfl ihh))))))
    rw [laws_heldRecordS.l0, markedG_length, if_pos b5, if_pos b1, hr]
    simp only [markR, w1, w2, w3, w4, w5, wi, if_true]
theorem heldRecordS_ev (n : Nat) (c : Int) (h0 : 0 ≤ c) (hb : c + 5 * n ≤ 9223372036854775800) : Ev (fun k => laws_heldRecordS.f k (markedR c n) c) (c + 5 * n) := by
  have h := heldRecordS_loop mt mt_ev n c h0 hb n 0 (by omega) (by omega)
  rw [show c + 5 * ((0 : Nat) : Int) = c from by omega] at h
  exact h
end Go.Proofs.Ytogndjjoeahccaa.Q
