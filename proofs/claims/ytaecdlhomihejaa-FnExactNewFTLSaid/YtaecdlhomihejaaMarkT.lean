/- Marking and holding of lists of strings. Conditions: those that stand before each theorem. -/
import Derived.Test.YtaecdlhomihejaaQ3
import Derived.Test.YtaecdlhomihejaaQ7
import Derived.Test.YtaecdlhomihejaaNum
namespace Go.Proofs.Ytaecdlhomihejaa.Q
open Go.RowKit Go.Proofs.YtaecdlhomihejaaW.PrintWords
set_option linter.unusedVariables false
def mxl : Nat → Int → ByteArray → ByteArray
  | 0, _, b => (⟨#[109]⟩ : ByteArray) ++ b
  | d + 1, n, b => if n > 0 then mxl d (n / 10) (strOfNums [(wrap64 (48 + (Int.tmod n 10))) % 256] ++ b) else (⟨#[109]⟩ : ByteArray) ++ b
def mtx (n : Int) : ByteArray := if n ≤ 0 then (⟨#[109, 48]⟩ : ByteArray) else mxl 19 n (⟨#[]⟩ : ByteArray)
theorem mxl_ev : ∀ (d : Nat) (n : Int) (b : ByteArray), n ≤ 9223372036854775807 → n < 10 ^ d → b.size + d ≤ 1000 → Ev (fun k => laws_markText.l0 k n b) (mxl d n b)
  | 0, n, b, hm, hn, hb => by
    refine Ev.step (f := fun _ => some ((⟨#[109]⟩ : ByteArray) ++ b)) (fun k => ?_) (Ev.now _)
    rw [laws_markText.l0, if_neg (by simp at hn; omega), if_pos (by omega)]
  | d + 1, n, b, hm, hn, hb => by
    unfold mxl
    by_cases h : n > 0
    · rw [if_pos h]
      have hs : (strOfNums [(wrap64 (48 + (Int.tmod n 10))) % 256]).size = 1 := by simp [strOfNums, ByteArray.size]
      have hd : n / 10 < 10 ^ d := by
        apply Int.ediv_lt_of_lt_mul (by decide)
        rw [Int.pow_succ] at hn
        exact hn
      refine Ev.step (fun k => ?_) (mxl_ev d (n / 10) _ (by omega) hd (by rw [ByteArray.size_append, hs]; omega))
      rw [laws_markText.l0, if_pos h, Option.bind_some, hs, if_pos (by omega), Int.tdiv_eq_ediv_of_nonneg (by omega), wrap64_id (x := n / 10) (by omega) (by omega)]
    · rw [if_neg h]
      refine Ev.step (f := fun _ => some ((⟨#[109]⟩ : ByteArray) ++ b)) (fun k => ?_) (Ev.now _)
      rw [laws_markText.l0, if_neg h, if_pos (by omega)]
theorem mtx_ev (n : Int) (hn : n ≤ 9223372036854775807) : Ev (fun k => laws_markText.f k n) (mtx n) := by
  unfold laws_markText.f mtx
  by_cases h : n ≤ 0
  · rw [if_pos h]
    exact Ev.if_pos h (Ev.now _)
  · rw [if_neg h]
    exact Ev.if_neg h (mxl_ev 19 n _ hn (by omega) (show 0 + 19 ≤ 1000 by decide))
def markedT (m : Int → ByteArray) (c : Int) (n : Nat) : List ByteArray := (List.range n).map (fun i : Nat => m (c + (i : Int)))
theorem markedT_length (m : Int → ByteArray) (c : Int) (n : Nat) : (markedT m c n).length = n := by simp [markedT]
theorem markStringS_loop (m : Int → ByteArray) (hm : ∀ n : Int, n ≤ 9223372036854775807 → Ev (fun k => laws_markText.f k n) (m n)) (l : List ByteArray) (c0 : Int) (h0 : 0 ≤ c0) (hb : c0 + l.length ≤ 9223372036854775806) (d : Nat) : ∀ i : Nat, i ≤ l.length → l.length - i = d →
    Ev (fun k => laws_markStringS.l0 k (markedT m c0 i ++ l.drop i) (c0 + i) i) (c0 + l.length, markedT m c0 l.length) := by
  induction d with
  | zero =>
    intro i h1 h2
    obtain rfl : i = l.length := by omega
    refine Ev.step (f := fun _ => some (c0 + (l.length : Int), markedT m c0 l.length)) (fun k => ?_) (Ev.now _)
    rw [laws_markStringS.l0, if_neg (by simp [markedT_length])]
    simp
  | succ d ih =>
    intro i h1 h2
    have hl : (markedT m c0 i ++ l.drop i).length = l.length := by simp [markedT_length]; omega
    have e : (markedT m c0 i ++ l.drop i).set i (m (c0 + i)) = markedT m c0 (i + 1) ++ l.drop (i + 1) := by
      rw [List.set_append_right _ _ (by simp [markedT_length])]
      rw [List.drop_eq_getElem_cons (by omega), markedT_length, Nat.sub_self, List.set_cons_zero]
      simp [markedT, List.range_succ]
    have p := ih (i + 1) (by omega) (by omega)
    rw [← e] at p
    have e2 : c0 + (i : Int) + 1 = c0 + ((i + 1 : Nat) : Int) := by omega
    refine Ev.step (f := fun k => (laws_markText.f k (c0 + (i : Int))).bind fun t => laws_markStringS.l0 k ((markedT m c0 i ++ l.drop i).set i t) (c0 + ((i + 1 : Nat) : Int)) ((i + 1 : Nat) : Int)) (fun k => ?_) (Ev.bind (hm _ (by omega)) p)
    rw [laws_markStringS.l0, hl, if_pos (by omega), wrap64_id (by omega) (by omega), wrap64_id (by omega) (by omega), e2]
    congr 1
    all_goals (try (funext t))
    all_goals (try (rw [if_pos (by omega), Int.toNat_natCast]))
    all_goals (try rfl)
theorem markStringS_ev (l : List ByteArray) (c : Int) (h0 : 0 ≤ c) (hb : c + l.length ≤ 9223372036854775806) : Ev (fun k => laws_markStringS.f k l c) (c + l.length, markedT mtx c l.length) := by
  have h := markStringS_loop mtx mtx_ev l c h0 hb l.length 0 (by omega) (by omega)
  have e : (markedT mtx c 0 ++ l.drop 0) = l := by simp [markedT]
  rw [e, show c + ((0 : Nat) : Int) = c from by omega] at h
  exact h
theorem heldStringS_loop (m : Int → ByteArray) (hm : ∀ n : Int, n ≤ 9223372036854775807 → Ev (fun k => laws_markText.f k n) (m n)) (n : Nat) (c0 : Int) (h0 : 0 ≤ c0) (hb : c0 + n ≤ 9223372036854775806) (d : Nat) : ∀ i : Nat, i ≤ n → n - i = d →
    Ev (fun k => laws_heldStringS.l0 k (markedT m c0 n) (c0 + i) i) (c0 + n) := by
  induction d with
  | zero =>
    intro i h1 h2
    obtain rfl : i = n := by omega
    refine Ev.step (f := fun _ => some (c0 + (i : Int))) (fun k => ?_) (Ev.now _)
    rw [laws_heldStringS.l0, if_neg (by simp [markedT_length])]
  | succ d ih =>
    intro i h1 h2
    have p := ih (i + 1) (by omega) (by omega)
    have e2 : c0 + (i : Int) + 1 = c0 + ((i + 1 : Nat) : Int) := by omega
    refine Ev.step (f := fun k => (laws_markText.f k (c0 + (i : Int))).bind fun t => if (m (c0 + (i : Int))).toList = t.toList then laws_heldStringS.l0 k (markedT m c0 n) (c0 + ((i + 1 : Nat) : Int)) ((i + 1 : Nat) : Int) else some (-1)) (fun k => ?_) (Ev.bind (hm _ (by omega)) (Ev.if_pos rfl p))
    rw [laws_heldStringS.l0, markedT_length, if_pos (by omega), if_pos (by omega), rdOf_get _ _ _ (by rw [markedT_length]; omega), wrap64_id (by omega) (by omega), wrap64_id (by omega) (by omega), e2]
    simp [markedT]
theorem heldStringS_ev (n : Nat) (c : Int) (h0 : 0 ≤ c) (hb : c + n ≤ 9223372036854775806) : Ev (fun k => laws_heldStringS.f k (markedT mtx c n) c) (c + n) := by
  have h := heldStringS_loop mtx mtx_ev n c h0 hb n 0 (by omega) (by omega)
  simpa [laws_heldStringS.f] using h
end Go.Proofs.Ytaecdlhomihejaa.Q
