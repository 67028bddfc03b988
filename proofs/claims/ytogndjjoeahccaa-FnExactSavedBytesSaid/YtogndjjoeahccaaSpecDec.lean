/- The specification's reading of a block. Conditions: those before each theorem. -/
import Derived.Test.YtogndjjoeahccaaSpecNext
import Derived.Test.YtogndjjoeahccaaQ6
namespace Go.Proofs.Ytogndjjoeahccaa.Q
open Go.RowKit Go.Proofs.YtogndjjoeahccaaW.PrintWords
set_option linter.unusedVariables false
theorem nxKey_size (s bf : ByteArray) (p : Nat) : (nxKey s bf p).size ≤ 1048576 := by
  unfold nxKey
  have h1 := btN_lt s p
  have h2 := btN_lt s (p + 1)
  rw [ByteArray.size_append, ByteArray.size_extract, ByteArray.size_extract]
  omega
theorem nx_key (s bf : ByteArray) (p : Nat) : (nxRec s bf p).f0 = nxKey s bf p := by unfold nxRec; split <;> rfl
theorem nx_one (s bf : ByteArray) (p : Nat) : (nxT s bf p).1.size ≤ 1048576 := by
  unfold nxT
  split
  · exact Nat.zero_le _
  · split
    · exact Nat.zero_le _
    · show (nxRec s bf p).f0.size ≤ _
      rw [nx_key]
      exact nxKey_size s bf p
theorem nx_end (s bf : ByteArray) (p : Nat) : (nxT s bf p).2.2.2.2.2 = 0 ∨ ∃ e : Nat, (nxT s bf p).2.2.2.2.2 = (e : Int) ∧ e ≤ s.size := by
  unfold nxT
  split
  · exact Or.inl rfl
  · split
    · exact Or.inl rfl
    · rename_i c
      exact Or.inr ⟨_, rfl, by omega⟩
def asR (t : ByteArray × Int × Int × ByteArray × ByteArray × Int) : S49 := ⟨t.1, t.2.1, t.2.2.1, t.2.2.2.1, t.2.2.2.2.1⟩
def sDec (s : ByteArray) (E : Int) : Nat → List S49 → Nat → ByteArray → List S49
  | 0, acc, _, _ => acc
  | d + 1, acc, p, bf => if (p : Int) < E ∧ acc.length < 16 then (if (nxT s (if acc.length % 4 = 0 then ⟨#[]⟩ else bf) p).2.2.2.2.2 = 0 then acc else sDec s E d (acc ++ [asR (nxT s (if acc.length % 4 = 0 then ⟨#[]⟩ else bf) p)]) (nxT s (if acc.length % 4 = 0 then ⟨#[]⟩ else bf) p).2.2.2.2.2.toNat (nxT s (if acc.length % 4 = 0 then ⟨#[]⟩ else bf) p).1) else acc
theorem sDec_ev (s : ByteArray) (hs : s.size ≤ 1048576) (E : Int) : ∀ (d : Nat) (acc : List S49) (p : Nat) (bf : ByteArray), acc.length ≤ 16 → 17 ≤ acc.length + d → p ≤ s.size → bf.size ≤ 1048576 → Ev (fun k => spec_l20Decode.l0 k s acc E (p : Int) bf) (sDec s E d acc p bf)
  | 0, acc, p, bf, h1, h2, h3, h4 => absurd h2 (by omega)
  | d + 1, acc, p, bf, h1, h2, h3, h4 => by
    unfold sDec
    by_cases c : (p : Int) < E ∧ acc.length < 16
    · rw [if_pos c]
      have hone : ∀ b : ByteArray, b.size ≤ 1048576 → Ev (fun k => (spec_l20Next.f k s (p : Int) b).bind fun t => (if t.2.2.2.2.2 = 0 then (some acc) else (if acc.length < 2199023255552 then (spec_l20Decode.l0 k s (acc ++ [(⟨t.1, t.2.1, t.2.2.1, t.2.2.2.1, t.2.2.2.2.1⟩ : S49)]) E t.2.2.2.2.2 t.1) else none)))
          (if (nxT s b p).2.2.2.2.2 = 0 then acc else sDec s E d (acc ++ [asR (nxT s b p)]) (nxT s b p).2.2.2.2.2.toNat (nxT s b p).1) := by
        intro b hb
        refine Ev.bind (next_ev s b p hs hb h3) ?_
        have hk := nx_one s b p
        rcases nx_end s b p with h0 | ⟨e, he, hes⟩
        · rw [if_pos h0]
          exact Ev.if_pos h0 (Ev.now _)
        · by_cases h0 : (nxT s b p).2.2.2.2.2 = 0
          · rw [if_pos h0]
            exact Ev.if_pos h0 (Ev.now _)
          · rw [if_neg h0]
            refine Ev.if_neg h0 (Ev.if_pos (by omega) ?_)
            have ih := sDec_ev s hs E d (acc ++ [asR (nxT s b p)]) e (nxT s b p).1 (by rw [List.length_append]; simp only [List.length_cons, List.length_nil]; omega) (by rw [List.length_append]; simp only [List.length_cons, List.length_nil]; omega) hes hk
            rw [he, Int.toNat_natCast]
            exact ih
      refine Ev.step (fun k => by rw [spec_l20Decode.l0, if_pos c.1, decide_eq_true (show ((acc.length : Int) < 16) from by omega)]) (Ev.step (f := fun k => if (acc.length : Int) % 4 = 0 then _ else _) (fun k => by rw [spec_l20Decode.j1, if_pos rfl]) ?_)
      by_cases c4 : acc.length % 4 = 0
      · rw [if_pos c4]
        exact Ev.if_pos (by omega) (hone ⟨#[]⟩ (Nat.zero_le _))
      · rw [if_neg c4]
        exact Ev.if_neg (by omega) (hone bf h4)
    · rw [if_neg c]
      refine Ev.step (f := fun k => spec_l20Decode.j1 k s acc E (p : Int) bf false) (fun k => ?_) (Ev.step (f := fun _ => some acc) (fun k => ?_) (Ev.now _))
      · rw [spec_l20Decode.l0]
        by_cases c1 : (p : Int) < E
        · rw [if_pos c1, decide_eq_false (show ¬ ((acc.length : Int) < 16) from by omega)]
        · rw [if_neg c1]
      · rw [spec_l20Decode.j1, if_neg (by decide)]
theorem sDec_len (s : ByteArray) (E : Int) : ∀ (d : Nat) (acc : List S49) (p : Nat) (bf : ByteArray), acc.length ≤ 16 → (sDec s E d acc p bf).length ≤ 16
  | 0, acc, p, bf, h => h
  | d + 1, acc, p, bf, h => by
    unfold sDec
    by_cases c : (p : Int) < E ∧ acc.length < 16
    · rw [if_pos c]
      generalize (if acc.length % 4 = 0 then (⟨#[]⟩ : ByteArray) else bf) = b
      by_cases h0 : (nxT s b p).2.2.2.2.2 = 0
      · rw [if_pos h0]
        exact h
      · rw [if_neg h0]
        exact sDec_len s E d _ _ _ (by rw [List.length_append]; simp only [List.length_cons, List.length_nil]; omega)
    · rw [if_neg c]
      exact h
def dS (s : ByteArray) : List S49 := if s.size = 0 then [] else sDec s (((s.size - 1 : Nat) : Int) - 2 * ((btN s (s.size - 1) : Nat) : Int)) 17 [] 0 ⟨#[]⟩
theorem dS_len (s : ByteArray) : (dS s).length ≤ 16 := by
  unfold dS
  split
  · exact Nat.zero_le _
  · exact sDec_len s _ 17 [] 0 _ (Nat.zero_le _)
theorem dS_ev (s : ByteArray) (hs : s.size ≤ 1048576) : Ev (fun k => spec_l20Decode.f k s) (dS s) := by
  unfold dS
  by_cases h0 : s.size = 0
  · rw [if_pos h0]
    refine Ev.congr (f := fun _ => some []) (fun k => ?_) (Ev.now _)
    rw [spec_l20Decode.f, Option.bind_some, if_pos (by omega)]
  · rw [if_neg h0]
    have hn2 := btN_lt s (s.size - 1)
    have h := sDec_ev s hs (((s.size - 1 : Nat) : Int) - 2 * ((btN s (s.size - 1) : Nat) : Int)) 17 [] 0 ⟨#[]⟩ (Nat.zero_le _) (Nat.le_refl _) (Nat.zero_le _) (Nat.zero_le _)
    have e0 := Aside0.mk (show wrap64 ((s.size : Int) - 1) = ((s.size - 1 : Nat) : Int) from by rw [wrap64_id (by omega) (by omega)]; omega)
    have e1 := Aside0.mk (wbt s (s.size - 1) _ rfl)
    have e2 := Aside0.mk (show wrap64 (2 * ((btN s (s.size - 1) : Nat) : Int)) = 2 * ((btN s (s.size - 1) : Nat) : Int) from wrap64_id (by omega) (by omega))
    have e3 := Aside0.mk (show wrap64 (((s.size - 1 : Nat) : Int) - 2 * ((btN s (s.size - 1) : Nat) : Int)) = ((s.size - 1 : Nat) : Int) - 2 * ((btN s (s.size - 1) : Nat) : Int) from wrap64_id (by omega) (by omega))
    refine Ev.congr (fun k => ?_) h
    rw [spec_l20Decode.f, Option.bind_some, if_neg (by omega), e0.out, e1.out, e2.out, e3.out, if_pos (by omega), if_pos (by omega)]
    rfl
end Go.Proofs.Ytogndjjoeahccaa.Q
