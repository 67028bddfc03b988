/- The specification's reading of a block: a good run's block gives the run, anything else gives nothing. Conditions: those before each theorem. -/
import Derived.Test.YtogndjjoeahccaaSpecEnc
namespace Go.Proofs.Ytogndjjoeahccaa.Q
open Go.RowKit Go.Proofs.YtogndjjoeahccaaW.PrintWords
set_option linter.unusedVariables false
theorem enc_last (l : List S49) (h16 : l.length ≤ 16) : (encB l).size = (bodyB l l.length).length + 2 * ((l.length + 3) / 4) + 1 ∧ btN (encB l) ((encB l).size - 1) = (l.length + 3) / 4 := by
  have hL := enc_list l
  have hrl := rest_len l l.length
  have hol := offs_len (restL l l.length)
  have hsz : (encB l).size = (bodyB l l.length).length + 2 * ((l.length + 3) / 4) + 1 := by
    rw [← data_length, hL]
    simp only [List.length_append, List.length_cons, List.length_nil]
    omega
  refine ⟨hsz, ?_⟩
  rw [btN_list, hL, hsz, List.getD_eq_getElem?_getD, List.getElem?_append_right (by omega), List.getElem?_append_right (by omega)]
  rw [show (bodyB l l.length).length + 2 * ((l.length + 3) / 4) + 1 - 1 - (bodyB l l.length).length - (offs (restL l l.length)).length = 0 from by omega]
  simp only [List.getElem?_cons_zero, Option.getD_some]
  rw [u8_nat _ (by omega) (by omega)]
  omega
theorem dS_enc (l : List S49) (hg : Good l) : dS (encB l) = l := by
  obtain ⟨h1, h2⟩ := enc_last l hg.2.1
  have h16 := hg.2.1
  unfold dS
  rw [if_neg (by omega), h2, show (((encB l).size - 1 : Nat) : Int) - 2 * (((l.length + 3) / 4 : Nat) : Int) = ((bodyB l l.length).length : Int) from by omega]
  exact sDec_enc l hg _ (enc_list l) l.length 0 0 ⟨#[]⟩ 17 (by omega) rfl (fun h => absurd rfl h) (by omega)
theorem ba_same {a b : ByteArray} (h : a.toList = b.toList) : a = b := by
  rw [ba_toList, ba_toList] at h
  exact ByteArray.ext (Array.ext' h)
def rdS (s : ByteArray) : List S49 × List Int × Bool := if Good (dS s) then (dS s, restL (dS s) (dS s).length, (encB (dS s)).toList == s.toList) else ([], [], false)
theorem readS_ev (s : ByteArray) (hs : s.size ≤ 1048576) : Ev (fun k => spec_l20Read.f k s) (rdS s) := by
  have hd := dS_ev s hs
  have hl := dS_len s
  unfold spec_l20Read.f rdS
  refine Ev.bind hd ?_
  generalize dS s = t at hl ⊢
  by_cases h0 : (t.length : Int) = 0
  · rw [if_neg (fun c : Good t => by have := c.1; omega)]
    exact Ev.if_pos h0 (Ev.now _)
  refine Ev.if_neg h0 ?_
  have p1 := l17Run_ev t (by omega)
  refine Ev.bind p1 ?_
  cases hv : runFrom t t.length 0 with
  | false =>
    rw [if_neg (fun c : Good t => by rw [c.2.2] at hv; cases hv)]
    exact Ev.if_neg (by decide) (Ev.now _)
  | true =>
    rw [if_pos (show Good t from ⟨by omega, hl, hv⟩)]
    exact Ev.if_pos rfl (Ev.bind (l20Encode_ev t (by omega) (run_short t hv)) (Ev.now _))
theorem readS_good (l : List S49) (hg : Good l) (hs : (encB l).size ≤ 1048576) : Ev (fun k => spec_l20Read.f k (encB l)) (l, restL l l.length, true) := by
  have h := readS_ev (encB l) hs
  unfold rdS at h
  rw [dS_enc l hg, if_pos hg, beq_self_eq_true] at h
  exact h
theorem readS_not (s : ByteArray) (hs : s.size ≤ 1048576) (h : ¬ ∃ l, Good l ∧ encB l = s) : ∃ a b, Ev (fun k => spec_l20Read.f k s) (a, b, false) := by
  have he := readS_ev s hs
  unfold rdS at he
  by_cases c : Good (dS s)
  · rw [if_pos c, beq_eq_false_iff_ne.2 (fun e => h ⟨_, c, ba_same e⟩)] at he
    exact ⟨_, _, he⟩
  · rw [if_neg c] at he
    exact ⟨_, _, he⟩
end Go.Proofs.Ytogndjjoeahccaa.Q
