/- The specification reads a run's block as that run. Conditions: those before each theorem. -/
import Derived.Test.YtogndjjoeahccaaSpecShift
import Derived.Test.YtogndjjoeahccaaImplDec
namespace Go.Proofs.Ytogndjjoeahccaa.Q
open Go.RowKit Go.Proofs.YtogndjjoeahccaaW.PrintWords
set_option linter.unusedVariables false
theorem sDec_enc (l : List S49) (hg : Good l) (tl : List UInt8) (hL : (encB l).data.toList = bodyB l l.length ++ tl) : ∀ (d i : Nat) (p : Nat) (bf : ByteArray) (fuel : Nat), i + d = l.length → p = (bodyB l i).length → (¬ i % 4 = 0 → bf = (rd_T49 l ((i - 1 : Nat) : Int)).f0) → d < fuel → sDec (encB l) ((bodyB l l.length).length : Int) fuel (l.take i) p bf = l
  | 0, i, p, bf, fuel, hi, hp, hb, hf => by
    cases fuel with
    | zero => omega
    | succ f =>
      obtain rfl : i = l.length := by omega
      unfold sDec
      rw [if_neg (by rw [hp]; omega), List.take_length]
  | d + 1, i, p, bf, fuel, hi, hp, hb, hf => by
    cases fuel with
    | zero => omega
    | succ f =>
      have hil : i < l.length := by omega
      have ho := good_ok l hg
      have hlen : (l.take i).length = i := by rw [List.length_take]; omega
      obtain ⟨b, hbE⟩ : ∃ b, (if (l.take i).length % 4 = 0 then (⟨#[]⟩ : ByteArray) else bf) = b := ⟨_, rfl⟩
      have hb2 : ¬ i % 4 = 0 → b = (rd_T49 l ((i - 1 : Nat) : Int)).f0 := fun h => by rw [← hbE, hlen, if_neg h]; exact hb h
      obtain ⟨h1, h2, h3⟩ := head_same l ho i hil b hb2
      have hs0 := body_split l (d + 1) i
      rw [hi] at hs0
      have hy : ((encB l).extract p (encB l).size).data.toList = (entry (rd_T49 l (i : Int)) (nSh l i)).data.toList ++ (bodyT l (i + 1) d ++ tl) := by
        rw [rest_list, hL, hs0, List.append_assoc, hp, List.drop_left]
        show ((entB l i).data.toList ++ bodyT l (i + 1) d) ++ tl = _
        rw [List.append_assoc]
        rfl
      obtain ⟨e1, e2, e3, e4, e5, e6, e7⟩ := ent_read (rd_T49 l (i : Int)) (nSh l i) ⟨(bodyT l (i + 1) d ++ tl).toArray⟩ b ((encB l).extract p (encB l).size) (by rw [hy]) (ho i hil) h1 h2 h3
      rw [btN_shift] at e2 e3 e4
      rw [Nat.add_zero] at e2
      rw [← nxRec_ent] at e6
      have hsz : ((encB l).extract p (encB l).size).size = (encB l).size - p := ba_sub _ _ _ _ (Nat.le_refl _) rfl
      have hE : (entB l i).size = 7 + ((rd_T49 l (i : Int)).f0.size - nSh l i) + (dataX (rd_T49 l (i : Int))).size := entry_size _ _
      have hb1 : (bodyB l (i + 1)).length = (bodyB l i).length + (entB l i).size := by rw [show bodyB l (i + 1) = bodyB l i ++ (entB l i).data.toList from rfl, List.length_append, data_length]
      have hle : (bodyB l i).length < (bodyB l l.length).length := by
        rw [hs0, List.length_append]
        show _ < _ + ((entB l i).data.toList ++ bodyT l (i + 1) d).length
        rw [List.length_append, data_length]
        omega
      have hT : nxT (encB l) b p = ((rd_T49 l (i : Int)).f0, (rd_T49 l (i : Int)).f1, (rd_T49 l (i : Int)).f2, (rd_T49 l (i : Int)).f3, (rd_T49 l (i : Int)).f4, (((bodyB l (i + 1)).length : Nat) : Int)) := by
        unfold nxT
        rw [e2, e3, e4, e6, if_neg (by omega), if_neg (by omega), show p + 7 + ((rd_T49 l (i : Int)).f0.size - nSh l i) + (dataX (rd_T49 l (i : Int))).size = (bodyB l (i + 1)).length from by omega]
      have ih := sDec_enc l hg tl hL d (i + 1) (bodyB l (i + 1)).length (rd_T49 l (i : Int)).f0 f (by omega) rfl (fun _ => by rw [Nat.add_sub_cancel]) (by omega)
      unfold sDec
      rw [hbE, hT, if_pos ⟨by rw [hp]; omega, by rw [hlen]; have := hg.2.1; omega⟩, if_neg (by show ¬ (((bodyB l (i + 1)).length : Nat) : Int) = 0; omega)]
      rw [List.take_succ_eq_append_getElem hil, ← rd_getX l i hil] at ih
      exact ih
end Go.Proofs.Ytogndjjoeahccaa.Q
