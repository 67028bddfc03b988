/- What the program reads from a block. Conditions: those before each theorem. -/
import Derived.Test.YtogndjjoeahccaaSplitDec
import Derived.Test.YtogndjjoeahccaaRunOk
import Derived.Test.YtogndjjoeahccaaXEncBlock
import Derived.Test.YtogndjjoeahccaaQ15
namespace Go.Proofs.Ytogndjjoeahccaa.Q
open Go.RowKit Go.Proofs.YtogndjjoeahccaaW.PrintWords
set_option linter.unusedVariables false
theorem enc_list (l : List S49) : (encB l).data.toList = bodyB l l.length ++ (offs (restL l l.length) ++ [UInt8.ofNat ((((l.length + 3) / 4 : Nat) : Int) % 256).toNat]) := by
  unfold encB
  rw [ByteArray.data_append, Array.toList_append, ByteArray.data_append, Array.toList_append, byte1, off_rest, List.append_assoc]
theorem body_small (l : List S49) (ho : ∀ j : Nat, j < l.length → okX (rd_T49 l (j : Int)) = true) : ∀ i, i ≤ l.length → (bodyB l i).length ≤ 31 * i
  | 0, _ => by simp [bodyB]
  | i + 1, h => by
    have h1 := body_small l ho i (by omega)
    have h2 := ok_parts _ (ho i (by omega))
    unfold bodyB
    rw [List.length_append, data_length, entB, entry_size]
    omega
theorem rest_range (l : List S49) (ho : ∀ j : Nat, j < l.length → okX (rd_T49 l (j : Int)) = true) (hl : l.length ≤ 1000) : ∀ i, i ≤ l.length → ∀ r ∈ restL l i, 0 ≤ r ∧ r < 65536
  | 0, _ => by simp [restL]
  | i + 1, h => by
    intro r hr
    unfold restL at hr
    split at hr
    · rcases List.mem_append.1 hr with hr | hr
      · exact rest_range l ho hl i (by omega) r hr
      · have e := List.mem_singleton.1 hr
        have := body_small l ho i (by omega)
        omega
    · exact rest_range l ho hl i (by omega) r hr
theorem offs_len : ∀ rs : List Int, (offs rs).length = 2 * rs.length
  | [] => rfl
  | r :: rs => by
    rw [offs_cons, List.length_append, data_length, fixE_size, offs_len rs, List.length_cons]
    omega
theorem split_enc (l : List S49) (ho : ∀ j : Nat, j < l.length → okX (rd_T49 l (j : Int)) = true) (h1 : 1 ≤ l.length) (h16 : l.length ≤ 16) : splitN (encB l) = (⟨(bodyB l l.length).toArray⟩, restL l l.length, true) := by
  have hL := enc_list l
  have hrl := rest_len l l.length
  have hol := offs_len (restL l l.length)
  have hsz : (encB l).size = (bodyB l l.length).length + 2 * ((l.length + 3) / 4) + 1 := by
    rw [← data_length, hL]
    simp only [List.length_append, List.length_cons, List.length_nil]
    omega
  have hb : btN (encB l) ((encB l).size - 1) = (l.length + 3) / 4 := by
    rw [btN_list, hL, hsz, List.getD_eq_getElem?_getD, List.getElem?_append_right (by omega), List.getElem?_append_right (by omega)]
    rw [show (bodyB l l.length).length + 2 * ((l.length + 3) / 4) + 1 - 1 - (bodyB l l.length).length - (offs (restL l l.length)).length = 0 from by omega]
    simp only [List.getElem?_cons_zero, Option.getD_some]
    rw [u8_nat _ (by omega) (by omega)]
    omega
  unfold splitN
  rw [hb, if_neg (by omega), if_neg (by omega), show (encB l).size - 1 - 2 * ((l.length + 3) / 4) = (bodyB l l.length).length from by omega]
  have hr := sp_rest (encB l) _ (restL l l.length) (bodyB l l.length) hL (rest_range l ho (by omega) l.length (Nat.le_refl _))
  rw [hrl] at hr
  rw [hr]
  congr 1
  apply ba_ext
  rw [Lib.extract_data, List.drop_zero, Nat.sub_zero, hL, List.take_left]
theorem wf_small (n : Nat) (h : n < 2 ^ (8 * 3)) : (Lit.int .i64 (n : Int)).wf = true := by
  have h2 : n < 16777216 := h
  simp [Lit.wf, IntKind.min, IntKind.max, IntKind.signed, IntKind.bits]
  omega
theorem pEnt_wf : ∀ (d : Nat) (s : ByteArray) (acc : List S49) (key : ByteArray), (∀ x ∈ acc, (Lit.int .i64 x.f1).wf = true) → ∀ x ∈ (pEnt d s acc key).1, (Lit.int .i64 x.f1).wf = true
  | 0, s, acc, key, h => by intro x hx; cases hx
  | d + 1, s, acc, key, h => by
    unfold pEnt
    split
    · exact h
    · split
      · intro x hx; cases hx
      · split
        · intro x hx; cases hx
        · split
          · intro x hx; cases hx
          · refine pEnt_wf d _ _ _ ?_
            intro x hx
            rcases List.mem_append.1 hx with hx | hx
            · exact h x hx
            · have e := List.mem_singleton.1 hx
              have hf : x.f1 = ((numN (s.extract 2 5) 3 : Nat) : Int) := by rw [e]; unfold entRec; split <;> rfl
              have hb := numN_lt (s.extract 2 5) 3
              rw [hf]
              exact wf_small _ hb
def Good (l : List S49) : Prop := 1 ≤ l.length ∧ l.length ≤ 16 ∧ runFrom l l.length 0 = true
instance (l : List S49) : Decidable (Good l) := by unfold Good; exact inferInstance
def decI (s : ByteArray) : List S49 × Bool :=
  if (splitN s).2.2 = true ∧ (pEnt ((splitN s).1.size + 1) (splitN s).1 [] ⟨#[]⟩).2 = true ∧ Good (pEnt ((splitN s).1.size + 1) (splitN s).1 [] ⟨#[]⟩).1 ∧ encB (pEnt ((splitN s).1.size + 1) (splitN s).1 [] ⟨#[]⟩).1 = s
  then ((pEnt ((splitN s).1.size + 1) (splitN s).1 [] ⟨#[]⟩).1, true) else ([], false)
theorem implDec_ev (s : ByteArray) (hs : s.size ≤ 1048576) : Ev (fun k => impl_decodeBlock.f k s) (decI s) := by
  unfold decI
  have hsp := split_ev s hs
  have hsz : (splitN s).1.size ≤ 1048576 := by
    unfold splitN
    split
    · exact Nat.zero_le _
    · split
      · exact Nat.zero_le _
      · show (s.extract 0 _).size ≤ _
        rw [ByteArray.size_extract]
        omega
  obtain ⟨⟨b, rs, ok⟩, hsN⟩ : ∃ x, splitN s = x := ⟨_, rfl⟩
  rw [hsN] at hsp hsz ⊢
  dsimp only at hsz ⊢
  have hen : impl_entries.f b = some (pEnt (b.size + 1) b [] ⟨#[]⟩) := if_pos hsz
  have hw := pEnt_wf (b.size + 1) b [] ⟨#[]⟩ (by intro x hx; cases hx)
  obtain ⟨⟨l, ok2⟩, hp⟩ : ∃ x, pEnt (b.size + 1) b [] ⟨#[]⟩ = x := ⟨_, rfl⟩
  rw [hp] at hen hw ⊢
  dsimp only at hw ⊢
  unfold impl_decodeBlock.f
  refine Ev.bind hsp (Ev.bind1 hen ?_)
  dsimp only
  by_cases c1 : ok = true
  · refine Ev.if_pos c1 ?_
    by_cases c2 : ok2 = true
    · refine Ev.if_pos c2 ?_
      by_cases c3 : l.length = 0
      · refine Ev.if_pos (by omega) ?_
        rw [if_neg (fun h => by have := h.2.2.1.1; omega)]
        exact Ev.now _
      · refine Ev.if_neg (by omega) ?_
        by_cases c4 : l.length > 16
        · refine Ev.if_pos (by omega) ?_
          rw [if_neg (fun h => by have := h.2.2.1.2.1; omega)]
          exact Ev.now _
        · refine Ev.if_neg (by omega) ?_
          have hrun := implRun_eq l (by omega) hw
          refine Ev.bind1 hrun ?_
          by_cases c5 : runFrom l l.length 0 = true
          · refine Ev.if_pos c5 ?_
            have henc : impl_encodeBlock.f l = some (encB l) := by
              unfold impl_encodeBlock.f
              rw [if_pos (by omega), if_pos (run_short l c5)]
            refine Ev.bind1 henc ?_
            by_cases c6 : encB l = s
            · refine Ev.if_pos (by rw [c6]) ?_
              rw [if_pos ⟨c1, c2, ⟨by omega, by omega, c5⟩, c6⟩]
              exact Ev.now _
            · refine Ev.if_neg (fun h => c6 (ba_ext ((Lib.toList_data _).symm.trans (h.trans (Lib.toList_data _))))) ?_
              rw [if_neg (fun h => c6 h.2.2.2)]
              exact Ev.now _
          · refine Ev.if_neg c5 ?_
            rw [if_neg (fun h => c5 h.2.2.1.2.2)]
            exact Ev.now _
    · refine Ev.if_neg c2 ?_
      rw [if_neg (fun h => c2 h.2.1)]
      exact Ev.now _
  · refine Ev.if_neg c1 ?_
    rw [if_neg (fun h => c1 h.1)]
    exact Ev.now _
theorem good_ok (l : List S49) (h : Good l) : ∀ j : Nat, j < l.length → okX (rd_T49 l (j : Int)) = true := fun j hj => run_ok l l.length 0 h.2.2 j (by omega) (by omega)
theorem decI_enc (l : List S49) (h : Good l) : decI (encB l) = (l, true) := by
  have ho := good_ok l h
  unfold decI
  rw [split_enc l ho h.1 h.2.1]
  dsimp only
  rw [ents_body l ho ⟨(bodyB l l.length).toArray⟩ rfl]
  rw [if_pos ⟨rfl, rfl, h, rfl⟩]
theorem decI_not (s : ByteArray) (h : ¬ ∃ l, Good l ∧ encB l = s) : decI s = ([], false) := by
  unfold decI
  exact if_neg fun c => h ⟨_, c.2.2.1, c.2.2.2⟩
end Go.Proofs.Ytogndjjoeahccaa.Q
