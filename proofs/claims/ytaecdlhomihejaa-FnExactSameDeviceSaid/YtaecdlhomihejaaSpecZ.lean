/- The specification's SameDevice is the program's. Conditions: the lists are not longer than memory. -/
import Derived.Test.YtaecdlhomihejaaSameFl
import Derived.Test.YtaecdlhomihejaaSameZ
import Derived.Test.YtaecdlhomihejaaZoneC
import Derived.Test.YtaecdlhomihejaaXSpecSameDevice
namespace Go.Proofs.Ytaecdlhomihejaa.Q
open Go.RowKit Go.Proofs.YtaecdlhomihejaaW.PrintWords
set_option linter.unusedVariables false
theorem bz (a b c d e f g : Bool) : ((a && (b && (c && (d && (e && f))))) && g) = (a && (c && (d && (b && (e && (f && g)))))) := by
  revert a b c d e f g
  decide
theorem sInts_loop (l m : List Int) (hl : l.length = m.length) (hb : l.length ≤ 9223372036854775806) (d : Nat) : ∀ i : Nat, i ≤ l.length → l.length - i = d →
    Ev (fun k => spec_l16SameInts.l0 k l m i) (decide (l.drop i = m.drop i)) := by
  induction d with
  | zero =>
    intro i h1 h2
    have e : decide (l.drop i = m.drop i) = true := by rw [List.drop_of_length_le (by omega), List.drop_of_length_le (by omega)]; rfl
    rw [e]
    refine Ev.step (f := fun _ => some true) (fun k => ?_) (Ev.now _)
    rw [spec_l16SameInts.l0, if_neg (by omega)]
  | succ d ih =>
    intro i h1 h2
    have e1 : l.drop i = l[i] :: l.drop (i + 1) := List.drop_eq_getElem_cons (by omega)
    have e2 : m.drop i = m[i] :: m.drop (i + 1) := List.drop_eq_getElem_cons (by omega)
    by_cases h : l[i] = m[i]
    · have e : decide (l.drop i = m.drop i) = decide (l.drop (i + 1) = m.drop (i + 1)) := by
        rw [e1, e2, h]
        exact decide_eq_decide.2 ⟨fun q => (List.cons.inj q).2, fun q => by rw [q]⟩
      rw [e]
      refine Ev.step (fun k => ?_) (ih (i + 1) (by omega) (by omega))
      rw [spec_l16SameInts.l0, if_pos (by omega), if_pos (by omega), if_pos (by omega), rd_get l i (by omega), rd_get m i (by omega), if_pos h, wrap64_id (by omega) (by omega)]
      rfl
    · have e : decide (l.drop i = m.drop i) = false := decide_eq_false (by rw [e1, e2]; exact fun q => h (List.cons.inj q).1)
      rw [e]
      refine Ev.step (f := fun _ => some false) (fun k => ?_) (Ev.now _)
      rw [spec_l16SameInts.l0, if_pos (by omega), if_pos (by omega), if_pos (by omega), rd_get l i (by omega), rd_get m i (by omega), if_neg h]
theorem sInts_ev (l m : List Int) (hb : l.length ≤ 9223372036854775806) : Ev (fun k => spec_l16SameInts.f k l m) (decide (l = m)) := by
  by_cases hl : l.length = m.length
  · have h := sInts_loop l m hl hb l.length 0 (by omega) (by omega)
    obtain ⟨K, h⟩ := h
    refine ⟨K, fun k hk => ?_⟩
    have h2 := h k hk
    simp only [List.drop_zero] at h2
    show spec_l16SameInts.f k l m = _
    unfold spec_l16SameInts.f
    rw [if_pos (by omega)]
    exact h2
  · have e : decide (l = m) = false := by simp; intro h; exact hl (by rw [h])
    rw [e]
    refine ⟨0, fun k _ => ?_⟩
    show spec_l16SameInts.f k l m = _
    unfold spec_l16SameInts.f
    rw [if_neg (by omega)]
theorem sTexts_loop (l m : List ByteArray) (hl : l.length = m.length) (hb : l.length ≤ 9223372036854775806) (d : Nat) : ∀ i : Nat, i ≤ l.length → l.length - i = d →
    Ev (fun k => spec_l16SameTexts.l0 k l m i) (decide (l.drop i = m.drop i)) := by
  induction d with
  | zero =>
    intro i h1 h2
    have e : decide (l.drop i = m.drop i) = true := by rw [List.drop_of_length_le (by omega), List.drop_of_length_le (by omega)]; rfl
    rw [e]
    refine Ev.step (f := fun _ => some true) (fun k => ?_) (Ev.now _)
    rw [spec_l16SameTexts.l0, if_neg (by omega)]
  | succ d ih =>
    intro i h1 h2
    have e1 : l.drop i = l[i] :: l.drop (i + 1) := List.drop_eq_getElem_cons (by omega)
    have e2 : m.drop i = m[i] :: m.drop (i + 1) := List.drop_eq_getElem_cons (by omega)
    by_cases h : l[i] = m[i]
    · have e : decide (l.drop i = m.drop i) = decide (l.drop (i + 1) = m.drop (i + 1)) := by
        rw [e1, e2, h]
        exact decide_eq_decide.2 ⟨fun q => (List.cons.inj q).2, fun q => by rw [q]⟩
      rw [e]
      refine Ev.step (fun k => ?_) (ih (i + 1) (by omega) (by omega))
      rw [spec_l16SameTexts.l0, if_pos (by omega), if_pos (by omega), if_pos (by omega), rdOf_get _ l i (by omega), rdOf_get _ m i (by omega), if_pos ((str_eq _ _).2 h), wrap64_id (by omega) (by omega)]
      rfl
    · have e : decide (l.drop i = m.drop i) = false := decide_eq_false (by rw [e1, e2]; exact fun q => h (List.cons.inj q).1)
      rw [e]
      refine Ev.step (f := fun _ => some false) (fun k => ?_) (Ev.now _)
      rw [spec_l16SameTexts.l0, if_pos (by omega), if_pos (by omega), if_pos (by omega), rdOf_get _ l i (by omega), rdOf_get _ m i (by omega), if_neg (fun q => h ((str_eq _ _).1 q))]
theorem sTexts_ev (l m : List ByteArray) (hb : l.length ≤ 9223372036854775806) : Ev (fun k => spec_l16SameTexts.f k l m) (decide (l = m)) := by
  by_cases hl : l.length = m.length
  · have h := sTexts_loop l m hl hb l.length 0 (by omega) (by omega)
    obtain ⟨K, h⟩ := h
    refine ⟨K, fun k hk => ?_⟩
    have h2 := h k hk
    simp only [List.drop_zero] at h2
    show spec_l16SameTexts.f k l m = _
    unfold spec_l16SameTexts.f
    rw [if_pos (by omega)]
    exact h2
  · have e : decide (l = m) = false := by simp; intro h; exact hl (by rw [h])
    rw [e]
    refine ⟨0, fun k _ => ?_⟩
    show spec_l16SameTexts.f k l m = _
    unfold spec_l16SameTexts.f
    rw [if_neg (by omega)]
section
variable (a b c : Int) (l : List S120) (u v : Int) (o : Bool) (z : Int) (y : List S132) (a' b' c' : Int) (m : List S120) (u' v' : Int) (o' : Bool) (z' : Int) (y' : List S132)
theorem sZones_loop (hs : ∀ x ∈ y, shZn x) (hl : y.length = y'.length) (hb : y.length ≤ 9223372036854775806) (d : Nat) : ∀ i : Nat, i ≤ y.length → y.length - i = d →
    Ev (fun k => spec_SameDevice.l0 k (i : Int) a b c l u v o z y a' b' c' m u' v' o' z' y') (eqAll sameZ (y.drop i) (y'.drop i)) := by
  induction d with
  | zero =>
    intro i h1 h2
    rw [List.drop_of_length_le (by omega), List.drop_of_length_le (by omega)]
    refine Ev.step (f := fun _ => some true) (fun k => ?_) (Ev.now _)
    rw [spec_SameDevice.l0, if_neg (by omega)]
  | succ d ih =>
    intro i h1 h2
    rw [eqAll_drop sameZ y y' i (by omega) (by omega)]
    have hi := ih (i + 1) (by omega) (by omega)
    have hz := hs y[i] (List.getElem_mem _)
    have z1 := hz.blocks
    have z4 := hz.rows
    have z5 := hz.buf
    have e1 : wrap64 ((i : Int) + 1) = ((i + 1 : Nat) : Int) := by unfold wrap64; omega
    have e2 : (sameZ y[i] y'[i] && eqAll sameZ (y.drop (i + 1)) (y'.drop (i + 1))) = (decide (y[i].f0 = y'[i].f0) && (decide (y[i].f2 = y'[i].f2) && (decide (y[i].f3 = y'[i].f3) && (decide (y[i].f1 = y'[i].f1) && (decide (y[i].f4 = y'[i].f4) && (decide (y[i].f5 = y'[i].f5) && eqAll sameZ (y.drop (i + 1)) (y'.drop (i + 1)))))))) := by
      unfold sameZ
      exact bz _ _ _ _ _ _ _
    rw [e2]
    refine Ev.step (fun k => ?_) (itez_ev fun _ => itez_ev fun _ => itez_ev fun _ => andz_ev (sInts_ev y[i].f1 y'[i].f1 (by omega)) fun _ => andz_ev (sInts_ev y[i].f4 y'[i].f4 (by omega)) fun _ => andz_ev (sTexts_ev y[i].f5 y'[i].f5 (by omega)) fun _ => hi)
    rw [spec_SameDevice.l0, if_pos (by omega), if_pos (by omega), if_pos (by omega), rdIZ_get y i (by omega), rdIZ_get y' i (by omega), e1]
theorem sDev_ev (hp : ∀ x ∈ l, x.f3.length ≤ 9223372036854775806) (hbl : l.length ≤ 9223372036854775806) (hs : ∀ x ∈ y, shZn x) (hb : y.length ≤ 9223372036854775806) :
    Ev (fun k => spec_SameDevice.f k a b c l u v o z y a' b' c' m u' v' o' z' y') (sameFl a b c l u v o z a' b' c' m u' v' o' z' && eqAll sameZ y y') := by
  have off : Ev (fun k => spec_SameDevice.j0 k true a b c l u v o z y a' b' c' m u' v' o' z' y') false := Ev.step (f := fun _ => some false) (fun k => by rw [spec_SameDevice.j0, if_pos rfl]) (Ev.now _)
  have hf := sameFl_ev a b c l u v o z a' b' c' m u' v' o' z' hp hbl
  unfold spec_SameDevice.f
  cases hq : sameFl a b c l u v o z a' b' c' m u' v' o' z' with
  | false => rw [hq] at hf; rw [Bool.false_and]; exact Ev.bind hf (Ev.if_neg (by decide) off)
  | true =>
    rw [hq] at hf
    rw [Bool.true_and]
    refine Ev.bind hf (Ev.if_pos rfl ?_)
    by_cases hl : y.length = y'.length
    · have hz := sZones_loop a b c l u v o z y a' b' c' m u' v' o' z' y' hs hl hb y.length 0 (by omega) (by omega)
      simp only [List.drop_zero] at hz
      rw [show ((y.length : Int) != (y'.length : Int)) = false from by simp [hl]]
      exact Ev.step (fun k => by rw [spec_SameDevice.j0, if_neg (by decide)]; rfl) hz
    · rw [eqAll_len hl, show ((y.length : Int) != (y'.length : Int)) = true from by simp; omega]
      exact off
end
end Go.Proofs.Ytaecdlhomihejaa.Q
