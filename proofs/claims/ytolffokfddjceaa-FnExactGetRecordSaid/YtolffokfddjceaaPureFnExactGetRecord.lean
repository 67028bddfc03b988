/- The law FnExactGetRecord, as a statement over numbers and texts. No condition. -/
import Derived.Test.YtolffokfddjceaaSayFnExactGetRecord
import Derived.Test.YtolffokfddjceaaXGetRecord
import Derived.Lib.Bytealg
namespace Go.Proofs.Ytolffokfddjceaa.Pure
open Go.RowKit Go.Proofs.Ytolffokfddjceaa.Q Go.Proofs.YtolffokfddjceaaW.PrintWords
set_option linter.unusedVariables false
theorem ba_lst (s : ByteArray) : s.toList = s.data.toList := Lib.toList_data s
theorem ext_sz (s : ByteArray) (a n : Nat) (h : n ≤ s.size) : (s.extract a n).size = n - a := by
  rw [ByteArray.size_extract, Nat.min_eq_left h]
theorem btN_ext (s : ByteArray) (a n i : Nat) (h1 : a + i < n) (h2 : n ≤ s.size) : btN (s.extract a n) i = btN s (a + i) := by
  have hs : i < (s.extract a n).size := by rw [ext_sz s a n h2]; omega
  have e1 := bt_get (s.extract a n) i hs
  have e2 := bt_get s (a + i) (by omega)
  have e3 : (s.extract a n)[i]'hs = s[a + i]'(by omega) := by
    rw [ByteArray.getElem_extract]
  unfold btN
  rw [e1, e2, e3]
theorem ext_ext (s : ByteArray) (a k l : Nat) (h : a + l ≤ s.size) : (s.extract a s.size).extract k l = s.extract (a + k) (a + l) := by
  rw [ByteArray.extract_extract, Nat.min_eq_left h]
theorem short_eq (t : ByteArray) (ht : t.size ≤ 1048576) : impl_getShort.f t = some (if t.size < 1 + btN t 0 ∨ t.size = 0 then ((⟨#[]⟩ : ByteArray), (⟨#[]⟩ : ByteArray), false) else (t.extract 1 (btN t 0 + 1), t.extract (btN t 0 + 1) t.size, true)) := by
  have hb := btN_lt t 0
  have x1 : wrap64 (bt t 0) = (btN t 0 : Int) := by
    have := btN_eq t 0
    rw [show ((0 : Nat) : Int) = 0 from rfl] at this
    rw [this]
    exact wrap64_id (by omega) (by omega)
  have x2 : wrap64 ((btN t 0 : Int) + 1) = ((btN t 0 + 1 : Nat) : Int) := by rw [wrap64_id (by omega) (by omega)]; rfl
  have x3 : wrap64 ((t.size : Int) - 1) = (t.size : Int) - 1 := wrap64_id (by omega) (by omega)
  unfold impl_getShort.f
  by_cases h0 : t.size = 0
  · have : t.toList = [] := by
      rw [ba_lst]
      exact List.eq_nil_of_length_eq_zero (by rw [data_length]; exact h0)
    rw [if_pos this, if_pos (Or.inr h0)]
  · have hne : ¬ t.toList = [] := by
      rw [ba_lst]
      intro h
      have := data_length t
      rw [h] at this
      exact h0 this.symm
    rw [if_neg hne, if_pos (by omega), x1, x2, x3]
    by_cases h1 : t.size < 1 + btN t 0
    · rw [if_pos (by omega), if_pos (Or.inl h1)]
    · rw [if_neg (by omega), if_pos (by omega), if_pos (by omega), if_pos (by omega), if_neg (by omega), Int.toNat_natCast]
theorem short_nil : impl_getShort.f (⟨#[]⟩ : ByteArray) = some ((⟨#[]⟩ : ByteArray), (⟨#[]⟩ : ByteArray), false) := by
  rw [short_eq _ (by show (0 : Nat) ≤ _; omega), if_pos (Or.inr (show (⟨#[]⟩ : ByteArray).size = 0 from rfl))]
theorem getR_no (key : ByteArray) (q z : Nat) (one : Bool) (ot : ByteArray) (two : Bool) (len : Int) (h : one = false ∨ two = false) : getR key q z one ot two len = zero7 := by
  unfold getR
  rcases h with h | h <;> (rw [h]; simp)
/-- What both sides read. -/
def gtF (s : ByteArray) : T7 :=
  if s.size < 5 ∨ s.size < 6 + btN s 4 ∨ s.size < 6 + btN s 4 + btN s (5 + btN s 4) then zero7
  else getR (s.extract 5 (5 + btN s 4)) (numN (s.extract 1 4) 3) (btN s 0) true (s.extract (6 + btN s 4) (6 + btN s 4 + btN s (5 + btN s 4))) true ((6 + btN s 4 + btN s (5 + btN s 4) : Nat) : Int)
theorem impl_eq (s : ByteArray) (hs : s.size ≤ 1048576) : impl_GetRecord.f s = some (gtF s) := by
  unfold impl_GetRecord.f gtF
  rw [if_pos hs]
  by_cases h4 : s.size < 4
  · rw [if_pos h4, if_pos (Or.inl (by omega))]
  have hsz : (s.extract 4 s.size).size = s.size - 4 := ext_sz s 4 s.size (Nat.le_refl _)
  have hem : ((⟨#[]⟩ : ByteArray)).size = 0 := rfl
  rw [if_neg h4, short_eq _ (by omega), Option.bind_some, hsz]
  by_cases h5 : s.size = 4
  · rw [if_pos (Or.inr (by omega))]
    dsimp only
    rw [short_nil, Option.bind_some, if_pos (Or.inl (by omega)), getR_no _ _ _ _ _ _ _ (Or.inl rfl)]
  have hb : btN (s.extract 4 s.size) 0 = btN s 4 := btN_ext s 4 s.size 0 (by omega) (Nat.le_refl _)
  rw [hb]
  by_cases h6 : s.size < 5 + btN s 4
  · rw [if_pos (Or.inl (by omega))]
    dsimp only
    rw [short_nil, Option.bind_some, if_pos (Or.inr (Or.inl (by omega))), getR_no _ _ _ _ _ _ _ (Or.inl rfl)]
  have hr : (s.extract 4 s.size).extract (btN s 4 + 1) (s.size - 4) = s.extract (5 + btN s 4) s.size := by
    rw [ext_ext s 4 (btN s 4 + 1) (s.size - 4) (by omega), show 4 + (btN s 4 + 1) = 5 + btN s 4 from by omega, show 4 + (s.size - 4) = s.size from by omega]
  have hk : (s.extract 4 s.size).extract 1 (btN s 4 + 1) = s.extract 5 (5 + btN s 4) := by
    rw [ext_ext s 4 1 (btN s 4 + 1) (by omega), show 4 + (btN s 4 + 1) = 5 + btN s 4 from by omega]
  have hrs : (s.extract (5 + btN s 4) s.size).size = s.size - (5 + btN s 4) := ext_sz s _ s.size (Nat.le_refl _)
  rw [if_neg (by omega), hr, hk]
  dsimp only
  rw [short_eq _ (by rw [hrs]; omega), Option.bind_some, hrs]
  by_cases h7 : s.size = 5 + btN s 4
  · rw [if_pos (Or.inr (by omega)), if_pos (Or.inr (Or.inl (by omega))), getR_no _ _ _ _ _ _ _ (Or.inr rfl)]
  have hc : btN (s.extract (5 + btN s 4) s.size) 0 = btN s (5 + btN s 4) := btN_ext s (5 + btN s 4) s.size 0 (by omega) (Nat.le_refl _)
  rw [hc]
  by_cases h8 : s.size < 6 + btN s 4 + btN s (5 + btN s 4)
  · rw [if_pos (Or.inl (by omega)), if_pos (Or.inr (Or.inr h8)), getR_no _ _ _ _ _ _ _ (Or.inr rfl)]
  have ho : (s.extract (5 + btN s 4) s.size).extract 1 (btN s (5 + btN s 4) + 1) = s.extract (6 + btN s 4) (6 + btN s 4 + btN s (5 + btN s 4)) := by
    rw [ext_ext s _ 1 _ (by omega), show 5 + btN s 4 + 1 = 6 + btN s 4 from by omega, show 5 + btN s 4 + (btN s (5 + btN s 4) + 1) = 6 + btN s 4 + btN s (5 + btN s 4) from by omega]
  have h2 : (s.extract (5 + btN s 4) s.size).extract (btN s (5 + btN s 4) + 1) (s.size - (5 + btN s 4)) = s.extract (6 + btN s 4 + btN s (5 + btN s 4)) s.size := by
    rw [ext_ext s _ _ _ (by omega), show 5 + btN s 4 + (btN s (5 + btN s 4) + 1) = 6 + btN s 4 + btN s (5 + btN s 4) from by omega, show 5 + btN s 4 + (s.size - (5 + btN s 4)) = s.size from by omega]
  have h2s : (s.extract (6 + btN s 4 + btN s (5 + btN s 4)) s.size).size = s.size - (6 + btN s 4 + btN s (5 + btN s 4)) := ext_sz s _ s.size (Nat.le_refl _)
  have hw : wrap64 ((s.size : Int) - ((s.size - (6 + btN s 4 + btN s (5 + btN s 4)) : Nat) : Int)) = ((6 + btN s 4 + btN s (5 + btN s 4) : Nat) : Int) := by
    rw [wrap64_id (by omega) (by omega)]
    omega
  rw [if_neg (by omega), if_neg (by omega), ho, h2]
  dsimp only
  rw [h2s, hw]
theorem spec_ev (s : ByteArray) (hs : s.size ≤ 1048576) : Ev (fun k => spec_GetRecord.f k s) (gtF s) := by
  have hb := btN_lt s 4
  have hc := btN_lt s (5 + btN s 4)
  have hz := btN_lt s 0
  have bw : ∀ i : Nat, wrap64 (bt s (i : Int)) = (btN s i : Int) := fun i => by
    have := btN_lt s i
    rw [btN_eq]
    exact wrap64_id (by omega) (by omega)
  have x0 : wrap64 (bt s 0) = (btN s 0 : Int) := bw 0
  have x1 : wrap64 (bt s 4) = (btN s 4 : Int) := bw 4
  have x2 : wrap64 (5 + (btN s 4 : Int)) = ((5 + btN s 4 : Nat) : Int) := by rw [wrap64_id (by omega) (by omega)]; omega
  have x3 : wrap64 (((5 + btN s 4 : Nat) : Int) + 1) = ((6 + btN s 4 : Nat) : Int) := by rw [wrap64_id (by omega) (by omega)]; omega
  have x4 := bw (5 + btN s 4)
  have x5 : wrap64 (((6 + btN s 4 : Nat) : Int) + (btN s (5 + btN s 4) : Int)) = ((6 + btN s 4 + btN s (5 + btN s 4) : Nat) : Int) := by rw [wrap64_id (by omega) (by omega)]; omega
  have zz : Ev (fun k => (some ((⟨#[]⟩ : ByteArray), (0 : Int), (0 : Int), (⟨#[]⟩ : ByteArray), (⟨#[]⟩ : ByteArray), (0 : Int)) : Option (ByteArray × Int × Int × ByteArray × ByteArray × Int))) (⟨#[]⟩, 0, 0, ⟨#[]⟩, ⟨#[]⟩, 0) := Ev.now _
  unfold spec_GetRecord.f gtF
  by_cases h5 : s.size < 5
  · rw [if_pos (Or.inl h5)]
    refine Ev.bind (a := (⟨#[]⟩, 0, 0, ⟨#[]⟩, ⟨#[]⟩, 0)) ?_ (Ev.now _)
    unfold spec_l17Get.f
    exact Ev.if_pos (by omega) zz
  by_cases h6 : s.size < 6 + btN s 4
  · rw [if_pos (Or.inr (Or.inl h6))]
    refine Ev.bind (a := (⟨#[]⟩, 0, 0, ⟨#[]⟩, ⟨#[]⟩, 0)) ?_ (Ev.now _)
    unfold spec_l17Get.f
    rw [x1, x2, x3]
    exact Ev.if_neg (by omega) (Ev.if_pos (by omega) (Ev.if_pos (by omega) zz))
  by_cases h7 : s.size < 6 + btN s 4 + btN s (5 + btN s 4)
  · rw [if_pos (Or.inr (Or.inr h7))]
    refine Ev.bind (a := (⟨#[]⟩, 0, 0, ⟨#[]⟩, ⟨#[]⟩, 0)) ?_ (Ev.now _)
    unfold spec_l17Get.f
    rw [x1, x2, x3, x4, x5]
    exact Ev.if_neg (by omega) (Ev.if_pos (by omega) (Ev.if_neg (by omega) (Ev.if_pos (by omega) (Ev.if_pos (by omega) (Ev.if_pos (by omega) zz)))))
  rw [if_neg (by omega)]
  have hq3 : (s.extract 1 4).size = 3 := ext_sz s 1 4 (by omega)
  have nq := num_ev (s.extract 1 4) (by omega)
  rw [hq3] at nq
  have tail : ∀ v3 v4 : ByteArray, spec_l17With.f (s.extract 5 (5 + btN s 4)) ((numN (s.extract 1 4) 3 : Nat) : Int) (btN s 0 : Int) (⟨#[]⟩ : ByteArray) (⟨#[]⟩ : ByteArray) (s.extract (6 + btN s 4) (6 + btN s 4 + btN s (5 + btN s 4))) = some (s.extract 5 (5 + btN s 4), ((numN (s.extract 1 4) 3 : Nat) : Int), (btN s 0 : Int), v3, v4) →
      (if (btN s 0 : Int) = 3 then ((⟨#[]⟩ : ByteArray), s.extract (6 + btN s 4) (6 + btN s 4 + btN s (5 + btN s 4))) else (s.extract (6 + btN s 4) (6 + btN s 4 + btN s (5 + btN s 4)), (⟨#[]⟩ : ByteArray))) = (v3, v4) →
      Ev (fun k => (spec_l17Get.f k s).bind fun bt117 => (some (bt117.1, bt117.2.1, bt117.2.2.1, bt117.2.2.2.1, bt117.2.2.2.2.1, bt117.2.2.2.2.2, decide (bt117.2.2.2.2.2 > 0)))) (getR (s.extract 5 (5 + btN s 4)) (numN (s.extract 1 4) 3) (btN s 0) true (s.extract (6 + btN s 4) (6 + btN s 4 + btN s (5 + btN s 4))) true ((6 + btN s 4 + btN s (5 + btN s 4) : Nat) : Int)) := by
    intro v3 v4 hw hv
    have hvd := l17Valid_ev (s.extract 5 (5 + btN s 4)) ((numN (s.extract 1 4) 3 : Nat) : Int) (btN s 0 : Int) v3 v4
    have hgr : getR (s.extract 5 (5 + btN s 4)) (numN (s.extract 1 4) 3) (btN s 0) true (s.extract (6 + btN s 4) (6 + btN s 4 + btN s (5 + btN s 4))) true ((6 + btN s 4 + btN s (5 + btN s 4) : Nat) : Int) = if okRec (s.extract 5 (5 + btN s 4)) ((numN (s.extract 1 4) 3 : Nat) : Int) (btN s 0 : Int) v3 v4 = true then (s.extract 5 (5 + btN s 4), ((numN (s.extract 1 4) 3 : Nat) : Int), (btN s 0 : Int), v3, v4, ((6 + btN s 4 + btN s (5 + btN s 4) : Nat) : Int), true) else zero7 := by
      unfold getR
      rw [hv]
      rfl
    rw [hgr]
    cases hok : okRec (s.extract 5 (5 + btN s 4)) ((numN (s.extract 1 4) 3 : Nat) : Int) (btN s 0 : Int) v3 v4 with
    | true =>
      rw [hok] at hvd
      rw [if_pos rfl]
      refine Ev.bind (a := (s.extract 5 (5 + btN s 4), ((numN (s.extract 1 4) 3 : Nat) : Int), (btN s 0 : Int), v3, v4, ((6 + btN s 4 + btN s (5 + btN s 4) : Nat) : Int))) ?_ ?_
      · unfold spec_l17Get.f
        rw [x0, x1, x2, x3, x4, x5]
        refine Ev.if_neg (by omega) (Ev.if_pos (by omega) (Ev.if_neg (by omega) (Ev.if_pos (by omega) (Ev.if_pos (by omega) (Ev.if_neg (by omega) (Ev.if_pos (by omega) (Ev.if_pos (by omega) (Ev.if_pos (by omega) (Ev.bind nq (Ev.if_pos (by omega) (Ev.if_pos (by omega) (Ev.if_pos (by omega) (Ev.if_pos (by omega) (Ev.if_pos (by omega) ?_))))))))))))))
        exact Ev.bind1 hw (Ev.bind hvd (Ev.if_pos rfl (Ev.now _)))
      · have hpos : decide (((6 + btN s 4 + btN s (5 + btN s 4) : Nat) : Int) > 0) = true := decide_eq_true (by omega)
        show Ev (fun _ => some (s.extract 5 (5 + btN s 4), ((numN (s.extract 1 4) 3 : Nat) : Int), (btN s 0 : Int), v3, v4, ((6 + btN s 4 + btN s (5 + btN s 4) : Nat) : Int), decide (((6 + btN s 4 + btN s (5 + btN s 4) : Nat) : Int) > 0))) _
        rw [hpos]
        exact Ev.now _
    | false =>
      rw [hok] at hvd
      rw [if_neg (by decide)]
      refine Ev.bind (a := (⟨#[]⟩, 0, 0, ⟨#[]⟩, ⟨#[]⟩, 0)) ?_ (Ev.now _)
      unfold spec_l17Get.f
      rw [x0, x1, x2, x3, x4, x5]
      refine Ev.if_neg (by omega) (Ev.if_pos (by omega) (Ev.if_neg (by omega) (Ev.if_pos (by omega) (Ev.if_pos (by omega) (Ev.if_neg (by omega) (Ev.if_pos (by omega) (Ev.if_pos (by omega) (Ev.if_pos (by omega) (Ev.bind nq (Ev.if_pos (by omega) (Ev.if_pos (by omega) (Ev.if_pos (by omega) (Ev.if_pos (by omega) (Ev.if_pos (by omega) ?_))))))))))))))
      exact Ev.bind1 hw (Ev.bind hvd (Ev.if_neg (by decide) zz))
  by_cases z3 : (btN s 0 : Int) = 3
  · exact tail _ _ (by unfold spec_l17With.f; rw [if_pos z3]) (if_pos z3)
  · exact tail _ _ (by unfold spec_l17With.f; rw [if_neg z3]) (if_neg z3)
theorem FnExactGetRecord : laws_FnExactGetRecord.Pure := by
  intro s _
  unfold laws_FnExactGetRecord.f
  refine Ev.rounds ?_
  by_cases hz : (s.size : Int) > 1048576
  · exact Ev.if_pos hz (Ev.now _)
  refine Ev.if_neg hz ?_
  have p := spec_ev s (by omega)
  have q := impl_eq s (by omega)
  generalize gtF s = g at p q
  have he : laws_eqRecord.f g.1 g.2.1 g.2.2.1 g.2.2.2.1 g.2.2.2.2.1 g.1 g.2.1 g.2.2.1 g.2.2.2.1 g.2.2.2.2.1 = some true := by
    unfold laws_eqRecord.f
    rw [if_pos rfl, if_pos rfl, if_pos rfl, if_pos rfl, if_pos rfl]
  exact Ev.bind p (Ev.bind1 q (Ev.bind1 he (Ev.if_pos rfl (Ev.if_pos rfl (Ev.if_neg (by simp) (Ev.now _))))))
end Go.Proofs.Ytolffokfddjceaa.Pure
