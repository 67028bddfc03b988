/- The law FnExactProgramCells, as a statement over numbers and lists. No condition. -/
import Derived.Test.YtlafegjmmbkkpaaDoorSayFnExactProgramCells
import Derived.Test.YtlafegjmmbkkpaaDoorCellsOk
import Derived.Test.YtlafegjmmbkkpaaDoorCellsMark
import Derived.Test.YtlafegjmmbkkpaaDoorXTrim
import Derived.Lib.Strings
namespace Go.Proofs.YtlafegjmmbkkpaaDoor.Pure
open Go.RowKit Go.Proofs.YtlafegjmmbkkpaaDoor.Q Go.Proofs.YtlafegjmmbkkpaaDoorW.PrintWords
set_option linter.unusedVariables false
theorem dropW_twice {α : Type} (p : α → Bool) : ∀ l : List α, (l.dropWhile p).dropWhile p = l.dropWhile p
  | [] => rfl
  | x :: l => by
    cases h : p x with
    | true => rw [List.dropWhile_cons_of_pos h]; exact dropW_twice p l
    | false => rw [List.dropWhile_cons_of_neg (by simp [h]), List.dropWhile_cons_of_neg (by simp [h])]
theorem dropW_nil {α : Type} (p : α → Bool) : ∀ l : List α, l.dropWhile p = [] ↔ ∀ x ∈ l, p x = true
  | [] => by simp
  | x :: l => by
    cases h : p x with
    | true =>
      rw [List.dropWhile_cons_of_pos h, dropW_nil p l]
      simp [h]
    | false => rw [List.dropWhile_cons_of_neg (by simp [h])]; simp [h]
theorem trim_nil (l cs : List UInt8) : Lib.trimS l cs = [] ↔ ∀ x ∈ l, cs.contains x = true := by
  unfold Lib.trimS Lib.trimLeftS Lib.trimRightS
  rw [dropW_nil]
  constructor
  · intro h
    have h2 : (l.reverse.dropWhile (cs.contains ·)).dropWhile (cs.contains ·) = [] := (dropW_nil _ _).2 (fun x hx => h x (List.mem_reverse.2 hx))
    rw [dropW_twice, dropW_nil] at h2
    exact fun x hx => h2 x (List.mem_reverse.2 hx)
  · intro h x hx
    exact h x (List.mem_reverse.1 ((List.dropWhile_sublist _).subset (List.mem_reverse.1 hx)))
def bitB (b : UInt8) : Bool := [48, 49].contains b
def bitsB (s : ByteArray) : Bool := s.data.toList.all bitB
theorem trimF_nil (s : ByteArray) : (trimF s).toList = ([] : List UInt8) ↔ bitsB s = true := by
  rw [Lib.toList_data]
  show Lib.trimS s.data.toList [48, 49] = [] ↔ _
  rw [trim_nil]
  unfold bitsB
  rw [List.all_eq_true]
  rfl
theorem bit_iff (s : ByteArray) (i : Nat) (h : i < s.size) : bitB s[i] = true ↔ bt s i = 48 ∨ bt s i = 49 := by
  rw [bt_get s i h]
  unfold bitB
  have e1 : (s[i] = 48) ↔ s[i].toNat = 48 := by rw [← UInt8.toNat_inj]; rfl
  have e2 : (s[i] = 49) ↔ s[i].toNat = 49 := by rw [← UInt8.toNat_inj]; rfl
  simp only [List.contains_cons, List.contains_nil, Bool.or_false, Bool.or_eq_true, beq_iff_eq, e1, e2]
  omega
theorem bits_loop (s : ByteArray) (hl : s.size ≤ 1048576) (d : Nat) : ∀ i : Nat, i ≤ s.size → s.size - i = d → Ev (fun k => spec_l15Bits.l0 k s i) ((s.data.toList.drop i).all bitB) := by
  have hsz : s.data.toList.length = s.size := by simp
  induction d with
  | zero =>
    intro i h1 h2
    rw [List.drop_of_length_le (by omega)]
    refine Ev.step (f := fun _ => some true) (fun k => ?_) (Ev.now _)
    rw [spec_l15Bits.l0, if_neg (by omega)]
  | succ d ih =>
    intro i h1 h2
    have hi : i < s.size := by omega
    have ei : wrap64 ((i : Int) + 1) = ((i + 1 : Nat) : Int) := by unfold wrap64; omega
    rw [List.drop_eq_getElem_cons (by omega), List.all_cons, show s.data.toList[i]'(by omega) = s[i] from rfl]
    have hb := bit_iff s i hi
    have ih1 := ih (i + 1) (by omega) (by omega)
    by_cases c1 : bt s i = 48
    · rw [hb.2 (.inl c1), Bool.true_and]
      refine Ev.step (fun k => ?_) ih1
      rw [spec_l15Bits.l0, if_pos (by omega), if_pos (by omega), if_pos c1, ei]
    · by_cases c2 : bt s i = 49
      · rw [hb.2 (.inr c2), Bool.true_and]
        refine Ev.step (fun k => ?_) ih1
        rw [spec_l15Bits.l0, if_pos (by omega), if_pos (by omega), if_neg c1, if_pos c2, ei]
      · rw [show bitB s[i] = false from Bool.eq_false_iff.2 (fun h => by rcases hb.1 h with h | h; exact c1 h; exact c2 h), Bool.false_and]
        refine Ev.step (f := fun _ => some false) (fun k => ?_) (Ev.now _)
        rw [spec_l15Bits.l0, if_pos (by omega), if_pos (by omega), if_neg c1, if_neg c2]
theorem bits_ev (s : ByteArray) (hl : s.size ≤ 1048576) : Ev (fun k => spec_l15Bits.f k s) (bitsB s) := by
  have := bits_loop s hl _ 0 (by omega) rfl
  rw [List.drop_zero] at this
  exact this
def pgo (s : ByteArray) : Nat → Nat → List Int → List Int
  | 0, _, acc => acc
  | d + 1, i, acc => pgo s d (i + 1) (if bt s (i : Int) = 48 then acc.set i 255 else acc)
theorem pgo_len (s : ByteArray) : ∀ (d i : Nat) (acc : List Int), (pgo s d i acc).length = acc.length
  | 0, _, _ => rfl
  | d + 1, i, acc => by
    rw [pgo, pgo_len s d]
    by_cases c : bt s (i : Int) = 48
    · rw [if_pos c, List.length_set]
    · rw [if_neg c]
theorem sprog_loop (s : ByteArray) (hl : s.size ≤ 1048576) (d : Nat) : ∀ (i : Nat) (acc : List Int), i ≤ s.size → s.size - i = d → acc.length = s.size → Ev (fun k => spec_ProgramCells.l0 k s i acc) (pgo s d i acc, 0) := by
  induction d with
  | zero =>
    intro i acc h1 h2 h3
    refine Ev.step (f := fun _ => some (acc, 0)) (fun k => ?_) (Ev.now _)
    rw [spec_ProgramCells.l0, if_neg (by omega)]
  | succ d ih =>
    intro i acc h1 h2 h3
    have ei : wrap64 ((i : Int) + 1) = ((i + 1 : Nat) : Int) := by unfold wrap64; omega
    rw [pgo]
    by_cases c : bt s (i : Int) = 48
    · rw [if_pos c]
      refine Ev.step (fun k => ?_) (ih (i + 1) _ (by omega) (by omega) (by rw [List.length_set]; exact h3))
      rw [spec_ProgramCells.l0, if_pos (by omega), if_pos (by omega), if_pos c, if_pos (by omega), Int.toNat_natCast, ei]
    · rw [if_neg c]
      refine Ev.step (fun k => ?_) (ih (i + 1) _ (by omega) (by omega) h3)
      rw [spec_ProgramCells.l0, if_pos (by omega), if_pos (by omega), if_neg c, ei]
theorem iprog_loop (s : ByteArray) (hl : s.size ≤ 1048576) (d : Nat) : ∀ (i : Nat) (acc : List Int), i ≤ s.size → s.size - i = d → acc.length = s.size → Ev (fun k => impl_Cells_programmed.l0 k s (s.size : Int) i acc) (pgo s d i acc) := by
  induction d with
  | zero =>
    intro i acc h1 h2 h3
    refine Ev.step (f := fun _ => some acc) (fun k => ?_) (Ev.now _)
    rw [impl_Cells_programmed.l0, if_neg (by omega)]
  | succ d ih =>
    intro i acc h1 h2 h3
    have ei : wrap64 ((i : Int) + 1) = ((i + 1 : Nat) : Int) := by unfold wrap64; omega
    rw [pgo]
    by_cases c : bt s (i : Int) = 48
    · rw [if_pos c]
      refine Ev.step (fun k => ?_) (ih (i + 1) _ (by omega) (by omega) (by rw [List.length_set]; exact h3))
      rw [impl_Cells_programmed.l0, if_pos (by omega), if_pos (by omega), if_pos (by omega), if_pos c, if_pos (by omega), Int.toNat_natCast, ei]
    · rw [if_neg c]
      refine Ev.step (fun k => ?_) (ih (i + 1) _ (by omega) (by omega) h3)
      rw [impl_Cells_programmed.l0, if_pos (by omega), if_pos (by omega), if_pos (by omega), if_neg c, ei]
def progB (l : List Int) (s : ByteArray) : List Int × Int := if okCells l = true then (if bitsB s = true then (if s.size = l.length then (pgo s s.size 0 l, 0) else ([], 2)) else ([], 1)) else ([], 1)
theorem progB_len (l : List Int) (s : ByteArray) : (progB l s).1.length ≤ l.length := by
  unfold progB
  repeat' split
  · rw [pgo_len]; exact Nat.le_refl _
  · exact Nat.zero_le _
  · exact Nat.zero_le _
  · exact Nat.zero_le _
theorem sprog_ev (l : List Int) (s : ByteArray) (hl : s.size ≤ 1048576) : Ev (fun k => spec_ProgramCells.f k l s) (progB l s) := by
  have off : Ev (fun k => spec_ProgramCells.j0 k s true l) ([], 1) := Ev.step (f := fun _ => some ([], 1)) (fun k => by rw [spec_ProgramCells.j0, if_pos rfl]) (Ev.now _)
  have hv := validCells_ev l
  have hb := bits_ev s hl
  unfold spec_ProgramCells.f progB
  cases ok : okCells l with
  | false =>
    rw [ok] at hv
    rw [if_neg (by decide)]
    exact Ev.bind hv (Ev.if_neg (by decide) off)
  | true =>
    rw [ok] at hv
    rw [if_pos rfl]
    refine Ev.bind hv (Ev.if_pos rfl ?_)
    cases bo : bitsB s with
    | false =>
      rw [bo] at hb
      rw [if_neg (by decide)]
      exact Ev.bind hb off
    | true =>
      rw [bo] at hb
      rw [if_pos rfl]
      refine Ev.bind hb ?_
      by_cases c : s.size = l.length
      · rw [if_pos c]
        refine Ev.step (f := fun k => spec_ProgramCells.l0 k s ((0 : Nat) : Int) l) (fun k => ?_) (sprog_loop s hl _ 0 l (by omega) rfl c.symm)
        rw [spec_ProgramCells.j0, if_neg (by decide), if_pos (by omega)]
        unfold spec_l00Own.f
        simp only [Option.bind_some, List.nil_append, List.length_nil]
        rw [if_pos (by omega)]
        rfl
      · rw [if_neg c]
        refine Ev.step (f := fun _ => some ([], 2)) (fun k => ?_) (Ev.now _)
        rw [spec_ProgramCells.j0, if_neg (by decide), if_neg (by omega)]
theorem iprog_ev (l : List Int) (s : ByteArray) (hl : s.size ≤ 1048576) : Ev (fun k => impl_ProgramCells.f k l s) (progB l s) := by
  have off : Ev (fun k => impl_ProgramCells.j0 k s true l) ([], 1) := Ev.step (f := fun _ => some ([], 1)) (fun k => by rw [impl_ProgramCells.j0, if_pos rfl]) (Ev.now _)
  have ht : strings_Trim.f s (⟨#[48, 49]⟩ : ByteArray) = some (trimF s) := by
    unfold strings_Trim.f
    rw [if_pos ⟨by omega, rfl⟩]
  unfold impl_ProgramCells.f progB
  refine Ev.bind1 (implCells_eq l) ?_
  cases ok : okCells l with
  | false =>
    rw [if_neg (by decide)]
    exact Ev.if_neg (by decide) off
  | true =>
    rw [if_pos rfl]
    refine Ev.if_pos rfl (Ev.bind1 ht ?_)
    have hn := trimF_nil s
    cases bo : bitsB s with
    | false =>
      rw [bo] at hn
      rw [if_neg (by decide), show ((trimF s).toList != ([] : List UInt8)) = true from by simp only [bne_iff_ne, ne_eq, hn]; decide]
      exact off
    | true =>
      rw [bo] at hn
      rw [if_pos rfl, show ((trimF s).toList != ([] : List UInt8)) = false from by rw [hn.2 rfl]; rfl]
      by_cases c : s.size = l.length
      · rw [if_pos c]
        have hp : Ev (fun k => impl_Cells_programmed.f k l s) (pgo s s.size 0 l) := by
          unfold impl_Cells_programmed.f slices_Clone_int64_int64.f
          rw [if_pos (by omega)]
          simp only [Option.bind_some]
          rw [← c]
          exact iprog_loop s hl _ 0 l (by omega) rfl c.symm
        refine Ev.step (f := fun k => (impl_Cells_programmed.f k l s).bind fun t => some (t, 0)) (fun k => ?_) (Ev.bind hp (Ev.now _))
        rw [impl_ProgramCells.j0, if_neg (by decide), if_pos (by omega)]
      · rw [if_neg c]
        refine Ev.step (f := fun _ => some ([], 2)) (fun k => ?_) (Ev.now _)
        rw [impl_ProgramCells.j0, if_neg (by decide), if_neg (by omega)]
theorem FnExactProgramCells : laws_FnExactProgramCells.Pure := by
  intro x s hg hs
  obtain ⟨hl, hb, _⟩ : x.f0.length ≤ maxLen ∧ x.f0.length * 8 ≤ 140737488351232 ∧ _ := hg
  have hm := maxLen_le
  unfold laws_FnExactProgramCells.f
  refine Ev.rounds ?_
  by_cases hz : (s.size : Int) > 1048576
  · exact Ev.if_pos hz (Ev.now _)
  refine Ev.if_neg hz ?_
  obtain ⟨r, e, a, b⟩ := szCells_some x.f0 1048576 (by omega) (by omega) (by omega)
  refine Ev.bind1 e ?_
  by_cases h : r < 0
  · exact Ev.if_pos h (Ev.now _)
  refine Ev.if_neg h ?_
  have hn := b (by omega)
  have h1 := sprog_ev x.f0 s (by omega)
  have h2 := iprog_ev x.f0 s (by omega)
  have hv := progB_len x.f0 s
  generalize progB x.f0 s = v at h1 h2 hv
  have t := toCells_ev x.f0 (by omega)
  have ev := eqCells_self v.1 (by omega)
  have ex := eqCells_self x.f0 (by omega)
  have mx := markCells_ev x.f0 1 (by omega) (by omega)
  have mg := markCells_ev v.1 1 (by omega) (by omega)
  have hd := heldCells_ev v.1.length 1 (by omega) (by omega)
  have q0 : ¬ (1 + (x.f0.length : Int)) < 0 := by omega
  have q1 : ¬ (1 + (v.1.length : Int)) < 0 := by omega
  have j2 : Ev (fun k => laws_FnExactProgramCells.j2 k (1 + (v.1.length : Int)) (v.2 != v.2) (marked 1 v.1.length)) true := by
    refine Ev.step (f := fun k => (laws_heldCells.f k (marked 1 v.1.length) 1).bind fun t => if t < 0 then some false else if t = 1 + (v.1.length : Int) then some true else some false) (fun k => ?_) (Ev.bind hd (Ev.if_neg q1 (Ev.if_pos rfl (Ev.now _))))
    rw [laws_FnExactProgramCells.j2, if_neg (by simp)]
  have j1 : Ev (fun k => laws_FnExactProgramCells.j1 k s v.2 (v.2 != v.2) x.f0 v.1 v.1) true := by
    refine Ev.step (f := fun k => (laws_markCells.f k v.1 1).bind fun bt => (laws_heldCells.f k bt.2 1).bind fun t => if t < 0 then some false else if t = bt.1 then ((laws_toCells.f k x.f0).bind fun t2 => (impl_ProgramCells.f k t2 s).bind fun b2 => (laws_eqCells.f k b2.1 v.1).bind fun t3 => if t3 = true then laws_FnExactProgramCells.j2 k bt.1 (b2.2 != v.2) bt.2 else laws_FnExactProgramCells.j2 k bt.1 true bt.2) else some false) (fun k => ?_) (Ev.bind mg (Ev.bind hd (Ev.if_neg q1 (Ev.if_pos rfl (Ev.bind t (Ev.bind h2 (Ev.bind ev (Ev.if_pos rfl j2))))))))
    rw [laws_FnExactProgramCells.j1, if_neg (by simp)]
  have j0 : Ev (fun k => laws_FnExactProgramCells.j0 k s v.2 v.2 (v.2 != v.2) x.f0 v.1 x.f0 v.1) true := by
    refine Ev.step (f := fun k => (laws_toCells.f k x.f0).bind fun t1 => (laws_eqCells.f k x.f0 t1).bind fun t2 => if t2 = true then ((laws_markCells.f k x.f0 1).bind fun bt => if bt.1 < 0 then laws_FnExactProgramCells.j1 k s v.2 true x.f0 v.1 v.1 else (laws_eqCells.f k v.1 v.1).bind fun t3 => if t3 = true then laws_FnExactProgramCells.j1 k s v.2 (v.2 != v.2) x.f0 v.1 v.1 else laws_FnExactProgramCells.j1 k s v.2 true x.f0 v.1 v.1) else some false) (fun k => ?_) (Ev.bind t (Ev.bind ex (Ev.if_pos rfl (Ev.bind mx (Ev.if_neg q0 (Ev.bind ev (Ev.if_pos rfl j1)))))))
    rw [laws_FnExactProgramCells.j0, if_neg (by simp)]
  exact Ev.bind t (Ev.bind h1 (Ev.bind t (Ev.bind h2 (Ev.bind ev (Ev.if_pos rfl j0)))))
end Go.Proofs.YtlafegjmmbkkpaaDoor.Pure
