/- The contract of strings.Split at " ". Conditions: the string is short enough; the library's variables are laid (TW). -/
import Derived.Test.YtogndjjoeahccaaDoorXDecimal
namespace Go.Proofs.YtogndjjoeahccaaDoor.Q
open Go.RowKit Go.Sort Go.Proofs.YtogndjjoeahccaaDoorW.PrintWords
set_option linter.unusedVariables false
def spcB : ByteArray := ⟨#[32]⟩
def splitS (s : ByteArray) : List ByteArray := Lib.splitB spcB 0 (Lib.countB s spcB) s
theorem splitS_len (s : ByteArray) : (splitS s).length = Lib.countB s spcB + 1 := Lib.splitB_all spcB (by decide) 0 _ s rfl
def strings_Split.f (a0 a1 : ByteArray) : Option (List ByteArray) := if a0.size < 4294967281 ∧ a1 = spcB then some (splitS a0) else none
theorem strings_Split.calls (a0 a1 : ByteArray) (r : List ByteArray) (w : World) (htw : TW w) (h : strings_Split.f a0 a1 = some r) :
    Calls Tryd.prog 19 #[.string a0, .string a1] w fun e w' => ∃ v0_ : Value, e = .returned (v0_) ∧ Kd.R Kd.string 9 w' w.heap.size (fun _ => True) v0_ r ∧ Below w.heap.size w w' := by
  unfold strings_Split.f at h
  by_cases c : a0.size < 4294967281 ∧ a1 = spcB
  · rw [if_pos c] at h
    obtain rfl := Option.some.inj h
    obtain ⟨hs, rfl⟩ := c
    obtain ⟨_, ⟨m, hm⟩, _⟩ := htw
    have hcon := Any.strings_Split (P := Tryd.prog) (ρ := Tryd.splitL_ren) { Tryd.splitL with } Tryd.splitL.i9 a0 spcB m w hs hm (by decide)
    refine Calls.mono hcon ?_
    rintro e w' ⟨he, hw⟩
    have hl := splitS_len a0
    rw [← hl] at he
    subst he hw
    refine ⟨_, rfl, ⟨fun _ _ => trivial, (splitS a0).map Value.string, ?_, ?_⟩, below_alloc (Below.refl _ _) _⟩
    · have h2 := World.ownsRow_lit (base := w.heap.size) (e := 9) (size := 1) w ((splitS a0).map Value.string).toArray (splitS a0).length (Nat.le_refl _) (by
        have := Lib.countB_le spcB (by decide) a0.size a0 (Nat.le_refl _)
        have hm : 4294967282 ≤ maxLen := by decide
        omega) (by simp)
      rw [List.toList_toArray] at h2
      exact h2
    · refine ⟨by simp [Kd.string, Kd.scalar], fun j p hj => ?_⟩
      show Kd.string.M _ _ _ p _
      have hjl := (List.getElem?_eq_some_iff.1 hj).1
      have hp := (List.getElem?_eq_some_iff.1 hj).2
      show (((splitS a0).map Value.string).drop (j * 1)).take 1 = [Value.string p]
      rw [Nat.mul_one, List.drop_eq_getElem_cons (by simpa using hjl), List.take_succ_cons, List.take_zero, List.getElem_map, hp]
  · rw [if_neg c] at h
    cases h
end Go.Proofs.YtogndjjoeahccaaDoor.Q
