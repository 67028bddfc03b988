/- The contract of the program's decimal, over strconv.FormatInt. Conditions: the number is an int64; the library's variables are laid (TW). -/
import Derived.Test.YtogndjjoeahccaaDoorShelf
import Derived.Test.YtogndjjoeahccaaDoorQ0
namespace Go.Proofs.YtogndjjoeahccaaDoor.Q
open Go.RowKit Go.Sort Go.Proofs.YtogndjjoeahccaaDoorW.PrintWords
set_option linter.unusedVariables false
theorem gPow : Tryd.prog.globalNamed "internal/strconv.uint64pow10" = some 5 := by kernel_rfl
def ErrAt (w : World) (g : Nat) : Prop := ∃ ev, w.cell? ⟨g, 0, none⟩ = some ev ∧ (ev = .nilIface ∨ ∃ te pe, ev = .iface te pe)
def TW (w : World) : Prop := Lib.TabIs Tryd.prog w "internal/strconv.uint64pow10" .u64 Lib.pow10Tab ∧ (∃ m : Int, w.cell? ⟨0, 0, none⟩ = some (.int .i64 m)) ∧ ErrAt w 1 ∧ ErrAt w 2
theorem TW_below {w W : World} (h : TW w) (hb : Below w.heap.size w W) : TW W := by
  obtain ⟨h1, ⟨m, h2⟩, ⟨v3, h3, k3⟩, ⟨v4, h4, k4⟩⟩ := h
  refine ⟨?_, ⟨m, (hb.cell (World.block_lt_of_cell? _ _ h2)).trans h2⟩, ⟨v3, (hb.cell (World.block_lt_of_cell? _ _ h3)).trans h3, k3⟩, ⟨v4, (hb.cell (World.block_lt_of_cell? _ _ h4)).trans h4, k4⟩⟩
  unfold Lib.TabIs World.var? at h1 ⊢
  rw [gPow] at h1 ⊢
  simp only [Option.bind_some] at h1 ⊢
  have hlt : 5 < w.heap.size := by
    rcases Nat.lt_or_ge 5 w.heap.size with h' | h'
    · exact h'
    · rw [Array.getElem?_eq_none h'] at h1; cases h1
  rw [hb.block _ hlt]
  exact h1
theorem below_grow {w W : World} {k : Nat} {os : Array Obj} (h : W = grow (w.drewN k) os) : Below w.heap.size w W := by
  subst h
  refine ⟨rfl, rfl, rfl, ?_, fun i hi => heap_grow_old _ _ hi⟩
  rw [size_grow]
  exact Nat.le_add_right _ _
def decB (n : Int) : ByteArray := ⟨(Lib.itoa n).toArray⟩
def impl_decimal.f (a0 : Int) : Option ByteArray := if -9223372036854775808 ≤ a0 ∧ a0 ≤ 9223372036854775807 then some (decB a0) else none
theorem impl_decimal.calls (a0 : Int) (r : ByteArray) (w : World) (htw : TW w) (h : impl_decimal.f a0 = some r) :
    Calls Tryd.prog 34 #[.int .i64 a0] w fun e w' => e = .returned (.string r) ∧ Below w.heap.size w w' := by
  unfold impl_decimal.f at h
  by_cases c : -9223372036854775808 ≤ a0 ∧ a0 ≤ 9223372036854775807
  · rw [if_pos c] at h
    obtain rfl := Option.some.inj h
    have hcon := Any.strconv_FormatInt_10 Tryd.fmtL a0 c.1 c.2 w htw.1
    change Calls Tryd.prog 45 _ _ _ at hcon
    clear h htw c
    unfold decB
    generalize (⟨(Lib.itoa a0).toArray⟩ : ByteArray) = r at hcon ⊢
    go_enter Tryd.func34, Tryd.ntmps34
    go_wp2_with (go_at_call 45; refine hcon.mono ?_; rintro e w1 ⟨rfl, k, os, hw⟩)
    go_ret
    exact ⟨rfl, by first | exact below_grow hw | exact below_grow rfl⟩
  · rw [if_neg c] at h
    cases h
end Go.Proofs.YtogndjjoeahccaaDoor.Q
