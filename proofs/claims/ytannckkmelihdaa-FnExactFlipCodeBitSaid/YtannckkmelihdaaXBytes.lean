/- A row of bytes that a conversion from a string has made: reading and writing it. Conditions: those before each theorem. -/
import Derived.Test.YtannckkmelihdaaQ0
import Derived.Lib.ConvBytes
namespace Go.Proofs.Ytannckkmelihdaa.Q
open Go.RowKit Go.Proofs.YtannckkmelihdaaW.PrintWords
set_option linter.unusedVariables false
/-- Block g holds a conversion's row, whose first n bytes are bs. -/
def BRow (W : World) (g : Nat) (e : TypeId) (n : Nat) (bs : List Int) : Prop := ∃ cells : Array Value, W.heap[g]? = some (.cells cells e (cells.size, cells.size + 1)) ∧ bs.length = n ∧ n ≤ cells.size ∧ ∀ j, j < n → cells[j]? = some (.int .u8 (bs.getD j 0))
theorem brow_start (W : World) (e : TypeId) (s : ByteArray) : BRow (Lib.bytesWorld W e s) W.heap.size e s.size (bytesOf s) := by
  refine ⟨Lib.bytesCells W e s, Lib.bytesWorld_at_new W e s, bytesOf_length s, by unfold Lib.bytesCells; rw [Array.size_append, Array.size_map]; exact Nat.le_add_right _ _, fun j hj => ?_⟩
  have h := Lib.bytesWorld_cell W e s j hj
  rw [World.cell?, Lib.bytesWorld_at_new] at h
  have h' : j < s.data.toList.length := by rw [data_length]; exact hj
  have e2 : (bytesOf s).getD j 0 = ((s.data.toList.getD j 0).toNat : Int) := by
    simp [bytesOf, List.getD_eq_getElem?_getD, List.getElem?_eq_getElem h']
  rw [e2]
  simpa using h
theorem brow_cell {W : World} {g n : Nat} {e : TypeId} {bs : List Int} (h : BRow W g e n bs) (j : Nat) (hj : j < n) : W.cell? ⟨g, j, none⟩ = some (.int .u8 (bs.getD j 0)) ∧ W.frozen? ⟨g, j, none⟩ = false := by
  obtain ⟨cells, h1, h2, h3, h4⟩ := h
  constructor
  · rw [World.cell?]
    simp [h1, h4 j hj]
  · simp [World.frozen?, h1]
    omega
theorem brow_reads {W : World} {g n : Nat} {e : TypeId} {bs : List Int} (h : BRow W g e n bs) (hn : n ≤ 9223372036854775807) : ReadsInt W .u8 (some ⟨g, 0, none⟩) n bs := by
  have hl : bs.length = n := by obtain ⟨c, _, h2, _⟩ := h; exact h2
  refine ⟨hl, hn, fun _ => ⟨_, rfl, fun j hj => ?_⟩⟩
  rw [add_plain]
  exact (brow_cell h j (by omega)).1
theorem brow_set {W : World} {g n : Nat} {e : TypeId} {bs : List Int} (h : BRow W g e n bs) (j : Nat) (hj : j < n) (x : Int) : BRow (W.setCell ⟨g, j, none⟩ (.int .u8 x)) g e n (bs.set j x) := by
  obtain ⟨cells, h1, h2, h3, h4⟩ := h
  refine ⟨cells.setIfInBounds j (.int .u8 x), ?_, by rw [List.length_set, h2], by simpa using h3, fun i hi => ?_⟩
  · rw [setCell_eq_setRow W g j cells e _ _ h1]
    have := setRow_heap W g cells (cells.setIfInBounds j (.int .u8 x)) e _ h1
    rw [this]
    simp
  · rw [Array.getElem?_setIfInBounds, List.getD_eq_getElem?_getD, List.getElem?_set]
    by_cases c : j = i
    · subst c
      rw [if_pos rfl, if_pos (by omega), if_pos rfl, if_pos (by omega)]
      rfl
    · rw [if_neg c, if_neg c, h4 i hi, List.getD_eq_getElem?_getD]
theorem brow_below {B : Nat} {w W : World} {g j : Nat} {v : Value} (h : Below B w W) (hg : B ≤ g) : Below B w (W.setCell ⟨g, j, none⟩ v) :=
  h.trans ⟨rfl, rfl, rfl, by simp [World.setCell], fun i hi => heap_setCell_other W _ i v (by show i ≠ g; omega)⟩
theorem brow_keep {W W' : World} {g n B : Nat} {e : TypeId} {bs : List Int} (h : BRow W g e n bs) (hb : Below B W W') (hg : g < B) : BRow W' g e n bs := by
  obtain ⟨cells, h1, h2⟩ := h
  exact ⟨cells, (hb.block g hg).trans h1, h2⟩
theorem brow_lt {W : World} {g n : Nat} {e : TypeId} {bs : List Int} (h : BRow W g e n bs) : g < W.heap.size := by
  obtain ⟨cells, h1, _⟩ := h
  exact (Array.getElem?_eq_some_iff.1 h1).1
end Go.Proofs.Ytannckkmelihdaa.Q
