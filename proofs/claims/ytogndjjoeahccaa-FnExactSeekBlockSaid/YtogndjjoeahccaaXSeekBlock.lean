/- The contract of the program's SeekBlock. Conditions: those before each theorem. -/
import Derived.Test.YtogndjjoeahccaaQ15
import Derived.Test.YtogndjjoeahccaaXIdxR
import Derived.Test.YtogndjjoeahccaaStrCmp
namespace Go.Proofs.Ytogndjjoeahccaa.Q
open Go.RowKit Go.Proofs.YtogndjjoeahccaaW.PrintWords Go.Proofs.YtogndjjoeahccaaW.PrintMore
set_option linter.unusedVariables false
def skP (key : ByteArray) (seq : Int) (x : S49) : Bool := Op.bytesLess key.toList x.f0.toList || (x.f0.toList == key.toList && decide (x.f1 ≤ seq))
set_option maxHeartbeats 1000000 in
theorem seek_pred (x : S49) (B B2 : Nat) (key : ByteArray) (seq : Int) (W : World) (hc : W.cell? ⟨B, 0, none⟩ = some (.string key)) (hd : W.cell? ⟨B2, 0, none⟩ = some (.int .i64 seq)) :
    Calls Try.prog 56 #[.agg #[.string x.f0, .int .i64 x.f1, .int .i64 x.f2, .string x.f3, .string x.f4], .pointer (some ⟨B, 0, none⟩), .pointer (some ⟨B2, 0, none⟩)] W fun e w' => e = .returned (.bool (skP key seq x)) ∧ Below W.heap.size W w' := by
  have hB : Below W.heap.size W (W.alloc (.cells #[.string x.f0, .int .i64 x.f1, .int .i64 x.f2, .string x.f3, .string x.f4] 49)) := (Below.refl _ _).alloc (Nat.le_refl _) _
  have hc2 := (hB.cell (p := ⟨B, 0, none⟩) (World.block_lt_of_cell? W _ hc)).trans hc
  have hd2 := (hB.cell (p := ⟨B2, 0, none⟩) (World.block_lt_of_cell? W _ hd)).trans hd
  have HB := Aside0.mk hB
  clear hB hc hd
  unfold skP
  cases h1 : Op.bytesLess key.toList x.f0.toList with
  | true =>
    go_enter Try.func56, Try.ntmps56
    go_wp2
    go_ret
    exact ⟨rfl, HB.out⟩
  | false =>
    cases h2 : (x.f0.toList == key.toList) with
    | true =>
      go_enter Try.func56, Try.ntmps56
      go_wp2
      go_ret
      exact ⟨rfl, HB.out⟩
    | false =>
      go_enter Try.func56, Try.ntmps56
      go_wp2
      go_ret
      exact ⟨rfl, HB.out⟩
def seekR (key : ByteArray) (seq : Int) (l : List S49) : Int := if idxOf (skP key seq) l < 0 then (l.length : Int) else idxOf (skP key seq) l
def impl_SeekBlock.f (k : Nat) (a0 a1 : ByteArray) (a2 : Int) : Option (Int × Int) := (impl_seekIn.f k a0 a1).bind fun t => if t.2 = 0 then some (seekR a1 a2 t.1, 0) else some (0, t.2)
set_option maxHeartbeats 2000000 in
theorem impl_SeekBlock.calls (k : Nat) (a0 a1 : ByteArray) (a2 : Int) (r1 r2 : Int) (w : World) (h : impl_SeekBlock.f k a0 a1 a2 = some (r1, r2)) :
    Calls Try.prog 29 #[.string a0, .string a1, .int .i64 a2] w fun e w' => e = .returned (.tuple #[.int .i64 r1, .int .i64 r2]) ∧ Below w.heap.size w w' := by
  obtain ⟨⟨l, c⟩, h1, h2⟩ := Option.bind_eq_some_iff.1 h
  have hB : Below w.heap.size w ((w.alloc (.cells #[.string a1] 9)).alloc (.cells #[.int .i64 a2] 2)) := ((Below.refl _ _).alloc (Nat.le_refl _) _).alloc (by simp) _
  have hsk := impl_seekIn.calls k a0 a1 l c ((w.alloc (.cells #[.string a1] 9)).alloc (.cells #[.int .i64 a2] 2)) h1
  have HB := Aside0.mk hB
  have HBK : Aside0 (((w.alloc (.cells #[.string a1] 9)).alloc (.cells #[.int .i64 a2] 2)).cell? ⟨w.heap.size, 0, none⟩ = some (.string a1) ∧ ((w.alloc (.cells #[.string a1] 9)).alloc (.cells #[.int .i64 a2] 2)).cell? ⟨w.heap.size + 1, 0, none⟩ = some (.int .i64 a2)) := ⟨by
    constructor
    · simp
    · have := blk_new (w.alloc (.cells #[.string a1] 9)) (.cells #[.int .i64 a2] 2)
      simp at this
      rw [World.cell?]
      simp [this]⟩
  by_cases hc : c = 0
  · subst hc
    replace h2 : some (seekR a1 a2 l, (0 : Int)) = some (r1, r2) := h2
    obtain ⟨rfl, rfl⟩ := Prod.mk.inj (Option.some.inj h2)
    have HI : Aside0 (∀ (w1 : World) (A : Option Addr) (cc : Nat), w1.cell? ⟨w.heap.size, 0, none⟩ = some (.string a1) → w1.cell? ⟨w.heap.size + 1, 0, none⟩ = some (.int .i64 a2) → Kd.C k49 w1 A l.length l → l.length ≤ cc →
        Calls Try.prog 55 #[.slice A l.length cc, .func (.func 56) #[] #[.pointer (some ⟨w.heap.size, 0, none⟩), .pointer (some ⟨w.heap.size + 1, 0, none⟩)]] w1 fun e w' => e = .returned (.int .i64 (idxOf (skP a1 a2) l)) ∧ Below w1.heap.size w1 w') := ⟨by
      intro w1 A cc hc1 hc2 hr hcap
      refine idxR_calls A cc l w1 hr hcap 56 #[.pointer (some ⟨w.heap.size, 0, none⟩), .pointer (some ⟨w.heap.size + 1, 0, none⟩)] (skP a1 a2) (enters_of Try.func56 (by kernel_rfl) rfl) (fun W x _ hb => ?_)
      refine (seek_pred x w.heap.size (w.heap.size + 1) a1 a2 W ?_ ?_).mono fun e w' ⟨he, hb'⟩ => ⟨he, hb.trans (hb'.mono hb.size)⟩
      · exact (hb.cell (p := ⟨w.heap.size, 0, none⟩) (World.block_lt_of_cell? w1 _ hc1)).trans hc1
      · exact (hb.cell (p := ⟨w.heap.size + 1, 0, none⟩) (World.block_lt_of_cell? w1 _ hc2)).trans hc2⟩
    unfold seekR
    clear h2 h1 h hB
    generalize idxOf (skP a1 a2) l = t at HI ⊢
    by_cases ht : t < 0
    · rw [if_pos ht]
      go_enter Try.func29, Try.ntmps29
      go_wp2_with (first | (go_at_call 53; refine hsk.mono ?_; rintro e w1 ⟨v, rfl, hv, hb1⟩; obtain ⟨A, cc, rfl⟩ := Kd.R_slice hv; obtain ⟨hnn, hcap, hC⟩ := Kd.R_reads' hv; have HB1 := Aside0.mk (HB.out.trans (hb1.mono HB.out.size)); have k1 := (hb1.cell (p := ⟨w.heap.size, 0, none⟩) (World.block_lt_of_cell? _ _ HBK.out.1)).trans HBK.out.1; have k2 := (hb1.cell (p := ⟨w.heap.size + 1, 0, none⟩) (World.block_lt_of_cell? _ _ HBK.out.2)).trans HBK.out.2; have hi := HI.out w1 A cc k1 k2 hC hcap; clear hv hC hnn hcap hb1 hsk) | (go_at_call 55; refine hi.mono ?_; rintro e w2 ⟨rfl, hb2⟩; clear hi))
      go_ret2
      exact ⟨rfl, HB1.out.trans (hb2.mono HB1.out.size)⟩
    · rw [if_neg ht]
      go_enter Try.func29, Try.ntmps29
      go_wp2_with (first | (go_at_call 53; refine hsk.mono ?_; rintro e w1 ⟨v, rfl, hv, hb1⟩; obtain ⟨A, cc, rfl⟩ := Kd.R_slice hv; obtain ⟨hnn, hcap, hC⟩ := Kd.R_reads' hv; have HB1 := Aside0.mk (HB.out.trans (hb1.mono HB.out.size)); have k1 := (hb1.cell (p := ⟨w.heap.size, 0, none⟩) (World.block_lt_of_cell? _ _ HBK.out.1)).trans HBK.out.1; have k2 := (hb1.cell (p := ⟨w.heap.size + 1, 0, none⟩) (World.block_lt_of_cell? _ _ HBK.out.2)).trans HBK.out.2; have hi := HI.out w1 A cc k1 k2 hC hcap; clear hv hC hnn hcap hb1 hsk) | (go_at_call 55; refine hi.mono ?_; rintro e w2 ⟨rfl, hb2⟩; clear hi))
      go_ret2
      exact ⟨rfl, HB1.out.trans (hb2.mono HB1.out.size)⟩
  · replace h2 : (if c = 0 then some (seekR a1 a2 l, (0 : Int)) else some (0, c)) = some (r1, r2) := h2
    rw [if_neg hc] at h2
    obtain ⟨rfl, rfl⟩ := Prod.mk.inj (Option.some.inj h2)
    clear h2 h1 h hB
    go_enter Try.func29, Try.ntmps29
    go_wp2_with (go_at_call 53; refine hsk.mono ?_; rintro e w1 ⟨v, rfl, hv, hb1⟩; obtain ⟨A, cc, rfl⟩ := Kd.R_slice hv; have HB1 := Aside0.mk (HB.out.trans (hb1.mono HB.out.size)); clear hv hb1 hsk)
    go_ret2
    exact ⟨rfl, HB1.out⟩
end Go.Proofs.Ytogndjjoeahccaa.Q
