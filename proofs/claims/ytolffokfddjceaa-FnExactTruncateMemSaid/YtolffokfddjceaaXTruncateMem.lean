/- The contract of the program's TruncateMem. Conditions: those before each theorem. -/
import Derived.Test.YtolffokfddjceaaQ10
import Derived.Test.YtolffokfddjceaaXCloneR
import Derived.Test.YtolffokfddjceaaXDelR
namespace Go.Proofs.Ytolffokfddjceaa.Q
open Go.RowKit Go.Proofs.YtolffokfddjceaaW.PrintWords Go.Proofs.YtolffokfddjceaaW.PrintMore
set_option linter.unusedVariables false
set_option maxHeartbeats 1000000 in
theorem trunc_pred (x : S26) (B : Nat) (s : Int) (W : World) (hc : W.cell? ⟨B, 0, none⟩ = some (.int .i64 s)) :
    Calls Try.prog 71 #[.agg #[.string x.f0, .int .i64 x.f1, .int .i64 x.f2, .string x.f3, .string x.f4], .pointer (some ⟨B, 0, none⟩)] W fun e w' => e = .returned (.bool (decide (x.f1 ≤ s))) ∧ Below W.heap.size W w' := by
  have hB : Below W.heap.size W (W.alloc (.cells #[.string x.f0, .int .i64 x.f1, .int .i64 x.f2, .string x.f3, .string x.f4] 26)) := (Below.refl _ _).alloc (Nat.le_refl _) _
  have hc2 := (hB.cell (p := ⟨B, 0, none⟩) (World.block_lt_of_cell? W _ hc)).trans hc
  have HB := Aside0.mk hB
  clear hB hc
  go_enter Try.func71, Try.ntmps71
  go_wp2
  go_ret
  exact ⟨rfl, HB.out⟩
def impl_TruncateMem.f (l0 : List S26) (a1 : Int) : Option (List S26 × Int) := (impl_ValidMem.f l0).bind fun t => if t = true then (if l0.length < 2199023255552 then some (l0.filter (fun x => !decide (x.f1 ≤ a1)), 0) else none) else some ([], 1)
set_option maxHeartbeats 2000000 in
theorem impl_TruncateMem.calls (A0 : Option Addr) (c0 : Nat) (l0 : List S26) (a1 : Int) (r1 : List S26) (r2 : Int) (w : World) (hr0 : Kd.C k26 w A0 l0.length l0) (hc0 : l0.length ≤ c0) (h : impl_TruncateMem.f l0 a1 = some (r1, r2)) :
    Calls Try.prog 42 #[.slice A0 l0.length c0, .int .i64 a1] w fun e w' => ∃ v0_ : Value, e = .returned (.tuple #[v0_, .int .i64 r2]) ∧ Kd.R k26 26 w' w.heap.size (fun _ => True) v0_ r1 ∧ Below w.heap.size w w' := by
  obtain ⟨b, h1, h2⟩ := Option.bind_eq_some_iff.1 h
  have hB : Below w.heap.size w (w.alloc (.cells #[.int .i64 a1] 2)) := (Below.refl _ _).alloc (Nat.le_refl _) _
  have hvm := impl_ValidMem.calls A0 c0 l0 b (w.alloc (.cells #[.int .i64 a1] 2)) (Kd.C_below hr0 hB) hc0 h1
  have HB := Aside0.mk hB
  have HBK : Aside0 ((w.alloc (.cells #[.int .i64 a1] 2)).cell? ⟨w.heap.size, 0, none⟩ = some (.int .i64 a1)) := ⟨by simp⟩
  have HR := Aside0.mk hr0
  cases b with
  | false =>
    rw [if_neg (by decide)] at h2
    obtain ⟨rfl, rfl⟩ := Prod.mk.inj (Option.some.inj h2)
    clear h2 h1 h hB hr0
    go_enter Try.func42, Try.ntmps42
    go_wp2_with (go_at_call 34; refine hvm.mono ?_; rintro e w1 ⟨rfl, hb1⟩)
    go_ret2
    exact ⟨_, rfl, Kd.R_nil _ _ _ _ _, HB.out.trans (hb1.mono HB.out.size)⟩
  | true =>
    rw [if_pos rfl] at h2
    by_cases hl : l0.length < 2199023255552
    · rw [if_pos hl] at h2
      obtain ⟨rfl, rfl⟩ := Prod.mk.inj (Option.some.inj h2)
      have HC : Aside0 (∀ w1, Below w.heap.size w w1 → Calls Try.prog 70 #[.slice A0 l0.length c0] w1 fun e w' => ∃ v0_ : Value, e = .returned (v0_) ∧ Kd.R k26 26 w' w1.heap.size (fun _ => True) v0_ l0 ∧ Below w1.heap.size w1 w') := ⟨fun w1 hb => slices_Clone_Record.calls A0 c0 l0 l0 w1 (Kd.C_below hr0 hb) hc0 (if_pos hl)⟩
      have HD : Aside0 (∀ (w1 w2 : World) (A : Option Addr) (c : Nat), w1.cell? ⟨w.heap.size, 0, none⟩ = some (.int .i64 a1) → Below w1.heap.size w1 w2 → Kd.R k26 26 w2 w1.heap.size (fun _ => True) (.slice A l0.length c) l0 →
          Calls Try.prog 69 #[.slice A l0.length c, .func (.func 71) #[] #[.pointer (some ⟨w.heap.size, 0, none⟩)]] w2 fun e w' => ∃ v, e = .returned v ∧ Kd.R k26 26 w' w1.heap.size (fun _ => True) v (l0.filter fun x => !decide (x.f1 ≤ a1)) ∧ Below w1.heap.size w1 w') := ⟨by
        intro w1 w2 A c hcell hb hr
        have hlt := World.block_lt_of_cell? w1 _ hcell
        refine delR_calls A c l0 w1 w2 w1.heap.size _ hr hb hb.size 71 #[.pointer (some ⟨w.heap.size, 0, none⟩)] (fun x => decide (x.f1 ≤ a1)) (enters_of Try.func71 (by kernel_rfl) rfl) (fun W x _ hs hh => ?_)
        refine trunc_pred x w.heap.size a1 W ?_
        have h0 : W.heap[w.heap.size]? = w2.heap[w.heap.size]? := hh _ (Nat.lt_of_lt_of_le hlt hb.size) (fun e => by have := Kd.R_base hr _ e.symm; exact absurd hlt (by show ¬ w.heap.size < _; omega))
        exact ((World.cell?_of_block (a := ⟨w.heap.size, 0, none⟩) h0).trans (hb.cell (p := ⟨w.heap.size, 0, none⟩) hlt)).trans hcell⟩
      clear h2 h1 h hB hr0 hl
      generalize l0.filter (fun x => !decide (x.f1 ≤ a1)) = rr at HD ⊢
      go_enter Try.func42, Try.ntmps42
      go_wp2_with fail
      refine hvm.mono ?_
      rintro e w1 ⟨rfl, hb1⟩
      have HB1 := Aside0.mk (HB.out.trans (hb1.mono HB.out.size))
      have HCE := Aside0.mk ((hb1.cell (p := ⟨w.heap.size, 0, none⟩) (World.block_lt_of_cell? _ _ HBK.out)).trans HBK.out)
      clear hvm hb1
      go_wp2_with fail
      refine (HC.out w1 HB1.out).mono ?_
      rintro e w2 ⟨v, rfl, hv, hb2⟩
      obtain ⟨A, c, rfl⟩ := Kd.R_slice hv
      have hd := HD.out w1 w2 A c HCE.out hb2 hv
      clear hv hb2
      go_wp2_with (go_at_call 69; refine hd.mono ?_; rintro e w3 ⟨v3, rfl, hv3, hb3⟩; have HV3 := Aside0.mk hv3; have HB3 := Aside0.mk hb3; clear hv3 hb3)
      go_ret2
      exact ⟨_, rfl, Kd.R_lower HV3.out HB1.out.size, HB1.out.trans (HB3.out.mono HB1.out.size)⟩
    · rw [if_neg hl] at h2
      cases h2
end Go.Proofs.Ytolffokfddjceaa.Q
