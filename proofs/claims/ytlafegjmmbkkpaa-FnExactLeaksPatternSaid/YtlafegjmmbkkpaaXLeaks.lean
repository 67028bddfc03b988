/- The contract of the program's LeaksPattern. No condition beyond what the walk reads. -/
import Derived.Test.YtlafegjmmbkkpaaQ1
import Derived.Test.YtlafegjmmbkkpaaXIdxI
namespace Go.Proofs.Ytlafegjmmbkkpaa.Q
open Go.RowKit Go.Proofs.YtlafegjmmbkkpaaW.PrintWords Go.Proofs.YtlafegjmmbkkpaaW.PrintMore
set_option linter.unusedVariables false
def impl_LeaksPattern.f (l0 : List Int) : Option Bool := (impl_ValidCells.f l0).bind fun t => if t = true then some (l0.any fun n => n != rd l0 0) else some false
theorem leaks_pred (x : Int) (B : Nat) (A : Option Addr) (c : Nat) (l : List Int) (W : World) (hb : W.cell? ⟨B, 0, none⟩ = some (.slice A l.length c)) (hr : Kd.C (Kd.int .i64) W A l.length l) (hl : 0 < l.length) :
    Calls Try.prog 32 #[.int .i64 x, .pointer (some ⟨B, 0, none⟩)] W fun e w' => e = .returned (.bool (x != rd l 0)) ∧ w' = W := by
  obtain ⟨ad, rfl, hcell⟩ := Kd.at_int hr 0 (by omega) (by omega)
  have hli : (0 : Int) < (l.length : Int) := by omega
  have hu := Try.underlying27
  have HR := Aside0.mk hr
  clear hr
  generalize rd l 0 = y at hcell ⊢
  have hcell2 : W.cell? ad = some (.int .i64 y) := by simpa [Addr.add] using hcell
  clear hcell
  go_enter Try.func32, Try.ntmps32
  go_wp2
  go_ret
  exact ⟨rfl, rfl⟩
set_option maxHeartbeats 1000000 in
theorem impl_LeaksPattern.calls (A0 : Option Addr) (c0 : Nat) (l0 : List Int) (r : Bool) (w : World) (hr0 : Kd.C (Kd.int .i64) w A0 l0.length l0) (hc0 : l0.length ≤ c0) (h : impl_LeaksPattern.f l0 = some r) :
    Calls Try.prog 15 #[.agg #[.slice A0 l0.length c0]] w fun e w' => e = .returned (.bool r) ∧ Below w.heap.size w w' := by
  obtain ⟨t, h1, h2⟩ := Option.bind_eq_some_iff.1 h
  have H1 := Aside0.mk h1
  clear h h1
  have hB : Below w.heap.size w (w.alloc (.cells #[.slice A0 l0.length c0] 27)) := (Below.refl _ w).alloc (Nat.le_refl _) _
  have hu := Try.underlying27
  have HR := Aside0.mk hr0
  have HC := Aside0.mk hc0
  have HBW := Aside0.mk hB
  clear hr0 hc0 hB
  cases t with
  | false =>
    obtain rfl := Option.some.inj h2
    go_enter Try.func15, Try.ntmps15
    go_wp2_with (go_at_call 12; refine (impl_ValidCells.calls A0 c0 l0 false _ (Kd.C_below HR.out HBW.out) HC.out H1.out).mono ?_; rintro e w1 ⟨rfl, hb1⟩)
    go_ret
    exact ⟨rfl, HBW.out.trans (hb1.mono (by simp))⟩
  | true =>
    obtain rfl := Option.some.inj h2
    have eg : ∀ args w, (callFunc 32 args).run Try.prog w = .ok (.enter 32 args) w := enters_of Try.func32 (by kernel_rfl) rfl
    have hcon : ∀ w1, Below (w.alloc (.cells #[.slice A0 l0.length c0] 27)).heap.size (w.alloc (.cells #[.slice A0 l0.length c0] 27)) w1 →
        Calls Try.prog 31 #[.slice A0 l0.length c0, .func (.func 32) #[] #[.pointer (some ⟨w.heap.size, 0, none⟩)]] w1 fun e w' => e = .returned (.bool (l0.any fun n => n != rd l0 0)) ∧ Below w1.heap.size w1 w' := by
      intro w1 hb1
      have hr1 : Kd.C (Kd.int .i64) w1 A0 l0.length l0 := Kd.C_below (Kd.C_below HR.out HBW.out) hb1
      refine anyI_calls A0 c0 l0 w1 hr1 HC.out 32 #[.pointer (some ⟨w.heap.size, 0, none⟩)] (fun n => n != rd l0 0) eg (fun W x hx hb => ?_)
      have hs : w.heap.size < w1.heap.size := by have := hb1.size; simp at this; omega
      refine (leaks_pred x w.heap.size A0 c0 l0 W ?_ (Kd.C_below hr1 hb) (List.length_pos_of_mem hx)).mono fun e w' ⟨he, hw⟩ => ⟨he, by rw [hw]; exact hb⟩
      exact ((hb.cell (p := ⟨w.heap.size, 0, none⟩) hs).trans (hb1.cell (p := ⟨w.heap.size, 0, none⟩) (by simp))).trans (by simp)
    generalize (l0.any fun n => n != rd l0 0) = r at hcon ⊢
    have HCON := Aside0.mk hcon
    clear hcon eg
    go_enter Try.func15, Try.ntmps15
    go_wp2_with fail
    refine (impl_ValidCells.calls A0 c0 l0 true _ (Kd.C_below HR.out HBW.out) HC.out H1.out).mono ?_
    rintro e w1 ⟨rfl, hb1⟩
    have hcell : w1.cell? ⟨w.heap.size, 0, none⟩ = some (.slice A0 l0.length c0) := (hb1.cell (p := ⟨w.heap.size, 0, none⟩) (by simp)).trans (by simp)
    have HB1 := Aside0.mk hb1
    clear hb1
    go_wp2_with (go_at_call 31; refine (HCON.out _ HB1.out).mono ?_; rintro e w2 ⟨rfl, hb2⟩)
    go_ret
    exact ⟨rfl, HBW.out.trans ((HB1.out.trans (hb2.mono HB1.out.size)).mono (by simp))⟩
end Go.Proofs.Ytlafegjmmbkkpaa.Q
