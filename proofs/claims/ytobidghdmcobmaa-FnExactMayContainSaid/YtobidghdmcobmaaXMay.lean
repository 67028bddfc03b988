/- The contract of the program's may: no probe of a key finds a bit at rest. Conditions: those before each theorem. -/
import Derived.Test.YtobidghdmcobmaaQ1
import Derived.Test.YtobidghdmcobmaaXIdxI
namespace Go.Proofs.Ytobidghdmcobmaa.Q
open Go.RowKit Go.Proofs.YtobidghdmcobmaaW.PrintWords Go.Proofs.YtobidghdmcobmaaW.PrintMore
set_option linter.unusedVariables false
/-- A bit of a filter. -/
def bitOf (f : ByteArray) (b : Int) : Int := Go.bits .and .u8 (bt f (b / 8) / 2 ^ (b % 8).toNat) 1
theorem may_pred (b : Int) (B : Nat) (f : ByteArray) (W : World) (hc : W.cell? ⟨B, 0, none⟩ = some (.string f)) (h0 : 0 ≤ b) (h1 : b < 8 * f.size) (hf : f.size ≤ 1000000000) :
    Calls Try.prog 59 #[.int .i64 b, .pointer (some ⟨B, 0, none⟩)] W fun e w' => e = .returned (.bool (decide (bitOf f b = 0))) ∧ w' = W := by
  have hlt : (b / 8).toNat < f.size := by omega
  have e : bt f (b / 8) = ((f[(b / 8).toNat]'hlt).toNat : Int) := by unfold bt; rw [dif_pos hlt]
  unfold bitOf
  rw [e]
  clear e
  go_enter Try.func59, Try.ntmps59
  go_wp2
  go_ret
  exact ⟨rfl, rfl⟩
def impl_may.f (k : Nat) (a0 a1 : ByteArray) : Option Bool := (impl_probes.f k a1 (a0.size : Int)).bind fun l => if a0.size ≤ 1000000000 then (if (l.all fun b => decide (0 ≤ b ∧ b < 8 * (a0.size : Int))) = true then some (!(l.any fun b => decide (bitOf a0 b = 0))) else none) else none
theorem impl_may.mono : ∀ a0 a1 k, LeO (impl_may.f k a0 a1) (impl_may.f (k + 1) a0 a1) := fun a0 a1 k => LeO.bind (impl_probes.mono a1 (a0.size : Int) k) (fun _ => LeO.refl _)
theorem impl_may.calls (k : Nat) (a0 a1 : ByteArray) (r : Bool) (w : World) (h : impl_may.f k a0 a1 = some r) :
    Calls Try.prog 40 #[.string a0, .string a1] w fun e w' => e = .returned (.bool r) ∧ Below w.heap.size w w' := by
  obtain ⟨l, h1, h2⟩ := Option.bind_eq_some_iff.1 h
  by_cases hf : a0.size ≤ 1000000000
  · rw [if_pos hf] at h2
    by_cases ha : (l.all fun b => decide (0 ≤ b ∧ b < 8 * (a0.size : Int))) = true
    · rw [if_pos ha] at h2
      obtain rfl := Option.some.inj h2
      have hin : ∀ b ∈ l, 0 ≤ b ∧ b < 8 * (a0.size : Int) := fun b hb => by simpa using List.all_eq_true.1 ha b hb
      have hB : Below w.heap.size w (w.alloc (.cells #[.string a0] 9)) := (Below.refl _ w).alloc (Nat.le_refl _) _
      have hpr := impl_probes.calls k a1 (a0.size : Int) l (w.alloc (.cells #[.string a0] 9)) h1
      have eg : ∀ args w, (callFunc 59 args).run Try.prog w = .ok (.enter 59 args) w := enters_of Try.func59 (by kernel_rfl) rfl
      have HCON : Aside0 (∀ w1 A c, Below (w.alloc (.cells #[.string a0] 9)).heap.size (w.alloc (.cells #[.string a0] 9)) w1 → Kd.C (Kd.int .i64) w1 A l.length l → l.length ≤ c → Calls Try.prog 57 #[.slice A l.length c, .func (.func 59) #[] #[.pointer (some ⟨w.heap.size, 0, none⟩)]] w1 fun e w' => e = .returned (.bool (l.any fun b => decide (bitOf a0 b = 0))) ∧ Below w1.heap.size w1 w') := ⟨by
        intro w1 A c hb1 hc1 hcap
        have hs : w.heap.size < w1.heap.size := by have := hb1.size; simp at this; omega
        refine anyI_calls A c l w1 hc1 hcap 59 #[.pointer (some ⟨w.heap.size, 0, none⟩)] _ eg (fun W x hx hb => ?_)
        refine (may_pred x w.heap.size a0 W ?_ (hin x hx).1 (hin x hx).2 hf).mono fun e w' ⟨he, hw⟩ => ⟨he, by rw [hw]; exact hb⟩
        exact ((hb.cell (p := ⟨w.heap.size, 0, none⟩) hs).trans (hb1.cell (p := ⟨w.heap.size, 0, none⟩) (by simp))).trans (by simp)⟩
      have HBW := Aside0.mk hB
      clear hB hin ha h h1 h2 eg
      generalize (l.any fun b => decide (bitOf a0 b = 0)) = r at HCON ⊢
      go_enter Try.func40, Try.ntmps40
      go_wp2_with fail
      refine hpr.mono ?_
      rintro e w1 ⟨v, rfl, hv, hb1⟩
      obtain ⟨A, c, rfl, hcap, hcc⟩ := Kd.R_reads hv
      have hcon := HCON.out w1 A c hb1 hcc hcap
      have HB1 := Aside0.mk hb1
      clear HCON hpr hv hcap hcc hb1
      go_wp2_with (go_at_call 57; refine hcon.mono ?_; rintro e w2 ⟨rfl, hb2⟩)
      go_ret
      exact ⟨rfl, HBW.out.trans ((HB1.out.trans (hb2.mono HB1.out.size)).mono (by simp))⟩
    · rw [if_neg ha] at h2
      exact absurd h2 (by simp)
  · rw [if_neg hf] at h2
    exact absurd h2 (by simp)
end Go.Proofs.Ytobidghdmcobmaa.Q
