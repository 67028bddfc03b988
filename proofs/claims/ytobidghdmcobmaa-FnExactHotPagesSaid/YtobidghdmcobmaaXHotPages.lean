/- The contract of the specification's HotPages, which hands the address of its parameter on. Conditions: those before each theorem. -/
import Derived.Test.YtobidghdmcobmaaHeatOk
namespace Go.Proofs.Ytobidghdmcobmaa.Q
open Go.RowKit Go.Proofs.YtobidghdmcobmaaW.PrintWords Go.Proofs.YtobidghdmcobmaaW.PrintMore
set_option linter.unusedVariables false
def hotFrom (l : List Int) : Nat → Nat → List Int
  | 0, _ => []
  | d + 1, i => if hotB l i = true then (i : Int) :: hotFrom l d (i + 1) else hotFrom l d (i + 1)
def spec_HotPages.f (l : List Int) (x : Int) : Option (List Int) := if l.length ≤ 1000000000 then some (if okHeat l x = true then hotFrom l l.length 0 else []) else none
theorem l13Ok_calls (g : Nat) (l : List Int) (x : Int) (w0 w : World) (hl : l.length ≤ 1000000000) (hI : IsS28 w0 w g l x) (hB : Below w0.heap.size w0 w) :
    Calls Try.prog 45 #[.pointer (some ⟨g, 0, none⟩)] w fun e w' => e = .returned (.bool (okHeat l x)) ∧ IsS28 w0 w' g l x ∧ Below w0.heap.size w0 w' ∧ KeepBut w w' g none := by
  obtain ⟨K, h⟩ := l13Ok_ev l x (by omega)
  exact spec_l13Ok.calls K g l x _ x w0 w hI hB (h K (Nat.le_refl _))
theorem l13Hot_calls (g : Nat) (l : List Int) (x n : Int) (w0 w : World) (hl : l.length ≤ 1000000000) (hn : 0 ≤ n ∧ n ≤ (l.length : Int) - 1) (hI : IsS28 w0 w g l x) (hB : Below w0.heap.size w0 w) :
    Calls Try.prog 48 #[.pointer (some ⟨g, 0, none⟩), .int .i64 n] w fun e w' => e = .returned (.bool (hotB l n)) ∧ IsS28 w0 w' g l x ∧ Below w0.heap.size w0 w' ∧ KeepBut w w' g none := by
  obtain ⟨K, h⟩ := l13Hot_ev l x n (by omega)
  have e := h K (Nat.le_refl _)
  rw [decide_eq_true hn, Bool.true_and] at e
  exact spec_l13Hot.calls K g l x n _ x w0 w hI hB e
set_option maxHeartbeats 1000000 in
theorem spec_HotPages.calls (A0_0 : Option Addr) (c0_0 : Nat) (l0_0 : List Int) (a0_1 : Int) (r : List Int) (w : World) (hr0_0 : Kd.C (Kd.int .i64) w A0_0 l0_0.length l0_0) (hc0_0 : l0_0.length ≤ c0_0) (h : spec_HotPages.f l0_0 a0_1 = some r) :
    Calls Try.prog 24 #[.agg #[.slice A0_0 l0_0.length c0_0, .int .i64 a0_1]] w fun e w' => ∃ v0_ : Value, e = .returned (v0_) ∧ Kd.R (Kd.int .i64) 2 w' w.heap.size (fun _ => True) v0_ r ∧ Below w.heap.size w w' := by
  unfold spec_HotPages.f at h
  by_cases hl : l0_0.length ≤ 1000000000
  · rw [if_pos hl] at h
    obtain rfl := Option.some.inj h
    clear h
    have hu := Try.underlying28
    have HI := Aside0.mk (IsS28.new w w A0_0 c0_0 l0_0 a0_1 (Below.refl _ w) hr0_0)
    have HBW := Aside0.mk ((Below.refl w.heap.size w).alloc (Nat.le_refl _) (.cells #[.slice A0_0 l0_0.length c0_0, .int .i64 a0_1] 28))
    have HR := Aside0.mk hr0_0
    clear hr0_0
    have HOK : Aside0 (∀ w5, IsS28 w w5 w.heap.size l0_0 a0_1 → Below w.heap.size w w5 → Calls Try.prog 45 #[.pointer (some ⟨w.heap.size, 0, none⟩)] w5 fun e w' => e = .returned (.bool (okHeat l0_0 a0_1)) ∧ IsS28 w w' w.heap.size l0_0 a0_1 ∧ Below w.heap.size w w' ∧ KeepBut w5 w' w.heap.size none) := ⟨fun w5 hI hB => l13Ok_calls w.heap.size l0_0 a0_1 w w5 hl hI hB⟩
    generalize okHeat l0_0 a0_1 = t at HOK ⊢
    cases t with
    | false =>
      rw [if_neg (by decide)]
      go_enter Try.func24, Try.ntmps24
      go_wp2_with ((with_reducible refine gate_dst (N := 5) rfl ?_); refine Kd.R_lit (Kd.int .i64) _ 2 ?hg (N := 5) ?hd (xs := ([] : List Int)) (inner := []) (ok := fun _ => True) (okp := fun _ => True) ?hr ?hp (fun _ hk => hk) trivial (Below.refl _ _) (Nat.le_refl _) (by simp) ?_; (case hd => rfl); (case hg => rfl); (case hr => first | (go_simp; done) | (go_simp; rfl)); (case hp => exact (Reps.none _ _)); intro v5 w5 ho5 hb5 hg5_ hnew5_; clear hg5_ hnew5_; have HO5 := Aside0.mk (Kd.R_lower ho5 (by simp : w.heap.size ≤ _)); have HB5 := Aside0.mk hb5; clear ho5 hb5)
      have HI5 := Aside0.mk (HI.out.below HB5.out)
      have HBW5 := Aside0.mk (HBW.out.trans (HB5.out.mono (by simp)))
      have hok := HOK.out w5 HI5.out HBW5.out
      have HAP := Aside0.mk (HI5.out.apart HO5.out (fun q hq => by have q2 : q = 2 := (by simpa [Kd.int, Kd.scalar] using hq); rw [q2]; decide))
      clear HI HBW HB5 HO5 HI5 HBW5 HOK
      go_wp2_with (go_at_call 45; refine hok.mono ?_; rintro e w6 ⟨rfl, hI6, hB6, hk6⟩; have HK6 := Aside0.mk hk6; have HB6 := Aside0.mk hB6; clear hk6 hB6 hI6)
      go_ret
      exact ⟨_, rfl, Kd.R_mono (Kd.R_keep HAP.out HK6.out (fun k hk => hk.2)) (fun _ _ => trivial), HB6.out⟩
    | true =>
      rw [if_pos rfl]
      go_enter Try.func24, Try.ntmps24
      go_wp2_with ((with_reducible refine gate_dst (N := 5) rfl ?_); refine Kd.R_lit (Kd.int .i64) _ 2 ?hg (N := 5) ?hd (xs := ([] : List Int)) (inner := []) (ok := fun _ => True) (okp := fun _ => True) ?hr ?hp (fun _ hk => hk) trivial (Below.refl _ _) (Nat.le_refl _) (by simp) ?_; (case hd => rfl); (case hg => rfl); (case hr => first | (go_simp; done) | (go_simp; rfl)); (case hp => exact (Reps.none _ _)); intro v5 w5 ho5 hb5 hg5_ hnew5_; clear hg5_ hnew5_; have HO5 := Aside0.mk (Kd.R_lower ho5 (by simp : w.heap.size ≤ _)); have HB5 := Aside0.mk hb5; clear ho5 hb5)
      have HI5 := Aside0.mk (HI.out.below HB5.out)
      have HBW5 := Aside0.mk (HBW.out.trans (HB5.out.mono (by simp)))
      have hok := HOK.out w5 HI5.out HBW5.out
      have HAP := Aside0.mk (HI5.out.apart HO5.out (fun q hq => by have q2 : q = 2 := (by simpa [Kd.int, Kd.scalar] using hq); rw [q2]; decide))
      clear HI HBW HB5 HO5 HI5 HBW5 HOK
      go_wp2_with (go_at_call 45; refine hok.mono ?_; rintro e w6 ⟨rfl, hI6, hB6, hk6⟩; have HK6 := Aside0.mk hk6; have HB6 := Aside0.mk hB6; have HI6 := Aside0.mk hI6; clear hk6 hB6 hI6)
      have HO6 := Aside0.mk (Kd.R_mono (Kd.R_keep HAP.out HK6.out (fun k hk => hk.2)) (fun (_ : Nat) _ => trivial) : Kd.R (Kd.int .i64) 2 w6 w.heap.size (fun _ => True) v5 [])
      clear HAP HK6 hok HR
      go_loopg [3, 4] l0_0.length (fun gg s3 s4 wr => ∃ (kk : Nat) (acc : List Int), kk ≤ l0_0.length ∧ l0_0.length - kk ≤ gg ∧ s4 = .int .i64 kk ∧ Aside0 (acc ++ hotFrom l0_0 (l0_0.length - kk) kk = hotFrom l0_0 l0_0.length 0) ∧ Aside0 (acc.length ≤ kk) ∧ Aside0 (Kd.R (Kd.int .i64) 2 wr w.heap.size (fun _ => True) s3 acc) ∧ Aside0 (IsS28 w wr w.heap.size l0_0 a0_1) ∧ Aside0 (Below w.heap.size w wr))
      case atStart => exact ⟨0, [], Nat.zero_le _, by omega, rfl, ⟨rfl⟩, ⟨Nat.le_refl _⟩, HO6, HI6, HB6⟩
      case round =>
        clear HO6 HI6 HB6
        obtain ⟨kk, acc, hkk, hg, rfl, HE, HL, HO, HI, HB⟩ := hrel
        obtain ⟨A, c, hblk, hge, hC⟩ := HI.out
        have hcell0 : wr.cell? ⟨w.heap.size, 0, none⟩ = some (.slice A l0_0.length c) := cellS28_0 hblk
        clear hC hge hblk
        by_cases hlt : kk < l0_0.length
        · have hlti : (kk : Int) < (l0_0.length : Int) := by omega
          have hhot := l13Hot_calls w.heap.size l0_0 a0_1 kk w wr hl (by omega) HI.out HB.out
          have HAP := Aside0.mk (HI.out.apart HO.out (fun q hq => by have q2 : q = 2 := (by simpa [Kd.int, Kd.scalar] using hq); rw [q2]; decide))
          have HF : Aside0 (hotFrom l0_0 (l0_0.length - kk) kk = if hotB l0_0 kk = true then (kk : Int) :: hotFrom l0_0 (l0_0.length - (kk + 1)) (kk + 1) else hotFrom l0_0 (l0_0.length - (kk + 1)) (kk + 1)) := ⟨by rw [show l0_0.length - kk = (l0_0.length - (kk + 1)) + 1 from by omega]; rfl⟩
          clear HI HB
          cases hq : hotB l0_0 kk with
          | false =>
            rw [hq] at hhot HF
            clear hq
            have HE2 : Aside0 (acc ++ hotFrom l0_0 (l0_0.length - (kk + 1)) (kk + 1) = hotFrom l0_0 l0_0.length 0) := ⟨by rw [← HE.out, HF.out, if_neg (by decide)]⟩
            go_wp2_with (go_at_call 48; refine hhot.mono ?_; rintro e w7 ⟨rfl, hI7, hB7, hk7⟩; have HK7 := Aside0.mk hk7; have HB7 := Aside0.mk hB7; have HI7 := Aside0.mk hI7; clear hk7 hB7 hI7)
            go_roundg (l0_0.length - (kk + 1))
            case measure => omega
            case rel => exact ⟨kk + 1, acc, by omega, by omega, by go_num, HE2, ⟨by have := HL.out; omega⟩, ⟨Kd.R_mono (Kd.R_keep HAP.out HK7.out (fun k hk => hk.2)) (fun _ _ => trivial)⟩, HI7, HB7⟩
          | true =>
            rw [hq] at hhot HF
            clear hq
            have HE2 : Aside0 ((acc ++ [(kk : Int)]) ++ hotFrom l0_0 (l0_0.length - (kk + 1)) (kk + 1) = hotFrom l0_0 l0_0.length 0) := ⟨by rw [← HE.out, HF.out, if_pos rfl, List.append_assoc]; rfl⟩
            go_wp2_with (first | (go_at_call 48; refine hhot.mono ?_; rintro e w7 ⟨rfl, hI7, hB7, hk7⟩; have HO7 := Aside0.mk (Kd.R_mono (Kd.R_keep HAP.out hk7 (fun k hk => hk.2)) (fun (_ : Nat) _ => trivial) : Kd.R (Kd.int .i64) 2 w7 w.heap.size (fun _ => True) u3 acc); have HB7 := Aside0.mk hB7; have HI7 := Aside0.mk hI7; clear hk7 hB7 hI7) | ((with_reducible refine gate_builtin (b := .append) (xs := #[.tmp 18, .tmp 20]) rfl ?_); at_builtin; refine Kd.R_append (Kd.int .i64) (w0 := w) w.heap.size rfl (.tmp 18) (.tmp 20) 23 2 (.int .i64 0) 8 rfl Try.underlying23 info2 rfl (by decide) (by omega) u3 acc (kk : Int) [.int .i64 (kk : Int)] (fun _ => True) (fun _ => False) rfl rfl ?aP (fun _ hk => hk.elim) ?aF ?aO ?aB ?aS ?aL ?_; (case aP => exact rfl); (case aF => exact (fun _ _ => trivial)); (case aO => exact (by (with_reducible repeat (first | apply Kd.R_alloc | apply Kd.R_drewN | apply Kd.R_drew)); exact HO7.out)); (case aB => exact (by repeat (first | (with_reducible first | exact HB7.out | apply below_alloc | apply pw_below_drewN | apply below_drew1) | exact HB7.out))); (case aS => exact (below_size (by repeat (first | (with_reducible first | exact HB7.out | apply below_alloc | apply pw_below_drewN | apply below_drew1) | exact HB7.out)))); (case aL => have := HL.out; omega); intro v8 w8 ho8 hb8 hg8 hat8; have HI8 := Aside0.mk (IsS28.grown (by (with_reducible repeat (first | apply IsS28.alloc | apply IsS28.drewN | apply IsS28.drew)); exact HI7.out) hg8 (IsS28.own_ne HI7.out HO7.out (by decide))); have HO8 := Aside0.mk ho8; have HB8 := Aside0.mk hb8; clear ho8 hb8 hg8 hat8))
            go_roundg (l0_0.length - (kk + 1))
            case measure => omega
            case rel => exact ⟨kk + 1, acc ++ [(kk : Int)], by omega, by omega, by go_num, HE2, ⟨by have := HL.out; simp; omega⟩, HO8, HI8, HB8⟩
        · have hlti : ¬ (kk : Int) < (l0_0.length : Int) := by omega
          have HR2 : Aside0 (acc = hotFrom l0_0 l0_0.length 0) := ⟨by have := HE.out; rw [show l0_0.length - kk = 0 from by omega] at this; simpa [hotFrom] using this⟩
          go_wp2
          go_ret
          exact ⟨_, rfl, by rw [← HR2.out]; exact HO.out, HB.out⟩
  · rw [if_neg hl] at h
    exact absurd h (by simp)
end Go.Proofs.Ytobidghdmcobmaa.Q
