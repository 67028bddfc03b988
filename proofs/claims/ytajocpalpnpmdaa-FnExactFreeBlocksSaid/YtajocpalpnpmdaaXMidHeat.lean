/- The specification's test of a heat that lies in the middle of a flash translation layer's variable. Conditions: those before each theorem. -/
import Derived.Test.YtajocpalpnpmdaaHeatV
import Derived.Test.YtajocpalpnpmdaaInS
namespace Go.Proofs.Ytajocpalpnpmdaa.Q
open Go.RowKit Go.Proofs.YtajocpalpnpmdaaW.PrintWords Go.Proofs.YtajocpalpnpmdaaW.PrintMore
set_option linter.unusedVariables false
theorem inS_calls (a b c : Int) (W : World) : Calls Try.prog 47 #[.int .i64 a, .int .i64 b, .int .i64 c] W fun e w' => e = .returned (.bool (decide (b ≤ a ∧ a ≤ c))) ∧ Below W.heap.size W w' :=
  (spec_l00In.calls a b c _ W (l00In_eq a b c)).mono fun e w' ⟨he, hd⟩ => ⟨he, by obtain ⟨nn, rfl⟩ := hd.out; exact pw_below_drewN (Below.refl _ _) nn⟩
theorem allIn_true {l : List Int} {lo hi : Int} (h : ∀ (j : Nat) (y : Int), j < l.length → l[j]? = some y → decide (lo ≤ y ∧ y ≤ hi) = true) : allIn l lo hi = true := by
  unfold allIn
  rw [List.all_eq_true]
  intro x hx
  obtain ⟨j, hj, rfl⟩ := List.mem_iff_getElem.1 hx
  exact h j _ hj (List.getElem?_eq_getElem hj)
theorem allIn_false {l : List Int} {lo hi : Int} {j : Nat} {y : Int} (h : l[j]? = some y) (hy : decide (lo ≤ y ∧ y ≤ hi) = false) : allIn l lo hi = false := by
  unfold allIn
  rw [List.all_eq_false]
  exact ⟨y, List.mem_of_getElem? h, by simp [hy]⟩
set_option maxHeartbeats 4000000 in
theorem heatM_calls (g : Nat) (A : Option Addr) (c : Nat) (H : List Int) (n : Int) (w : World) (h0 : w.cell? ⟨g, 12, none⟩ = some (.slice A H.length c)) (h1 : w.cell? ⟨g, 13, none⟩ = some (.int .i64 n))
    (hr : Kd.C (Kd.int .i64) w A H.length H) (hc : H.length ≤ c) :
    Calls Try.prog 46 #[.pointer (some ⟨g, 12, none⟩)] w fun e w' => e = .returned (.bool (okHeat H n)) ∧ Below w.heap.size w w' := by
  have hbig := hr.2.1
  have HS := Aside0.mk (inS_calls n 0 15)
  have H0 := Aside0.mk h0
  have L0 := World.block_lt_of_cell? w _ h0
  unfold okHeat
  by_cases c1 : (1 ≤ (H.length : Int) ∧ (H.length : Int) ≤ 48)
  · rw [decide_eq_true c1, Bool.true_and]
    have q1 : decide ((H.length : Int) < 1) = false := decide_eq_false (by omega)
    have q1' : decide (H.length < 1) = false := decide_eq_false (by omega)
    have q2 : decide (48 < (H.length : Int)) = false := decide_eq_false (by omega)
    have q2' : decide (48 < H.length) = false := decide_eq_false (by omega)
    cases c2 : decide (0 ≤ n ∧ n ≤ 15) with
    | false =>
      rw [c2] at HS
      rw [Bool.false_and]
      clear c2 c1 hr
      go_enter Try.func46, Try.ntmps46
      go_wp2_with (go_at_call 47; refine (HS.out _).mono ?_; rintro e w1 ⟨rfl, hb1⟩)
      go_ret
      exact ⟨rfl, hb1⟩
    | true =>
      rw [c2] at HS
      rw [Bool.true_and]
      clear c2 c1
      have HR := Aside0.mk hr
      clear hr
      go_enter Try.func46, Try.ntmps46
      go_wp2_with (go_at_call 47; refine (HS.out _).mono ?_; rintro e w1 ⟨rfl, hb1⟩)
      go_loopg [3] H.length (fun gg s3 wr => ∃ kk : Nat, kk ≤ H.length ∧ H.length - kk ≤ gg ∧ s3 = .int .i64 kk ∧ Aside0 (Below w.heap.size w wr) ∧ Aside0 (∀ (j : Nat) (y : Int), j < kk → H[j]? = some y → decide (0 ≤ y ∧ y ≤ 1000000) = true))
      case atStart => exact ⟨0, Nat.zero_le _, by omega, rfl, ⟨hb1⟩, ⟨fun j y hj => absurd hj (Nat.not_lt_zero _)⟩⟩
      case round =>
        clear h0 h1
        obtain ⟨kk, hkk, hg, rfl, BW, HA⟩ := hrel
        have z0 : wr.cell? ⟨g, 12, none⟩ = some (.slice A H.length c) := (BW.out.cell L0).trans H0.out
        by_cases hlt : kk < H.length
        · obtain ⟨ad, rfl, hcell⟩ := Kd.at_int (Kd.C_below HR.out BW.out) (kk : Int) (by omega) (by omega)
          rw [Int.toNat_natCast, show rd H (kk : Int) = H[kk] from by simp [rd, hlt]] at hcell
          have hlti : (kk : Int) < (H.length : Int) := by omega
          have HX := Aside0.mk (List.getElem?_eq_getElem hlt)
          have HS2 := Aside0.mk (inS_calls H[kk] 0 1000000)
          generalize H[kk] = y at hcell HX HS2
          cases hq : decide (0 ≤ y ∧ y ≤ 1000000) with
          | false =>
            rw [hq] at HS2
            have HQ := Aside0.mk hq
            clear hq
            go_wp2_with (go_at_call 47; refine (HS2.out _).mono ?_; rintro e w2 ⟨rfl, hb2⟩)
            go_ret
            exact ⟨by rw [allIn_false HX.out HQ.out]; rfl, BW.out.trans (hb2.mono BW.out.size)⟩
          | true =>
            rw [hq] at HS2
            have HQ := Aside0.mk hq
            clear hq
            go_wp2_with (go_at_call 47; refine (HS2.out _).mono ?_; rintro e w2 ⟨rfl, hb2⟩)
            go_roundg (H.length - (kk + 1))
            case measure => omega
            case rel =>
              refine ⟨kk + 1, by omega, by omega, by go_num, ⟨BW.out.trans (hb2.mono BW.out.size)⟩, ⟨fun j z hj hz => ?_⟩⟩
              by_cases e : j = kk
              · subst e
                have := HX.out.symm.trans hz
                simp only [Option.some.injEq] at this
                rw [← this]
                exact HQ.out
              · exact HA.out j z (by omega) hz
        · have hlti : ¬ (kk : Int) < (H.length : Int) := by omega
          have hk : kk = H.length := by omega
          have HM := Aside0.mk (allIn_true (fun j y hj hy => HA.out j y (by omega) hy))
          clear hk
          go_wp2
          go_ret
          exact ⟨by rw [HM.out]; rfl, BW.out⟩
  · rw [decide_eq_false c1, Bool.false_and]
    clear hr
    by_cases c3 : (H.length : Int) < 1
    · have q1 : decide ((H.length : Int) < 1) = true := decide_eq_true c3
      have q1' : decide (H.length < 1) = true := decide_eq_true (by omega)
      clear c1 c3 HS
      go_enter Try.func46, Try.ntmps46
      go_wp2
      go_ret
      exact ⟨rfl, Below.refl _ _⟩
    · have q1 : decide ((H.length : Int) < 1) = false := decide_eq_false c3
      have q1' : decide (H.length < 1) = false := decide_eq_false (by omega)
      have q2 : decide (48 < (H.length : Int)) = true := decide_eq_true (by omega)
      have q2' : decide (48 < H.length) = true := decide_eq_true (by omega)
      clear c1 c3 HS
      go_enter Try.func46, Try.ntmps46
      go_wp2
      go_ret
      exact ⟨rfl, Below.refl _ _⟩
end Go.Proofs.Ytajocpalpnpmdaa.Q
