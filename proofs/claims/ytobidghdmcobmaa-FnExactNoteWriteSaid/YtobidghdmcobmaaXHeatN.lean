/- The specification's test of a heat, at a box whose cells are known. Conditions: those before each theorem. -/
import Derived.Test.YtobidghdmcobmaaHeatV
import Derived.Test.YtobidghdmcobmaaQ1
namespace Go.Proofs.Ytobidghdmcobmaa.Q
open Go.RowKit Go.Proofs.YtobidghdmcobmaaW.PrintWords Go.Proofs.YtobidghdmcobmaaW.PrintMore
set_option linter.unusedVariables false
theorem inN_calls (a b c : Int) (W : World) : Calls Try.prog 53 #[.int .i64 a, .int .i64 b, .int .i64 c] W fun e w' => e = .returned (.bool (decide (b ≤ a ∧ a ≤ c))) ∧ ∃ n, w' = W.drewN n :=
  (spec_l00In.calls a b c _ W (l00In_eq a b c)).mono fun e w' ⟨he, hd⟩ => ⟨he, hd.out⟩
theorem allIn_snoc {xs : List Int} {lo hi : Int} (h : ∀ (j : Nat) (y : Int), j < xs.length → xs[j]? = some y → lo ≤ y ∧ y ≤ hi) : allIn xs lo hi = true := by
  unfold allIn
  rw [List.all_eq_true]
  intro x hx
  obtain ⟨j, hj, rfl⟩ := List.mem_iff_getElem.1 hx
  exact decide_eq_true (h j _ hj (List.getElem?_eq_getElem hj))
theorem allIn_bad {xs : List Int} {lo hi : Int} {j : Nat} {y : Int} (hj : xs[j]? = some y) (h : ¬ (lo ≤ y ∧ y ≤ hi)) : allIn xs lo hi = false := by
  unfold allIn
  rw [List.all_eq_false]
  exact ⟨y, List.mem_of_getElem? hj, by simpa using h⟩
set_option maxHeartbeats 2000000 in
theorem okN_calls (g : Nat) (A : Option Addr) (c : Nat) (xs : List Int) (y : Int) (w : World) (hcell0 : w.cell? ⟨g, 0, none⟩ = some (.slice A xs.length c)) (hcell1 : w.cell? ⟨g, 1, none⟩ = some (.int .i64 y)) (hC : Kd.C (Kd.int .i64) w A xs.length xs) :
    Calls Try.prog 45 #[.pointer (some ⟨g, 0, none⟩)] w fun e w' => e = .returned (.bool (okHeat xs y)) ∧ Below w.heap.size w w' := by
  have hbig := hC.2.1
  unfold okHeat
  have HIN := Aside0.mk inN_calls
  by_cases h1 : (xs.length : Int) < 1
  · have c1 : decide ((xs.length : Int) < 1) = true := decide_eq_true h1
    have c1n : decide (xs.length < 1) = true := decide_eq_true (by omega)
    rw [decide_eq_false (show ¬ (1 ≤ (xs.length : Int) ∧ (xs.length : Int) ≤ 48) by omega), Bool.false_and]
    clear h1 hC
    go_enter Try.func45, Try.ntmps45
    go_wp2
    go_ret
    exact ⟨rfl, Below.refl _ _⟩
  have c1 : decide ((xs.length : Int) < 1) = false := decide_eq_false h1
  have c1n : decide (xs.length < 1) = false := decide_eq_false (by omega)
  by_cases h2 : (xs.length : Int) > 48
  · have c2 : decide ((xs.length : Int) > 48) = true := decide_eq_true h2
    have c2b : decide (48 < (xs.length : Int)) = true := decide_eq_true h2
    have c2n : decide (48 < xs.length) = true := decide_eq_true (by omega)
    rw [decide_eq_false (show ¬ (1 ≤ (xs.length : Int) ∧ (xs.length : Int) ≤ 48) by omega), Bool.false_and]
    clear h1 h2 hC
    go_enter Try.func45, Try.ntmps45
    go_wp2
    go_ret
    exact ⟨rfl, Below.refl _ _⟩
  have c2 : decide ((xs.length : Int) > 48) = false := decide_eq_false h2
  have c2b : decide (48 < (xs.length : Int)) = false := decide_eq_false h2
  have c2n : decide (48 < xs.length) = false := decide_eq_false (by omega)
  rw [decide_eq_true (show 1 ≤ (xs.length : Int) ∧ (xs.length : Int) ≤ 48 by omega), Bool.true_and]
  have HX := Aside0.mk (HIN.out y 0 15)
  by_cases h3 : 0 ≤ y ∧ y ≤ 15
  · rw [decide_eq_true h3] at HX
    rw [decide_eq_true h3, Bool.true_and]
    have HC := Aside0.mk hC
    clear h1 h2 h3 hC
    go_enter Try.func45, Try.ntmps45
    go_wp2_with (go_at_call 53; refine (HX.out _).mono ?_; rintro e w1 ⟨rfl, n1, rfl⟩)
    go_loopg [3] xs.length (fun gg s3 wr => ∃ (kk m : Nat), s3 = .int .i64 (kk : Int) ∧ kk ≤ xs.length ∧ xs.length - kk ≤ gg ∧ wr = w.drewN m ∧ Aside0 (∀ (j : Nat) (z : Int), j < kk → xs[j]? = some z → 0 ≤ z ∧ z ≤ 1000000))
    case atStart => exact ⟨0, n1, rfl, Nat.zero_le _, by omega, rfl, ⟨fun j z hj => absurd hj (Nat.not_lt_zero _)⟩⟩
    case round =>
      obtain ⟨kk, m, rfl, hkk, hgg, rfl, HA⟩ := hrel
      by_cases hlt : kk < xs.length
      · have hlti : (kk : Int) < (xs.length : Int) := by omega
        obtain ⟨ad, hA, hx0⟩ := Kd.at_int HC.out (kk : Int) (by omega) (by omega)
        subst hA
        rw [Int.toNat_natCast, show rd xs (kk : Int) = xs[kk] from by simp [rd, hlt]] at hx0
        have HG := Aside0.mk (List.getElem?_eq_getElem hlt)
        generalize xs[kk] = x at hx0 HG
        have HY := Aside0.mk (HIN.out x 0 1000000)
        by_cases h4 : 0 ≤ x ∧ x ≤ 1000000
        · rw [decide_eq_true h4] at HY
          have H4 := Aside0.mk h4
          clear h4
          go_wp2_with (go_at_call 53; refine (HY.out _).mono ?_; rintro e w1 ⟨rfl, n2, rfl⟩)
          go_roundg (xs.length - (kk + 1))
          case measure => omega
          case rel =>
            refine ⟨kk + 1, m + n2, by go_num, by omega, Nat.le_refl _, rfl, ⟨fun j z hj hz => ?_⟩⟩
            by_cases e : j = kk
            · subst e
              have := HG.out.symm.trans hz
              simp only [Option.some.injEq] at this
              rw [← this]
              exact H4.out
            · exact HA.out j z (by omega) hz
        · rw [decide_eq_false h4] at HY
          have HBAD := Aside0.mk (allIn_bad HG.out h4)
          clear h4
          go_wp2_with (go_at_call 53; refine (HY.out _).mono ?_; rintro e w1 ⟨rfl, n2, rfl⟩)
          go_ret
          exact ⟨by rw [HBAD.out]; rfl, pw_below_drewN (Below.refl _ _) _⟩
      · have hlti : ¬ (kk : Int) < (xs.length : Int) := by omega
        have hk : kk = xs.length := by omega
        have HALL := Aside0.mk (allIn_snoc (xs := xs) (lo := 0) (hi := 1000000) (fun j z hj hz => HA.out j z (by omega) hz))
        clear hk
        go_wp2
        go_ret
        exact ⟨by rw [HALL.out]; rfl, pw_below_drewN (Below.refl _ _) _⟩
  · rw [decide_eq_false h3] at HX
    rw [decide_eq_false h3, Bool.false_and]
    clear h1 h2 h3 hC
    go_enter Try.func45, Try.ntmps45
    go_wp2_with (go_at_call 53; refine (HX.out _).mono ?_; rintro e w1 ⟨rfl, n1, rfl⟩)
    go_ret
    exact ⟨rfl, pw_below_drewN (Below.refl _ _) _⟩
end Go.Proofs.Ytobidghdmcobmaa.Q
