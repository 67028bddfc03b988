/- The contract of the program's IsWiped. Conditions: those before each theorem. -/
import Derived.Test.YtaecdlhomihejaaXFlash
import Derived.Test.YtaecdlhomihejaaXIdxS
import Derived.Test.YtaecdlhomihejaaQ4
namespace Go.Proofs.Ytaecdlhomihejaa.Q
open Go.RowKit Go.Proofs.YtaecdlhomihejaaW.PrintWords Go.Proofs.YtaecdlhomihejaaW.PrintMore
set_option linter.unusedVariables false
def fullB (s : ByteArray) : Bool := !decide (s.toList = ([] : List UInt8))
theorem wiped_pred (x : ByteArray) (W : World) :
    Calls Try.prog 87 #[.string x] W fun e w' => e = .returned (.bool (fullB x)) ∧ w' = W := by
  by_cases h : x.toList = ([] : List UInt8)
  · have c1 : decide (x.toList = ([] : List UInt8)) = true := decide_eq_true h
    have c2 : x = (⟨#[]⟩ : ByteArray) := by
      have := (toList_nil x).1 h
      cases x with
      | mk d => congr; exact Array.size_eq_zero_iff.1 this
    have e : fullB x = false := by unfold fullB; rw [c1]; rfl
    rw [e]
    subst c2
    clear h c1 e
    go_enter Try.func87, Try.ntmps87
    go_wp2
    go_ret
    exact ⟨by first | rfl | simp, rfl⟩
  · have c1 : decide (x.toList = ([] : List UInt8)) = false := decide_eq_false h
    have e : fullB x = true := by unfold fullB; rw [c1]; rfl
    rw [e]
    go_enter Try.func87, Try.ntmps87
    go_wp2
    go_ret
    exact ⟨by first | rfl | (simp [h]; done) | simp, rfl⟩
def wipedB (d b p : Int) (l : List S120) (u v z i : Int) : Bool := flashB d b p l u v z && (decide (0 ≤ i ∧ i ≤ (l.length : Int) - 1) && (decide ((rd_T120 l i).f1 = 0) && !((rd_T120 l i).f3.any fullB)))
def impl_IsWiped.f (a0_0 a0_1 a0_2 : Int) (l0_3 : List S120) (a0_4 a0_5 : Int) (a0_6 : Bool) (a0_7 : Int) (a1 : Int) : Option Bool := some (wipedB a0_0 a0_1 a0_2 l0_3 a0_4 a0_5 a0_7 a1)
set_option linter.unusedSimpArgs false in
set_option maxHeartbeats 4000000 in
set_option maxRecDepth 100000 in
theorem impl_IsWiped.calls (a0_0 a0_1 a0_2 : Int) (A0_3 : Option Addr) (c0_3 : Nat) (l0_3 : List S120) (a0_4 a0_5 : Int) (a0_6 : Bool) (a0_7 : Int) (a1 : Int) (r : Bool) (w : World) (hr0_3 : Kd.C k120 w A0_3 l0_3.length l0_3) (hc0_3 : l0_3.length ≤ c0_3) (h : impl_IsWiped.f a0_0 a0_1 a0_2 l0_3 a0_4 a0_5 a0_6 a0_7 a1 = some r) :
    Calls Try.prog 31 #[.agg #[.int .i64 a0_0, .int .i64 a0_1, .int .i64 a0_2, .slice A0_3 l0_3.length c0_3, .int .i64 a0_4, .int .i64 a0_5, .bool a0_6, .int .i64 a0_7], .int .i64 a1] w fun e w' => e = .returned (.bool r) ∧ Below w.heap.size w w' := by
  obtain rfl := Option.some.inj h
  clear h
  have hu := Try.underlying120
  have hu2 := Try.underlying37
  have hu3 := Try.underlying40
  have hbig := hr0_3.2.1
  have hB : Below w.heap.size w (w.alloc (.cells #[.int .i64 a0_0, .int .i64 a0_1, .int .i64 a0_2, .slice A0_3 l0_3.length c0_3, .int .i64 a0_4, .int .i64 a0_5, .bool a0_6, .int .i64 a0_7] 40)) := (Below.refl _ w).alloc (Nat.le_refl _) _
  have HX := Aside0.mk (blk_new w (.cells #[.int .i64 a0_0, .int .i64 a0_1, .int .i64 a0_2, .slice A0_3 l0_3.length c0_3, .int .i64 a0_4, .int .i64 a0_5, .bool a0_6, .int .i64 a0_7] 40))
  have hvf := impl_ValidFlash.calls a0_0 a0_1 a0_2 A0_3 c0_3 l0_3 a0_4 a0_5 a0_6 a0_7 _ _ (Kd.C_below hr0_3 hB) hc0_3 rfl
  have HC := Aside0.mk hr0_3
  have HB := Aside0.mk hB
  have hix : ∀ W, Calls Try.prog 85 #[.int .i64 a1, .int .i64 (l0_3.length : Int)] W fun e w' => e = .returned (.bool (decide (0 ≤ a1 ∧ a1 ≤ (l0_3.length : Int) - 1))) ∧ Below W.heap.size W w' := fun W =>
    (impl_isIndex.calls a1 (l0_3.length : Int) _ W (by unfold impl_isIndex.f; rw [within_eq, wrap64_id (by omega) (by omega)]; rfl)).mono fun e w' ⟨he, hd⟩ => ⟨he, by obtain ⟨nn, rfl⟩ := hd.out; exact pw_below_drewN (Below.refl _ _) nn⟩
  have HIX := Aside0.mk hix
  clear hr0_3 hc0_3 hB hix
  unfold wipedB
  cases hv : flashB a0_0 a0_1 a0_2 l0_3 a0_4 a0_5 a0_7 with
  | false =>
    rw [hv] at hvf
    rw [Bool.false_and]
    clear hv hbig
    go_enter Try.func31, Try.ntmps31
    go_wp2_with (go_at_call 84; refine hvf.mono ?_; rintro e w1 ⟨rfl, hb1⟩)
    go_ret
    exact ⟨rfl, HB.out.trans (hb1.mono HB.out.size)⟩
  | true =>
    rw [hv] at hvf
    rw [Bool.true_and]
    clear hv
    by_cases hin : 0 ≤ a1 ∧ a1 ≤ (l0_3.length : Int) - 1
    · rw [decide_eq_true hin] at HIX
      rw [decide_eq_true hin, Bool.true_and]
      obtain ⟨ad, A3, c3, hA, e0, e1, e2, e3, hl3, hC3⟩ := at_T120 HC.out a1 hin.1 (by omega)
      subst hA
      have p1 : decide (0 ≤ a1) = true := decide_eq_true hin.1
      have p2 : decide (a1 < (l0_3.length : Int)) = true := decide_eq_true (by omega)
      have p1' : 0 ≤ a1 := hin.1
      have p2' : a1 < (l0_3.length : Int) := by omega
      have HE := Aside0.mk (And.intro e0 (And.intro e1 (And.intro e2 e3)))
      have HC3 := Aside0.mk hC3
      have HL3 := Aside0.mk hl3
      clear hC3 hl3 hin e0 e1 e2 e3
      generalize rd_T120 l0_3 a1 = x at HE HC3 HL3 ⊢
      have eg : ∀ args w, (callFunc 87 args).run Try.prog w = .ok (.enter 87 args) w := enters_of Try.func87 (by kernel_rfl) rfl
      have HANY : Aside0 (∀ W, Below w.heap.size w W → Calls Try.prog 86 #[.slice A3 x.f3.length c3, .func (.func 87) #[] #[]] W fun e w' => e = .returned (.bool (x.f3.any fullB)) ∧ Below w.heap.size w w') := ⟨fun W hb => (anyS_calls A3 c3 x.f3 W (Kd.C_below HC3.out hb) HL3.out 87 #[] fullB eg (fun W2 y _ hb2 => (wiped_pred y W2).mono fun e w' ⟨he, hw⟩ => ⟨he, by rw [hw]; exact hb2⟩)).mono fun e w' ⟨he, hw⟩ => ⟨he, hb.trans (hw.mono hb.size)⟩⟩
      clear eg hbig
      cases hx : decide (x.f1 = 0) with
      | false =>
        have c1 : (x.f1 == 0) = false := beq_eq_false_iff_ne.2 (of_decide_eq_false hx)
        rw [Bool.false_and]
        clear hx
        go_enter Try.func31, Try.ntmps31
        go_wp2_with (first | (go_at_call 84; refine hvf.mono ?_; rintro e w1 ⟨rfl, hb1⟩; have HB1 := Aside0.mk (HB.out.trans (hb1.mono HB.out.size)); have HX1 := Aside0.mk (blk_below HX.out hb1); have hz : w1.cell? ⟨w.heap.size, 3, none⟩ = some (.slice (some ad) l0_3.length c0_3) := (blk_cell HX1.out 3).trans rfl; clear hb1 hvf) | (go_at_call 85; refine (HIX.out _).mono ?_; rintro e w2 ⟨rfl, hb2⟩; have HB2 := Aside0.mk (HB1.out.trans (hb2.mono HB1.out.size)); have HX2 := Aside0.mk (blk_below HX1.out hb2); clear hz; have hz2 : w2.cell? ⟨w.heap.size, 3, none⟩ = some (.slice (some ad) l0_3.length c0_3) := (blk_cell HX2.out 3).trans rfl; have y0 := (HB2.out.cell (World.block_lt_of_cell? w _ HE.out.1)).trans HE.out.1; have y1 := (HB2.out.cell (World.block_lt_of_cell? w _ HE.out.2.1)).trans HE.out.2.1; have y2 := (HB2.out.cell (World.block_lt_of_cell? w _ HE.out.2.2.1)).trans HE.out.2.2.1; have y3 := (HB2.out.cell (World.block_lt_of_cell? w _ HE.out.2.2.2)).trans HE.out.2.2.2; clear hb2))
        go_ret
        exact ⟨rfl, by repeat (first | exact HB2.out | refine below_set ?_ HB2.out.size | exact HB2.out.alloc HB2.out.size _)⟩
      | true =>
        have c1 : (x.f1 == 0) = true := beq_iff_eq.2 (of_decide_eq_true hx)
        rw [Bool.true_and]
        clear hx
        go_enter Try.func31, Try.ntmps31
        go_wp2_with (first | (go_at_call 84; refine hvf.mono ?_; rintro e w1 ⟨rfl, hb1⟩; have HB1 := Aside0.mk (HB.out.trans (hb1.mono HB.out.size)); have HX1 := Aside0.mk (blk_below HX.out hb1); have hz : w1.cell? ⟨w.heap.size, 3, none⟩ = some (.slice (some ad) l0_3.length c0_3) := (blk_cell HX1.out 3).trans rfl; clear hb1 hvf) | (go_at_call 85; refine (HIX.out _).mono ?_; rintro e w2 ⟨rfl, hb2⟩; have HB2 := Aside0.mk (HB1.out.trans (hb2.mono HB1.out.size)); have HX2 := Aside0.mk (blk_below HX1.out hb2); clear hz; have hz2 : w2.cell? ⟨w.heap.size, 3, none⟩ = some (.slice (some ad) l0_3.length c0_3) := (blk_cell HX2.out 3).trans rfl; have y0 := (HB2.out.cell (World.block_lt_of_cell? w _ HE.out.1)).trans HE.out.1; have y1 := (HB2.out.cell (World.block_lt_of_cell? w _ HE.out.2.1)).trans HE.out.2.1; have y2 := (HB2.out.cell (World.block_lt_of_cell? w _ HE.out.2.2.1)).trans HE.out.2.2.1; have y3 := (HB2.out.cell (World.block_lt_of_cell? w _ HE.out.2.2.2)).trans HE.out.2.2.2; clear hb2) | (go_at_call 86; refine (HANY.out _ (by repeat (first | exact HB2.out | refine below_set ?_ HB2.out.size | exact HB2.out.alloc HB2.out.size _))).mono ?_; rintro e w3 ⟨rfl, hb3⟩))
        go_ret
        exact ⟨rfl, hb3⟩
    · rw [decide_eq_false hin] at HIX
      rw [decide_eq_false hin, Bool.false_and]
      clear hin hbig
      go_enter Try.func31, Try.ntmps31
      go_wp2_with (first | (go_at_call 84; refine hvf.mono ?_; rintro e w1 ⟨rfl, hb1⟩; have HB1 := Aside0.mk (HB.out.trans (hb1.mono HB.out.size)); have hz : w1.cell? ⟨w.heap.size, 3, none⟩ = some (.slice A0_3 l0_3.length c0_3) := (blk_cell (blk_below HX.out hb1) 3).trans rfl; clear hb1 hvf) | (go_at_call 85; refine (HIX.out _).mono ?_; rintro e w2 ⟨rfl, hb2⟩))
      go_ret
      exact ⟨rfl, HB1.out.trans (hb2.mono HB1.out.size)⟩
end Go.Proofs.Ytaecdlhomihejaa.Q
