/- The program's functions as Lean functions, and for each the proof that the machine's call comes to what its function says. Conditions: those that stand before each theorem. -/
import Derived.Test.YtaecdlhomihejaaQ0
import Derived.Test.YtaecdlhomihejaaQ6
import Derived.Test.YtaecdlhomihejaaQ7
namespace Go.Proofs.Ytaecdlhomihejaa.Q
open Go.RowKit Go.Proofs.YtaecdlhomihejaaW.PrintWords Go.Proofs.YtaecdlhomihejaaW.PrintLast Go.Proofs.YtaecdlhomihejaaW.PrintMore
attribute [local go_sem] min2_int min_two
set_option linter.unusedVariables false
set_option linter.unusedSimpArgs false

def laws_heldZoneS.l0 : Nat → List (S132) → Int → Int → Option (Int)
  | 0, _, _, _ => none
  | k + 1, x0, x1, x5 => if x5 < (x0.length : Int) then (if 0 ≤ x5 then (if ((rd_T132 x0 x5).f0) = x1 then ((laws_heldInt64S.f k ((rd_T132 x0 x5).f1) (wrap64 (x1 + 1))).bind fun t242 => (if t242 < 0 then (some (-1)) else (if ((rd_T132 x0 x5).f2) = t242 then (if ((rd_T132 x0 x5).f3) = (wrap64 (t242 + 1)) then ((laws_heldInt64S.f k ((rd_T132 x0 x5).f4) (wrap64 ((wrap64 (t242 + 1)) + 1))).bind fun t246 => (if t246 < 0 then (some (-1)) else ((laws_heldStringS.f k ((rd_T132 x0 x5).f5) t246).bind fun t248 => (if t248 < 0 then (some (-1)) else (laws_heldZoneS.l0 k x0 t248 (wrap64 (x5 + 1))))))) else (some (-1))) else (some (-1))))) else (some (-1))) else (none)) else (some x1)
def laws_heldZoneS.f (k : Nat) (l0 : List (S132)) (a1 : Int) : Option (Int) := laws_heldZoneS.l0 k l0 a1 0
set_option maxHeartbeats 8000000 in
set_option maxRecDepth 100000 in
theorem laws_heldZoneS.calls (k : Nat) (A0 : Option Addr) (c0 : Nat) (l0 : List (S132)) (a1 : Int) (r : Int) (w : World) (hr0 : Kd.C k132 w A0 l0.length l0) (hc0 : l0.length ≤ c0) (h : laws_heldZoneS.f k l0 a1 = some r) :
    Calls Try.prog 102 #[.slice A0 l0.length c0, .int .i64 a1] w fun e w' => e = .returned (.int .i64 r) ∧ Below w.heap.size w w' := by
  have HR0 := Aside0.mk hr0
  have HC0 := Aside0.mk hc0
  clear hr0 hc0
  have HB := Aside0.mk (Below.refl w.heap.size w)
  have H : (laws_heldZoneS.l0 k l0 a1 0) = some r := h
  clear h
  have H' := Aside0.mk H
  clear H
  go_enter Try.func102, Try.ntmps102
  go_wp2
  go_loopg [1, 5] k (fun kq v1 v5 w' => ∃ (x1_1 : Int) (x5_1 : Int), v1 = .int .i64 x1_1 ∧ v5 = .int .i64 x5_1 ∧ Aside0 (laws_heldZoneS.l0 kq l0 x1_1 x5_1 = some r) ∧ Aside0 (kq ≤ k) ∧ Aside0 (Below w.heap.size w w'))
  case atStart => exact ⟨(a1), (0), (by first | rfl | (simp; done) | (simp [*]; done)), (by first | rfl | (simp; done) | (simp [*]; done)), H', ⟨Nat.le_refl _⟩, ⟨by repeat (first | (with_reducible first | exact HB.out | apply below_alloc | apply pw_below_drewN | apply below_drew1) | exact HB.out)⟩⟩
  case round =>
    clear H'
    try clear c1
    try clear p2
    obtain ⟨x1_1, x5_1, rfl, rfl, HA, HK1, HB⟩ := hrel
    cases gk with
    | zero => exact absurd HA.out (by simp [laws_heldZoneS.l0])
    | succ k1 =>
      have H := HA.out
      clear HA
      simp only [laws_heldZoneS.l0] at H
      by_cases c3 : x5_1 < (l0.length : Int)
      · rw [if_pos c3] at H
        have c3b0 : decide (x5_1 < (l0.length : Int)) = true := decide_eq_true c3
        clear c3
        by_cases c4 : 0 ≤ x5_1
        · rw [if_pos c4] at H
          have c4b0 : decide (0 ≤ x5_1) = true := decide_eq_true c4
          clear c4
          by_cases c5 : ((rd_T132 l0 x5_1).f0) = x1_1
          · rw [if_pos c5] at H
            have c5b0 : (((rd_T132 l0 x5_1).f0) == x1_1) = true := beq_iff_eq.mpr c5
            have c5b1 : (((rd_T132 l0 x5_1).f0) != x1_1) = false := bne_eq_false_iff_eq.mpr c5
            clear c5
            replace H := Option.bind_eq_some_iff.mp H
            obtain ⟨t242, A60, H⟩ := H
            replace H : (if t242 < 0 then (some (-1)) else (if ((rd_T132 l0 x5_1).f2) = t242 then (if ((rd_T132 l0 x5_1).f3) = (wrap64 (t242 + 1)) then ((laws_heldInt64S.f k1 ((rd_T132 l0 x5_1).f4) (wrap64 ((wrap64 (t242 + 1)) + 1))).bind fun t246 => (if t246 < 0 then (some (-1)) else ((laws_heldStringS.f k1 ((rd_T132 l0 x5_1).f5) t246).bind fun t248 => (if t248 < 0 then (some (-1)) else (laws_heldZoneS.l0 k1 l0 t248 (wrap64 (x5_1 + 1))))))) else (some (-1))) else (some (-1)))) = some r := H
            have A6 := Aside0.mk A60
            clear A60
            by_cases c7 : t242 < 0
            · rw [if_pos c7] at H
              have c7b0 : decide (t242 < 0) = true := decide_eq_true c7
              clear c7
              obtain rfl := Option.some.inj H
              have p240 : 0 ≤ (x5_1 : Int) := of_decide_eq_true (by first | (with_reducible assumption) | assumption)
              have q240 : x5_1 < (l0.length : Int) := of_decide_eq_true (by first | (with_reducible assumption) | assumption)
              obtain ⟨ad240, A240_1, c240_1, A240_4, c240_4, A240_5, c240_5, e240, hx240_0, hx240_1, hx240_2, hx240_3, hx240_4, hx240_5, hl240_1, hi240_1, hl240_4, hi240_4, hl240_5, hi240_5⟩ := at_T132 HR0.out x5_1 p240 q240
              cases e240
              replace hx240_0 := (HB.out.cell (World.block_lt_of_cell? w _ hx240_0)).trans hx240_0
              replace hx240_1 := (HB.out.cell (World.block_lt_of_cell? w _ hx240_1)).trans hx240_1
              replace hx240_2 := (HB.out.cell (World.block_lt_of_cell? w _ hx240_2)).trans hx240_2
              replace hx240_3 := (HB.out.cell (World.block_lt_of_cell? w _ hx240_3)).trans hx240_3
              replace hx240_4 := (HB.out.cell (World.block_lt_of_cell? w _ hx240_4)).trans hx240_4
              replace hx240_5 := (HB.out.cell (World.block_lt_of_cell? w _ hx240_5)).trans hx240_5
              have HR240_1 := Aside0.mk hi240_1
              have HC240_1 := Aside0.mk hl240_1
              clear hi240_1 hl240_1
              have HR240_4 := Aside0.mk hi240_4
              have HC240_4 := Aside0.mk hl240_4
              clear hi240_4 hl240_4
              have HR240_5 := Aside0.mk hi240_5
              have HC240_5 := Aside0.mk hl240_5
              clear hi240_5 hl240_5
              replace p240 := eq_true p240
              replace q240 := eq_true q240
              have p241 : 0 ≤ (x5_1 : Int) := of_decide_eq_true (by first | (with_reducible assumption) | assumption)
              have q241 : x5_1 < (l0.length : Int) := of_decide_eq_true (by first | (with_reducible assumption) | assumption)
              obtain ⟨ad241, A241_1, c241_1, A241_4, c241_4, A241_5, c241_5, e241, hx241_0, hx241_1, hx241_2, hx241_3, hx241_4, hx241_5, hl241_1, hi241_1, hl241_4, hi241_4, hl241_5, hi241_5⟩ := at_T132 HR0.out x5_1 p241 q241
              obtain rfl : ad240 = ad241 := (by injection e241)
              replace hx241_0 := (HB.out.cell (World.block_lt_of_cell? w _ hx241_0)).trans hx241_0
              replace hx241_1 := (HB.out.cell (World.block_lt_of_cell? w _ hx241_1)).trans hx241_1
              replace hx241_2 := (HB.out.cell (World.block_lt_of_cell? w _ hx241_2)).trans hx241_2
              replace hx241_3 := (HB.out.cell (World.block_lt_of_cell? w _ hx241_3)).trans hx241_3
              replace hx241_4 := (HB.out.cell (World.block_lt_of_cell? w _ hx241_4)).trans hx241_4
              replace hx241_5 := (HB.out.cell (World.block_lt_of_cell? w _ hx241_5)).trans hx241_5
              have HR241_1 := Aside0.mk hi241_1
              have HC241_1 := Aside0.mk hl241_1
              clear hi241_1 hl241_1
              have HR241_4 := Aside0.mk hi241_4
              have HC241_4 := Aside0.mk hl241_4
              clear hi241_4 hl241_4
              have HR241_5 := Aside0.mk hi241_5
              have HC241_5 := Aside0.mk hl241_5
              clear hi241_5 hl241_5
              replace p241 := eq_true p241
              replace q241 := eq_true q241
              have ea_ := Option.some.inj (hx240_1.symm.trans hx241_1)
              injection ea_ with ea_ en_ ec_
              subst ea_
              subst ec_
              clear en_
              have ea_ := Option.some.inj (hx240_4.symm.trans hx241_4)
              injection ea_ with ea_ en_ ec_
              subst ea_
              subst ec_
              clear en_
              have ea_ := Option.some.inj (hx240_5.symm.trans hx241_5)
              injection ea_ with ea_ en_ ec_
              subst ea_
              subst ec_
              clear en_
              go_wp2_with (first | ((with_reducible refine gate_callee (f := 22) rfl ?_); refine goesL_ (some 27) rfl rfl Try.func22 (by kernel_rfl) rfl #[.slice A240_1 ((rd_T132 l0 x5_1).f1).length c240_1, .int .i64 (wrap64 (x1_1 + 1))] rfl (by (try simp only [List.map_toArray, List.map_cons, List.map_nil]); first | done | rfl | (simp only [List.length_drop, List.length_take]; rfl)) ?_; (with_reducible refine (laws_heldInt64S.calls k1 _ _ ((rd_T132 l0 x5_1).f1) (wrap64 (x1_1 + 1)) t242 _ ?side1 ?side2 A6.out).mono ?_); (case side1 => repeat (first | exact (Kd.C_below HR241_1.out HB.out) | (with_reducible refine Kd.C_alloc ?_ _) | (with_reducible refine Kd.C_drewN ?_ _) | (with_reducible refine Kd.C_drew ?_))); (case side2 => exact HC241_1.out); rintro e w' ⟨rfl, ⟨nd, rfl⟩⟩; refine ⟨_, rfl, ?_⟩))
              go_ret
              exact ⟨by first | rfl | (simp [errW_none, errW_some] <;> rfl) | (simp [*, errW_none, errW_some] <;> rfl), by repeat (first | (with_reducible first | exact HB.out | apply below_alloc | apply pw_below_drewN | apply below_drew1) | exact HB.out)⟩
            · rw [if_neg c7] at H
              have c7b0 : decide (t242 < 0) = false := decide_eq_false c7
              clear c7
              by_cases c8 : ((rd_T132 l0 x5_1).f2) = t242
              · rw [if_pos c8] at H
                have c8b0 : (((rd_T132 l0 x5_1).f2) == t242) = true := beq_iff_eq.mpr c8
                have c8b1 : (((rd_T132 l0 x5_1).f2) != t242) = false := bne_eq_false_iff_eq.mpr c8
                clear c8
                by_cases c9 : ((rd_T132 l0 x5_1).f3) = (wrap64 (t242 + 1))
                · rw [if_pos c9] at H
                  have c9b0 : (((rd_T132 l0 x5_1).f3) == (wrap64 (t242 + 1))) = true := beq_iff_eq.mpr c9
                  have c9b1 : (((rd_T132 l0 x5_1).f3) != (wrap64 (t242 + 1))) = false := bne_eq_false_iff_eq.mpr c9
                  clear c9
                  replace H := Option.bind_eq_some_iff.mp H
                  obtain ⟨t246, A100, H⟩ := H
                  replace H : (if t246 < 0 then (some (-1)) else ((laws_heldStringS.f k1 ((rd_T132 l0 x5_1).f5) t246).bind fun t248 => (if t248 < 0 then (some (-1)) else (laws_heldZoneS.l0 k1 l0 t248 (wrap64 (x5_1 + 1)))))) = some r := H
                  have A10 := Aside0.mk A100
                  clear A100
                  by_cases c11 : t246 < 0
                  · rw [if_pos c11] at H
                    have c11b0 : decide (t246 < 0) = true := decide_eq_true c11
                    clear c11
                    obtain rfl := Option.some.inj H
                    have p240 : 0 ≤ (x5_1 : Int) := of_decide_eq_true (by first | (with_reducible assumption) | assumption)
                    have q240 : x5_1 < (l0.length : Int) := of_decide_eq_true (by first | (with_reducible assumption) | assumption)
                    obtain ⟨ad240, A240_1, c240_1, A240_4, c240_4, A240_5, c240_5, e240, hx240_0, hx240_1, hx240_2, hx240_3, hx240_4, hx240_5, hl240_1, hi240_1, hl240_4, hi240_4, hl240_5, hi240_5⟩ := at_T132 HR0.out x5_1 p240 q240
                    cases e240
                    replace hx240_0 := (HB.out.cell (World.block_lt_of_cell? w _ hx240_0)).trans hx240_0
                    replace hx240_1 := (HB.out.cell (World.block_lt_of_cell? w _ hx240_1)).trans hx240_1
                    replace hx240_2 := (HB.out.cell (World.block_lt_of_cell? w _ hx240_2)).trans hx240_2
                    replace hx240_3 := (HB.out.cell (World.block_lt_of_cell? w _ hx240_3)).trans hx240_3
                    replace hx240_4 := (HB.out.cell (World.block_lt_of_cell? w _ hx240_4)).trans hx240_4
                    replace hx240_5 := (HB.out.cell (World.block_lt_of_cell? w _ hx240_5)).trans hx240_5
                    have HR240_1 := Aside0.mk hi240_1
                    have HC240_1 := Aside0.mk hl240_1
                    clear hi240_1 hl240_1
                    have HR240_4 := Aside0.mk hi240_4
                    have HC240_4 := Aside0.mk hl240_4
                    clear hi240_4 hl240_4
                    have HR240_5 := Aside0.mk hi240_5
                    have HC240_5 := Aside0.mk hl240_5
                    clear hi240_5 hl240_5
                    replace p240 := eq_true p240
                    replace q240 := eq_true q240
                    have p241 : 0 ≤ (x5_1 : Int) := of_decide_eq_true (by first | (with_reducible assumption) | assumption)
                    have q241 : x5_1 < (l0.length : Int) := of_decide_eq_true (by first | (with_reducible assumption) | assumption)
                    obtain ⟨ad241, A241_1, c241_1, A241_4, c241_4, A241_5, c241_5, e241, hx241_0, hx241_1, hx241_2, hx241_3, hx241_4, hx241_5, hl241_1, hi241_1, hl241_4, hi241_4, hl241_5, hi241_5⟩ := at_T132 HR0.out x5_1 p241 q241
                    obtain rfl : ad240 = ad241 := (by injection e241)
                    replace hx241_0 := (HB.out.cell (World.block_lt_of_cell? w _ hx241_0)).trans hx241_0
                    replace hx241_1 := (HB.out.cell (World.block_lt_of_cell? w _ hx241_1)).trans hx241_1
                    replace hx241_2 := (HB.out.cell (World.block_lt_of_cell? w _ hx241_2)).trans hx241_2
                    replace hx241_3 := (HB.out.cell (World.block_lt_of_cell? w _ hx241_3)).trans hx241_3
                    replace hx241_4 := (HB.out.cell (World.block_lt_of_cell? w _ hx241_4)).trans hx241_4
                    replace hx241_5 := (HB.out.cell (World.block_lt_of_cell? w _ hx241_5)).trans hx241_5
                    have HR241_1 := Aside0.mk hi241_1
                    have HC241_1 := Aside0.mk hl241_1
                    clear hi241_1 hl241_1
                    have HR241_4 := Aside0.mk hi241_4
                    have HC241_4 := Aside0.mk hl241_4
                    clear hi241_4 hl241_4
                    have HR241_5 := Aside0.mk hi241_5
                    have HC241_5 := Aside0.mk hl241_5
                    clear hi241_5 hl241_5
                    replace p241 := eq_true p241
                    replace q241 := eq_true q241
                    have ea_ := Option.some.inj (hx240_1.symm.trans hx241_1)
                    injection ea_ with ea_ en_ ec_
                    subst ea_
                    subst ec_
                    clear en_
                    have ea_ := Option.some.inj (hx240_4.symm.trans hx241_4)
                    injection ea_ with ea_ en_ ec_
                    subst ea_
                    subst ec_
                    clear en_
                    have ea_ := Option.some.inj (hx240_5.symm.trans hx241_5)
                    injection ea_ with ea_ en_ ec_
                    subst ea_
                    subst ec_
                    clear en_
                    go_wp2_with (first | ((with_reducible refine gate_callee (f := 22) rfl ?_); refine goesL_ (some 27) rfl rfl Try.func22 (by kernel_rfl) rfl #[.slice A240_1 ((rd_T132 l0 x5_1).f1).length c240_1, .int .i64 (wrap64 (x1_1 + 1))] rfl (by (try simp only [List.map_toArray, List.map_cons, List.map_nil]); first | done | rfl | (simp only [List.length_drop, List.length_take]; rfl)) ?_; (with_reducible refine (laws_heldInt64S.calls k1 _ _ ((rd_T132 l0 x5_1).f1) (wrap64 (x1_1 + 1)) t242 _ ?side1 ?side2 A6.out).mono ?_); (case side1 => repeat (first | exact (Kd.C_below HR241_1.out HB.out) | (with_reducible refine Kd.C_alloc ?_ _) | (with_reducible refine Kd.C_drewN ?_ _) | (with_reducible refine Kd.C_drew ?_))); (case side2 => exact HC241_1.out); rintro e w' ⟨rfl, ⟨nd, rfl⟩⟩; refine ⟨_, rfl, ?_⟩; have p243 : 0 ≤ (x5_1 : Int) := of_decide_eq_true (by first | (with_reducible assumption) | assumption); have q243 : x5_1 < (l0.length : Int) := of_decide_eq_true (by first | (with_reducible assumption) | assumption); obtain ⟨ad243, A243_1, c243_1, A243_4, c243_4, A243_5, c243_5, e243, hx243_0, hx243_1, hx243_2, hx243_3, hx243_4, hx243_5, hl243_1, hi243_1, hl243_4, hi243_4, hl243_5, hi243_5⟩ := at_T132 HR0.out x5_1 p243 q243; obtain rfl : ad240 = ad243 := (by injection e243); replace hx243_0 := (HB.out.cell (World.block_lt_of_cell? w _ hx243_0)).trans hx243_0; replace hx243_1 := (HB.out.cell (World.block_lt_of_cell? w _ hx243_1)).trans hx243_1; replace hx243_2 := (HB.out.cell (World.block_lt_of_cell? w _ hx243_2)).trans hx243_2; replace hx243_3 := (HB.out.cell (World.block_lt_of_cell? w _ hx243_3)).trans hx243_3; replace hx243_4 := (HB.out.cell (World.block_lt_of_cell? w _ hx243_4)).trans hx243_4; replace hx243_5 := (HB.out.cell (World.block_lt_of_cell? w _ hx243_5)).trans hx243_5; have HR243_1 := Aside0.mk hi243_1; have HC243_1 := Aside0.mk hl243_1; clear hi243_1 hl243_1; have HR243_4 := Aside0.mk hi243_4; have HC243_4 := Aside0.mk hl243_4; clear hi243_4 hl243_4; have HR243_5 := Aside0.mk hi243_5; have HC243_5 := Aside0.mk hl243_5; clear hi243_5 hl243_5; replace p243 := eq_true p243; replace q243 := eq_true q243; have ea_ := Option.some.inj (hx240_1.symm.trans hx243_1); injection ea_ with ea_ en_ ec_; subst ea_; subst ec_; clear en_; have ea_ := Option.some.inj (hx240_4.symm.trans hx243_4); injection ea_ with ea_ en_ ec_; subst ea_; subst ec_; clear en_; have ea_ := Option.some.inj (hx240_5.symm.trans hx243_5); injection ea_ with ea_ en_ ec_; subst ea_; subst ec_; clear en_; have p244 : 0 ≤ (x5_1 : Int) := of_decide_eq_true (by first | (with_reducible assumption) | assumption); have q244 : x5_1 < (l0.length : Int) := of_decide_eq_true (by first | (with_reducible assumption) | assumption); obtain ⟨ad244, A244_1, c244_1, A244_4, c244_4, A244_5, c244_5, e244, hx244_0, hx244_1, hx244_2, hx244_3, hx244_4, hx244_5, hl244_1, hi244_1, hl244_4, hi244_4, hl244_5, hi244_5⟩ := at_T132 HR0.out x5_1 p244 q244; obtain rfl : ad240 = ad244 := (by injection e244); replace hx244_0 := (HB.out.cell (World.block_lt_of_cell? w _ hx244_0)).trans hx244_0; replace hx244_1 := (HB.out.cell (World.block_lt_of_cell? w _ hx244_1)).trans hx244_1; replace hx244_2 := (HB.out.cell (World.block_lt_of_cell? w _ hx244_2)).trans hx244_2; replace hx244_3 := (HB.out.cell (World.block_lt_of_cell? w _ hx244_3)).trans hx244_3; replace hx244_4 := (HB.out.cell (World.block_lt_of_cell? w _ hx244_4)).trans hx244_4; replace hx244_5 := (HB.out.cell (World.block_lt_of_cell? w _ hx244_5)).trans hx244_5; have HR244_1 := Aside0.mk hi244_1; have HC244_1 := Aside0.mk hl244_1; clear hi244_1 hl244_1; have HR244_4 := Aside0.mk hi244_4; have HC244_4 := Aside0.mk hl244_4; clear hi244_4 hl244_4; have HR244_5 := Aside0.mk hi244_5; have HC244_5 := Aside0.mk hl244_5; clear hi244_5 hl244_5; replace p244 := eq_true p244; replace q244 := eq_true q244; have ea_ := Option.some.inj (hx240_1.symm.trans hx244_1); injection ea_ with ea_ en_ ec_; subst ea_; subst ec_; clear en_; have ea_ := Option.some.inj (hx240_4.symm.trans hx244_4); injection ea_ with ea_ en_ ec_; subst ea_; subst ec_; clear en_; have ea_ := Option.some.inj (hx240_5.symm.trans hx244_5); injection ea_ with ea_ en_ ec_; subst ea_; subst ec_; clear en_; have p245 : 0 ≤ (x5_1 : Int) := of_decide_eq_true (by first | (with_reducible assumption) | assumption); have q245 : x5_1 < (l0.length : Int) := of_decide_eq_true (by first | (with_reducible assumption) | assumption); obtain ⟨ad245, A245_1, c245_1, A245_4, c245_4, A245_5, c245_5, e245, hx245_0, hx245_1, hx245_2, hx245_3, hx245_4, hx245_5, hl245_1, hi245_1, hl245_4, hi245_4, hl245_5, hi245_5⟩ := at_T132 HR0.out x5_1 p245 q245; obtain rfl : ad240 = ad245 := (by injection e245); replace hx245_0 := (HB.out.cell (World.block_lt_of_cell? w _ hx245_0)).trans hx245_0; replace hx245_1 := (HB.out.cell (World.block_lt_of_cell? w _ hx245_1)).trans hx245_1; replace hx245_2 := (HB.out.cell (World.block_lt_of_cell? w _ hx245_2)).trans hx245_2; replace hx245_3 := (HB.out.cell (World.block_lt_of_cell? w _ hx245_3)).trans hx245_3; replace hx245_4 := (HB.out.cell (World.block_lt_of_cell? w _ hx245_4)).trans hx245_4; replace hx245_5 := (HB.out.cell (World.block_lt_of_cell? w _ hx245_5)).trans hx245_5; have HR245_1 := Aside0.mk hi245_1; have HC245_1 := Aside0.mk hl245_1; clear hi245_1 hl245_1; have HR245_4 := Aside0.mk hi245_4; have HC245_4 := Aside0.mk hl245_4; clear hi245_4 hl245_4; have HR245_5 := Aside0.mk hi245_5; have HC245_5 := Aside0.mk hl245_5; clear hi245_5 hl245_5; replace p245 := eq_true p245; replace q245 := eq_true q245; have ea_ := Option.some.inj (hx240_1.symm.trans hx245_1); injection ea_ with ea_ en_ ec_; subst ea_; subst ec_; clear en_; have ea_ := Option.some.inj (hx240_4.symm.trans hx245_4); injection ea_ with ea_ en_ ec_; subst ea_; subst ec_; clear en_; have ea_ := Option.some.inj (hx240_5.symm.trans hx245_5); injection ea_ with ea_ en_ ec_; subst ea_; subst ec_; clear en_) | ((with_reducible refine gate_callee (f := 22) rfl ?_); refine goesL_ (some 54) rfl rfl Try.func22 (by kernel_rfl) rfl #[.slice A240_4 ((rd_T132 l0 x5_1).f4).length c240_4, .int .i64 (wrap64 ((wrap64 (t242 + 1)) + 1))] rfl (by (try simp only [List.map_toArray, List.map_cons, List.map_nil]); first | done | rfl | (simp only [List.length_drop, List.length_take]; rfl)) ?_; (with_reducible refine (laws_heldInt64S.calls k1 _ _ ((rd_T132 l0 x5_1).f4) (wrap64 ((wrap64 (t242 + 1)) + 1)) t246 _ ?side1 ?side2 A10.out).mono ?_); (case side1 => repeat (first | exact (Kd.C_below HR245_4.out (by repeat (first | (with_reducible first | exact HB.out | apply below_alloc | apply pw_below_drewN | apply below_drew1) | exact HB.out))) | (with_reducible refine Kd.C_alloc ?_ _) | (with_reducible refine Kd.C_drewN ?_ _) | (with_reducible refine Kd.C_drew ?_))); (case side2 => exact HC245_4.out); rintro e w' ⟨rfl, ⟨nd, rfl⟩⟩; refine ⟨_, rfl, ?_⟩))
                    go_ret
                    exact ⟨by first | rfl | (simp [errW_none, errW_some] <;> rfl) | (simp [*, errW_none, errW_some] <;> rfl), by repeat (first | (with_reducible first | exact HB.out | apply below_alloc | apply pw_below_drewN | apply below_drew1) | exact HB.out)⟩
                  · rw [if_neg c11] at H
                    have c11b0 : decide (t246 < 0) = false := decide_eq_false c11
                    clear c11
                    replace H := Option.bind_eq_some_iff.mp H
                    obtain ⟨t248, A120, H⟩ := H
                    replace H : (if t248 < 0 then (some (-1)) else (laws_heldZoneS.l0 k1 l0 t248 (wrap64 (x5_1 + 1)))) = some r := H
                    have A12 := Aside0.mk A120
                    clear A120
                    by_cases c13 : t248 < 0
                    · rw [if_pos c13] at H
                      have c13b0 : decide (t248 < 0) = true := decide_eq_true c13
                      clear c13
                      obtain rfl := Option.some.inj H
                      have p240 : 0 ≤ (x5_1 : Int) := of_decide_eq_true (by first | (with_reducible assumption) | assumption)
                      have q240 : x5_1 < (l0.length : Int) := of_decide_eq_true (by first | (with_reducible assumption) | assumption)
                      obtain ⟨ad240, A240_1, c240_1, A240_4, c240_4, A240_5, c240_5, e240, hx240_0, hx240_1, hx240_2, hx240_3, hx240_4, hx240_5, hl240_1, hi240_1, hl240_4, hi240_4, hl240_5, hi240_5⟩ := at_T132 HR0.out x5_1 p240 q240
                      cases e240
                      replace hx240_0 := (HB.out.cell (World.block_lt_of_cell? w _ hx240_0)).trans hx240_0
                      replace hx240_1 := (HB.out.cell (World.block_lt_of_cell? w _ hx240_1)).trans hx240_1
                      replace hx240_2 := (HB.out.cell (World.block_lt_of_cell? w _ hx240_2)).trans hx240_2
                      replace hx240_3 := (HB.out.cell (World.block_lt_of_cell? w _ hx240_3)).trans hx240_3
                      replace hx240_4 := (HB.out.cell (World.block_lt_of_cell? w _ hx240_4)).trans hx240_4
                      replace hx240_5 := (HB.out.cell (World.block_lt_of_cell? w _ hx240_5)).trans hx240_5
                      have HR240_1 := Aside0.mk hi240_1
                      have HC240_1 := Aside0.mk hl240_1
                      clear hi240_1 hl240_1
                      have HR240_4 := Aside0.mk hi240_4
                      have HC240_4 := Aside0.mk hl240_4
                      clear hi240_4 hl240_4
                      have HR240_5 := Aside0.mk hi240_5
                      have HC240_5 := Aside0.mk hl240_5
                      clear hi240_5 hl240_5
                      replace p240 := eq_true p240
                      replace q240 := eq_true q240
                      have p241 : 0 ≤ (x5_1 : Int) := of_decide_eq_true (by first | (with_reducible assumption) | assumption)
                      have q241 : x5_1 < (l0.length : Int) := of_decide_eq_true (by first | (with_reducible assumption) | assumption)
                      obtain ⟨ad241, A241_1, c241_1, A241_4, c241_4, A241_5, c241_5, e241, hx241_0, hx241_1, hx241_2, hx241_3, hx241_4, hx241_5, hl241_1, hi241_1, hl241_4, hi241_4, hl241_5, hi241_5⟩ := at_T132 HR0.out x5_1 p241 q241
                      obtain rfl : ad240 = ad241 := (by injection e241)
                      replace hx241_0 := (HB.out.cell (World.block_lt_of_cell? w _ hx241_0)).trans hx241_0
                      replace hx241_1 := (HB.out.cell (World.block_lt_of_cell? w _ hx241_1)).trans hx241_1
                      replace hx241_2 := (HB.out.cell (World.block_lt_of_cell? w _ hx241_2)).trans hx241_2
                      replace hx241_3 := (HB.out.cell (World.block_lt_of_cell? w _ hx241_3)).trans hx241_3
                      replace hx241_4 := (HB.out.cell (World.block_lt_of_cell? w _ hx241_4)).trans hx241_4
                      replace hx241_5 := (HB.out.cell (World.block_lt_of_cell? w _ hx241_5)).trans hx241_5
                      have HR241_1 := Aside0.mk hi241_1
                      have HC241_1 := Aside0.mk hl241_1
                      clear hi241_1 hl241_1
                      have HR241_4 := Aside0.mk hi241_4
                      have HC241_4 := Aside0.mk hl241_4
                      clear hi241_4 hl241_4
                      have HR241_5 := Aside0.mk hi241_5
                      have HC241_5 := Aside0.mk hl241_5
                      clear hi241_5 hl241_5
                      replace p241 := eq_true p241
                      replace q241 := eq_true q241
                      have ea_ := Option.some.inj (hx240_1.symm.trans hx241_1)
                      injection ea_ with ea_ en_ ec_
                      subst ea_
                      subst ec_
                      clear en_
                      have ea_ := Option.some.inj (hx240_4.symm.trans hx241_4)
                      injection ea_ with ea_ en_ ec_
                      subst ea_
                      subst ec_
                      clear en_
                      have ea_ := Option.some.inj (hx240_5.symm.trans hx241_5)
                      injection ea_ with ea_ en_ ec_
                      subst ea_
                      subst ec_
                      clear en_
                      go_wp2_with (first | ((with_reducible refine gate_callee (f := 22) rfl ?_); refine goesL_ (some 27) rfl rfl Try.func22 (by kernel_rfl) rfl #[.slice A240_1 ((rd_T132 l0 x5_1).f1).length c240_1, .int .i64 (wrap64 (x1_1 + 1))] rfl (by (try simp only [List.map_toArray, List.map_cons, List.map_nil]); first | done | rfl | (simp only [List.length_drop, List.length_take]; rfl)) ?_; (with_reducible refine (laws_heldInt64S.calls k1 _ _ ((rd_T132 l0 x5_1).f1) (wrap64 (x1_1 + 1)) t242 _ ?side1 ?side2 A6.out).mono ?_); (case side1 => repeat (first | exact (Kd.C_below HR241_1.out HB.out) | (with_reducible refine Kd.C_alloc ?_ _) | (with_reducible refine Kd.C_drewN ?_ _) | (with_reducible refine Kd.C_drew ?_))); (case side2 => exact HC241_1.out); rintro e w' ⟨rfl, ⟨nd, rfl⟩⟩; refine ⟨_, rfl, ?_⟩; have p243 : 0 ≤ (x5_1 : Int) := of_decide_eq_true (by first | (with_reducible assumption) | assumption); have q243 : x5_1 < (l0.length : Int) := of_decide_eq_true (by first | (with_reducible assumption) | assumption); obtain ⟨ad243, A243_1, c243_1, A243_4, c243_4, A243_5, c243_5, e243, hx243_0, hx243_1, hx243_2, hx243_3, hx243_4, hx243_5, hl243_1, hi243_1, hl243_4, hi243_4, hl243_5, hi243_5⟩ := at_T132 HR0.out x5_1 p243 q243; obtain rfl : ad240 = ad243 := (by injection e243); replace hx243_0 := (HB.out.cell (World.block_lt_of_cell? w _ hx243_0)).trans hx243_0; replace hx243_1 := (HB.out.cell (World.block_lt_of_cell? w _ hx243_1)).trans hx243_1; replace hx243_2 := (HB.out.cell (World.block_lt_of_cell? w _ hx243_2)).trans hx243_2; replace hx243_3 := (HB.out.cell (World.block_lt_of_cell? w _ hx243_3)).trans hx243_3; replace hx243_4 := (HB.out.cell (World.block_lt_of_cell? w _ hx243_4)).trans hx243_4; replace hx243_5 := (HB.out.cell (World.block_lt_of_cell? w _ hx243_5)).trans hx243_5; have HR243_1 := Aside0.mk hi243_1; have HC243_1 := Aside0.mk hl243_1; clear hi243_1 hl243_1; have HR243_4 := Aside0.mk hi243_4; have HC243_4 := Aside0.mk hl243_4; clear hi243_4 hl243_4; have HR243_5 := Aside0.mk hi243_5; have HC243_5 := Aside0.mk hl243_5; clear hi243_5 hl243_5; replace p243 := eq_true p243; replace q243 := eq_true q243; have ea_ := Option.some.inj (hx240_1.symm.trans hx243_1); injection ea_ with ea_ en_ ec_; subst ea_; subst ec_; clear en_; have ea_ := Option.some.inj (hx240_4.symm.trans hx243_4); injection ea_ with ea_ en_ ec_; subst ea_; subst ec_; clear en_; have ea_ := Option.some.inj (hx240_5.symm.trans hx243_5); injection ea_ with ea_ en_ ec_; subst ea_; subst ec_; clear en_; have p244 : 0 ≤ (x5_1 : Int) := of_decide_eq_true (by first | (with_reducible assumption) | assumption); have q244 : x5_1 < (l0.length : Int) := of_decide_eq_true (by first | (with_reducible assumption) | assumption); obtain ⟨ad244, A244_1, c244_1, A244_4, c244_4, A244_5, c244_5, e244, hx244_0, hx244_1, hx244_2, hx244_3, hx244_4, hx244_5, hl244_1, hi244_1, hl244_4, hi244_4, hl244_5, hi244_5⟩ := at_T132 HR0.out x5_1 p244 q244; obtain rfl : ad240 = ad244 := (by injection e244); replace hx244_0 := (HB.out.cell (World.block_lt_of_cell? w _ hx244_0)).trans hx244_0; replace hx244_1 := (HB.out.cell (World.block_lt_of_cell? w _ hx244_1)).trans hx244_1; replace hx244_2 := (HB.out.cell (World.block_lt_of_cell? w _ hx244_2)).trans hx244_2; replace hx244_3 := (HB.out.cell (World.block_lt_of_cell? w _ hx244_3)).trans hx244_3; replace hx244_4 := (HB.out.cell (World.block_lt_of_cell? w _ hx244_4)).trans hx244_4; replace hx244_5 := (HB.out.cell (World.block_lt_of_cell? w _ hx244_5)).trans hx244_5; have HR244_1 := Aside0.mk hi244_1; have HC244_1 := Aside0.mk hl244_1; clear hi244_1 hl244_1; have HR244_4 := Aside0.mk hi244_4; have HC244_4 := Aside0.mk hl244_4; clear hi244_4 hl244_4; have HR244_5 := Aside0.mk hi244_5; have HC244_5 := Aside0.mk hl244_5; clear hi244_5 hl244_5; replace p244 := eq_true p244; replace q244 := eq_true q244; have ea_ := Option.some.inj (hx240_1.symm.trans hx244_1); injection ea_ with ea_ en_ ec_; subst ea_; subst ec_; clear en_; have ea_ := Option.some.inj (hx240_4.symm.trans hx244_4); injection ea_ with ea_ en_ ec_; subst ea_; subst ec_; clear en_; have ea_ := Option.some.inj (hx240_5.symm.trans hx244_5); injection ea_ with ea_ en_ ec_; subst ea_; subst ec_; clear en_; have p245 : 0 ≤ (x5_1 : Int) := of_decide_eq_true (by first | (with_reducible assumption) | assumption); have q245 : x5_1 < (l0.length : Int) := of_decide_eq_true (by first | (with_reducible assumption) | assumption); obtain ⟨ad245, A245_1, c245_1, A245_4, c245_4, A245_5, c245_5, e245, hx245_0, hx245_1, hx245_2, hx245_3, hx245_4, hx245_5, hl245_1, hi245_1, hl245_4, hi245_4, hl245_5, hi245_5⟩ := at_T132 HR0.out x5_1 p245 q245; obtain rfl : ad240 = ad245 := (by injection e245); replace hx245_0 := (HB.out.cell (World.block_lt_of_cell? w _ hx245_0)).trans hx245_0; replace hx245_1 := (HB.out.cell (World.block_lt_of_cell? w _ hx245_1)).trans hx245_1; replace hx245_2 := (HB.out.cell (World.block_lt_of_cell? w _ hx245_2)).trans hx245_2; replace hx245_3 := (HB.out.cell (World.block_lt_of_cell? w _ hx245_3)).trans hx245_3; replace hx245_4 := (HB.out.cell (World.block_lt_of_cell? w _ hx245_4)).trans hx245_4; replace hx245_5 := (HB.out.cell (World.block_lt_of_cell? w _ hx245_5)).trans hx245_5; have HR245_1 := Aside0.mk hi245_1; have HC245_1 := Aside0.mk hl245_1; clear hi245_1 hl245_1; have HR245_4 := Aside0.mk hi245_4; have HC245_4 := Aside0.mk hl245_4; clear hi245_4 hl245_4; have HR245_5 := Aside0.mk hi245_5; have HC245_5 := Aside0.mk hl245_5; clear hi245_5 hl245_5; replace p245 := eq_true p245; replace q245 := eq_true q245; have ea_ := Option.some.inj (hx240_1.symm.trans hx245_1); injection ea_ with ea_ en_ ec_; subst ea_; subst ec_; clear en_; have ea_ := Option.some.inj (hx240_4.symm.trans hx245_4); injection ea_ with ea_ en_ ec_; subst ea_; subst ec_; clear en_; have ea_ := Option.some.inj (hx240_5.symm.trans hx245_5); injection ea_ with ea_ en_ ec_; subst ea_; subst ec_; clear en_) | ((with_reducible refine gate_callee (f := 22) rfl ?_); refine goesL_ (some 54) rfl rfl Try.func22 (by kernel_rfl) rfl #[.slice A240_4 ((rd_T132 l0 x5_1).f4).length c240_4, .int .i64 (wrap64 ((wrap64 (t242 + 1)) + 1))] rfl (by (try simp only [List.map_toArray, List.map_cons, List.map_nil]); first | done | rfl | (simp only [List.length_drop, List.length_take]; rfl)) ?_; (with_reducible refine (laws_heldInt64S.calls k1 _ _ ((rd_T132 l0 x5_1).f4) (wrap64 ((wrap64 (t242 + 1)) + 1)) t246 _ ?side1 ?side2 A10.out).mono ?_); (case side1 => repeat (first | exact (Kd.C_below HR245_4.out (by repeat (first | (with_reducible first | exact HB.out | apply below_alloc | apply pw_below_drewN | apply below_drew1) | exact HB.out))) | (with_reducible refine Kd.C_alloc ?_ _) | (with_reducible refine Kd.C_drewN ?_ _) | (with_reducible refine Kd.C_drew ?_))); (case side2 => exact HC245_4.out); rintro e w' ⟨rfl, ⟨nd, rfl⟩⟩; refine ⟨_, rfl, ?_⟩; have p247 : 0 ≤ (x5_1 : Int) := of_decide_eq_true (by first | (with_reducible assumption) | assumption); have q247 : x5_1 < (l0.length : Int) := of_decide_eq_true (by first | (with_reducible assumption) | assumption); obtain ⟨ad247, A247_1, c247_1, A247_4, c247_4, A247_5, c247_5, e247, hx247_0, hx247_1, hx247_2, hx247_3, hx247_4, hx247_5, hl247_1, hi247_1, hl247_4, hi247_4, hl247_5, hi247_5⟩ := at_T132 HR0.out x5_1 p247 q247; obtain rfl : ad240 = ad247 := (by injection e247); replace hx247_0 := (HB.out.cell (World.block_lt_of_cell? w _ hx247_0)).trans hx247_0; replace hx247_1 := (HB.out.cell (World.block_lt_of_cell? w _ hx247_1)).trans hx247_1; replace hx247_2 := (HB.out.cell (World.block_lt_of_cell? w _ hx247_2)).trans hx247_2; replace hx247_3 := (HB.out.cell (World.block_lt_of_cell? w _ hx247_3)).trans hx247_3; replace hx247_4 := (HB.out.cell (World.block_lt_of_cell? w _ hx247_4)).trans hx247_4; replace hx247_5 := (HB.out.cell (World.block_lt_of_cell? w _ hx247_5)).trans hx247_5; have HR247_1 := Aside0.mk hi247_1; have HC247_1 := Aside0.mk hl247_1; clear hi247_1 hl247_1; have HR247_4 := Aside0.mk hi247_4; have HC247_4 := Aside0.mk hl247_4; clear hi247_4 hl247_4; have HR247_5 := Aside0.mk hi247_5; have HC247_5 := Aside0.mk hl247_5; clear hi247_5 hl247_5; replace p247 := eq_true p247; replace q247 := eq_true q247; have ea_ := Option.some.inj (hx240_1.symm.trans hx247_1); injection ea_ with ea_ en_ ec_; subst ea_; subst ec_; clear en_; have ea_ := Option.some.inj (hx240_4.symm.trans hx247_4); injection ea_ with ea_ en_ ec_; subst ea_; subst ec_; clear en_; have ea_ := Option.some.inj (hx240_5.symm.trans hx247_5); injection ea_ with ea_ en_ ec_; subst ea_; subst ec_; clear en_) | ((with_reducible refine gate_callee (f := 164) rfl ?_); refine goesL_ (some 63) rfl rfl Try.func164 (by kernel_rfl) rfl #[.slice A240_5 ((rd_T132 l0 x5_1).f5).length c240_5, .int .i64 t246] rfl (by (try simp only [List.map_toArray, List.map_cons, List.map_nil]); first | done | rfl | (simp only [List.length_drop, List.length_take]; rfl)) ?_; (with_reducible refine (laws_heldStringS.calls k1 _ _ ((rd_T132 l0 x5_1).f5) t246 t248 _ ?side1 ?side2 A12.out).mono ?_); (case side1 => repeat (first | exact (Kd.C_below HR247_5.out (by repeat (first | (with_reducible first | exact HB.out | apply below_alloc | apply pw_below_drewN | apply below_drew1) | exact HB.out))) | (with_reducible refine Kd.C_alloc ?_ _) | (with_reducible refine Kd.C_drewN ?_ _) | (with_reducible refine Kd.C_drew ?_))); (case side2 => exact HC247_5.out); rintro e w14 ⟨rfl, hb⟩; refine ⟨_, rfl, ?_⟩; have n0_ := Aside0.mk (below_step (by repeat (first | (with_reducible first | exact HB.out | apply below_alloc | apply pw_below_drewN | apply below_drew1) | exact HB.out)) hb); clear HB; have HB := n0_; clear n0_; (try clear hb); (try clear hb2); (try clear hk); (try clear hi)))
                      go_ret
                      exact ⟨by first | rfl | (simp [errW_none, errW_some] <;> rfl) | (simp [*, errW_none, errW_some] <;> rfl), by repeat (first | (with_reducible first | exact HB.out | apply below_alloc | apply pw_below_drewN | apply below_drew1) | exact HB.out)⟩
                    · rw [if_neg c13] at H
                      have c13b0 : decide (t248 < 0) = false := decide_eq_false c13
                      clear c13
                      have H' := Aside0.mk H
                      clear H
                      have p240 : 0 ≤ (x5_1 : Int) := of_decide_eq_true (by first | (with_reducible assumption) | assumption)
                      have q240 : x5_1 < (l0.length : Int) := of_decide_eq_true (by first | (with_reducible assumption) | assumption)
                      obtain ⟨ad240, A240_1, c240_1, A240_4, c240_4, A240_5, c240_5, e240, hx240_0, hx240_1, hx240_2, hx240_3, hx240_4, hx240_5, hl240_1, hi240_1, hl240_4, hi240_4, hl240_5, hi240_5⟩ := at_T132 HR0.out x5_1 p240 q240
                      cases e240
                      replace hx240_0 := (HB.out.cell (World.block_lt_of_cell? w _ hx240_0)).trans hx240_0
                      replace hx240_1 := (HB.out.cell (World.block_lt_of_cell? w _ hx240_1)).trans hx240_1
                      replace hx240_2 := (HB.out.cell (World.block_lt_of_cell? w _ hx240_2)).trans hx240_2
                      replace hx240_3 := (HB.out.cell (World.block_lt_of_cell? w _ hx240_3)).trans hx240_3
                      replace hx240_4 := (HB.out.cell (World.block_lt_of_cell? w _ hx240_4)).trans hx240_4
                      replace hx240_5 := (HB.out.cell (World.block_lt_of_cell? w _ hx240_5)).trans hx240_5
                      have HR240_1 := Aside0.mk hi240_1
                      have HC240_1 := Aside0.mk hl240_1
                      clear hi240_1 hl240_1
                      have HR240_4 := Aside0.mk hi240_4
                      have HC240_4 := Aside0.mk hl240_4
                      clear hi240_4 hl240_4
                      have HR240_5 := Aside0.mk hi240_5
                      have HC240_5 := Aside0.mk hl240_5
                      clear hi240_5 hl240_5
                      replace p240 := eq_true p240
                      replace q240 := eq_true q240
                      have p241 : 0 ≤ (x5_1 : Int) := of_decide_eq_true (by first | (with_reducible assumption) | assumption)
                      have q241 : x5_1 < (l0.length : Int) := of_decide_eq_true (by first | (with_reducible assumption) | assumption)
                      obtain ⟨ad241, A241_1, c241_1, A241_4, c241_4, A241_5, c241_5, e241, hx241_0, hx241_1, hx241_2, hx241_3, hx241_4, hx241_5, hl241_1, hi241_1, hl241_4, hi241_4, hl241_5, hi241_5⟩ := at_T132 HR0.out x5_1 p241 q241
                      obtain rfl : ad240 = ad241 := (by injection e241)
                      replace hx241_0 := (HB.out.cell (World.block_lt_of_cell? w _ hx241_0)).trans hx241_0
                      replace hx241_1 := (HB.out.cell (World.block_lt_of_cell? w _ hx241_1)).trans hx241_1
                      replace hx241_2 := (HB.out.cell (World.block_lt_of_cell? w _ hx241_2)).trans hx241_2
                      replace hx241_3 := (HB.out.cell (World.block_lt_of_cell? w _ hx241_3)).trans hx241_3
                      replace hx241_4 := (HB.out.cell (World.block_lt_of_cell? w _ hx241_4)).trans hx241_4
                      replace hx241_5 := (HB.out.cell (World.block_lt_of_cell? w _ hx241_5)).trans hx241_5
                      have HR241_1 := Aside0.mk hi241_1
                      have HC241_1 := Aside0.mk hl241_1
                      clear hi241_1 hl241_1
                      have HR241_4 := Aside0.mk hi241_4
                      have HC241_4 := Aside0.mk hl241_4
                      clear hi241_4 hl241_4
                      have HR241_5 := Aside0.mk hi241_5
                      have HC241_5 := Aside0.mk hl241_5
                      clear hi241_5 hl241_5
                      replace p241 := eq_true p241
                      replace q241 := eq_true q241
                      have ea_ := Option.some.inj (hx240_1.symm.trans hx241_1)
                      injection ea_ with ea_ en_ ec_
                      subst ea_
                      subst ec_
                      clear en_
                      have ea_ := Option.some.inj (hx240_4.symm.trans hx241_4)
                      injection ea_ with ea_ en_ ec_
                      subst ea_
                      subst ec_
                      clear en_
                      have ea_ := Option.some.inj (hx240_5.symm.trans hx241_5)
                      injection ea_ with ea_ en_ ec_
                      subst ea_
                      subst ec_
                      clear en_
                      go_wp2_with (first | ((with_reducible refine gate_callee (f := 22) rfl ?_); refine goesL_ (some 27) rfl rfl Try.func22 (by kernel_rfl) rfl #[.slice A240_1 ((rd_T132 l0 x5_1).f1).length c240_1, .int .i64 (wrap64 (x1_1 + 1))] rfl (by (try simp only [List.map_toArray, List.map_cons, List.map_nil]); first | done | rfl | (simp only [List.length_drop, List.length_take]; rfl)) ?_; (with_reducible refine (laws_heldInt64S.calls k1 _ _ ((rd_T132 l0 x5_1).f1) (wrap64 (x1_1 + 1)) t242 _ ?side1 ?side2 A6.out).mono ?_); (case side1 => repeat (first | exact (Kd.C_below HR241_1.out HB.out) | (with_reducible refine Kd.C_alloc ?_ _) | (with_reducible refine Kd.C_drewN ?_ _) | (with_reducible refine Kd.C_drew ?_))); (case side2 => exact HC241_1.out); rintro e w' ⟨rfl, ⟨nd, rfl⟩⟩; refine ⟨_, rfl, ?_⟩; have p243 : 0 ≤ (x5_1 : Int) := of_decide_eq_true (by first | (with_reducible assumption) | assumption); have q243 : x5_1 < (l0.length : Int) := of_decide_eq_true (by first | (with_reducible assumption) | assumption); obtain ⟨ad243, A243_1, c243_1, A243_4, c243_4, A243_5, c243_5, e243, hx243_0, hx243_1, hx243_2, hx243_3, hx243_4, hx243_5, hl243_1, hi243_1, hl243_4, hi243_4, hl243_5, hi243_5⟩ := at_T132 HR0.out x5_1 p243 q243; obtain rfl : ad240 = ad243 := (by injection e243); replace hx243_0 := (HB.out.cell (World.block_lt_of_cell? w _ hx243_0)).trans hx243_0; replace hx243_1 := (HB.out.cell (World.block_lt_of_cell? w _ hx243_1)).trans hx243_1; replace hx243_2 := (HB.out.cell (World.block_lt_of_cell? w _ hx243_2)).trans hx243_2; replace hx243_3 := (HB.out.cell (World.block_lt_of_cell? w _ hx243_3)).trans hx243_3; replace hx243_4 := (HB.out.cell (World.block_lt_of_cell? w _ hx243_4)).trans hx243_4; replace hx243_5 := (HB.out.cell (World.block_lt_of_cell? w _ hx243_5)).trans hx243_5; have HR243_1 := Aside0.mk hi243_1; have HC243_1 := Aside0.mk hl243_1; clear hi243_1 hl243_1; have HR243_4 := Aside0.mk hi243_4; have HC243_4 := Aside0.mk hl243_4; clear hi243_4 hl243_4; have HR243_5 := Aside0.mk hi243_5; have HC243_5 := Aside0.mk hl243_5; clear hi243_5 hl243_5; replace p243 := eq_true p243; replace q243 := eq_true q243; have ea_ := Option.some.inj (hx240_1.symm.trans hx243_1); injection ea_ with ea_ en_ ec_; subst ea_; subst ec_; clear en_; have ea_ := Option.some.inj (hx240_4.symm.trans hx243_4); injection ea_ with ea_ en_ ec_; subst ea_; subst ec_; clear en_; have ea_ := Option.some.inj (hx240_5.symm.trans hx243_5); injection ea_ with ea_ en_ ec_; subst ea_; subst ec_; clear en_; have p244 : 0 ≤ (x5_1 : Int) := of_decide_eq_true (by first | (with_reducible assumption) | assumption); have q244 : x5_1 < (l0.length : Int) := of_decide_eq_true (by first | (with_reducible assumption) | assumption); obtain ⟨ad244, A244_1, c244_1, A244_4, c244_4, A244_5, c244_5, e244, hx244_0, hx244_1, hx244_2, hx244_3, hx244_4, hx244_5, hl244_1, hi244_1, hl244_4, hi244_4, hl244_5, hi244_5⟩ := at_T132 HR0.out x5_1 p244 q244; obtain rfl : ad240 = ad244 := (by injection e244); replace hx244_0 := (HB.out.cell (World.block_lt_of_cell? w _ hx244_0)).trans hx244_0; replace hx244_1 := (HB.out.cell (World.block_lt_of_cell? w _ hx244_1)).trans hx244_1; replace hx244_2 := (HB.out.cell (World.block_lt_of_cell? w _ hx244_2)).trans hx244_2; replace hx244_3 := (HB.out.cell (World.block_lt_of_cell? w _ hx244_3)).trans hx244_3; replace hx244_4 := (HB.out.cell (World.block_lt_of_cell? w _ hx244_4)).trans hx244_4; replace hx244_5 := (HB.out.cell (World.block_lt_of_cell? w _ hx244_5)).trans hx244_5; have HR244_1 := Aside0.mk hi244_1; have HC244_1 := Aside0.mk hl244_1; clear hi244_1 hl244_1; have HR244_4 := Aside0.mk hi244_4; have HC244_4 := Aside0.mk hl244_4; clear hi244_4 hl244_4; have HR244_5 := Aside0.mk hi244_5; have HC244_5 := Aside0.mk hl244_5; clear hi244_5 hl244_5; replace p244 := eq_true p244; replace q244 := eq_true q244; have ea_ := Option.some.inj (hx240_1.symm.trans hx244_1); injection ea_ with ea_ en_ ec_; subst ea_; subst ec_; clear en_; have ea_ := Option.some.inj (hx240_4.symm.trans hx244_4); injection ea_ with ea_ en_ ec_; subst ea_; subst ec_; clear en_; have ea_ := Option.some.inj (hx240_5.symm.trans hx244_5); injection ea_ with ea_ en_ ec_; subst ea_; subst ec_; clear en_; have p245 : 0 ≤ (x5_1 : Int) := of_decide_eq_true (by first | (with_reducible assumption) | assumption); have q245 : x5_1 < (l0.length : Int) := of_decide_eq_true (by first | (with_reducible assumption) | assumption); obtain ⟨ad245, A245_1, c245_1, A245_4, c245_4, A245_5, c245_5, e245, hx245_0, hx245_1, hx245_2, hx245_3, hx245_4, hx245_5, hl245_1, hi245_1, hl245_4, hi245_4, hl245_5, hi245_5⟩ := at_T132 HR0.out x5_1 p245 q245; obtain rfl : ad240 = ad245 := (by injection e245); replace hx245_0 := (HB.out.cell (World.block_lt_of_cell? w _ hx245_0)).trans hx245_0; replace hx245_1 := (HB.out.cell (World.block_lt_of_cell? w _ hx245_1)).trans hx245_1; replace hx245_2 := (HB.out.cell (World.block_lt_of_cell? w _ hx245_2)).trans hx245_2; replace hx245_3 := (HB.out.cell (World.block_lt_of_cell? w _ hx245_3)).trans hx245_3; replace hx245_4 := (HB.out.cell (World.block_lt_of_cell? w _ hx245_4)).trans hx245_4; replace hx245_5 := (HB.out.cell (World.block_lt_of_cell? w _ hx245_5)).trans hx245_5; have HR245_1 := Aside0.mk hi245_1; have HC245_1 := Aside0.mk hl245_1; clear hi245_1 hl245_1; have HR245_4 := Aside0.mk hi245_4; have HC245_4 := Aside0.mk hl245_4; clear hi245_4 hl245_4; have HR245_5 := Aside0.mk hi245_5; have HC245_5 := Aside0.mk hl245_5; clear hi245_5 hl245_5; replace p245 := eq_true p245; replace q245 := eq_true q245; have ea_ := Option.some.inj (hx240_1.symm.trans hx245_1); injection ea_ with ea_ en_ ec_; subst ea_; subst ec_; clear en_; have ea_ := Option.some.inj (hx240_4.symm.trans hx245_4); injection ea_ with ea_ en_ ec_; subst ea_; subst ec_; clear en_; have ea_ := Option.some.inj (hx240_5.symm.trans hx245_5); injection ea_ with ea_ en_ ec_; subst ea_; subst ec_; clear en_) | ((with_reducible refine gate_callee (f := 22) rfl ?_); refine goesL_ (some 54) rfl rfl Try.func22 (by kernel_rfl) rfl #[.slice A240_4 ((rd_T132 l0 x5_1).f4).length c240_4, .int .i64 (wrap64 ((wrap64 (t242 + 1)) + 1))] rfl (by (try simp only [List.map_toArray, List.map_cons, List.map_nil]); first | done | rfl | (simp only [List.length_drop, List.length_take]; rfl)) ?_; (with_reducible refine (laws_heldInt64S.calls k1 _ _ ((rd_T132 l0 x5_1).f4) (wrap64 ((wrap64 (t242 + 1)) + 1)) t246 _ ?side1 ?side2 A10.out).mono ?_); (case side1 => repeat (first | exact (Kd.C_below HR245_4.out (by repeat (first | (with_reducible first | exact HB.out | apply below_alloc | apply pw_below_drewN | apply below_drew1) | exact HB.out))) | (with_reducible refine Kd.C_alloc ?_ _) | (with_reducible refine Kd.C_drewN ?_ _) | (with_reducible refine Kd.C_drew ?_))); (case side2 => exact HC245_4.out); rintro e w' ⟨rfl, ⟨nd, rfl⟩⟩; refine ⟨_, rfl, ?_⟩; have p247 : 0 ≤ (x5_1 : Int) := of_decide_eq_true (by first | (with_reducible assumption) | assumption); have q247 : x5_1 < (l0.length : Int) := of_decide_eq_true (by first | (with_reducible assumption) | assumption); obtain ⟨ad247, A247_1, c247_1, A247_4, c247_4, A247_5, c247_5, e247, hx247_0, hx247_1, hx247_2, hx247_3, hx247_4, hx247_5, hl247_1, hi247_1, hl247_4, hi247_4, hl247_5, hi247_5⟩ := at_T132 HR0.out x5_1 p247 q247; obtain rfl : ad240 = ad247 := (by injection e247); replace hx247_0 := (HB.out.cell (World.block_lt_of_cell? w _ hx247_0)).trans hx247_0; replace hx247_1 := (HB.out.cell (World.block_lt_of_cell? w _ hx247_1)).trans hx247_1; replace hx247_2 := (HB.out.cell (World.block_lt_of_cell? w _ hx247_2)).trans hx247_2; replace hx247_3 := (HB.out.cell (World.block_lt_of_cell? w _ hx247_3)).trans hx247_3; replace hx247_4 := (HB.out.cell (World.block_lt_of_cell? w _ hx247_4)).trans hx247_4; replace hx247_5 := (HB.out.cell (World.block_lt_of_cell? w _ hx247_5)).trans hx247_5; have HR247_1 := Aside0.mk hi247_1; have HC247_1 := Aside0.mk hl247_1; clear hi247_1 hl247_1; have HR247_4 := Aside0.mk hi247_4; have HC247_4 := Aside0.mk hl247_4; clear hi247_4 hl247_4; have HR247_5 := Aside0.mk hi247_5; have HC247_5 := Aside0.mk hl247_5; clear hi247_5 hl247_5; replace p247 := eq_true p247; replace q247 := eq_true q247; have ea_ := Option.some.inj (hx240_1.symm.trans hx247_1); injection ea_ with ea_ en_ ec_; subst ea_; subst ec_; clear en_; have ea_ := Option.some.inj (hx240_4.symm.trans hx247_4); injection ea_ with ea_ en_ ec_; subst ea_; subst ec_; clear en_; have ea_ := Option.some.inj (hx240_5.symm.trans hx247_5); injection ea_ with ea_ en_ ec_; subst ea_; subst ec_; clear en_) | ((with_reducible refine gate_callee (f := 164) rfl ?_); refine goesL_ (some 63) rfl rfl Try.func164 (by kernel_rfl) rfl #[.slice A240_5 ((rd_T132 l0 x5_1).f5).length c240_5, .int .i64 t246] rfl (by (try simp only [List.map_toArray, List.map_cons, List.map_nil]); first | done | rfl | (simp only [List.length_drop, List.length_take]; rfl)) ?_; (with_reducible refine (laws_heldStringS.calls k1 _ _ ((rd_T132 l0 x5_1).f5) t246 t248 _ ?side1 ?side2 A12.out).mono ?_); (case side1 => repeat (first | exact (Kd.C_below HR247_5.out (by repeat (first | (with_reducible first | exact HB.out | apply below_alloc | apply pw_below_drewN | apply below_drew1) | exact HB.out))) | (with_reducible refine Kd.C_alloc ?_ _) | (with_reducible refine Kd.C_drewN ?_ _) | (with_reducible refine Kd.C_drew ?_))); (case side2 => exact HC247_5.out); rintro e w15 ⟨rfl, hb⟩; refine ⟨_, rfl, ?_⟩; have n0_ := Aside0.mk (below_step (by repeat (first | (with_reducible first | exact HB.out | apply below_alloc | apply pw_below_drewN | apply below_drew1) | exact HB.out)) hb); clear HB; have HB := n0_; clear n0_; (try clear hb); (try clear hb2); (try clear hk); (try clear hi)))
                      go_roundg k1
                      case measure => have := HK1.out; omega
                      case rel => exact ⟨(t248), (wrap64 (x5_1 + 1)), (by first | rfl | (simp; done) | (simp [*]; done)), (by first | rfl | (simp; done) | (simp [*]; done)), H', ⟨by have := HK1.out; omega⟩, ⟨by repeat (first | (with_reducible first | exact HB.out | apply below_alloc | apply pw_below_drewN | apply below_drew1) | exact HB.out)⟩⟩
                · rw [if_neg c9] at H
                  have c9b0 : (((rd_T132 l0 x5_1).f3) == (wrap64 (t242 + 1))) = false := beq_eq_false_iff_ne.mpr c9
                  have c9b1 : (((rd_T132 l0 x5_1).f3) != (wrap64 (t242 + 1))) = true := bne_iff_ne.mpr c9
                  obtain rfl := Option.some.inj H
                  have p240 : 0 ≤ (x5_1 : Int) := of_decide_eq_true (by first | (with_reducible assumption) | assumption)
                  have q240 : x5_1 < (l0.length : Int) := of_decide_eq_true (by first | (with_reducible assumption) | assumption)
                  obtain ⟨ad240, A240_1, c240_1, A240_4, c240_4, A240_5, c240_5, e240, hx240_0, hx240_1, hx240_2, hx240_3, hx240_4, hx240_5, hl240_1, hi240_1, hl240_4, hi240_4, hl240_5, hi240_5⟩ := at_T132 HR0.out x5_1 p240 q240
                  cases e240
                  replace hx240_0 := (HB.out.cell (World.block_lt_of_cell? w _ hx240_0)).trans hx240_0
                  replace hx240_1 := (HB.out.cell (World.block_lt_of_cell? w _ hx240_1)).trans hx240_1
                  replace hx240_2 := (HB.out.cell (World.block_lt_of_cell? w _ hx240_2)).trans hx240_2
                  replace hx240_3 := (HB.out.cell (World.block_lt_of_cell? w _ hx240_3)).trans hx240_3
                  replace hx240_4 := (HB.out.cell (World.block_lt_of_cell? w _ hx240_4)).trans hx240_4
                  replace hx240_5 := (HB.out.cell (World.block_lt_of_cell? w _ hx240_5)).trans hx240_5
                  have HR240_1 := Aside0.mk hi240_1
                  have HC240_1 := Aside0.mk hl240_1
                  clear hi240_1 hl240_1
                  have HR240_4 := Aside0.mk hi240_4
                  have HC240_4 := Aside0.mk hl240_4
                  clear hi240_4 hl240_4
                  have HR240_5 := Aside0.mk hi240_5
                  have HC240_5 := Aside0.mk hl240_5
                  clear hi240_5 hl240_5
                  replace p240 := eq_true p240
                  replace q240 := eq_true q240
                  have p241 : 0 ≤ (x5_1 : Int) := of_decide_eq_true (by first | (with_reducible assumption) | assumption)
                  have q241 : x5_1 < (l0.length : Int) := of_decide_eq_true (by first | (with_reducible assumption) | assumption)
                  obtain ⟨ad241, A241_1, c241_1, A241_4, c241_4, A241_5, c241_5, e241, hx241_0, hx241_1, hx241_2, hx241_3, hx241_4, hx241_5, hl241_1, hi241_1, hl241_4, hi241_4, hl241_5, hi241_5⟩ := at_T132 HR0.out x5_1 p241 q241
                  obtain rfl : ad240 = ad241 := (by injection e241)
                  replace hx241_0 := (HB.out.cell (World.block_lt_of_cell? w _ hx241_0)).trans hx241_0
                  replace hx241_1 := (HB.out.cell (World.block_lt_of_cell? w _ hx241_1)).trans hx241_1
                  replace hx241_2 := (HB.out.cell (World.block_lt_of_cell? w _ hx241_2)).trans hx241_2
                  replace hx241_3 := (HB.out.cell (World.block_lt_of_cell? w _ hx241_3)).trans hx241_3
                  replace hx241_4 := (HB.out.cell (World.block_lt_of_cell? w _ hx241_4)).trans hx241_4
                  replace hx241_5 := (HB.out.cell (World.block_lt_of_cell? w _ hx241_5)).trans hx241_5
                  have HR241_1 := Aside0.mk hi241_1
                  have HC241_1 := Aside0.mk hl241_1
                  clear hi241_1 hl241_1
                  have HR241_4 := Aside0.mk hi241_4
                  have HC241_4 := Aside0.mk hl241_4
                  clear hi241_4 hl241_4
                  have HR241_5 := Aside0.mk hi241_5
                  have HC241_5 := Aside0.mk hl241_5
                  clear hi241_5 hl241_5
                  replace p241 := eq_true p241
                  replace q241 := eq_true q241
                  have ea_ := Option.some.inj (hx240_1.symm.trans hx241_1)
                  injection ea_ with ea_ en_ ec_
                  subst ea_
                  subst ec_
                  clear en_
                  have ea_ := Option.some.inj (hx240_4.symm.trans hx241_4)
                  injection ea_ with ea_ en_ ec_
                  subst ea_
                  subst ec_
                  clear en_
                  have ea_ := Option.some.inj (hx240_5.symm.trans hx241_5)
                  injection ea_ with ea_ en_ ec_
                  subst ea_
                  subst ec_
                  clear en_
                  go_wp2_with (first | ((with_reducible refine gate_callee (f := 22) rfl ?_); refine goesL_ (some 27) rfl rfl Try.func22 (by kernel_rfl) rfl #[.slice A240_1 ((rd_T132 l0 x5_1).f1).length c240_1, .int .i64 (wrap64 (x1_1 + 1))] rfl (by (try simp only [List.map_toArray, List.map_cons, List.map_nil]); first | done | rfl | (simp only [List.length_drop, List.length_take]; rfl)) ?_; (with_reducible refine (laws_heldInt64S.calls k1 _ _ ((rd_T132 l0 x5_1).f1) (wrap64 (x1_1 + 1)) t242 _ ?side1 ?side2 A6.out).mono ?_); (case side1 => repeat (first | exact (Kd.C_below HR241_1.out HB.out) | (with_reducible refine Kd.C_alloc ?_ _) | (with_reducible refine Kd.C_drewN ?_ _) | (with_reducible refine Kd.C_drew ?_))); (case side2 => exact HC241_1.out); rintro e w' ⟨rfl, ⟨nd, rfl⟩⟩; refine ⟨_, rfl, ?_⟩; have p243 : 0 ≤ (x5_1 : Int) := of_decide_eq_true (by first | (with_reducible assumption) | assumption); have q243 : x5_1 < (l0.length : Int) := of_decide_eq_true (by first | (with_reducible assumption) | assumption); obtain ⟨ad243, A243_1, c243_1, A243_4, c243_4, A243_5, c243_5, e243, hx243_0, hx243_1, hx243_2, hx243_3, hx243_4, hx243_5, hl243_1, hi243_1, hl243_4, hi243_4, hl243_5, hi243_5⟩ := at_T132 HR0.out x5_1 p243 q243; obtain rfl : ad240 = ad243 := (by injection e243); replace hx243_0 := (HB.out.cell (World.block_lt_of_cell? w _ hx243_0)).trans hx243_0; replace hx243_1 := (HB.out.cell (World.block_lt_of_cell? w _ hx243_1)).trans hx243_1; replace hx243_2 := (HB.out.cell (World.block_lt_of_cell? w _ hx243_2)).trans hx243_2; replace hx243_3 := (HB.out.cell (World.block_lt_of_cell? w _ hx243_3)).trans hx243_3; replace hx243_4 := (HB.out.cell (World.block_lt_of_cell? w _ hx243_4)).trans hx243_4; replace hx243_5 := (HB.out.cell (World.block_lt_of_cell? w _ hx243_5)).trans hx243_5; have HR243_1 := Aside0.mk hi243_1; have HC243_1 := Aside0.mk hl243_1; clear hi243_1 hl243_1; have HR243_4 := Aside0.mk hi243_4; have HC243_4 := Aside0.mk hl243_4; clear hi243_4 hl243_4; have HR243_5 := Aside0.mk hi243_5; have HC243_5 := Aside0.mk hl243_5; clear hi243_5 hl243_5; replace p243 := eq_true p243; replace q243 := eq_true q243; have ea_ := Option.some.inj (hx240_1.symm.trans hx243_1); injection ea_ with ea_ en_ ec_; subst ea_; subst ec_; clear en_; have ea_ := Option.some.inj (hx240_4.symm.trans hx243_4); injection ea_ with ea_ en_ ec_; subst ea_; subst ec_; clear en_; have ea_ := Option.some.inj (hx240_5.symm.trans hx243_5); injection ea_ with ea_ en_ ec_; subst ea_; subst ec_; clear en_; have p244 : 0 ≤ (x5_1 : Int) := of_decide_eq_true (by first | (with_reducible assumption) | assumption); have q244 : x5_1 < (l0.length : Int) := of_decide_eq_true (by first | (with_reducible assumption) | assumption); obtain ⟨ad244, A244_1, c244_1, A244_4, c244_4, A244_5, c244_5, e244, hx244_0, hx244_1, hx244_2, hx244_3, hx244_4, hx244_5, hl244_1, hi244_1, hl244_4, hi244_4, hl244_5, hi244_5⟩ := at_T132 HR0.out x5_1 p244 q244; obtain rfl : ad240 = ad244 := (by injection e244); replace hx244_0 := (HB.out.cell (World.block_lt_of_cell? w _ hx244_0)).trans hx244_0; replace hx244_1 := (HB.out.cell (World.block_lt_of_cell? w _ hx244_1)).trans hx244_1; replace hx244_2 := (HB.out.cell (World.block_lt_of_cell? w _ hx244_2)).trans hx244_2; replace hx244_3 := (HB.out.cell (World.block_lt_of_cell? w _ hx244_3)).trans hx244_3; replace hx244_4 := (HB.out.cell (World.block_lt_of_cell? w _ hx244_4)).trans hx244_4; replace hx244_5 := (HB.out.cell (World.block_lt_of_cell? w _ hx244_5)).trans hx244_5; have HR244_1 := Aside0.mk hi244_1; have HC244_1 := Aside0.mk hl244_1; clear hi244_1 hl244_1; have HR244_4 := Aside0.mk hi244_4; have HC244_4 := Aside0.mk hl244_4; clear hi244_4 hl244_4; have HR244_5 := Aside0.mk hi244_5; have HC244_5 := Aside0.mk hl244_5; clear hi244_5 hl244_5; replace p244 := eq_true p244; replace q244 := eq_true q244; have ea_ := Option.some.inj (hx240_1.symm.trans hx244_1); injection ea_ with ea_ en_ ec_; subst ea_; subst ec_; clear en_; have ea_ := Option.some.inj (hx240_4.symm.trans hx244_4); injection ea_ with ea_ en_ ec_; subst ea_; subst ec_; clear en_; have ea_ := Option.some.inj (hx240_5.symm.trans hx244_5); injection ea_ with ea_ en_ ec_; subst ea_; subst ec_; clear en_))
                  go_ret
                  exact ⟨by first | rfl | (simp [errW_none, errW_some] <;> rfl) | (simp [*, errW_none, errW_some] <;> rfl), by repeat (first | (with_reducible first | exact HB.out | apply below_alloc | apply pw_below_drewN | apply below_drew1) | exact HB.out)⟩
              · rw [if_neg c8] at H
                have c8b0 : (((rd_T132 l0 x5_1).f2) == t242) = false := beq_eq_false_iff_ne.mpr c8
                have c8b1 : (((rd_T132 l0 x5_1).f2) != t242) = true := bne_iff_ne.mpr c8
                obtain rfl := Option.some.inj H
                have p240 : 0 ≤ (x5_1 : Int) := of_decide_eq_true (by first | (with_reducible assumption) | assumption)
                have q240 : x5_1 < (l0.length : Int) := of_decide_eq_true (by first | (with_reducible assumption) | assumption)
                obtain ⟨ad240, A240_1, c240_1, A240_4, c240_4, A240_5, c240_5, e240, hx240_0, hx240_1, hx240_2, hx240_3, hx240_4, hx240_5, hl240_1, hi240_1, hl240_4, hi240_4, hl240_5, hi240_5⟩ := at_T132 HR0.out x5_1 p240 q240
                cases e240
                replace hx240_0 := (HB.out.cell (World.block_lt_of_cell? w _ hx240_0)).trans hx240_0
                replace hx240_1 := (HB.out.cell (World.block_lt_of_cell? w _ hx240_1)).trans hx240_1
                replace hx240_2 := (HB.out.cell (World.block_lt_of_cell? w _ hx240_2)).trans hx240_2
                replace hx240_3 := (HB.out.cell (World.block_lt_of_cell? w _ hx240_3)).trans hx240_3
                replace hx240_4 := (HB.out.cell (World.block_lt_of_cell? w _ hx240_4)).trans hx240_4
                replace hx240_5 := (HB.out.cell (World.block_lt_of_cell? w _ hx240_5)).trans hx240_5
                have HR240_1 := Aside0.mk hi240_1
                have HC240_1 := Aside0.mk hl240_1
                clear hi240_1 hl240_1
                have HR240_4 := Aside0.mk hi240_4
                have HC240_4 := Aside0.mk hl240_4
                clear hi240_4 hl240_4
                have HR240_5 := Aside0.mk hi240_5
                have HC240_5 := Aside0.mk hl240_5
                clear hi240_5 hl240_5
                replace p240 := eq_true p240
                replace q240 := eq_true q240
                have p241 : 0 ≤ (x5_1 : Int) := of_decide_eq_true (by first | (with_reducible assumption) | assumption)
                have q241 : x5_1 < (l0.length : Int) := of_decide_eq_true (by first | (with_reducible assumption) | assumption)
                obtain ⟨ad241, A241_1, c241_1, A241_4, c241_4, A241_5, c241_5, e241, hx241_0, hx241_1, hx241_2, hx241_3, hx241_4, hx241_5, hl241_1, hi241_1, hl241_4, hi241_4, hl241_5, hi241_5⟩ := at_T132 HR0.out x5_1 p241 q241
                obtain rfl : ad240 = ad241 := (by injection e241)
                replace hx241_0 := (HB.out.cell (World.block_lt_of_cell? w _ hx241_0)).trans hx241_0
                replace hx241_1 := (HB.out.cell (World.block_lt_of_cell? w _ hx241_1)).trans hx241_1
                replace hx241_2 := (HB.out.cell (World.block_lt_of_cell? w _ hx241_2)).trans hx241_2
                replace hx241_3 := (HB.out.cell (World.block_lt_of_cell? w _ hx241_3)).trans hx241_3
                replace hx241_4 := (HB.out.cell (World.block_lt_of_cell? w _ hx241_4)).trans hx241_4
                replace hx241_5 := (HB.out.cell (World.block_lt_of_cell? w _ hx241_5)).trans hx241_5
                have HR241_1 := Aside0.mk hi241_1
                have HC241_1 := Aside0.mk hl241_1
                clear hi241_1 hl241_1
                have HR241_4 := Aside0.mk hi241_4
                have HC241_4 := Aside0.mk hl241_4
                clear hi241_4 hl241_4
                have HR241_5 := Aside0.mk hi241_5
                have HC241_5 := Aside0.mk hl241_5
                clear hi241_5 hl241_5
                replace p241 := eq_true p241
                replace q241 := eq_true q241
                have ea_ := Option.some.inj (hx240_1.symm.trans hx241_1)
                injection ea_ with ea_ en_ ec_
                subst ea_
                subst ec_
                clear en_
                have ea_ := Option.some.inj (hx240_4.symm.trans hx241_4)
                injection ea_ with ea_ en_ ec_
                subst ea_
                subst ec_
                clear en_
                have ea_ := Option.some.inj (hx240_5.symm.trans hx241_5)
                injection ea_ with ea_ en_ ec_
                subst ea_
                subst ec_
                clear en_
                go_wp2_with (first | ((with_reducible refine gate_callee (f := 22) rfl ?_); refine goesL_ (some 27) rfl rfl Try.func22 (by kernel_rfl) rfl #[.slice A240_1 ((rd_T132 l0 x5_1).f1).length c240_1, .int .i64 (wrap64 (x1_1 + 1))] rfl (by (try simp only [List.map_toArray, List.map_cons, List.map_nil]); first | done | rfl | (simp only [List.length_drop, List.length_take]; rfl)) ?_; (with_reducible refine (laws_heldInt64S.calls k1 _ _ ((rd_T132 l0 x5_1).f1) (wrap64 (x1_1 + 1)) t242 _ ?side1 ?side2 A6.out).mono ?_); (case side1 => repeat (first | exact (Kd.C_below HR241_1.out HB.out) | (with_reducible refine Kd.C_alloc ?_ _) | (with_reducible refine Kd.C_drewN ?_ _) | (with_reducible refine Kd.C_drew ?_))); (case side2 => exact HC241_1.out); rintro e w' ⟨rfl, ⟨nd, rfl⟩⟩; refine ⟨_, rfl, ?_⟩; have p243 : 0 ≤ (x5_1 : Int) := of_decide_eq_true (by first | (with_reducible assumption) | assumption); have q243 : x5_1 < (l0.length : Int) := of_decide_eq_true (by first | (with_reducible assumption) | assumption); obtain ⟨ad243, A243_1, c243_1, A243_4, c243_4, A243_5, c243_5, e243, hx243_0, hx243_1, hx243_2, hx243_3, hx243_4, hx243_5, hl243_1, hi243_1, hl243_4, hi243_4, hl243_5, hi243_5⟩ := at_T132 HR0.out x5_1 p243 q243; obtain rfl : ad240 = ad243 := (by injection e243); replace hx243_0 := (HB.out.cell (World.block_lt_of_cell? w _ hx243_0)).trans hx243_0; replace hx243_1 := (HB.out.cell (World.block_lt_of_cell? w _ hx243_1)).trans hx243_1; replace hx243_2 := (HB.out.cell (World.block_lt_of_cell? w _ hx243_2)).trans hx243_2; replace hx243_3 := (HB.out.cell (World.block_lt_of_cell? w _ hx243_3)).trans hx243_3; replace hx243_4 := (HB.out.cell (World.block_lt_of_cell? w _ hx243_4)).trans hx243_4; replace hx243_5 := (HB.out.cell (World.block_lt_of_cell? w _ hx243_5)).trans hx243_5; have HR243_1 := Aside0.mk hi243_1; have HC243_1 := Aside0.mk hl243_1; clear hi243_1 hl243_1; have HR243_4 := Aside0.mk hi243_4; have HC243_4 := Aside0.mk hl243_4; clear hi243_4 hl243_4; have HR243_5 := Aside0.mk hi243_5; have HC243_5 := Aside0.mk hl243_5; clear hi243_5 hl243_5; replace p243 := eq_true p243; replace q243 := eq_true q243; have ea_ := Option.some.inj (hx240_1.symm.trans hx243_1); injection ea_ with ea_ en_ ec_; subst ea_; subst ec_; clear en_; have ea_ := Option.some.inj (hx240_4.symm.trans hx243_4); injection ea_ with ea_ en_ ec_; subst ea_; subst ec_; clear en_; have ea_ := Option.some.inj (hx240_5.symm.trans hx243_5); injection ea_ with ea_ en_ ec_; subst ea_; subst ec_; clear en_))
                go_ret
                exact ⟨by first | rfl | (simp [errW_none, errW_some] <;> rfl) | (simp [*, errW_none, errW_some] <;> rfl), by repeat (first | (with_reducible first | exact HB.out | apply below_alloc | apply pw_below_drewN | apply below_drew1) | exact HB.out)⟩
          · rw [if_neg c5] at H
            have c5b0 : (((rd_T132 l0 x5_1).f0) == x1_1) = false := beq_eq_false_iff_ne.mpr c5
            have c5b1 : (((rd_T132 l0 x5_1).f0) != x1_1) = true := bne_iff_ne.mpr c5
            obtain rfl := Option.some.inj H
            have p240 : 0 ≤ (x5_1 : Int) := of_decide_eq_true (by first | (with_reducible assumption) | assumption)
            have q240 : x5_1 < (l0.length : Int) := of_decide_eq_true (by first | (with_reducible assumption) | assumption)
            obtain ⟨ad240, A240_1, c240_1, A240_4, c240_4, A240_5, c240_5, e240, hx240_0, hx240_1, hx240_2, hx240_3, hx240_4, hx240_5, hl240_1, hi240_1, hl240_4, hi240_4, hl240_5, hi240_5⟩ := at_T132 HR0.out x5_1 p240 q240
            cases e240
            replace hx240_0 := (HB.out.cell (World.block_lt_of_cell? w _ hx240_0)).trans hx240_0
            replace hx240_1 := (HB.out.cell (World.block_lt_of_cell? w _ hx240_1)).trans hx240_1
            replace hx240_2 := (HB.out.cell (World.block_lt_of_cell? w _ hx240_2)).trans hx240_2
            replace hx240_3 := (HB.out.cell (World.block_lt_of_cell? w _ hx240_3)).trans hx240_3
            replace hx240_4 := (HB.out.cell (World.block_lt_of_cell? w _ hx240_4)).trans hx240_4
            replace hx240_5 := (HB.out.cell (World.block_lt_of_cell? w _ hx240_5)).trans hx240_5
            have HR240_1 := Aside0.mk hi240_1
            have HC240_1 := Aside0.mk hl240_1
            clear hi240_1 hl240_1
            have HR240_4 := Aside0.mk hi240_4
            have HC240_4 := Aside0.mk hl240_4
            clear hi240_4 hl240_4
            have HR240_5 := Aside0.mk hi240_5
            have HC240_5 := Aside0.mk hl240_5
            clear hi240_5 hl240_5
            replace p240 := eq_true p240
            replace q240 := eq_true q240
            go_wp2
            go_ret
            exact ⟨by first | rfl | (simp [errW_none, errW_some] <;> rfl) | (simp [*, errW_none, errW_some] <;> rfl), by repeat (first | (with_reducible first | exact HB.out | apply below_alloc | apply pw_below_drewN | apply below_drew1) | exact HB.out)⟩
        · rw [if_neg c4] at H
          exact absurd H (by simp)
      · rw [if_neg c3] at H
        have c3b0 : decide (x5_1 < (l0.length : Int)) = false := decide_eq_false c3
        clear c3
        obtain rfl := Option.some.inj H
        go_wp2
        go_ret
        exact ⟨by first | rfl | (simp [errW_none, errW_some] <;> rfl) | (simp [*, errW_none, errW_some] <;> rfl), by repeat (first | (with_reducible first | exact HB.out | apply below_alloc | apply pw_below_drewN | apply below_drew1) | exact HB.out)⟩

def laws_heldDevice.f (k : Nat) (a0_0 : Int) (a0_1 : Int) (a0_2 : Int) (l0_3 : List (S120)) (a0_4 : Int) (a0_5 : Int) (a0_6 : Bool) (a0_7 : Int) (l0_8 : List (S132)) (a1 : Int) : Option (Int) := (laws_heldFlash.f k a0_0 a0_1 a0_2 l0_3 a0_4 a0_5 a0_6 a0_7 a1).bind fun t250 => (if t250 < 0 then (some (-1)) else ((laws_heldZoneS.f k l0_8 t250).bind fun t251 => (if t251 < 0 then (some (-1)) else (some t251))))
set_option maxHeartbeats 8000000 in
set_option maxRecDepth 100000 in
theorem laws_heldDevice.calls (k : Nat) (a0_0 : Int) (a0_1 : Int) (a0_2 : Int) (A0_3 : Option Addr) (c0_3 : Nat) (l0_3 : List (S120)) (a0_4 : Int) (a0_5 : Int) (a0_6 : Bool) (a0_7 : Int) (A0_8 : Option Addr) (c0_8 : Nat) (l0_8 : List (S132)) (a1 : Int) (r : Int) (w : World) (hr0_3 : Kd.C k120 w A0_3 l0_3.length l0_3) (hc0_3 : l0_3.length ≤ c0_3) (hr0_8 : Kd.C k132 w A0_8 l0_8.length l0_8) (hc0_8 : l0_8.length ≤ c0_8) (h : laws_heldDevice.f k a0_0 a0_1 a0_2 l0_3 a0_4 a0_5 a0_6 a0_7 l0_8 a1 = some r) :
    Calls Try.prog 43 #[.agg #[.int .i64 a0_0, .int .i64 a0_1, .int .i64 a0_2, .slice A0_3 l0_3.length c0_3, .int .i64 a0_4, .int .i64 a0_5, .bool a0_6, .int .i64 a0_7, .slice A0_8 l0_8.length c0_8], .int .i64 a1] w fun e w' => e = .returned (.int .i64 r) ∧ Below w.heap.size w w' := by
  have hu75 := Try.underlying75
  have hu40 := Try.underlying40
  have HR0_3 := Aside0.mk hr0_3
  have HC0_3 := Aside0.mk hc0_3
  clear hr0_3 hc0_3
  have HR0_8 := Aside0.mk hr0_8
  have HC0_8 := Aside0.mk hc0_8
  clear hr0_8 hc0_8
  have HB := Aside0.mk (Below.refl w.heap.size w)
  have H : ((laws_heldFlash.f k a0_0 a0_1 a0_2 l0_3 a0_4 a0_5 a0_6 a0_7 a1).bind fun t250 => (if t250 < 0 then (some (-1)) else ((laws_heldZoneS.f k l0_8 t250).bind fun t251 => (if t251 < 0 then (some (-1)) else (some t251))))) = some r := h
  clear h
  replace H := Option.bind_eq_some_iff.mp H
  obtain ⟨t250, A30, H⟩ := H
  replace H : (if t250 < 0 then (some (-1)) else ((laws_heldZoneS.f k l0_8 t250).bind fun t251 => (if t251 < 0 then (some (-1)) else (some t251)))) = some r := H
  have A3 := Aside0.mk A30
  clear A30
  by_cases c4 : t250 < 0
  · rw [if_pos c4] at H
    have c4b0 : decide (t250 < 0) = true := decide_eq_true c4
    clear c4
    obtain rfl := Option.some.inj H
    go_enter Try.func43, Try.ntmps43
    go_wp2_with (first | ((with_reducible refine gate_dst (N := 2) rfl ?_); refine box_event ?hg (N := 2) ?hd (cs := #[.int .i64 a0_0, .int .i64 a0_1, .int .i64 a0_2, .slice A0_3 l0_3.length c0_3, .int .i64 a0_4, .int .i64 a0_5, .bool a0_6, .int .i64 a0_7, .slice A0_8 l0_8.length c0_8]) (t := 75) ?hr ?_; (case hd => rfl); (case hg => rfl); (case hr => first | (go_simp; done) | (go_simp; rfl)); intro gb249 hg w5 hbox hb; have n0_ := Aside0.mk (below_step (by repeat (first | (with_reducible first | exact HB.out | apply below_alloc | apply pw_below_drewN | apply below_drew1) | exact HB.out)) hb); have n1_ := Aside0.mk (hbox); have n2_ := Aside0.mk ((by rw [hg]; exact (below_size (by repeat (first | (with_reducible first | exact HB.out | apply below_alloc | apply pw_below_drewN | apply below_drew1) | exact HB.out))) : w.heap.size ≤ gb249)); have n3_ := Aside0.mk ((by rw [hg]; exact (below_size (by repeat (first | (with_reducible first | exact HB.out | apply below_alloc | apply pw_below_drewN | apply below_drew1) | exact HB.out))) : w.heap.size ≤ gb249)); clear HB; have HB := n0_; have BK249 := n1_; have GW249 := n2_; have GE249 := n3_; clear n0_ n1_ n2_ n3_; clear hb hbox hg; have hcz6_0 : w5.cell? ⟨gb249, 0, none⟩ = some (.int .i64 a0_0) := (blk_cell BK249.out 0).trans rfl; have hcz6_1 : w5.cell? ⟨gb249, 1, none⟩ = some (.int .i64 a0_1) := (blk_cell BK249.out 1).trans rfl; have hcz6_2 : w5.cell? ⟨gb249, 2, none⟩ = some (.int .i64 a0_2) := (blk_cell BK249.out 2).trans rfl; have hcz6_3 : w5.cell? ⟨gb249, 3, none⟩ = some (.slice A0_3 l0_3.length c0_3) := (blk_cell BK249.out 3).trans rfl; have hcz6_4 : w5.cell? ⟨gb249, 4, none⟩ = some (.int .i64 a0_4) := (blk_cell BK249.out 4).trans rfl; have hcz6_5 : w5.cell? ⟨gb249, 5, none⟩ = some (.int .i64 a0_5) := (blk_cell BK249.out 5).trans rfl; have hcz6_6 : w5.cell? ⟨gb249, 6, none⟩ = some (.bool a0_6) := (blk_cell BK249.out 6).trans rfl; have hcz6_7 : w5.cell? ⟨gb249, 7, none⟩ = some (.int .i64 a0_7) := (blk_cell BK249.out 7).trans rfl; have hcz6_8 : w5.cell? ⟨gb249, 8, none⟩ = some (.slice A0_8 l0_8.length c0_8) := (blk_cell BK249.out 8).trans rfl; have hfz6_0 := blk_frozen BK249.out 0; have hfz6_1 := blk_frozen BK249.out 1; have hfz6_2 := blk_frozen BK249.out 2; have hfz6_3 := blk_frozen BK249.out 3; have hfz6_4 := blk_frozen BK249.out 4; have hfz6_5 := blk_frozen BK249.out 5; have hfz6_6 := blk_frozen BK249.out 6; have hfz6_7 := blk_frozen BK249.out 7; have hfz6_8 := blk_frozen BK249.out 8) | ((with_reducible refine gate_callee (f := 101) rfl ?_); refine goesL_ (some 8) rfl rfl Try.func101 (by kernel_rfl) rfl #[.agg #[.int .i64 a0_0, .int .i64 a0_1, .int .i64 a0_2, .slice A0_3 l0_3.length c0_3, .int .i64 a0_4, .int .i64 a0_5, .bool a0_6, .int .i64 a0_7], .int .i64 a1] rfl (by (try simp only [List.map_toArray, List.map_cons, List.map_nil]); first | done | rfl | (simp only [List.length_drop, List.length_take]; rfl)) ?_; (with_reducible refine (laws_heldFlash.calls k a0_0 a0_1 a0_2 _ _ l0_3 a0_4 a0_5 a0_6 a0_7 a1 t250 _ ?side1 ?side2 A3.out).mono ?_); (case side1 => repeat (first | exact (Kd.C_below HR0_3.out HB.out) | (with_reducible refine Kd.C_alloc ?_ _) | (with_reducible refine Kd.C_drewN ?_ _) | (with_reducible refine Kd.C_drew ?_))); (case side2 => exact HC0_3.out); rintro e w7 ⟨rfl, hb⟩; refine ⟨_, rfl, ?_⟩; have n0_ := Aside0.mk (blk_below (g := gb249) (o := .cells #[.int .i64 a0_0, .int .i64 a0_1, .int .i64 a0_2, .slice A0_3 l0_3.length c0_3, .int .i64 a0_4, .int .i64 a0_5, .bool a0_6, .int .i64 a0_7, .slice A0_8 l0_8.length c0_8] 75 (0, 0)) (by (with_reducible repeat (first | refine blk_drewN ?_ _ | refine blk_drew ?_ | refine blk_alloc ?_ _)); exact BK249.out) hb); have n1_ := Aside0.mk (below_step (by repeat (first | (with_reducible first | exact HB.out | apply below_alloc | apply pw_below_drewN | apply below_drew1 | refine below_set ?_ GE249.out) | exact HB.out)) hb); clear BK249; clear HB; have BK249 := n0_; have HB := n1_; clear n0_ n1_; (try clear hb); (try clear hb2); (try clear hk); (try clear hi)))
    go_ret
    exact ⟨by first | rfl | (simp [errW_none, errW_some] <;> rfl) | (simp [*, errW_none, errW_some] <;> rfl), by repeat (first | (with_reducible first | exact HB.out | apply below_alloc | apply pw_below_drewN | apply below_drew1 | refine below_set ?_ GE249.out) | exact HB.out)⟩
  · rw [if_neg c4] at H
    have c4b0 : decide (t250 < 0) = false := decide_eq_false c4
    clear c4
    replace H := Option.bind_eq_some_iff.mp H
    obtain ⟨t251, A80, H⟩ := H
    replace H : (if t251 < 0 then (some (-1)) else (some t251)) = some r := H
    have A8 := Aside0.mk A80
    clear A80
    by_cases c9 : t251 < 0
    · rw [if_pos c9] at H
      have c9b0 : decide (t251 < 0) = true := decide_eq_true c9
      clear c9
      obtain rfl := Option.some.inj H
      go_enter Try.func43, Try.ntmps43
      go_wp2_with (first | ((with_reducible refine gate_dst (N := 2) rfl ?_); refine box_event ?hg (N := 2) ?hd (cs := #[.int .i64 a0_0, .int .i64 a0_1, .int .i64 a0_2, .slice A0_3 l0_3.length c0_3, .int .i64 a0_4, .int .i64 a0_5, .bool a0_6, .int .i64 a0_7, .slice A0_8 l0_8.length c0_8]) (t := 75) ?hr ?_; (case hd => rfl); (case hg => rfl); (case hr => first | (go_simp; done) | (go_simp; rfl)); intro gb249 hg w10 hbox hb; have n0_ := Aside0.mk (below_step (by repeat (first | (with_reducible first | exact HB.out | apply below_alloc | apply pw_below_drewN | apply below_drew1) | exact HB.out)) hb); have n1_ := Aside0.mk (hbox); have n2_ := Aside0.mk ((by rw [hg]; exact (below_size (by repeat (first | (with_reducible first | exact HB.out | apply below_alloc | apply pw_below_drewN | apply below_drew1) | exact HB.out))) : w.heap.size ≤ gb249)); have n3_ := Aside0.mk ((by rw [hg]; exact (below_size (by repeat (first | (with_reducible first | exact HB.out | apply below_alloc | apply pw_below_drewN | apply below_drew1) | exact HB.out))) : w.heap.size ≤ gb249)); clear HB; have HB := n0_; have BK249 := n1_; have GW249 := n2_; have GE249 := n3_; clear n0_ n1_ n2_ n3_; clear hb hbox hg; have hcz11_0 : w10.cell? ⟨gb249, 0, none⟩ = some (.int .i64 a0_0) := (blk_cell BK249.out 0).trans rfl; have hcz11_1 : w10.cell? ⟨gb249, 1, none⟩ = some (.int .i64 a0_1) := (blk_cell BK249.out 1).trans rfl; have hcz11_2 : w10.cell? ⟨gb249, 2, none⟩ = some (.int .i64 a0_2) := (blk_cell BK249.out 2).trans rfl; have hcz11_3 : w10.cell? ⟨gb249, 3, none⟩ = some (.slice A0_3 l0_3.length c0_3) := (blk_cell BK249.out 3).trans rfl; have hcz11_4 : w10.cell? ⟨gb249, 4, none⟩ = some (.int .i64 a0_4) := (blk_cell BK249.out 4).trans rfl; have hcz11_5 : w10.cell? ⟨gb249, 5, none⟩ = some (.int .i64 a0_5) := (blk_cell BK249.out 5).trans rfl; have hcz11_6 : w10.cell? ⟨gb249, 6, none⟩ = some (.bool a0_6) := (blk_cell BK249.out 6).trans rfl; have hcz11_7 : w10.cell? ⟨gb249, 7, none⟩ = some (.int .i64 a0_7) := (blk_cell BK249.out 7).trans rfl; have hcz11_8 : w10.cell? ⟨gb249, 8, none⟩ = some (.slice A0_8 l0_8.length c0_8) := (blk_cell BK249.out 8).trans rfl; have hfz11_0 := blk_frozen BK249.out 0; have hfz11_1 := blk_frozen BK249.out 1; have hfz11_2 := blk_frozen BK249.out 2; have hfz11_3 := blk_frozen BK249.out 3; have hfz11_4 := blk_frozen BK249.out 4; have hfz11_5 := blk_frozen BK249.out 5; have hfz11_6 := blk_frozen BK249.out 6; have hfz11_7 := blk_frozen BK249.out 7; have hfz11_8 := blk_frozen BK249.out 8) | ((with_reducible refine gate_callee (f := 101) rfl ?_); refine goesL_ (some 8) rfl rfl Try.func101 (by kernel_rfl) rfl #[.agg #[.int .i64 a0_0, .int .i64 a0_1, .int .i64 a0_2, .slice A0_3 l0_3.length c0_3, .int .i64 a0_4, .int .i64 a0_5, .bool a0_6, .int .i64 a0_7], .int .i64 a1] rfl (by (try simp only [List.map_toArray, List.map_cons, List.map_nil]); first | done | rfl | (simp only [List.length_drop, List.length_take]; rfl)) ?_; (with_reducible refine (laws_heldFlash.calls k a0_0 a0_1 a0_2 _ _ l0_3 a0_4 a0_5 a0_6 a0_7 a1 t250 _ ?side1 ?side2 A3.out).mono ?_); (case side1 => repeat (first | exact (Kd.C_below HR0_3.out HB.out) | (with_reducible refine Kd.C_alloc ?_ _) | (with_reducible refine Kd.C_drewN ?_ _) | (with_reducible refine Kd.C_drew ?_))); (case side2 => exact HC0_3.out); rintro e w12 ⟨rfl, hb⟩; refine ⟨_, rfl, ?_⟩; have n0_ := Aside0.mk (blk_below (g := gb249) (o := .cells #[.int .i64 a0_0, .int .i64 a0_1, .int .i64 a0_2, .slice A0_3 l0_3.length c0_3, .int .i64 a0_4, .int .i64 a0_5, .bool a0_6, .int .i64 a0_7, .slice A0_8 l0_8.length c0_8] 75 (0, 0)) (by (with_reducible repeat (first | refine blk_drewN ?_ _ | refine blk_drew ?_ | refine blk_alloc ?_ _)); exact BK249.out) hb); have n1_ := Aside0.mk (below_step (by repeat (first | (with_reducible first | exact HB.out | apply below_alloc | apply pw_below_drewN | apply below_drew1 | refine below_set ?_ GE249.out) | exact HB.out)) hb); clear BK249; clear HB; have BK249 := n0_; have HB := n1_; clear n0_ n1_; (try clear hb); (try clear hb2); (try clear hk); (try clear hi); have hcz13_0 : w12.cell? ⟨gb249, 0, none⟩ = some (.int .i64 a0_0) := (blk_cell BK249.out 0).trans rfl; have hcz13_1 : w12.cell? ⟨gb249, 1, none⟩ = some (.int .i64 a0_1) := (blk_cell BK249.out 1).trans rfl; have hcz13_2 : w12.cell? ⟨gb249, 2, none⟩ = some (.int .i64 a0_2) := (blk_cell BK249.out 2).trans rfl; have hcz13_3 : w12.cell? ⟨gb249, 3, none⟩ = some (.slice A0_3 l0_3.length c0_3) := (blk_cell BK249.out 3).trans rfl; have hcz13_4 : w12.cell? ⟨gb249, 4, none⟩ = some (.int .i64 a0_4) := (blk_cell BK249.out 4).trans rfl; have hcz13_5 : w12.cell? ⟨gb249, 5, none⟩ = some (.int .i64 a0_5) := (blk_cell BK249.out 5).trans rfl; have hcz13_6 : w12.cell? ⟨gb249, 6, none⟩ = some (.bool a0_6) := (blk_cell BK249.out 6).trans rfl; have hcz13_7 : w12.cell? ⟨gb249, 7, none⟩ = some (.int .i64 a0_7) := (blk_cell BK249.out 7).trans rfl; have hcz13_8 : w12.cell? ⟨gb249, 8, none⟩ = some (.slice A0_8 l0_8.length c0_8) := (blk_cell BK249.out 8).trans rfl; have hfz13_0 := blk_frozen BK249.out 0; have hfz13_1 := blk_frozen BK249.out 1; have hfz13_2 := blk_frozen BK249.out 2; have hfz13_3 := blk_frozen BK249.out 3; have hfz13_4 := blk_frozen BK249.out 4; have hfz13_5 := blk_frozen BK249.out 5; have hfz13_6 := blk_frozen BK249.out 6; have hfz13_7 := blk_frozen BK249.out 7; have hfz13_8 := blk_frozen BK249.out 8) | ((with_reducible refine gate_callee (f := 102) rfl ?_); refine goesL_ (some 14) rfl rfl Try.func102 (by kernel_rfl) rfl #[.slice A0_8 l0_8.length c0_8, .int .i64 t250] rfl (by (try simp only [List.map_toArray, List.map_cons, List.map_nil]); first | done | rfl | (simp only [List.length_drop, List.length_take]; rfl)) ?_; (with_reducible refine (laws_heldZoneS.calls k _ _ l0_8 t250 t251 _ ?side1 ?side2 A8.out).mono ?_); (case side1 => repeat (first | exact (Kd.C_below HR0_8.out HB.out) | (with_reducible refine Kd.C_alloc ?_ _) | (with_reducible refine Kd.C_drewN ?_ _) | (with_reducible refine Kd.C_drew ?_))); (case side2 => exact HC0_8.out); rintro e w14 ⟨rfl, hb⟩; refine ⟨_, rfl, ?_⟩; have n0_ := Aside0.mk (blk_below (g := gb249) (o := .cells #[.int .i64 a0_0, .int .i64 a0_1, .int .i64 a0_2, .slice A0_3 l0_3.length c0_3, .int .i64 a0_4, .int .i64 a0_5, .bool a0_6, .int .i64 a0_7, .slice A0_8 l0_8.length c0_8] 75 (0, 0)) (by (with_reducible repeat (first | refine blk_drewN ?_ _ | refine blk_drew ?_ | refine blk_alloc ?_ _)); exact BK249.out) hb); have n1_ := Aside0.mk (below_step (by repeat (first | (with_reducible first | exact HB.out | apply below_alloc | apply pw_below_drewN | apply below_drew1 | refine below_set ?_ GE249.out) | exact HB.out)) hb); clear BK249; clear HB; have BK249 := n0_; have HB := n1_; clear n0_ n1_; (try clear hb); (try clear hb2); (try clear hk); (try clear hi)))
      go_ret
      exact ⟨by first | rfl | (simp [errW_none, errW_some] <;> rfl) | (simp [*, errW_none, errW_some] <;> rfl), by repeat (first | (with_reducible first | exact HB.out | apply below_alloc | apply pw_below_drewN | apply below_drew1 | refine below_set ?_ GE249.out) | exact HB.out)⟩
    · rw [if_neg c9] at H
      have c9b0 : decide (t251 < 0) = false := decide_eq_false c9
      clear c9
      obtain rfl := Option.some.inj H
      go_enter Try.func43, Try.ntmps43
      go_wp2_with (first | ((with_reducible refine gate_dst (N := 2) rfl ?_); refine box_event ?hg (N := 2) ?hd (cs := #[.int .i64 a0_0, .int .i64 a0_1, .int .i64 a0_2, .slice A0_3 l0_3.length c0_3, .int .i64 a0_4, .int .i64 a0_5, .bool a0_6, .int .i64 a0_7, .slice A0_8 l0_8.length c0_8]) (t := 75) ?hr ?_; (case hd => rfl); (case hg => rfl); (case hr => first | (go_simp; done) | (go_simp; rfl)); intro gb249 hg w15 hbox hb; have n0_ := Aside0.mk (below_step (by repeat (first | (with_reducible first | exact HB.out | apply below_alloc | apply pw_below_drewN | apply below_drew1) | exact HB.out)) hb); have n1_ := Aside0.mk (hbox); have n2_ := Aside0.mk ((by rw [hg]; exact (below_size (by repeat (first | (with_reducible first | exact HB.out | apply below_alloc | apply pw_below_drewN | apply below_drew1) | exact HB.out))) : w.heap.size ≤ gb249)); have n3_ := Aside0.mk ((by rw [hg]; exact (below_size (by repeat (first | (with_reducible first | exact HB.out | apply below_alloc | apply pw_below_drewN | apply below_drew1) | exact HB.out))) : w.heap.size ≤ gb249)); clear HB; have HB := n0_; have BK249 := n1_; have GW249 := n2_; have GE249 := n3_; clear n0_ n1_ n2_ n3_; clear hb hbox hg; have hcz16_0 : w15.cell? ⟨gb249, 0, none⟩ = some (.int .i64 a0_0) := (blk_cell BK249.out 0).trans rfl; have hcz16_1 : w15.cell? ⟨gb249, 1, none⟩ = some (.int .i64 a0_1) := (blk_cell BK249.out 1).trans rfl; have hcz16_2 : w15.cell? ⟨gb249, 2, none⟩ = some (.int .i64 a0_2) := (blk_cell BK249.out 2).trans rfl; have hcz16_3 : w15.cell? ⟨gb249, 3, none⟩ = some (.slice A0_3 l0_3.length c0_3) := (blk_cell BK249.out 3).trans rfl; have hcz16_4 : w15.cell? ⟨gb249, 4, none⟩ = some (.int .i64 a0_4) := (blk_cell BK249.out 4).trans rfl; have hcz16_5 : w15.cell? ⟨gb249, 5, none⟩ = some (.int .i64 a0_5) := (blk_cell BK249.out 5).trans rfl; have hcz16_6 : w15.cell? ⟨gb249, 6, none⟩ = some (.bool a0_6) := (blk_cell BK249.out 6).trans rfl; have hcz16_7 : w15.cell? ⟨gb249, 7, none⟩ = some (.int .i64 a0_7) := (blk_cell BK249.out 7).trans rfl; have hcz16_8 : w15.cell? ⟨gb249, 8, none⟩ = some (.slice A0_8 l0_8.length c0_8) := (blk_cell BK249.out 8).trans rfl; have hfz16_0 := blk_frozen BK249.out 0; have hfz16_1 := blk_frozen BK249.out 1; have hfz16_2 := blk_frozen BK249.out 2; have hfz16_3 := blk_frozen BK249.out 3; have hfz16_4 := blk_frozen BK249.out 4; have hfz16_5 := blk_frozen BK249.out 5; have hfz16_6 := blk_frozen BK249.out 6; have hfz16_7 := blk_frozen BK249.out 7; have hfz16_8 := blk_frozen BK249.out 8) | ((with_reducible refine gate_callee (f := 101) rfl ?_); refine goesL_ (some 8) rfl rfl Try.func101 (by kernel_rfl) rfl #[.agg #[.int .i64 a0_0, .int .i64 a0_1, .int .i64 a0_2, .slice A0_3 l0_3.length c0_3, .int .i64 a0_4, .int .i64 a0_5, .bool a0_6, .int .i64 a0_7], .int .i64 a1] rfl (by (try simp only [List.map_toArray, List.map_cons, List.map_nil]); first | done | rfl | (simp only [List.length_drop, List.length_take]; rfl)) ?_; (with_reducible refine (laws_heldFlash.calls k a0_0 a0_1 a0_2 _ _ l0_3 a0_4 a0_5 a0_6 a0_7 a1 t250 _ ?side1 ?side2 A3.out).mono ?_); (case side1 => repeat (first | exact (Kd.C_below HR0_3.out HB.out) | (with_reducible refine Kd.C_alloc ?_ _) | (with_reducible refine Kd.C_drewN ?_ _) | (with_reducible refine Kd.C_drew ?_))); (case side2 => exact HC0_3.out); rintro e w17 ⟨rfl, hb⟩; refine ⟨_, rfl, ?_⟩; have n0_ := Aside0.mk (blk_below (g := gb249) (o := .cells #[.int .i64 a0_0, .int .i64 a0_1, .int .i64 a0_2, .slice A0_3 l0_3.length c0_3, .int .i64 a0_4, .int .i64 a0_5, .bool a0_6, .int .i64 a0_7, .slice A0_8 l0_8.length c0_8] 75 (0, 0)) (by (with_reducible repeat (first | refine blk_drewN ?_ _ | refine blk_drew ?_ | refine blk_alloc ?_ _)); exact BK249.out) hb); have n1_ := Aside0.mk (below_step (by repeat (first | (with_reducible first | exact HB.out | apply below_alloc | apply pw_below_drewN | apply below_drew1 | refine below_set ?_ GE249.out) | exact HB.out)) hb); clear BK249; clear HB; have BK249 := n0_; have HB := n1_; clear n0_ n1_; (try clear hb); (try clear hb2); (try clear hk); (try clear hi); have hcz18_0 : w17.cell? ⟨gb249, 0, none⟩ = some (.int .i64 a0_0) := (blk_cell BK249.out 0).trans rfl; have hcz18_1 : w17.cell? ⟨gb249, 1, none⟩ = some (.int .i64 a0_1) := (blk_cell BK249.out 1).trans rfl; have hcz18_2 : w17.cell? ⟨gb249, 2, none⟩ = some (.int .i64 a0_2) := (blk_cell BK249.out 2).trans rfl; have hcz18_3 : w17.cell? ⟨gb249, 3, none⟩ = some (.slice A0_3 l0_3.length c0_3) := (blk_cell BK249.out 3).trans rfl; have hcz18_4 : w17.cell? ⟨gb249, 4, none⟩ = some (.int .i64 a0_4) := (blk_cell BK249.out 4).trans rfl; have hcz18_5 : w17.cell? ⟨gb249, 5, none⟩ = some (.int .i64 a0_5) := (blk_cell BK249.out 5).trans rfl; have hcz18_6 : w17.cell? ⟨gb249, 6, none⟩ = some (.bool a0_6) := (blk_cell BK249.out 6).trans rfl; have hcz18_7 : w17.cell? ⟨gb249, 7, none⟩ = some (.int .i64 a0_7) := (blk_cell BK249.out 7).trans rfl; have hcz18_8 : w17.cell? ⟨gb249, 8, none⟩ = some (.slice A0_8 l0_8.length c0_8) := (blk_cell BK249.out 8).trans rfl; have hfz18_0 := blk_frozen BK249.out 0; have hfz18_1 := blk_frozen BK249.out 1; have hfz18_2 := blk_frozen BK249.out 2; have hfz18_3 := blk_frozen BK249.out 3; have hfz18_4 := blk_frozen BK249.out 4; have hfz18_5 := blk_frozen BK249.out 5; have hfz18_6 := blk_frozen BK249.out 6; have hfz18_7 := blk_frozen BK249.out 7; have hfz18_8 := blk_frozen BK249.out 8) | ((with_reducible refine gate_callee (f := 102) rfl ?_); refine goesL_ (some 14) rfl rfl Try.func102 (by kernel_rfl) rfl #[.slice A0_8 l0_8.length c0_8, .int .i64 t250] rfl (by (try simp only [List.map_toArray, List.map_cons, List.map_nil]); first | done | rfl | (simp only [List.length_drop, List.length_take]; rfl)) ?_; (with_reducible refine (laws_heldZoneS.calls k _ _ l0_8 t250 t251 _ ?side1 ?side2 A8.out).mono ?_); (case side1 => repeat (first | exact (Kd.C_below HR0_8.out HB.out) | (with_reducible refine Kd.C_alloc ?_ _) | (with_reducible refine Kd.C_drewN ?_ _) | (with_reducible refine Kd.C_drew ?_))); (case side2 => exact HC0_8.out); rintro e w19 ⟨rfl, hb⟩; refine ⟨_, rfl, ?_⟩; have n0_ := Aside0.mk (blk_below (g := gb249) (o := .cells #[.int .i64 a0_0, .int .i64 a0_1, .int .i64 a0_2, .slice A0_3 l0_3.length c0_3, .int .i64 a0_4, .int .i64 a0_5, .bool a0_6, .int .i64 a0_7, .slice A0_8 l0_8.length c0_8] 75 (0, 0)) (by (with_reducible repeat (first | refine blk_drewN ?_ _ | refine blk_drew ?_ | refine blk_alloc ?_ _)); exact BK249.out) hb); have n1_ := Aside0.mk (below_step (by repeat (first | (with_reducible first | exact HB.out | apply below_alloc | apply pw_below_drewN | apply below_drew1 | refine below_set ?_ GE249.out) | exact HB.out)) hb); clear BK249; clear HB; have BK249 := n0_; have HB := n1_; clear n0_ n1_; (try clear hb); (try clear hb2); (try clear hk); (try clear hi)))
      go_ret
      exact ⟨by first | rfl | (simp [errW_none, errW_some] <;> rfl) | (simp [*, errW_none, errW_some] <;> rfl), by repeat (first | (with_reducible first | exact HB.out | apply below_alloc | apply pw_below_drewN | apply below_drew1 | refine below_set ?_ GE249.out) | exact HB.out)⟩

end Go.Proofs.Ytaecdlhomihejaa.Q
