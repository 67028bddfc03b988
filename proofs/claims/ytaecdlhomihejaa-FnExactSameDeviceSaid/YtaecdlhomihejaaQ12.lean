/- The program's functions as Lean functions, and for each the proof that the machine's call comes to what its function says. Conditions: those that stand before each theorem. -/
import Derived.Test.YtaecdlhomihejaaQ0
import Derived.Test.YtaecdlhomihejaaQ3
import Derived.Test.YtaecdlhomihejaaQ4
import Derived.Test.YtaecdlhomihejaaQ8
import Derived.Test.YtaecdlhomihejaaXSameDevice
import Derived.Test.YtaecdlhomihejaaXSpecSameDevice
import Derived.Test.YtaecdlhomihejaaXFSameDevice
namespace Go.Proofs.Ytaecdlhomihejaa.Q
open Go.RowKit Go.Proofs.YtaecdlhomihejaaW.PrintWords Go.Proofs.YtaecdlhomihejaaW.PrintLast Go.Proofs.YtaecdlhomihejaaW.PrintMore
set_option linter.unusedVariables false
set_option linter.unusedSimpArgs false

-- BREAK
def laws_FnExactSameDevice.f (k : Nat) (a0_0 : Int) (a0_1 : Int) (a0_2 : Int) (l0_3 : List (S172)) (a0_4 : Int) (a0_5 : Int) (a0_6 : Bool) (a0_7 : Int) (l0_8 : List (S181)) (a1_0 : Int) (a1_1 : Int) (a1_2 : Int) (l1_3 : List (S172)) (a1_4 : Int) (a1_5 : Int) (a1_6 : Bool) (a1_7 : Int) (l1_8 : List (S181)) : Option (Bool) := (laws_szDevice.f k a0_0 a0_1 a0_2 l0_3 a0_4 a0_5 a0_6 a0_7 l0_8 1048576).bind fun t256 => (if t256 < 0 then (some true) else ((laws_szDevice.f k a1_0 a1_1 a1_2 l1_3 a1_4 a1_5 a1_6 a1_7 l1_8 t256).bind fun t257 => (if t257 < 0 then (some true) else ((laws_toDevice.f k a0_0 a0_1 a0_2 l0_3 a0_4 a0_5 a0_6 a0_7 l0_8).bind fun bt258 => ((laws_toDevice.f k a1_0 a1_1 a1_2 l1_3 a1_4 a1_5 a1_6 a1_7 l1_8).bind fun bt271 => ((spec_SameDevice.f k bt258.1 bt258.2.1 bt258.2.2.1 bt258.2.2.2.1 bt258.2.2.2.2.1 bt258.2.2.2.2.2.1 bt258.2.2.2.2.2.2.1 bt258.2.2.2.2.2.2.2.1 bt258.2.2.2.2.2.2.2.2 bt271.1 bt271.2.1 bt271.2.2.1 bt271.2.2.2.1 bt271.2.2.2.2.1 bt271.2.2.2.2.2.1 bt271.2.2.2.2.2.2.1 bt271.2.2.2.2.2.2.2.1 bt271.2.2.2.2.2.2.2.2).bind fun t284 => ((laws_toDevice.f k a0_0 a0_1 a0_2 l0_3 a0_4 a0_5 a0_6 a0_7 l0_8).bind fun bt285 => ((laws_toDevice.f k a1_0 a1_1 a1_2 l1_3 a1_4 a1_5 a1_6 a1_7 l1_8).bind fun bt299 => ((impl_SameDevice.f bt285.1 bt285.2.1 bt285.2.2.1 bt285.2.2.2.1 bt285.2.2.2.2.1 bt285.2.2.2.2.2.1 bt285.2.2.2.2.2.2.1 bt285.2.2.2.2.2.2.2.1 bt285.2.2.2.2.2.2.2.2 bt299.1 bt299.2.1 bt299.2.2.1 bt299.2.2.2.1 bt299.2.2.2.2.1 bt299.2.2.2.2.2.1 bt299.2.2.2.2.2.2.1 bt299.2.2.2.2.2.2.2.1 bt299.2.2.2.2.2.2.2.2).bind fun t313 => (if (t313 != t284) = true then (some false) else ((laws_toDevice.f k a0_0 a0_1 a0_2 l0_3 a0_4 a0_5 a0_6 a0_7 l0_8).bind fun bt314 => ((laws_eqDevice.f k bt285.1 bt285.2.1 bt285.2.2.1 bt285.2.2.2.1 bt285.2.2.2.2.1 bt285.2.2.2.2.2.1 bt285.2.2.2.2.2.2.1 bt285.2.2.2.2.2.2.2.1 bt285.2.2.2.2.2.2.2.2 bt314.1 bt314.2.1 bt314.2.2.1 bt314.2.2.2.1 bt314.2.2.2.2.1 bt314.2.2.2.2.2.1 bt314.2.2.2.2.2.2.1 bt314.2.2.2.2.2.2.2.1 bt314.2.2.2.2.2.2.2.2).bind fun t327 => (if t327 = true then ((laws_toDevice.f k a1_0 a1_1 a1_2 l1_3 a1_4 a1_5 a1_6 a1_7 l1_8).bind fun bt328 => ((laws_eqDevice.f k bt299.1 bt299.2.1 bt299.2.2.1 bt299.2.2.2.1 bt299.2.2.2.2.1 bt299.2.2.2.2.2.1 bt299.2.2.2.2.2.2.1 bt299.2.2.2.2.2.2.2.1 bt299.2.2.2.2.2.2.2.2 bt328.1 bt328.2.1 bt328.2.2.1 bt328.2.2.2.1 bt328.2.2.2.2.1 bt328.2.2.2.2.2.1 bt328.2.2.2.2.2.2.1 bt328.2.2.2.2.2.2.2.1 bt328.2.2.2.2.2.2.2.2).bind fun t341 => (if t341 = true then (some true) else (some false)))) else (some false))))))))))))))
set_option maxHeartbeats 8000000 in
set_option maxRecDepth 100000 in
theorem laws_FnExactSameDevice.core (k : Nat) (v0 : Value) (x0 : TFDeviceL) (v1 : Value) (x1 : TFDeviceL) (r : Bool) (w : World) (HFcs0 : FDeviceL w v0 x0) (HFcs1 : FDeviceL w v1 x1) (h : laws_FnExactSameDevice.f k x0.1 x0.2.1 x0.2.2.1 x0.2.2.2.1 x0.2.2.2.2.1 x0.2.2.2.2.2.1 x0.2.2.2.2.2.2.1 x0.2.2.2.2.2.2.2.1 x0.2.2.2.2.2.2.2.2 x1.1 x1.2.1 x1.2.2.1 x1.2.2.2.1 x1.2.2.2.2.1 x1.2.2.2.2.2.1 x1.2.2.2.2.2.2.1 x1.2.2.2.2.2.2.2.1 x1.2.2.2.2.2.2.2.2 = some r) : Calls Try.prog 8 #[v0, v1] w fun e w' => e = .returned (.bool r) ∧ Below w.heap.size w w' := by
  obtain ⟨cs0, rfl, hlcs0, hocs0⟩ := FDeviceL_cells HFcs0
  replace HFcs0 := Aside0.mk HFcs0
  obtain ⟨cs1, rfl, hlcs1, hocs1⟩ := FDeviceL_cells HFcs1
  replace HFcs1 := Aside0.mk HFcs1
  obtain ⟨z84, hz84, hzc84⟩ := info84_
  obtain ⟨z75, hz75, hzc75⟩ := info75_
  have HB := Aside0.mk (Below.refl w.heap.size w)
  unfold laws_FnExactSameDevice.f at h
  have H := h
  clear h
  obtain ⟨t0, At0, H⟩ := Option.bind_eq_some_iff.mp H
  replace At0 := Aside0.mk At0
  by_cases c0_ : t0 < 0
  · rw [if_pos c0_] at H
    have c0_d : decide (t0 < 0) = true := decide_eq_true c0_
    obtain rfl := Option.some.inj H
    go_enter Try.func8, Try.ntmps8
    go_wp2_with (first | ((with_reducible refine gate_dst (N := 2) rfl ?_); refine box_event (cs := cs0.toArray) (t := 84) rfl (N := 2) rfl (by first | (go_simp; done) | (go_simp; rfl)) ?_; intro g2 hg w1 hbox hb; clear hg; have n0_ := Aside0.mk (below_step (by repeat (first | exact HB.out | apply below_alloc | apply pw_below_drewN | apply below_drew1)) hb); have n1_ := Aside0.mk (hbox); clear HB; have HB := n0_; have BKg2 := n1_; clear n0_ n1_; clear hb hbox; (try simp only [Act.put, List.setIfInBounds_toArray, List.set_cons_zero, List.set_cons_succ])) | ((with_reducible refine gate_dst (N := 3) rfl ?_); refine box_event (cs := cs1.toArray) (t := 84) rfl (N := 3) rfl (by first | (go_simp; done) | (go_simp; rfl)) ?_; intro g3 hg w2 hbox hb; clear hg; have n0_ := Aside0.mk (blk_below (o := .cells cs0.toArray 84 (0, 0)) (by repeat (first | exact BKg2.out | refine blk_drewN ?_ _ | refine blk_drew ?_ | refine blk_alloc ?_ _)) hb); have n1_ := Aside0.mk (below_step (by repeat (first | exact HB.out | apply below_alloc | apply pw_below_drewN | apply below_drew1)) hb); have n2_ := Aside0.mk (hbox); clear BKg2; clear HB; have BKg2 := n0_; have HB := n1_; have BKg3 := n2_; clear n0_ n1_ n2_; clear hb hbox; (try simp only [Act.put, List.setIfInBounds_toArray, List.set_cons_zero, List.set_cons_succ])) | ((with_reducible refine gate_dst (N := 10) rfl ?_); refine wpList_load_mid rfl 84 (.tmp 2) rfl g2 0 rfl cs0 _ (range_of_blk (by repeat (first | exact BKg2.out | refine blk_drewN ?_ _ | refine blk_drew ?_ | refine blk_alloc ?_ _))) Try.underlying84 rfl (by rw [hlcs0]; kernel_rfl) ?_; (try simp only [Act.put, List.setIfInBounds_toArray, List.set_cons_zero, List.set_cons_succ])) | ((with_reducible refine gate_dst (N := 12) rfl ?_); refine goesL_ (some 12) rfl rfl Try.func44 (by kernel_rfl) rfl #[.agg cs0.toArray, .int .i64 1048576] rfl (by first | rfl | (simp only [List.map_toArray, List.map_cons, List.map_nil]; rfl)) ?_; (with_reducible refine Calls.mono (laws_szDevice_F k _ x0 1048576 t0 _ (FDeviceL_below HFcs0.out (by repeat (first | exact HB.out | apply below_alloc | apply pw_below_drewN | apply below_drew1))) At0.out) ?_); rintro e w3 ⟨rfl, hb⟩; refine ⟨_, rfl, ?_⟩; have n0_ := Aside0.mk (blk_below (o := .cells cs0.toArray 84 (0, 0)) (by repeat (first | exact BKg2.out | refine blk_drewN ?_ _ | refine blk_drew ?_ | refine blk_alloc ?_ _)) hb); have n1_ := Aside0.mk (blk_below (o := .cells cs1.toArray 84 (0, 0)) (by repeat (first | exact BKg3.out | refine blk_drewN ?_ _ | refine blk_drew ?_ | refine blk_alloc ?_ _)) hb); have n2_ := Aside0.mk (below_step (by repeat (first | exact HB.out | apply below_alloc | apply pw_below_drewN | apply below_drew1)) hb); clear BKg2; clear BKg3; clear HB; have BKg2 := n0_; have BKg3 := n1_; have HB := n2_; clear n0_ n1_ n2_; (try clear hF); clear hb; (try simp only [Act.put, List.setIfInBounds_toArray, List.set_cons_zero, List.set_cons_succ])))
    go_ret
    exact ⟨by first | rfl | simp [*], (by repeat (first | exact HB.out | apply below_alloc | apply pw_below_drewN | apply below_drew1))⟩
  · rw [if_neg c0_] at H
    have c0_d : decide (t0 < 0) = false := decide_eq_false c0_
    obtain ⟨t1, At1, H⟩ := Option.bind_eq_some_iff.mp H
    replace At1 := Aside0.mk At1
    by_cases c1_ : t1 < 0
    · rw [if_pos c1_] at H
      have c1_d : decide (t1 < 0) = true := decide_eq_true c1_
      obtain rfl := Option.some.inj H
      go_enter Try.func8, Try.ntmps8
      go_wp2_with (first | ((with_reducible refine gate_dst (N := 2) rfl ?_); refine box_event (cs := cs0.toArray) (t := 84) rfl (N := 2) rfl (by first | (go_simp; done) | (go_simp; rfl)) ?_; intro g2 hg w1 hbox hb; clear hg; have n0_ := Aside0.mk (below_step (by repeat (first | exact HB.out | apply below_alloc | apply pw_below_drewN | apply below_drew1)) hb); have n1_ := Aside0.mk (hbox); clear HB; have HB := n0_; have BKg2 := n1_; clear n0_ n1_; clear hb hbox; (try simp only [Act.put, List.setIfInBounds_toArray, List.set_cons_zero, List.set_cons_succ])) | ((with_reducible refine gate_dst (N := 3) rfl ?_); refine box_event (cs := cs1.toArray) (t := 84) rfl (N := 3) rfl (by first | (go_simp; done) | (go_simp; rfl)) ?_; intro g3 hg w2 hbox hb; clear hg; have n0_ := Aside0.mk (blk_below (o := .cells cs0.toArray 84 (0, 0)) (by repeat (first | exact BKg2.out | refine blk_drewN ?_ _ | refine blk_drew ?_ | refine blk_alloc ?_ _)) hb); have n1_ := Aside0.mk (below_step (by repeat (first | exact HB.out | apply below_alloc | apply pw_below_drewN | apply below_drew1)) hb); have n2_ := Aside0.mk (hbox); clear BKg2; clear HB; have BKg2 := n0_; have HB := n1_; have BKg3 := n2_; clear n0_ n1_ n2_; clear hb hbox; (try simp only [Act.put, List.setIfInBounds_toArray, List.set_cons_zero, List.set_cons_succ])) | ((with_reducible refine gate_dst (N := 10) rfl ?_); refine wpList_load_mid rfl 84 (.tmp 2) rfl g2 0 rfl cs0 _ (range_of_blk (by repeat (first | exact BKg2.out | refine blk_drewN ?_ _ | refine blk_drew ?_ | refine blk_alloc ?_ _))) Try.underlying84 rfl (by rw [hlcs0]; kernel_rfl) ?_; (try simp only [Act.put, List.setIfInBounds_toArray, List.set_cons_zero, List.set_cons_succ])) | ((with_reducible refine gate_dst (N := 12) rfl ?_); refine goesL_ (some 12) rfl rfl Try.func44 (by kernel_rfl) rfl #[.agg cs0.toArray, .int .i64 1048576] rfl (by first | rfl | (simp only [List.map_toArray, List.map_cons, List.map_nil]; rfl)) ?_; (with_reducible refine Calls.mono (laws_szDevice_F k _ x0 1048576 t0 _ (FDeviceL_below HFcs0.out (by repeat (first | exact HB.out | apply below_alloc | apply pw_below_drewN | apply below_drew1))) At0.out) ?_); rintro e w3 ⟨rfl, hb⟩; refine ⟨_, rfl, ?_⟩; have n0_ := Aside0.mk (blk_below (o := .cells cs0.toArray 84 (0, 0)) (by repeat (first | exact BKg2.out | refine blk_drewN ?_ _ | refine blk_drew ?_ | refine blk_alloc ?_ _)) hb); have n1_ := Aside0.mk (blk_below (o := .cells cs1.toArray 84 (0, 0)) (by repeat (first | exact BKg3.out | refine blk_drewN ?_ _ | refine blk_drew ?_ | refine blk_alloc ?_ _)) hb); have n2_ := Aside0.mk (below_step (by repeat (first | exact HB.out | apply below_alloc | apply pw_below_drewN | apply below_drew1)) hb); clear BKg2; clear BKg3; clear HB; have BKg2 := n0_; have BKg3 := n1_; have HB := n2_; clear n0_ n1_ n2_; (try clear hF); clear hb; (try simp only [Act.put, List.setIfInBounds_toArray, List.set_cons_zero, List.set_cons_succ])) | ((with_reducible refine gate_dst (N := 15) rfl ?_); refine wpList_load_mid rfl 84 (.tmp 3) rfl g3 0 rfl cs1 _ (range_of_blk (by repeat (first | exact BKg3.out | refine blk_drewN ?_ _ | refine blk_drew ?_ | refine blk_alloc ?_ _))) Try.underlying84 rfl (by rw [hlcs1]; kernel_rfl) ?_; (try simp only [Act.put, List.setIfInBounds_toArray, List.set_cons_zero, List.set_cons_succ])) | ((with_reducible refine gate_dst (N := 17) rfl ?_); refine goesL_ (some 17) rfl rfl Try.func44 (by kernel_rfl) rfl #[.agg cs1.toArray, .int .i64 t0] rfl (by first | rfl | (simp only [List.map_toArray, List.map_cons, List.map_nil]; rfl)) ?_; (with_reducible refine Calls.mono (laws_szDevice_F k _ x1 t0 t1 _ (FDeviceL_below HFcs1.out (by repeat (first | exact HB.out | apply below_alloc | apply pw_below_drewN | apply below_drew1))) At1.out) ?_); rintro e w4 ⟨rfl, hb⟩; refine ⟨_, rfl, ?_⟩; have n0_ := Aside0.mk (blk_below (o := .cells cs0.toArray 84 (0, 0)) (by repeat (first | exact BKg2.out | refine blk_drewN ?_ _ | refine blk_drew ?_ | refine blk_alloc ?_ _)) hb); have n1_ := Aside0.mk (blk_below (o := .cells cs1.toArray 84 (0, 0)) (by repeat (first | exact BKg3.out | refine blk_drewN ?_ _ | refine blk_drew ?_ | refine blk_alloc ?_ _)) hb); have n2_ := Aside0.mk (below_step (by repeat (first | exact HB.out | apply below_alloc | apply pw_below_drewN | apply below_drew1)) hb); clear BKg2; clear BKg3; clear HB; have BKg2 := n0_; have BKg3 := n1_; have HB := n2_; clear n0_ n1_ n2_; (try clear hF); clear hb; (try simp only [Act.put, List.setIfInBounds_toArray, List.set_cons_zero, List.set_cons_succ])))
      go_ret
      exact ⟨by first | rfl | simp [*], (by repeat (first | exact HB.out | apply below_alloc | apply pw_below_drewN | apply below_drew1))⟩
    · rw [if_neg c1_] at H
      have c1_d : decide (t1 < 0) = false := decide_eq_false c1_
      obtain ⟨t2, At2, H⟩ := Option.bind_eq_some_iff.mp H
      replace At2 := Aside0.mk At2
      obtain ⟨t3, At3, H⟩ := Option.bind_eq_some_iff.mp H
      replace At3 := Aside0.mk At3
      obtain ⟨t4, At4, H⟩ := Option.bind_eq_some_iff.mp H
      replace At4 := Aside0.mk At4
      obtain ⟨t5, At5, H⟩ := Option.bind_eq_some_iff.mp H
      replace At5 := Aside0.mk At5
      obtain ⟨t6, At6, H⟩ := Option.bind_eq_some_iff.mp H
      replace At6 := Aside0.mk At6
      obtain ⟨t7, At7, H⟩ := Option.bind_eq_some_iff.mp H
      replace At7 := Aside0.mk At7
      by_cases c2_ : (t7 != t4) = true
      · rw [if_pos c2_] at H
        skip
        have c2_x := c2_
        have c2_y : ¬ (t7 = t4) := by simpa using c2_
        have c2_z : decide (t7 = t4) = false := by simpa using c2_y
        have c2_w : (t7 == t4) = false := by simpa using c2_y
        obtain rfl := Option.some.inj H
        go_enter Try.func8, Try.ntmps8
        go_wp2_with (first | ((with_reducible refine gate_dst (N := 2) rfl ?_); refine box_event (cs := cs0.toArray) (t := 84) rfl (N := 2) rfl (by first | (go_simp; done) | (go_simp; rfl)) ?_; intro g2 hg w1 hbox hb; clear hg; have n0_ := Aside0.mk (below_step (by repeat (first | exact HB.out | apply below_alloc | apply pw_below_drewN | apply below_drew1)) hb); have n1_ := Aside0.mk (hbox); clear HB; have HB := n0_; have BKg2 := n1_; clear n0_ n1_; clear hb hbox; (try simp only [Act.put, List.setIfInBounds_toArray, List.set_cons_zero, List.set_cons_succ])) | ((with_reducible refine gate_dst (N := 3) rfl ?_); refine box_event (cs := cs1.toArray) (t := 84) rfl (N := 3) rfl (by first | (go_simp; done) | (go_simp; rfl)) ?_; intro g3 hg w2 hbox hb; clear hg; have n0_ := Aside0.mk (blk_below (o := .cells cs0.toArray 84 (0, 0)) (by repeat (first | exact BKg2.out | refine blk_drewN ?_ _ | refine blk_drew ?_ | refine blk_alloc ?_ _)) hb); have n1_ := Aside0.mk (below_step (by repeat (first | exact HB.out | apply below_alloc | apply pw_below_drewN | apply below_drew1)) hb); have n2_ := Aside0.mk (hbox); clear BKg2; clear HB; have BKg2 := n0_; have HB := n1_; have BKg3 := n2_; clear n0_ n1_ n2_; clear hb hbox; (try simp only [Act.put, List.setIfInBounds_toArray, List.set_cons_zero, List.set_cons_succ])) | ((with_reducible refine gate_dst (N := 10) rfl ?_); refine wpList_load_mid rfl 84 (.tmp 2) rfl g2 0 rfl cs0 _ (range_of_blk (by repeat (first | exact BKg2.out | refine blk_drewN ?_ _ | refine blk_drew ?_ | refine blk_alloc ?_ _))) Try.underlying84 rfl (by rw [hlcs0]; kernel_rfl) ?_; (try simp only [Act.put, List.setIfInBounds_toArray, List.set_cons_zero, List.set_cons_succ])) | ((with_reducible refine gate_dst (N := 12) rfl ?_); refine goesL_ (some 12) rfl rfl Try.func44 (by kernel_rfl) rfl #[.agg cs0.toArray, .int .i64 1048576] rfl (by first | rfl | (simp only [List.map_toArray, List.map_cons, List.map_nil]; rfl)) ?_; (with_reducible refine Calls.mono (laws_szDevice_F k _ x0 1048576 t0 _ (FDeviceL_below HFcs0.out (by repeat (first | exact HB.out | apply below_alloc | apply pw_below_drewN | apply below_drew1))) At0.out) ?_); rintro e w3 ⟨rfl, hb⟩; refine ⟨_, rfl, ?_⟩; have n0_ := Aside0.mk (blk_below (o := .cells cs0.toArray 84 (0, 0)) (by repeat (first | exact BKg2.out | refine blk_drewN ?_ _ | refine blk_drew ?_ | refine blk_alloc ?_ _)) hb); have n1_ := Aside0.mk (blk_below (o := .cells cs1.toArray 84 (0, 0)) (by repeat (first | exact BKg3.out | refine blk_drewN ?_ _ | refine blk_drew ?_ | refine blk_alloc ?_ _)) hb); have n2_ := Aside0.mk (below_step (by repeat (first | exact HB.out | apply below_alloc | apply pw_below_drewN | apply below_drew1)) hb); clear BKg2; clear BKg3; clear HB; have BKg2 := n0_; have BKg3 := n1_; have HB := n2_; clear n0_ n1_ n2_; (try clear hF); clear hb; (try simp only [Act.put, List.setIfInBounds_toArray, List.set_cons_zero, List.set_cons_succ])) | ((with_reducible refine gate_dst (N := 15) rfl ?_); refine wpList_load_mid rfl 84 (.tmp 3) rfl g3 0 rfl cs1 _ (range_of_blk (by repeat (first | exact BKg3.out | refine blk_drewN ?_ _ | refine blk_drew ?_ | refine blk_alloc ?_ _))) Try.underlying84 rfl (by rw [hlcs1]; kernel_rfl) ?_; (try simp only [Act.put, List.setIfInBounds_toArray, List.set_cons_zero, List.set_cons_succ])) | ((with_reducible refine gate_dst (N := 17) rfl ?_); refine goesL_ (some 17) rfl rfl Try.func44 (by kernel_rfl) rfl #[.agg cs1.toArray, .int .i64 t0] rfl (by first | rfl | (simp only [List.map_toArray, List.map_cons, List.map_nil]; rfl)) ?_; (with_reducible refine Calls.mono (laws_szDevice_F k _ x1 t0 t1 _ (FDeviceL_below HFcs1.out (by repeat (first | exact HB.out | apply below_alloc | apply pw_below_drewN | apply below_drew1))) At1.out) ?_); rintro e w4 ⟨rfl, hb⟩; refine ⟨_, rfl, ?_⟩; have n0_ := Aside0.mk (blk_below (o := .cells cs0.toArray 84 (0, 0)) (by repeat (first | exact BKg2.out | refine blk_drewN ?_ _ | refine blk_drew ?_ | refine blk_alloc ?_ _)) hb); have n1_ := Aside0.mk (blk_below (o := .cells cs1.toArray 84 (0, 0)) (by repeat (first | exact BKg3.out | refine blk_drewN ?_ _ | refine blk_drew ?_ | refine blk_alloc ?_ _)) hb); have n2_ := Aside0.mk (below_step (by repeat (first | exact HB.out | apply below_alloc | apply pw_below_drewN | apply below_drew1)) hb); clear BKg2; clear BKg3; clear HB; have BKg2 := n0_; have BKg3 := n1_; have HB := n2_; clear n0_ n1_ n2_; (try clear hF); clear hb; (try simp only [Act.put, List.setIfInBounds_toArray, List.set_cons_zero, List.set_cons_succ])))
        have n0_ := Aside0.mk (blk_drew (o := .cells cs0.toArray 84 (0, 0)) (by repeat (first | exact BKg2.out | refine blk_drewN ?_ _ | refine blk_drew ?_ | refine blk_alloc ?_ _)))
        have n1_ := Aside0.mk (blk_drew (o := .cells cs1.toArray 84 (0, 0)) (by repeat (first | exact BKg3.out | refine blk_drewN ?_ _ | refine blk_drew ?_ | refine blk_alloc ?_ _)))
        have n2_ := Aside0.mk (below_drew1 (by repeat (first | exact HB.out | apply below_alloc | apply pw_below_drewN | apply below_drew1)))
        clear BKg2 BKg3 HB
        have BKg2 := n0_
        have BKg3 := n1_
        have HB := n2_
        clear n0_ n1_ n2_
        refine start_ (n := 6) (S := fun w' => w'.heap[g2]? = some (.cells cs0.toArray 84 (0, 0)) ∧ w'.heap[g3]? = some (.cells cs1.toArray 84 (0, 0))) (ds := []) #[false, false, false, false, false, false] (by kernel_rfl) rfl rfl ⟨BKg2.out, BKg3.out⟩ (fun hHeld => ?_)
        generalize World.drew _ = w5 at BKg2 BKg3  HB hHeld ⊢
        refine take_ (i := 0) (N := some 20) (v := .agg cs0.toArray) (a' := ?_) #[true, false, false, false, false, false] rfl rfl (by kernel_rfl) (fun _ _ _ h => h) (yieldsIf_load_mid rfl 84 (.tmp 2) rfl g2 0 rfl cs0 _ (fun w' h => range_of_blk h.1) Try.underlying84 rfl (by rw [hlcs0]; kernel_rfl)) hHeld ?_ ?_
        rotate_left
        · simp only [Act.put, List.setIfInBounds_toArray, List.set_cons_zero, List.set_cons_succ, i64_w, i32_w]
          rfl
        refine take_ (i := 2) (N := some 22) (v := .agg cs1.toArray) (a' := ?_) #[true, false, true, false, false, false] rfl rfl (by kernel_rfl) (fun _ _ _ h => h) (yieldsIf_load_mid rfl 84 (.tmp 3) rfl g3 0 rfl cs1 _ (fun w' h => range_of_blk h.2) Try.underlying84 rfl (by rw [hlcs1]; kernel_rfl)) hHeld ?_ ?_
        rotate_left
        · simp only [Act.put, List.setIfInBounds_toArray, List.set_cons_zero, List.set_cons_succ, i64_w, i32_w]
          rfl
        refine one_ (i := 1) (N := some 21) #[true, true, true, false, false, false] rfl rfl (by kernel_rfl) (by decide) (fun K hK => ?_)
        refine goes_ Try.func46 (by kernel_rfl) rfl #[.agg cs0.toArray] (by rfl) rfl rfl (by first | rfl | (simp only [List.map_toArray, List.map_cons, List.map_nil]; rfl)) ?_
        with_reducible refine Calls.mono (laws_toDevice_F k _ x0 t2 _ (FDeviceL_below HFcs0.out (by repeat (first | exact HB.out | apply below_alloc | apply pw_below_drewN | apply below_drew1))) At2.out) ?_
        rintro e w6 ⟨v_, rfl, hF, hb⟩
        obtain ⟨ct2, rfl, hlct2, hoct2⟩ := FDeviceI_cells hF
        refine ⟨_, rfl, ?_⟩
        have n0_ := Aside0.mk (blk_below (o := .cells cs0.toArray 84 (0, 0)) (by repeat (first | exact BKg2.out | refine blk_drewN ?_ _ | refine blk_drew ?_ | refine blk_alloc ?_ _)) hb)
        have n1_ := Aside0.mk (blk_below (o := .cells cs1.toArray 84 (0, 0)) (by repeat (first | exact BKg3.out | refine blk_drewN ?_ _ | refine blk_drew ?_ | refine blk_alloc ?_ _)) hb)
        have n2_ := Aside0.mk (below_step (by repeat (first | exact HB.out | apply below_alloc | apply pw_below_drewN | apply below_drew1)) hb)
        have n3_ := Aside0.mk (hF)
        clear BKg2
        clear BKg3
        clear HB
        have BKg2 := n0_
        have BKg3 := n1_
        have HB := n2_
        have HFct2 := n3_
        clear n0_ n1_ n2_ n3_
        (try clear hF)
        clear hb
        refine hK.out _ _ ⟨BKg2.out, BKg3.out⟩ (fun hHeld => ?_)
        clear hK K
        refine norm_ (a' := ?_) ?_ ?_
        rotate_left
        · show Act.put _ (some 21) _ = _
          simp only [Act.put, List.setIfInBounds_toArray, List.set_cons_zero, List.set_cons_succ, i64_w, i32_w]
          rfl
        refine one_ (i := 3) (N := some 23) #[true, true, true, true, false, false] rfl rfl (by kernel_rfl) (by decide) (fun K hK => ?_)
        refine goes_ Try.func46 (by kernel_rfl) rfl #[.agg cs1.toArray] (by rfl) rfl rfl (by first | rfl | (simp only [List.map_toArray, List.map_cons, List.map_nil]; rfl)) ?_
        with_reducible refine Calls.mono (laws_toDevice_F k _ x1 t3 _ (FDeviceL_below HFcs1.out (by repeat (first | exact HB.out | apply below_alloc | apply pw_below_drewN | apply below_drew1))) At3.out) ?_
        rintro e w7 ⟨v_, rfl, hF, hb⟩
        obtain ⟨ct3, rfl, hlct3, hoct3⟩ := FDeviceI_cells hF
        refine ⟨_, rfl, ?_⟩
        have n0_ := Aside0.mk (blk_below (o := .cells cs0.toArray 84 (0, 0)) (by repeat (first | exact BKg2.out | refine blk_drewN ?_ _ | refine blk_drew ?_ | refine blk_alloc ?_ _)) hb)
        have n1_ := Aside0.mk (blk_below (o := .cells cs1.toArray 84 (0, 0)) (by repeat (first | exact BKg3.out | refine blk_drewN ?_ _ | refine blk_drew ?_ | refine blk_alloc ?_ _)) hb)
        have n2_ := Aside0.mk (FDeviceI_below (by repeat (first | exact HFct2.out | refine FDeviceI_alloc ?_ _ | refine FDeviceI_drewN ?_ _ | refine FDeviceI_drew ?_)) hb)
        have n3_ := Aside0.mk (below_step (by repeat (first | exact HB.out | apply below_alloc | apply pw_below_drewN | apply below_drew1)) hb)
        have n4_ := Aside0.mk (hF)
        clear BKg2
        clear BKg3
        clear HFct2
        clear HB
        have BKg2 := n0_
        have BKg3 := n1_
        have HFct2 := n2_
        have HB := n3_
        have HFct3 := n4_
        clear n0_ n1_ n2_ n3_ n4_
        (try clear hF)
        clear hb
        refine hK.out _ _ ⟨BKg2.out, BKg3.out⟩ (fun hHeld => ?_)
        clear hK K
        refine norm_ (a' := ?_) ?_ ?_
        rotate_left
        · show Act.put _ (some 23) _ = _
          simp only [Act.put, List.setIfInBounds_toArray, List.set_cons_zero, List.set_cons_succ, i64_w, i32_w]
          rfl
        refine one_ (i := 4) (N := some 24) #[true, true, true, true, true, false] rfl rfl (by kernel_rfl) (by decide) (fun K hK => ?_)
        refine goes_ Try.func45 (by kernel_rfl) rfl #[.agg ct2.toArray, .agg ct3.toArray] (by rfl) rfl rfl (by first | rfl | (simp only [List.map_toArray, List.map_cons, List.map_nil]; rfl)) ?_
        with_reducible refine Calls.mono (spec_SameDevice_F k _ t2 _ t3 t4 _ (by repeat (first | exact HFct2.out | refine FDeviceI_alloc ?_ _ | refine FDeviceI_drewN ?_ _ | refine FDeviceI_drew ?_)) (by repeat (first | exact HFct3.out | refine FDeviceI_alloc ?_ _ | refine FDeviceI_drewN ?_ _ | refine FDeviceI_drew ?_)) At4.out) ?_
        rintro e w8 ⟨rfl, hb⟩
        refine ⟨_, rfl, ?_⟩
        have n0_ := Aside0.mk (blk_below (o := .cells cs0.toArray 84 (0, 0)) (by repeat (first | exact BKg2.out | refine blk_drewN ?_ _ | refine blk_drew ?_ | refine blk_alloc ?_ _)) hb)
        have n1_ := Aside0.mk (blk_below (o := .cells cs1.toArray 84 (0, 0)) (by repeat (first | exact BKg3.out | refine blk_drewN ?_ _ | refine blk_drew ?_ | refine blk_alloc ?_ _)) hb)
        have n2_ := Aside0.mk (FDeviceI_below (by repeat (first | exact HFct2.out | refine FDeviceI_alloc ?_ _ | refine FDeviceI_drewN ?_ _ | refine FDeviceI_drew ?_)) hb)
        have n3_ := Aside0.mk (FDeviceI_below (by repeat (first | exact HFct3.out | refine FDeviceI_alloc ?_ _ | refine FDeviceI_drewN ?_ _ | refine FDeviceI_drew ?_)) hb)
        have n4_ := Aside0.mk (below_step (by repeat (first | exact HB.out | apply below_alloc | apply pw_below_drewN | apply below_drew1)) hb)
        clear BKg2
        clear BKg3
        clear HFct2
        clear HFct3
        clear HB
        have BKg2 := n0_
        have BKg3 := n1_
        have HFct2 := n2_
        have HFct3 := n3_
        have HB := n4_
        clear n0_ n1_ n2_ n3_ n4_
        (try clear hF)
        clear hb
        refine hK.out _ _ ⟨BKg2.out, BKg3.out⟩ (fun hHeld => ?_)
        clear hK K
        refine norm_ (a' := ?_) ?_ ?_
        rotate_left
        · show Act.put _ (some 24) _ = _
          simp only [Act.put, List.setIfInBounds_toArray, List.set_cons_zero, List.set_cons_succ, i64_w, i32_w]
          rfl
        refine pure_ (i := 5) (N := some 6) (v := ?_) (a' := ?_) #[true, true, true, true, true, true] rfl rfl (by kernel_rfl) (fun _ _ _ h => h) (Or.inl ⟨by rfl, ?_⟩) ?_ ?_
        rotate_left
        · intro w'
          go_simp
          with_reducible rfl
        rotate_left
        · simp only [Act.put, List.setIfInBounds_toArray, List.set_cons_zero, List.set_cons_succ, i64_w, i32_w]
          rfl
        refine done_ (by kernel_rfl) ?_
        go_wp2_with (first | ((with_reducible refine gate_dst (N := 25) rfl ?_); refine wpList_load_mid rfl 84 (.tmp 2) rfl g2 0 rfl cs0 _ (range_of_blk (by repeat (first | exact BKg2.out | refine blk_drewN ?_ _ | refine blk_drew ?_ | refine blk_alloc ?_ _))) Try.underlying84 rfl (by rw [hlcs0]; kernel_rfl) ?_; (try simp only [Act.put, List.setIfInBounds_toArray, List.set_cons_zero, List.set_cons_succ])) | ((with_reducible refine gate_dst (N := 26) rfl ?_); refine goesL_ (some 26) rfl rfl Try.func46 (by kernel_rfl) rfl #[.agg cs0.toArray] rfl (by first | rfl | (simp only [List.map_toArray, List.map_cons, List.map_nil]; rfl)) ?_; (with_reducible refine Calls.mono (laws_toDevice_F k _ x0 t5 _ (FDeviceL_below HFcs0.out (by repeat (first | exact HB.out | apply below_alloc | apply pw_below_drewN | apply below_drew1))) At5.out) ?_); rintro e w9 ⟨v_, rfl, hF, hb⟩; obtain ⟨ct5, rfl, hlct5, hoct5⟩ := FDeviceI_cells hF; refine ⟨_, rfl, ?_⟩; have n0_ := Aside0.mk (blk_below (o := .cells cs0.toArray 84 (0, 0)) (by repeat (first | exact BKg2.out | refine blk_drewN ?_ _ | refine blk_drew ?_ | refine blk_alloc ?_ _)) hb); have n1_ := Aside0.mk (blk_below (o := .cells cs1.toArray 84 (0, 0)) (by repeat (first | exact BKg3.out | refine blk_drewN ?_ _ | refine blk_drew ?_ | refine blk_alloc ?_ _)) hb); have n2_ := Aside0.mk (FDeviceI_below (by repeat (first | exact HFct2.out | refine FDeviceI_alloc ?_ _ | refine FDeviceI_drewN ?_ _ | refine FDeviceI_drew ?_)) hb); have n3_ := Aside0.mk (FDeviceI_below (by repeat (first | exact HFct3.out | refine FDeviceI_alloc ?_ _ | refine FDeviceI_drewN ?_ _ | refine FDeviceI_drew ?_)) hb); have n4_ := Aside0.mk (below_step (by repeat (first | exact HB.out | apply below_alloc | apply pw_below_drewN | apply below_drew1)) hb); have n5_ := Aside0.mk (hF); clear BKg2; clear BKg3; clear HFct2; clear HFct3; clear HB; have BKg2 := n0_; have BKg3 := n1_; have HFct2 := n2_; have HFct3 := n3_; have HB := n4_; have HFct5 := n5_; clear n0_ n1_ n2_ n3_ n4_ n5_; (try clear hF); clear hb; (try simp only [Act.put, List.setIfInBounds_toArray, List.set_cons_zero, List.set_cons_succ])) | ((with_reducible refine gate_dst (N := 7) rfl ?_); refine alloc_store_event 7 75 _ rfl rfl rfl rfl rfl (cs := ct5) rfl rfl hoct5 (by rw [hlct5]; exact hz75) (by rw [hlct5]; exact hzc75) ?_; intro g7 hg w10 hbox hb; clear hg; have n0_ := Aside0.mk (blk_below (o := .cells cs0.toArray 84 (0, 0)) (by repeat (first | exact BKg2.out | refine blk_drewN ?_ _ | refine blk_drew ?_ | refine blk_alloc ?_ _)) hb); have n1_ := Aside0.mk (blk_below (o := .cells cs1.toArray 84 (0, 0)) (by repeat (first | exact BKg3.out | refine blk_drewN ?_ _ | refine blk_drew ?_ | refine blk_alloc ?_ _)) hb); have n2_ := Aside0.mk (FDeviceI_below (by repeat (first | exact HFct2.out | refine FDeviceI_alloc ?_ _ | refine FDeviceI_drewN ?_ _ | refine FDeviceI_drew ?_)) hb); have n3_ := Aside0.mk (FDeviceI_below (by repeat (first | exact HFct3.out | refine FDeviceI_alloc ?_ _ | refine FDeviceI_drewN ?_ _ | refine FDeviceI_drew ?_)) hb); have n4_ := Aside0.mk (FDeviceI_below (by repeat (first | exact HFct5.out | refine FDeviceI_alloc ?_ _ | refine FDeviceI_drewN ?_ _ | refine FDeviceI_drew ?_)) hb); have n5_ := Aside0.mk (below_step (by repeat (first | exact HB.out | apply below_alloc | apply pw_below_drewN | apply below_drew1)) hb); have n6_ := Aside0.mk (hbox); clear BKg2; clear BKg3; clear HFct2; clear HFct3; clear HFct5; clear HB; have BKg2 := n0_; have BKg3 := n1_; have HFct2 := n2_; have HFct3 := n3_; have HFct5 := n4_; have HB := n5_; have BKg7 := n6_; clear n0_ n1_ n2_ n3_ n4_ n5_ n6_; clear hb hbox; (try simp only [Act.put, List.setIfInBounds_toArray, List.set_cons_zero, List.set_cons_succ])) | ((with_reducible refine gate_dst (N := 27) rfl ?_); refine wpList_load_mid rfl 84 (.tmp 3) rfl g3 0 rfl cs1 _ (range_of_blk (by repeat (first | exact BKg3.out | refine blk_drewN ?_ _ | refine blk_drew ?_ | refine blk_alloc ?_ _))) Try.underlying84 rfl (by rw [hlcs1]; kernel_rfl) ?_; (try simp only [Act.put, List.setIfInBounds_toArray, List.set_cons_zero, List.set_cons_succ])) | ((with_reducible refine gate_dst (N := 28) rfl ?_); refine goesL_ (some 28) rfl rfl Try.func46 (by kernel_rfl) rfl #[.agg cs1.toArray] rfl (by first | rfl | (simp only [List.map_toArray, List.map_cons, List.map_nil]; rfl)) ?_; (with_reducible refine Calls.mono (laws_toDevice_F k _ x1 t6 _ (FDeviceL_below HFcs1.out (by repeat (first | exact HB.out | apply below_alloc | apply pw_below_drewN | apply below_drew1))) At6.out) ?_); rintro e w11 ⟨v_, rfl, hF, hb⟩; obtain ⟨ct6, rfl, hlct6, hoct6⟩ := FDeviceI_cells hF; refine ⟨_, rfl, ?_⟩; have n0_ := Aside0.mk (blk_below (o := .cells cs0.toArray 84 (0, 0)) (by repeat (first | exact BKg2.out | refine blk_drewN ?_ _ | refine blk_drew ?_ | refine blk_alloc ?_ _)) hb); have n1_ := Aside0.mk (blk_below (o := .cells cs1.toArray 84 (0, 0)) (by repeat (first | exact BKg3.out | refine blk_drewN ?_ _ | refine blk_drew ?_ | refine blk_alloc ?_ _)) hb); have n2_ := Aside0.mk (blk_below (o := .cells ct5.toArray 75 (0, 0)) (by repeat (first | exact BKg7.out | refine blk_drewN ?_ _ | refine blk_drew ?_ | refine blk_alloc ?_ _)) hb); have n3_ := Aside0.mk (FDeviceI_below (by repeat (first | exact HFct2.out | refine FDeviceI_alloc ?_ _ | refine FDeviceI_drewN ?_ _ | refine FDeviceI_drew ?_)) hb); have n4_ := Aside0.mk (FDeviceI_below (by repeat (first | exact HFct3.out | refine FDeviceI_alloc ?_ _ | refine FDeviceI_drewN ?_ _ | refine FDeviceI_drew ?_)) hb); have n5_ := Aside0.mk (FDeviceI_below (by repeat (first | exact HFct5.out | refine FDeviceI_alloc ?_ _ | refine FDeviceI_drewN ?_ _ | refine FDeviceI_drew ?_)) hb); have n6_ := Aside0.mk (below_step (by repeat (first | exact HB.out | apply below_alloc | apply pw_below_drewN | apply below_drew1)) hb); have n7_ := Aside0.mk (hF); clear BKg2; clear BKg3; clear BKg7; clear HFct2; clear HFct3; clear HFct5; clear HB; have BKg2 := n0_; have BKg3 := n1_; have BKg7 := n2_; have HFct2 := n3_; have HFct3 := n4_; have HFct5 := n5_; have HB := n6_; have HFct6 := n7_; clear n0_ n1_ n2_ n3_ n4_ n5_ n6_ n7_; (try clear hF); clear hb; (try simp only [Act.put, List.setIfInBounds_toArray, List.set_cons_zero, List.set_cons_succ])) | ((with_reducible refine gate_dst (N := 8) rfl ?_); refine alloc_store_event 8 75 _ rfl rfl rfl rfl rfl (cs := ct6) rfl rfl hoct6 (by rw [hlct6]; exact hz75) (by rw [hlct6]; exact hzc75) ?_; intro g8 hg w12 hbox hb; clear hg; have n0_ := Aside0.mk (blk_below (o := .cells cs0.toArray 84 (0, 0)) (by repeat (first | exact BKg2.out | refine blk_drewN ?_ _ | refine blk_drew ?_ | refine blk_alloc ?_ _)) hb); have n1_ := Aside0.mk (blk_below (o := .cells cs1.toArray 84 (0, 0)) (by repeat (first | exact BKg3.out | refine blk_drewN ?_ _ | refine blk_drew ?_ | refine blk_alloc ?_ _)) hb); have n2_ := Aside0.mk (blk_below (o := .cells ct5.toArray 75 (0, 0)) (by repeat (first | exact BKg7.out | refine blk_drewN ?_ _ | refine blk_drew ?_ | refine blk_alloc ?_ _)) hb); have n3_ := Aside0.mk (FDeviceI_below (by repeat (first | exact HFct2.out | refine FDeviceI_alloc ?_ _ | refine FDeviceI_drewN ?_ _ | refine FDeviceI_drew ?_)) hb); have n4_ := Aside0.mk (FDeviceI_below (by repeat (first | exact HFct3.out | refine FDeviceI_alloc ?_ _ | refine FDeviceI_drewN ?_ _ | refine FDeviceI_drew ?_)) hb); have n5_ := Aside0.mk (FDeviceI_below (by repeat (first | exact HFct5.out | refine FDeviceI_alloc ?_ _ | refine FDeviceI_drewN ?_ _ | refine FDeviceI_drew ?_)) hb); have n6_ := Aside0.mk (FDeviceI_below (by repeat (first | exact HFct6.out | refine FDeviceI_alloc ?_ _ | refine FDeviceI_drewN ?_ _ | refine FDeviceI_drew ?_)) hb); have n7_ := Aside0.mk (below_step (by repeat (first | exact HB.out | apply below_alloc | apply pw_below_drewN | apply below_drew1)) hb); have n8_ := Aside0.mk (hbox); clear BKg2; clear BKg3; clear BKg7; clear HFct2; clear HFct3; clear HFct5; clear HFct6; clear HB; have BKg2 := n0_; have BKg3 := n1_; have BKg7 := n2_; have HFct2 := n3_; have HFct3 := n4_; have HFct5 := n5_; have HFct6 := n6_; have HB := n7_; have BKg8 := n8_; clear n0_ n1_ n2_ n3_ n4_ n5_ n6_ n7_ n8_; clear hb hbox; (try simp only [Act.put, List.setIfInBounds_toArray, List.set_cons_zero, List.set_cons_succ])) | ((with_reducible refine gate_dst (N := 29) rfl ?_); refine wpList_load_mid rfl 75 (.tmp 7) rfl g7 0 rfl ct5 _ (range_of_blk (by repeat (first | exact BKg7.out | refine blk_drewN ?_ _ | refine blk_drew ?_ | refine blk_alloc ?_ _))) Try.underlying75 rfl (by rw [hlct5]; kernel_rfl) ?_; (try simp only [Act.put, List.setIfInBounds_toArray, List.set_cons_zero, List.set_cons_succ])) | ((with_reducible refine gate_dst (N := 30) rfl ?_); refine wpList_load_mid rfl 75 (.tmp 8) rfl g8 0 rfl ct6 _ (range_of_blk (by repeat (first | exact BKg8.out | refine blk_drewN ?_ _ | refine blk_drew ?_ | refine blk_alloc ?_ _))) Try.underlying75 rfl (by rw [hlct6]; kernel_rfl) ?_; (try simp only [Act.put, List.setIfInBounds_toArray, List.set_cons_zero, List.set_cons_succ])) | ((with_reducible refine gate_dst (N := 31) rfl ?_); refine goesL_ (some 31) rfl rfl Try.func47 (by kernel_rfl) rfl #[.agg ct5.toArray, .agg ct6.toArray] rfl (by first | rfl | (simp only [List.map_toArray, List.map_cons, List.map_nil]; rfl)) ?_; (with_reducible refine Calls.mono (impl_SameDevice_F _ t5 _ t6 t7 _ (by repeat (first | exact HFct5.out | refine FDeviceI_alloc ?_ _ | refine FDeviceI_drewN ?_ _ | refine FDeviceI_drew ?_)) (by repeat (first | exact HFct6.out | refine FDeviceI_alloc ?_ _ | refine FDeviceI_drewN ?_ _ | refine FDeviceI_drew ?_)) At7.out) ?_); rintro e w13 ⟨rfl, hb⟩; refine ⟨_, rfl, ?_⟩; have n0_ := Aside0.mk (blk_below (o := .cells cs0.toArray 84 (0, 0)) (by repeat (first | exact BKg2.out | refine blk_drewN ?_ _ | refine blk_drew ?_ | refine blk_alloc ?_ _)) hb); have n1_ := Aside0.mk (blk_below (o := .cells cs1.toArray 84 (0, 0)) (by repeat (first | exact BKg3.out | refine blk_drewN ?_ _ | refine blk_drew ?_ | refine blk_alloc ?_ _)) hb); have n2_ := Aside0.mk (blk_below (o := .cells ct5.toArray 75 (0, 0)) (by repeat (first | exact BKg7.out | refine blk_drewN ?_ _ | refine blk_drew ?_ | refine blk_alloc ?_ _)) hb); have n3_ := Aside0.mk (blk_below (o := .cells ct6.toArray 75 (0, 0)) (by repeat (first | exact BKg8.out | refine blk_drewN ?_ _ | refine blk_drew ?_ | refine blk_alloc ?_ _)) hb); have n4_ := Aside0.mk (FDeviceI_below (by repeat (first | exact HFct2.out | refine FDeviceI_alloc ?_ _ | refine FDeviceI_drewN ?_ _ | refine FDeviceI_drew ?_)) hb); have n5_ := Aside0.mk (FDeviceI_below (by repeat (first | exact HFct3.out | refine FDeviceI_alloc ?_ _ | refine FDeviceI_drewN ?_ _ | refine FDeviceI_drew ?_)) hb); have n6_ := Aside0.mk (FDeviceI_below (by repeat (first | exact HFct5.out | refine FDeviceI_alloc ?_ _ | refine FDeviceI_drewN ?_ _ | refine FDeviceI_drew ?_)) hb); have n7_ := Aside0.mk (FDeviceI_below (by repeat (first | exact HFct6.out | refine FDeviceI_alloc ?_ _ | refine FDeviceI_drewN ?_ _ | refine FDeviceI_drew ?_)) hb); have n8_ := Aside0.mk (below_step (by repeat (first | exact HB.out | apply below_alloc | apply pw_below_drewN | apply below_drew1)) hb); clear BKg2; clear BKg3; clear BKg7; clear BKg8; clear HFct2; clear HFct3; clear HFct5; clear HFct6; clear HB; have BKg2 := n0_; have BKg3 := n1_; have BKg7 := n2_; have BKg8 := n3_; have HFct2 := n4_; have HFct3 := n5_; have HFct5 := n6_; have HFct6 := n7_; have HB := n8_; clear n0_ n1_ n2_ n3_ n4_ n5_ n6_ n7_ n8_; (try clear hF); clear hb; (try simp only [Act.put, List.setIfInBounds_toArray, List.set_cons_zero, List.set_cons_succ])))
        go_ret
        exact ⟨by first | rfl | simp [*], (by repeat (first | exact HB.out | apply below_alloc | apply pw_below_drewN | apply below_drew1))⟩
      · rw [if_neg c2_] at H
        replace c2_ := Bool.eq_false_iff.2 c2_
        have c2_x := c2_
        have c2_y : (t7 = t4) := by simpa using c2_
        have c2_z : decide (t7 = t4) = true := by simpa using c2_y
        have c2_w : (t7 == t4) = true := by simpa using c2_y
        obtain ⟨t8, At8, H⟩ := Option.bind_eq_some_iff.mp H
        replace At8 := Aside0.mk At8
        obtain ⟨t9, At9, H⟩ := Option.bind_eq_some_iff.mp H
        replace At9 := Aside0.mk At9
        by_cases c3_ : t9 = true
        · rw [if_pos c3_] at H
          skip
          subst c3_
          obtain ⟨t10, At10, H⟩ := Option.bind_eq_some_iff.mp H
          replace At10 := Aside0.mk At10
          obtain ⟨t11, At11, H⟩ := Option.bind_eq_some_iff.mp H
          replace At11 := Aside0.mk At11
          by_cases c4_ : t11 = true
          · rw [if_pos c4_] at H
            skip
            subst c4_
            obtain rfl := Option.some.inj H
            go_enter Try.func8, Try.ntmps8
            go_wp2_with (first | ((with_reducible refine gate_dst (N := 2) rfl ?_); refine box_event (cs := cs0.toArray) (t := 84) rfl (N := 2) rfl (by first | (go_simp; done) | (go_simp; rfl)) ?_; intro g2 hg w1 hbox hb; clear hg; have n0_ := Aside0.mk (below_step (by repeat (first | exact HB.out | apply below_alloc | apply pw_below_drewN | apply below_drew1)) hb); have n1_ := Aside0.mk (hbox); clear HB; have HB := n0_; have BKg2 := n1_; clear n0_ n1_; clear hb hbox; (try simp only [Act.put, List.setIfInBounds_toArray, List.set_cons_zero, List.set_cons_succ])) | ((with_reducible refine gate_dst (N := 3) rfl ?_); refine box_event (cs := cs1.toArray) (t := 84) rfl (N := 3) rfl (by first | (go_simp; done) | (go_simp; rfl)) ?_; intro g3 hg w2 hbox hb; clear hg; have n0_ := Aside0.mk (blk_below (o := .cells cs0.toArray 84 (0, 0)) (by repeat (first | exact BKg2.out | refine blk_drewN ?_ _ | refine blk_drew ?_ | refine blk_alloc ?_ _)) hb); have n1_ := Aside0.mk (below_step (by repeat (first | exact HB.out | apply below_alloc | apply pw_below_drewN | apply below_drew1)) hb); have n2_ := Aside0.mk (hbox); clear BKg2; clear HB; have BKg2 := n0_; have HB := n1_; have BKg3 := n2_; clear n0_ n1_ n2_; clear hb hbox; (try simp only [Act.put, List.setIfInBounds_toArray, List.set_cons_zero, List.set_cons_succ])) | ((with_reducible refine gate_dst (N := 10) rfl ?_); refine wpList_load_mid rfl 84 (.tmp 2) rfl g2 0 rfl cs0 _ (range_of_blk (by repeat (first | exact BKg2.out | refine blk_drewN ?_ _ | refine blk_drew ?_ | refine blk_alloc ?_ _))) Try.underlying84 rfl (by rw [hlcs0]; kernel_rfl) ?_; (try simp only [Act.put, List.setIfInBounds_toArray, List.set_cons_zero, List.set_cons_succ])) | ((with_reducible refine gate_dst (N := 12) rfl ?_); refine goesL_ (some 12) rfl rfl Try.func44 (by kernel_rfl) rfl #[.agg cs0.toArray, .int .i64 1048576] rfl (by first | rfl | (simp only [List.map_toArray, List.map_cons, List.map_nil]; rfl)) ?_; (with_reducible refine Calls.mono (laws_szDevice_F k _ x0 1048576 t0 _ (FDeviceL_below HFcs0.out (by repeat (first | exact HB.out | apply below_alloc | apply pw_below_drewN | apply below_drew1))) At0.out) ?_); rintro e w3 ⟨rfl, hb⟩; refine ⟨_, rfl, ?_⟩; have n0_ := Aside0.mk (blk_below (o := .cells cs0.toArray 84 (0, 0)) (by repeat (first | exact BKg2.out | refine blk_drewN ?_ _ | refine blk_drew ?_ | refine blk_alloc ?_ _)) hb); have n1_ := Aside0.mk (blk_below (o := .cells cs1.toArray 84 (0, 0)) (by repeat (first | exact BKg3.out | refine blk_drewN ?_ _ | refine blk_drew ?_ | refine blk_alloc ?_ _)) hb); have n2_ := Aside0.mk (below_step (by repeat (first | exact HB.out | apply below_alloc | apply pw_below_drewN | apply below_drew1)) hb); clear BKg2; clear BKg3; clear HB; have BKg2 := n0_; have BKg3 := n1_; have HB := n2_; clear n0_ n1_ n2_; (try clear hF); clear hb; (try simp only [Act.put, List.setIfInBounds_toArray, List.set_cons_zero, List.set_cons_succ])) | ((with_reducible refine gate_dst (N := 15) rfl ?_); refine wpList_load_mid rfl 84 (.tmp 3) rfl g3 0 rfl cs1 _ (range_of_blk (by repeat (first | exact BKg3.out | refine blk_drewN ?_ _ | refine blk_drew ?_ | refine blk_alloc ?_ _))) Try.underlying84 rfl (by rw [hlcs1]; kernel_rfl) ?_; (try simp only [Act.put, List.setIfInBounds_toArray, List.set_cons_zero, List.set_cons_succ])) | ((with_reducible refine gate_dst (N := 17) rfl ?_); refine goesL_ (some 17) rfl rfl Try.func44 (by kernel_rfl) rfl #[.agg cs1.toArray, .int .i64 t0] rfl (by first | rfl | (simp only [List.map_toArray, List.map_cons, List.map_nil]; rfl)) ?_; (with_reducible refine Calls.mono (laws_szDevice_F k _ x1 t0 t1 _ (FDeviceL_below HFcs1.out (by repeat (first | exact HB.out | apply below_alloc | apply pw_below_drewN | apply below_drew1))) At1.out) ?_); rintro e w4 ⟨rfl, hb⟩; refine ⟨_, rfl, ?_⟩; have n0_ := Aside0.mk (blk_below (o := .cells cs0.toArray 84 (0, 0)) (by repeat (first | exact BKg2.out | refine blk_drewN ?_ _ | refine blk_drew ?_ | refine blk_alloc ?_ _)) hb); have n1_ := Aside0.mk (blk_below (o := .cells cs1.toArray 84 (0, 0)) (by repeat (first | exact BKg3.out | refine blk_drewN ?_ _ | refine blk_drew ?_ | refine blk_alloc ?_ _)) hb); have n2_ := Aside0.mk (below_step (by repeat (first | exact HB.out | apply below_alloc | apply pw_below_drewN | apply below_drew1)) hb); clear BKg2; clear BKg3; clear HB; have BKg2 := n0_; have BKg3 := n1_; have HB := n2_; clear n0_ n1_ n2_; (try clear hF); clear hb; (try simp only [Act.put, List.setIfInBounds_toArray, List.set_cons_zero, List.set_cons_succ])))
            have n0_ := Aside0.mk (blk_drew (o := .cells cs0.toArray 84 (0, 0)) (by repeat (first | exact BKg2.out | refine blk_drewN ?_ _ | refine blk_drew ?_ | refine blk_alloc ?_ _)))
            have n1_ := Aside0.mk (blk_drew (o := .cells cs1.toArray 84 (0, 0)) (by repeat (first | exact BKg3.out | refine blk_drewN ?_ _ | refine blk_drew ?_ | refine blk_alloc ?_ _)))
            have n2_ := Aside0.mk (below_drew1 (by repeat (first | exact HB.out | apply below_alloc | apply pw_below_drewN | apply below_drew1)))
            clear BKg2 BKg3 HB
            have BKg2 := n0_
            have BKg3 := n1_
            have HB := n2_
            clear n0_ n1_ n2_
            refine start_ (n := 6) (S := fun w' => w'.heap[g2]? = some (.cells cs0.toArray 84 (0, 0)) ∧ w'.heap[g3]? = some (.cells cs1.toArray 84 (0, 0))) (ds := []) #[false, false, false, false, false, false] (by kernel_rfl) rfl rfl ⟨BKg2.out, BKg3.out⟩ (fun hHeld => ?_)
            generalize World.drew _ = w5 at BKg2 BKg3  HB hHeld ⊢
            refine take_ (i := 0) (N := some 20) (v := .agg cs0.toArray) (a' := ?_) #[true, false, false, false, false, false] rfl rfl (by kernel_rfl) (fun _ _ _ h => h) (yieldsIf_load_mid rfl 84 (.tmp 2) rfl g2 0 rfl cs0 _ (fun w' h => range_of_blk h.1) Try.underlying84 rfl (by rw [hlcs0]; kernel_rfl)) hHeld ?_ ?_
            rotate_left
            · simp only [Act.put, List.setIfInBounds_toArray, List.set_cons_zero, List.set_cons_succ, i64_w, i32_w]
              rfl
            refine take_ (i := 2) (N := some 22) (v := .agg cs1.toArray) (a' := ?_) #[true, false, true, false, false, false] rfl rfl (by kernel_rfl) (fun _ _ _ h => h) (yieldsIf_load_mid rfl 84 (.tmp 3) rfl g3 0 rfl cs1 _ (fun w' h => range_of_blk h.2) Try.underlying84 rfl (by rw [hlcs1]; kernel_rfl)) hHeld ?_ ?_
            rotate_left
            · simp only [Act.put, List.setIfInBounds_toArray, List.set_cons_zero, List.set_cons_succ, i64_w, i32_w]
              rfl
            refine one_ (i := 1) (N := some 21) #[true, true, true, false, false, false] rfl rfl (by kernel_rfl) (by decide) (fun K hK => ?_)
            refine goes_ Try.func46 (by kernel_rfl) rfl #[.agg cs0.toArray] (by rfl) rfl rfl (by first | rfl | (simp only [List.map_toArray, List.map_cons, List.map_nil]; rfl)) ?_
            with_reducible refine Calls.mono (laws_toDevice_F k _ x0 t2 _ (FDeviceL_below HFcs0.out (by repeat (first | exact HB.out | apply below_alloc | apply pw_below_drewN | apply below_drew1))) At2.out) ?_
            rintro e w6 ⟨v_, rfl, hF, hb⟩
            obtain ⟨ct2, rfl, hlct2, hoct2⟩ := FDeviceI_cells hF
            refine ⟨_, rfl, ?_⟩
            have n0_ := Aside0.mk (blk_below (o := .cells cs0.toArray 84 (0, 0)) (by repeat (first | exact BKg2.out | refine blk_drewN ?_ _ | refine blk_drew ?_ | refine blk_alloc ?_ _)) hb)
            have n1_ := Aside0.mk (blk_below (o := .cells cs1.toArray 84 (0, 0)) (by repeat (first | exact BKg3.out | refine blk_drewN ?_ _ | refine blk_drew ?_ | refine blk_alloc ?_ _)) hb)
            have n2_ := Aside0.mk (below_step (by repeat (first | exact HB.out | apply below_alloc | apply pw_below_drewN | apply below_drew1)) hb)
            have n3_ := Aside0.mk (hF)
            clear BKg2
            clear BKg3
            clear HB
            have BKg2 := n0_
            have BKg3 := n1_
            have HB := n2_
            have HFct2 := n3_
            clear n0_ n1_ n2_ n3_
            (try clear hF)
            clear hb
            refine hK.out _ _ ⟨BKg2.out, BKg3.out⟩ (fun hHeld => ?_)
            clear hK K
            refine norm_ (a' := ?_) ?_ ?_
            rotate_left
            · show Act.put _ (some 21) _ = _
              simp only [Act.put, List.setIfInBounds_toArray, List.set_cons_zero, List.set_cons_succ, i64_w, i32_w]
              rfl
            refine one_ (i := 3) (N := some 23) #[true, true, true, true, false, false] rfl rfl (by kernel_rfl) (by decide) (fun K hK => ?_)
            refine goes_ Try.func46 (by kernel_rfl) rfl #[.agg cs1.toArray] (by rfl) rfl rfl (by first | rfl | (simp only [List.map_toArray, List.map_cons, List.map_nil]; rfl)) ?_
            with_reducible refine Calls.mono (laws_toDevice_F k _ x1 t3 _ (FDeviceL_below HFcs1.out (by repeat (first | exact HB.out | apply below_alloc | apply pw_below_drewN | apply below_drew1))) At3.out) ?_
            rintro e w7 ⟨v_, rfl, hF, hb⟩
            obtain ⟨ct3, rfl, hlct3, hoct3⟩ := FDeviceI_cells hF
            refine ⟨_, rfl, ?_⟩
            have n0_ := Aside0.mk (blk_below (o := .cells cs0.toArray 84 (0, 0)) (by repeat (first | exact BKg2.out | refine blk_drewN ?_ _ | refine blk_drew ?_ | refine blk_alloc ?_ _)) hb)
            have n1_ := Aside0.mk (blk_below (o := .cells cs1.toArray 84 (0, 0)) (by repeat (first | exact BKg3.out | refine blk_drewN ?_ _ | refine blk_drew ?_ | refine blk_alloc ?_ _)) hb)
            have n2_ := Aside0.mk (FDeviceI_below (by repeat (first | exact HFct2.out | refine FDeviceI_alloc ?_ _ | refine FDeviceI_drewN ?_ _ | refine FDeviceI_drew ?_)) hb)
            have n3_ := Aside0.mk (below_step (by repeat (first | exact HB.out | apply below_alloc | apply pw_below_drewN | apply below_drew1)) hb)
            have n4_ := Aside0.mk (hF)
            clear BKg2
            clear BKg3
            clear HFct2
            clear HB
            have BKg2 := n0_
            have BKg3 := n1_
            have HFct2 := n2_
            have HB := n3_
            have HFct3 := n4_
            clear n0_ n1_ n2_ n3_ n4_
            (try clear hF)
            clear hb
            refine hK.out _ _ ⟨BKg2.out, BKg3.out⟩ (fun hHeld => ?_)
            clear hK K
            refine norm_ (a' := ?_) ?_ ?_
            rotate_left
            · show Act.put _ (some 23) _ = _
              simp only [Act.put, List.setIfInBounds_toArray, List.set_cons_zero, List.set_cons_succ, i64_w, i32_w]
              rfl
            refine one_ (i := 4) (N := some 24) #[true, true, true, true, true, false] rfl rfl (by kernel_rfl) (by decide) (fun K hK => ?_)
            refine goes_ Try.func45 (by kernel_rfl) rfl #[.agg ct2.toArray, .agg ct3.toArray] (by rfl) rfl rfl (by first | rfl | (simp only [List.map_toArray, List.map_cons, List.map_nil]; rfl)) ?_
            with_reducible refine Calls.mono (spec_SameDevice_F k _ t2 _ t3 t4 _ (by repeat (first | exact HFct2.out | refine FDeviceI_alloc ?_ _ | refine FDeviceI_drewN ?_ _ | refine FDeviceI_drew ?_)) (by repeat (first | exact HFct3.out | refine FDeviceI_alloc ?_ _ | refine FDeviceI_drewN ?_ _ | refine FDeviceI_drew ?_)) At4.out) ?_
            rintro e w8 ⟨rfl, hb⟩
            refine ⟨_, rfl, ?_⟩
            have n0_ := Aside0.mk (blk_below (o := .cells cs0.toArray 84 (0, 0)) (by repeat (first | exact BKg2.out | refine blk_drewN ?_ _ | refine blk_drew ?_ | refine blk_alloc ?_ _)) hb)
            have n1_ := Aside0.mk (blk_below (o := .cells cs1.toArray 84 (0, 0)) (by repeat (first | exact BKg3.out | refine blk_drewN ?_ _ | refine blk_drew ?_ | refine blk_alloc ?_ _)) hb)
            have n2_ := Aside0.mk (FDeviceI_below (by repeat (first | exact HFct2.out | refine FDeviceI_alloc ?_ _ | refine FDeviceI_drewN ?_ _ | refine FDeviceI_drew ?_)) hb)
            have n3_ := Aside0.mk (FDeviceI_below (by repeat (first | exact HFct3.out | refine FDeviceI_alloc ?_ _ | refine FDeviceI_drewN ?_ _ | refine FDeviceI_drew ?_)) hb)
            have n4_ := Aside0.mk (below_step (by repeat (first | exact HB.out | apply below_alloc | apply pw_below_drewN | apply below_drew1)) hb)
            clear BKg2
            clear BKg3
            clear HFct2
            clear HFct3
            clear HB
            have BKg2 := n0_
            have BKg3 := n1_
            have HFct2 := n2_
            have HFct3 := n3_
            have HB := n4_
            clear n0_ n1_ n2_ n3_ n4_
            (try clear hF)
            clear hb
            refine hK.out _ _ ⟨BKg2.out, BKg3.out⟩ (fun hHeld => ?_)
            clear hK K
            refine norm_ (a' := ?_) ?_ ?_
            rotate_left
            · show Act.put _ (some 24) _ = _
              simp only [Act.put, List.setIfInBounds_toArray, List.set_cons_zero, List.set_cons_succ, i64_w, i32_w]
              rfl
            refine pure_ (i := 5) (N := some 6) (v := ?_) (a' := ?_) #[true, true, true, true, true, true] rfl rfl (by kernel_rfl) (fun _ _ _ h => h) (Or.inl ⟨by rfl, ?_⟩) ?_ ?_
            rotate_left
            · intro w'
              go_simp
              with_reducible rfl
            rotate_left
            · simp only [Act.put, List.setIfInBounds_toArray, List.set_cons_zero, List.set_cons_succ, i64_w, i32_w]
              rfl
            refine done_ (by kernel_rfl) ?_
            go_wp2_with (first | ((with_reducible refine gate_dst (N := 25) rfl ?_); refine wpList_load_mid rfl 84 (.tmp 2) rfl g2 0 rfl cs0 _ (range_of_blk (by repeat (first | exact BKg2.out | refine blk_drewN ?_ _ | refine blk_drew ?_ | refine blk_alloc ?_ _))) Try.underlying84 rfl (by rw [hlcs0]; kernel_rfl) ?_; (try simp only [Act.put, List.setIfInBounds_toArray, List.set_cons_zero, List.set_cons_succ])) | ((with_reducible refine gate_dst (N := 26) rfl ?_); refine goesL_ (some 26) rfl rfl Try.func46 (by kernel_rfl) rfl #[.agg cs0.toArray] rfl (by first | rfl | (simp only [List.map_toArray, List.map_cons, List.map_nil]; rfl)) ?_; (with_reducible refine Calls.mono (laws_toDevice_F k _ x0 t5 _ (FDeviceL_below HFcs0.out (by repeat (first | exact HB.out | apply below_alloc | apply pw_below_drewN | apply below_drew1))) At5.out) ?_); rintro e w9 ⟨v_, rfl, hF, hb⟩; obtain ⟨ct5, rfl, hlct5, hoct5⟩ := FDeviceI_cells hF; refine ⟨_, rfl, ?_⟩; have n0_ := Aside0.mk (blk_below (o := .cells cs0.toArray 84 (0, 0)) (by repeat (first | exact BKg2.out | refine blk_drewN ?_ _ | refine blk_drew ?_ | refine blk_alloc ?_ _)) hb); have n1_ := Aside0.mk (blk_below (o := .cells cs1.toArray 84 (0, 0)) (by repeat (first | exact BKg3.out | refine blk_drewN ?_ _ | refine blk_drew ?_ | refine blk_alloc ?_ _)) hb); have n2_ := Aside0.mk (FDeviceI_below (by repeat (first | exact HFct2.out | refine FDeviceI_alloc ?_ _ | refine FDeviceI_drewN ?_ _ | refine FDeviceI_drew ?_)) hb); have n3_ := Aside0.mk (FDeviceI_below (by repeat (first | exact HFct3.out | refine FDeviceI_alloc ?_ _ | refine FDeviceI_drewN ?_ _ | refine FDeviceI_drew ?_)) hb); have n4_ := Aside0.mk (below_step (by repeat (first | exact HB.out | apply below_alloc | apply pw_below_drewN | apply below_drew1)) hb); have n5_ := Aside0.mk (hF); clear BKg2; clear BKg3; clear HFct2; clear HFct3; clear HB; have BKg2 := n0_; have BKg3 := n1_; have HFct2 := n2_; have HFct3 := n3_; have HB := n4_; have HFct5 := n5_; clear n0_ n1_ n2_ n3_ n4_ n5_; (try clear hF); clear hb; (try simp only [Act.put, List.setIfInBounds_toArray, List.set_cons_zero, List.set_cons_succ])) | ((with_reducible refine gate_dst (N := 7) rfl ?_); refine alloc_store_event 7 75 _ rfl rfl rfl rfl rfl (cs := ct5) rfl rfl hoct5 (by rw [hlct5]; exact hz75) (by rw [hlct5]; exact hzc75) ?_; intro g7 hg w10 hbox hb; clear hg; have n0_ := Aside0.mk (blk_below (o := .cells cs0.toArray 84 (0, 0)) (by repeat (first | exact BKg2.out | refine blk_drewN ?_ _ | refine blk_drew ?_ | refine blk_alloc ?_ _)) hb); have n1_ := Aside0.mk (blk_below (o := .cells cs1.toArray 84 (0, 0)) (by repeat (first | exact BKg3.out | refine blk_drewN ?_ _ | refine blk_drew ?_ | refine blk_alloc ?_ _)) hb); have n2_ := Aside0.mk (FDeviceI_below (by repeat (first | exact HFct2.out | refine FDeviceI_alloc ?_ _ | refine FDeviceI_drewN ?_ _ | refine FDeviceI_drew ?_)) hb); have n3_ := Aside0.mk (FDeviceI_below (by repeat (first | exact HFct3.out | refine FDeviceI_alloc ?_ _ | refine FDeviceI_drewN ?_ _ | refine FDeviceI_drew ?_)) hb); have n4_ := Aside0.mk (FDeviceI_below (by repeat (first | exact HFct5.out | refine FDeviceI_alloc ?_ _ | refine FDeviceI_drewN ?_ _ | refine FDeviceI_drew ?_)) hb); have n5_ := Aside0.mk (below_step (by repeat (first | exact HB.out | apply below_alloc | apply pw_below_drewN | apply below_drew1)) hb); have n6_ := Aside0.mk (hbox); clear BKg2; clear BKg3; clear HFct2; clear HFct3; clear HFct5; clear HB; have BKg2 := n0_; have BKg3 := n1_; have HFct2 := n2_; have HFct3 := n3_; have HFct5 := n4_; have HB := n5_; have BKg7 := n6_; clear n0_ n1_ n2_ n3_ n4_ n5_ n6_; clear hb hbox; (try simp only [Act.put, List.setIfInBounds_toArray, List.set_cons_zero, List.set_cons_succ])) | ((with_reducible refine gate_dst (N := 27) rfl ?_); refine wpList_load_mid rfl 84 (.tmp 3) rfl g3 0 rfl cs1 _ (range_of_blk (by repeat (first | exact BKg3.out | refine blk_drewN ?_ _ | refine blk_drew ?_ | refine blk_alloc ?_ _))) Try.underlying84 rfl (by rw [hlcs1]; kernel_rfl) ?_; (try simp only [Act.put, List.setIfInBounds_toArray, List.set_cons_zero, List.set_cons_succ])) | ((with_reducible refine gate_dst (N := 28) rfl ?_); refine goesL_ (some 28) rfl rfl Try.func46 (by kernel_rfl) rfl #[.agg cs1.toArray] rfl (by first | rfl | (simp only [List.map_toArray, List.map_cons, List.map_nil]; rfl)) ?_; (with_reducible refine Calls.mono (laws_toDevice_F k _ x1 t6 _ (FDeviceL_below HFcs1.out (by repeat (first | exact HB.out | apply below_alloc | apply pw_below_drewN | apply below_drew1))) At6.out) ?_); rintro e w11 ⟨v_, rfl, hF, hb⟩; obtain ⟨ct6, rfl, hlct6, hoct6⟩ := FDeviceI_cells hF; refine ⟨_, rfl, ?_⟩; have n0_ := Aside0.mk (blk_below (o := .cells cs0.toArray 84 (0, 0)) (by repeat (first | exact BKg2.out | refine blk_drewN ?_ _ | refine blk_drew ?_ | refine blk_alloc ?_ _)) hb); have n1_ := Aside0.mk (blk_below (o := .cells cs1.toArray 84 (0, 0)) (by repeat (first | exact BKg3.out | refine blk_drewN ?_ _ | refine blk_drew ?_ | refine blk_alloc ?_ _)) hb); have n2_ := Aside0.mk (blk_below (o := .cells ct5.toArray 75 (0, 0)) (by repeat (first | exact BKg7.out | refine blk_drewN ?_ _ | refine blk_drew ?_ | refine blk_alloc ?_ _)) hb); have n3_ := Aside0.mk (FDeviceI_below (by repeat (first | exact HFct2.out | refine FDeviceI_alloc ?_ _ | refine FDeviceI_drewN ?_ _ | refine FDeviceI_drew ?_)) hb); have n4_ := Aside0.mk (FDeviceI_below (by repeat (first | exact HFct3.out | refine FDeviceI_alloc ?_ _ | refine FDeviceI_drewN ?_ _ | refine FDeviceI_drew ?_)) hb); have n5_ := Aside0.mk (FDeviceI_below (by repeat (first | exact HFct5.out | refine FDeviceI_alloc ?_ _ | refine FDeviceI_drewN ?_ _ | refine FDeviceI_drew ?_)) hb); have n6_ := Aside0.mk (below_step (by repeat (first | exact HB.out | apply below_alloc | apply pw_below_drewN | apply below_drew1)) hb); have n7_ := Aside0.mk (hF); clear BKg2; clear BKg3; clear BKg7; clear HFct2; clear HFct3; clear HFct5; clear HB; have BKg2 := n0_; have BKg3 := n1_; have BKg7 := n2_; have HFct2 := n3_; have HFct3 := n4_; have HFct5 := n5_; have HB := n6_; have HFct6 := n7_; clear n0_ n1_ n2_ n3_ n4_ n5_ n6_ n7_; (try clear hF); clear hb; (try simp only [Act.put, List.setIfInBounds_toArray, List.set_cons_zero, List.set_cons_succ])) | ((with_reducible refine gate_dst (N := 8) rfl ?_); refine alloc_store_event 8 75 _ rfl rfl rfl rfl rfl (cs := ct6) rfl rfl hoct6 (by rw [hlct6]; exact hz75) (by rw [hlct6]; exact hzc75) ?_; intro g8 hg w12 hbox hb; clear hg; have n0_ := Aside0.mk (blk_below (o := .cells cs0.toArray 84 (0, 0)) (by repeat (first | exact BKg2.out | refine blk_drewN ?_ _ | refine blk_drew ?_ | refine blk_alloc ?_ _)) hb); have n1_ := Aside0.mk (blk_below (o := .cells cs1.toArray 84 (0, 0)) (by repeat (first | exact BKg3.out | refine blk_drewN ?_ _ | refine blk_drew ?_ | refine blk_alloc ?_ _)) hb); have n2_ := Aside0.mk (blk_below (o := .cells ct5.toArray 75 (0, 0)) (by repeat (first | exact BKg7.out | refine blk_drewN ?_ _ | refine blk_drew ?_ | refine blk_alloc ?_ _)) hb); have n3_ := Aside0.mk (FDeviceI_below (by repeat (first | exact HFct2.out | refine FDeviceI_alloc ?_ _ | refine FDeviceI_drewN ?_ _ | refine FDeviceI_drew ?_)) hb); have n4_ := Aside0.mk (FDeviceI_below (by repeat (first | exact HFct3.out | refine FDeviceI_alloc ?_ _ | refine FDeviceI_drewN ?_ _ | refine FDeviceI_drew ?_)) hb); have n5_ := Aside0.mk (FDeviceI_below (by repeat (first | exact HFct5.out | refine FDeviceI_alloc ?_ _ | refine FDeviceI_drewN ?_ _ | refine FDeviceI_drew ?_)) hb); have n6_ := Aside0.mk (FDeviceI_below (by repeat (first | exact HFct6.out | refine FDeviceI_alloc ?_ _ | refine FDeviceI_drewN ?_ _ | refine FDeviceI_drew ?_)) hb); have n7_ := Aside0.mk (below_step (by repeat (first | exact HB.out | apply below_alloc | apply pw_below_drewN | apply below_drew1)) hb); have n8_ := Aside0.mk (hbox); clear BKg2; clear BKg3; clear BKg7; clear HFct2; clear HFct3; clear HFct5; clear HFct6; clear HB; have BKg2 := n0_; have BKg3 := n1_; have BKg7 := n2_; have HFct2 := n3_; have HFct3 := n4_; have HFct5 := n5_; have HFct6 := n6_; have HB := n7_; have BKg8 := n8_; clear n0_ n1_ n2_ n3_ n4_ n5_ n6_ n7_ n8_; clear hb hbox; (try simp only [Act.put, List.setIfInBounds_toArray, List.set_cons_zero, List.set_cons_succ])) | ((with_reducible refine gate_dst (N := 29) rfl ?_); refine wpList_load_mid rfl 75 (.tmp 7) rfl g7 0 rfl ct5 _ (range_of_blk (by repeat (first | exact BKg7.out | refine blk_drewN ?_ _ | refine blk_drew ?_ | refine blk_alloc ?_ _))) Try.underlying75 rfl (by rw [hlct5]; kernel_rfl) ?_; (try simp only [Act.put, List.setIfInBounds_toArray, List.set_cons_zero, List.set_cons_succ])) | ((with_reducible refine gate_dst (N := 30) rfl ?_); refine wpList_load_mid rfl 75 (.tmp 8) rfl g8 0 rfl ct6 _ (range_of_blk (by repeat (first | exact BKg8.out | refine blk_drewN ?_ _ | refine blk_drew ?_ | refine blk_alloc ?_ _))) Try.underlying75 rfl (by rw [hlct6]; kernel_rfl) ?_; (try simp only [Act.put, List.setIfInBounds_toArray, List.set_cons_zero, List.set_cons_succ])) | ((with_reducible refine gate_dst (N := 31) rfl ?_); refine goesL_ (some 31) rfl rfl Try.func47 (by kernel_rfl) rfl #[.agg ct5.toArray, .agg ct6.toArray] rfl (by first | rfl | (simp only [List.map_toArray, List.map_cons, List.map_nil]; rfl)) ?_; (with_reducible refine Calls.mono (impl_SameDevice_F _ t5 _ t6 t7 _ (by repeat (first | exact HFct5.out | refine FDeviceI_alloc ?_ _ | refine FDeviceI_drewN ?_ _ | refine FDeviceI_drew ?_)) (by repeat (first | exact HFct6.out | refine FDeviceI_alloc ?_ _ | refine FDeviceI_drewN ?_ _ | refine FDeviceI_drew ?_)) At7.out) ?_); rintro e w13 ⟨rfl, hb⟩; refine ⟨_, rfl, ?_⟩; have n0_ := Aside0.mk (blk_below (o := .cells cs0.toArray 84 (0, 0)) (by repeat (first | exact BKg2.out | refine blk_drewN ?_ _ | refine blk_drew ?_ | refine blk_alloc ?_ _)) hb); have n1_ := Aside0.mk (blk_below (o := .cells cs1.toArray 84 (0, 0)) (by repeat (first | exact BKg3.out | refine blk_drewN ?_ _ | refine blk_drew ?_ | refine blk_alloc ?_ _)) hb); have n2_ := Aside0.mk (blk_below (o := .cells ct5.toArray 75 (0, 0)) (by repeat (first | exact BKg7.out | refine blk_drewN ?_ _ | refine blk_drew ?_ | refine blk_alloc ?_ _)) hb); have n3_ := Aside0.mk (blk_below (o := .cells ct6.toArray 75 (0, 0)) (by repeat (first | exact BKg8.out | refine blk_drewN ?_ _ | refine blk_drew ?_ | refine blk_alloc ?_ _)) hb); have n4_ := Aside0.mk (FDeviceI_below (by repeat (first | exact HFct2.out | refine FDeviceI_alloc ?_ _ | refine FDeviceI_drewN ?_ _ | refine FDeviceI_drew ?_)) hb); have n5_ := Aside0.mk (FDeviceI_below (by repeat (first | exact HFct3.out | refine FDeviceI_alloc ?_ _ | refine FDeviceI_drewN ?_ _ | refine FDeviceI_drew ?_)) hb); have n6_ := Aside0.mk (FDeviceI_below (by repeat (first | exact HFct5.out | refine FDeviceI_alloc ?_ _ | refine FDeviceI_drewN ?_ _ | refine FDeviceI_drew ?_)) hb); have n7_ := Aside0.mk (FDeviceI_below (by repeat (first | exact HFct6.out | refine FDeviceI_alloc ?_ _ | refine FDeviceI_drewN ?_ _ | refine FDeviceI_drew ?_)) hb); have n8_ := Aside0.mk (below_step (by repeat (first | exact HB.out | apply below_alloc | apply pw_below_drewN | apply below_drew1)) hb); clear BKg2; clear BKg3; clear BKg7; clear BKg8; clear HFct2; clear HFct3; clear HFct5; clear HFct6; clear HB; have BKg2 := n0_; have BKg3 := n1_; have BKg7 := n2_; have BKg8 := n3_; have HFct2 := n4_; have HFct3 := n5_; have HFct5 := n6_; have HFct6 := n7_; have HB := n8_; clear n0_ n1_ n2_ n3_ n4_ n5_ n6_ n7_ n8_; (try clear hF); clear hb; (try simp only [Act.put, List.setIfInBounds_toArray, List.set_cons_zero, List.set_cons_succ])))
            have n0_ := Aside0.mk (blk_drew (o := .cells cs0.toArray 84 (0, 0)) (by repeat (first | exact BKg2.out | refine blk_drewN ?_ _ | refine blk_drew ?_ | refine blk_alloc ?_ _)))
            have n1_ := Aside0.mk (blk_drew (o := .cells cs1.toArray 84 (0, 0)) (by repeat (first | exact BKg3.out | refine blk_drewN ?_ _ | refine blk_drew ?_ | refine blk_alloc ?_ _)))
            have n2_ := Aside0.mk (blk_drew (o := .cells ct5.toArray 75 (0, 0)) (by repeat (first | exact BKg7.out | refine blk_drewN ?_ _ | refine blk_drew ?_ | refine blk_alloc ?_ _)))
            have n3_ := Aside0.mk (blk_drew (o := .cells ct6.toArray 75 (0, 0)) (by repeat (first | exact BKg8.out | refine blk_drewN ?_ _ | refine blk_drew ?_ | refine blk_alloc ?_ _)))
            have n4_ := Aside0.mk (FDeviceI_drew (by repeat (first | exact HFct2.out | refine FDeviceI_alloc ?_ _ | refine FDeviceI_drewN ?_ _ | refine FDeviceI_drew ?_)))
            have n5_ := Aside0.mk (FDeviceI_drew (by repeat (first | exact HFct3.out | refine FDeviceI_alloc ?_ _ | refine FDeviceI_drewN ?_ _ | refine FDeviceI_drew ?_)))
            have n6_ := Aside0.mk (FDeviceI_drew (by repeat (first | exact HFct5.out | refine FDeviceI_alloc ?_ _ | refine FDeviceI_drewN ?_ _ | refine FDeviceI_drew ?_)))
            have n7_ := Aside0.mk (FDeviceI_drew (by repeat (first | exact HFct6.out | refine FDeviceI_alloc ?_ _ | refine FDeviceI_drewN ?_ _ | refine FDeviceI_drew ?_)))
            have n8_ := Aside0.mk (below_drew1 (by repeat (first | exact HB.out | apply below_alloc | apply pw_below_drewN | apply below_drew1)))
            clear BKg2 BKg3 BKg7 BKg8 HFct2 HFct3 HFct5 HFct6 HB
            have BKg2 := n0_
            have BKg3 := n1_
            have BKg7 := n2_
            have BKg8 := n3_
            have HFct2 := n4_
            have HFct3 := n5_
            have HFct5 := n6_
            have HFct6 := n7_
            have HB := n8_
            clear n0_ n1_ n2_ n3_ n4_ n5_ n6_ n7_ n8_
            refine start_ (n := 5) (S := fun w' => w'.heap[g7]? = some (.cells ct5.toArray 75 (0, 0)) ∧ w'.heap[g2]? = some (.cells cs0.toArray 84 (0, 0))) (ds := []) #[false, false, false, false, false] (by kernel_rfl) rfl rfl ⟨BKg7.out, BKg2.out⟩ (fun hHeld => ?_)
            generalize World.drew _ = w14 at BKg2 BKg3 BKg7 BKg8 HFct2 HFct3 HFct5 HFct6 HB hHeld ⊢
            refine take_ (i := 0) (N := some 35) (v := .agg ct5.toArray) (a' := ?_) #[true, false, false, false, false] rfl rfl (by kernel_rfl) (fun _ _ _ h => h) (yieldsIf_load_mid rfl 75 (.tmp 7) rfl g7 0 rfl ct5 _ (fun w' h => range_of_blk h.1) Try.underlying75 rfl (by rw [hlct5]; kernel_rfl)) hHeld ?_ ?_
            rotate_left
            · simp only [Act.put, List.setIfInBounds_toArray, List.set_cons_zero, List.set_cons_succ, i64_w, i32_w]
              rfl
            refine take_ (i := 1) (N := some 36) (v := .agg cs0.toArray) (a' := ?_) #[true, true, false, false, false] rfl rfl (by kernel_rfl) (fun _ _ _ h => h) (yieldsIf_load_mid rfl 84 (.tmp 2) rfl g2 0 rfl cs0 _ (fun w' h => range_of_blk h.2) Try.underlying84 rfl (by rw [hlcs0]; kernel_rfl)) hHeld ?_ ?_
            rotate_left
            · simp only [Act.put, List.setIfInBounds_toArray, List.set_cons_zero, List.set_cons_succ, i64_w, i32_w]
              rfl
            refine one_ (i := 2) (N := some 37) #[true, true, true, false, false] rfl rfl (by kernel_rfl) (by decide) (fun K hK => ?_)
            refine goes_ Try.func46 (by kernel_rfl) rfl #[.agg cs0.toArray] (by rfl) rfl rfl (by first | rfl | (simp only [List.map_toArray, List.map_cons, List.map_nil]; rfl)) ?_
            with_reducible refine Calls.mono (laws_toDevice_F k _ x0 t8 _ (FDeviceL_below HFcs0.out (by repeat (first | exact HB.out | apply below_alloc | apply pw_below_drewN | apply below_drew1))) At8.out) ?_
            rintro e w15 ⟨v_, rfl, hF, hb⟩
            obtain ⟨ct8, rfl, hlct8, hoct8⟩ := FDeviceI_cells hF
            refine ⟨_, rfl, ?_⟩
            have n0_ := Aside0.mk (blk_below (o := .cells cs0.toArray 84 (0, 0)) (by repeat (first | exact BKg2.out | refine blk_drewN ?_ _ | refine blk_drew ?_ | refine blk_alloc ?_ _)) hb)
            have n1_ := Aside0.mk (blk_below (o := .cells cs1.toArray 84 (0, 0)) (by repeat (first | exact BKg3.out | refine blk_drewN ?_ _ | refine blk_drew ?_ | refine blk_alloc ?_ _)) hb)
            have n2_ := Aside0.mk (blk_below (o := .cells ct5.toArray 75 (0, 0)) (by repeat (first | exact BKg7.out | refine blk_drewN ?_ _ | refine blk_drew ?_ | refine blk_alloc ?_ _)) hb)
            have n3_ := Aside0.mk (blk_below (o := .cells ct6.toArray 75 (0, 0)) (by repeat (first | exact BKg8.out | refine blk_drewN ?_ _ | refine blk_drew ?_ | refine blk_alloc ?_ _)) hb)
            have n4_ := Aside0.mk (FDeviceI_below (by repeat (first | exact HFct2.out | refine FDeviceI_alloc ?_ _ | refine FDeviceI_drewN ?_ _ | refine FDeviceI_drew ?_)) hb)
            have n5_ := Aside0.mk (FDeviceI_below (by repeat (first | exact HFct3.out | refine FDeviceI_alloc ?_ _ | refine FDeviceI_drewN ?_ _ | refine FDeviceI_drew ?_)) hb)
            have n6_ := Aside0.mk (FDeviceI_below (by repeat (first | exact HFct5.out | refine FDeviceI_alloc ?_ _ | refine FDeviceI_drewN ?_ _ | refine FDeviceI_drew ?_)) hb)
            have n7_ := Aside0.mk (FDeviceI_below (by repeat (first | exact HFct6.out | refine FDeviceI_alloc ?_ _ | refine FDeviceI_drewN ?_ _ | refine FDeviceI_drew ?_)) hb)
            have n8_ := Aside0.mk (below_step (by repeat (first | exact HB.out | apply below_alloc | apply pw_below_drewN | apply below_drew1)) hb)
            have n9_ := Aside0.mk (hF)
            clear BKg2
            clear BKg3
            clear BKg7
            clear BKg8
            clear HFct2
            clear HFct3
            clear HFct5
            clear HFct6
            clear HB
            have BKg2 := n0_
            have BKg3 := n1_
            have BKg7 := n2_
            have BKg8 := n3_
            have HFct2 := n4_
            have HFct3 := n5_
            have HFct5 := n6_
            have HFct6 := n7_
            have HB := n8_
            have HFct8 := n9_
            clear n0_ n1_ n2_ n3_ n4_ n5_ n6_ n7_ n8_ n9_
            (try clear hF)
            clear hb
            refine hK.out _ _ ⟨BKg7.out, BKg2.out⟩ (fun hHeld => ?_)
            clear hK K
            refine norm_ (a' := ?_) ?_ ?_
            rotate_left
            · show Act.put _ (some 37) _ = _
              simp only [Act.put, List.setIfInBounds_toArray, List.set_cons_zero, List.set_cons_succ, i64_w, i32_w]
              rfl
            refine one_ (i := 3) (N := some 38) #[true, true, true, true, false] rfl rfl (by kernel_rfl) (by decide) (fun K hK => ?_)
            refine goes_ Try.func41 (by kernel_rfl) rfl #[.agg ct5.toArray, .agg ct8.toArray] (by rfl) rfl rfl (by first | rfl | (simp only [List.map_toArray, List.map_cons, List.map_nil]; rfl)) ?_
            with_reducible refine Calls.mono (laws_eqDevice_F k _ t5 _ t8 true _ (by repeat (first | exact HFct5.out | refine FDeviceI_alloc ?_ _ | refine FDeviceI_drewN ?_ _ | refine FDeviceI_drew ?_)) (by repeat (first | exact HFct8.out | refine FDeviceI_alloc ?_ _ | refine FDeviceI_drewN ?_ _ | refine FDeviceI_drew ?_)) At9.out) ?_
            rintro e w16 ⟨rfl, hb⟩
            refine ⟨_, rfl, ?_⟩
            have n0_ := Aside0.mk (blk_below (o := .cells cs0.toArray 84 (0, 0)) (by repeat (first | exact BKg2.out | refine blk_drewN ?_ _ | refine blk_drew ?_ | refine blk_alloc ?_ _)) hb)
            have n1_ := Aside0.mk (blk_below (o := .cells cs1.toArray 84 (0, 0)) (by repeat (first | exact BKg3.out | refine blk_drewN ?_ _ | refine blk_drew ?_ | refine blk_alloc ?_ _)) hb)
            have n2_ := Aside0.mk (blk_below (o := .cells ct5.toArray 75 (0, 0)) (by repeat (first | exact BKg7.out | refine blk_drewN ?_ _ | refine blk_drew ?_ | refine blk_alloc ?_ _)) hb)
            have n3_ := Aside0.mk (blk_below (o := .cells ct6.toArray 75 (0, 0)) (by repeat (first | exact BKg8.out | refine blk_drewN ?_ _ | refine blk_drew ?_ | refine blk_alloc ?_ _)) hb)
            have n4_ := Aside0.mk (FDeviceI_below (by repeat (first | exact HFct2.out | refine FDeviceI_alloc ?_ _ | refine FDeviceI_drewN ?_ _ | refine FDeviceI_drew ?_)) hb)
            have n5_ := Aside0.mk (FDeviceI_below (by repeat (first | exact HFct3.out | refine FDeviceI_alloc ?_ _ | refine FDeviceI_drewN ?_ _ | refine FDeviceI_drew ?_)) hb)
            have n6_ := Aside0.mk (FDeviceI_below (by repeat (first | exact HFct5.out | refine FDeviceI_alloc ?_ _ | refine FDeviceI_drewN ?_ _ | refine FDeviceI_drew ?_)) hb)
            have n7_ := Aside0.mk (FDeviceI_below (by repeat (first | exact HFct6.out | refine FDeviceI_alloc ?_ _ | refine FDeviceI_drewN ?_ _ | refine FDeviceI_drew ?_)) hb)
            have n8_ := Aside0.mk (FDeviceI_below (by repeat (first | exact HFct8.out | refine FDeviceI_alloc ?_ _ | refine FDeviceI_drewN ?_ _ | refine FDeviceI_drew ?_)) hb)
            have n9_ := Aside0.mk (below_step (by repeat (first | exact HB.out | apply below_alloc | apply pw_below_drewN | apply below_drew1)) hb)
            clear BKg2
            clear BKg3
            clear BKg7
            clear BKg8
            clear HFct2
            clear HFct3
            clear HFct5
            clear HFct6
            clear HFct8
            clear HB
            have BKg2 := n0_
            have BKg3 := n1_
            have BKg7 := n2_
            have BKg8 := n3_
            have HFct2 := n4_
            have HFct3 := n5_
            have HFct5 := n6_
            have HFct6 := n7_
            have HFct8 := n8_
            have HB := n9_
            clear n0_ n1_ n2_ n3_ n4_ n5_ n6_ n7_ n8_ n9_
            (try clear hF)
            clear hb
            refine hK.out _ _ ⟨BKg7.out, BKg2.out⟩ (fun hHeld => ?_)
            clear hK K
            refine norm_ (a' := ?_) ?_ ?_
            rotate_left
            · show Act.put _ (some 38) _ = _
              simp only [Act.put, List.setIfInBounds_toArray, List.set_cons_zero, List.set_cons_succ, i64_w, i32_w]
              rfl
            refine pure_ (i := 4) (N := some 39) (v := ?_) (a' := ?_) #[true, true, true, true, true] rfl rfl (by kernel_rfl) (fun _ _ _ h => h) (Or.inl ⟨by rfl, ?_⟩) ?_ ?_
            rotate_left
            · intro w'
              go_simp
              with_reducible rfl
            rotate_left
            · simp only [Act.put, List.setIfInBounds_toArray, List.set_cons_zero, List.set_cons_succ, i64_w, i32_w]
              rfl
            refine done_ (by kernel_rfl) ?_
            try go_wp2
            have n0_ := Aside0.mk (blk_drew (o := .cells cs0.toArray 84 (0, 0)) (by repeat (first | exact BKg2.out | refine blk_drewN ?_ _ | refine blk_drew ?_ | refine blk_alloc ?_ _)))
            have n1_ := Aside0.mk (blk_drew (o := .cells cs1.toArray 84 (0, 0)) (by repeat (first | exact BKg3.out | refine blk_drewN ?_ _ | refine blk_drew ?_ | refine blk_alloc ?_ _)))
            have n2_ := Aside0.mk (blk_drew (o := .cells ct5.toArray 75 (0, 0)) (by repeat (first | exact BKg7.out | refine blk_drewN ?_ _ | refine blk_drew ?_ | refine blk_alloc ?_ _)))
            have n3_ := Aside0.mk (blk_drew (o := .cells ct6.toArray 75 (0, 0)) (by repeat (first | exact BKg8.out | refine blk_drewN ?_ _ | refine blk_drew ?_ | refine blk_alloc ?_ _)))
            have n4_ := Aside0.mk (FDeviceI_drew (by repeat (first | exact HFct2.out | refine FDeviceI_alloc ?_ _ | refine FDeviceI_drewN ?_ _ | refine FDeviceI_drew ?_)))
            have n5_ := Aside0.mk (FDeviceI_drew (by repeat (first | exact HFct3.out | refine FDeviceI_alloc ?_ _ | refine FDeviceI_drewN ?_ _ | refine FDeviceI_drew ?_)))
            have n6_ := Aside0.mk (FDeviceI_drew (by repeat (first | exact HFct5.out | refine FDeviceI_alloc ?_ _ | refine FDeviceI_drewN ?_ _ | refine FDeviceI_drew ?_)))
            have n7_ := Aside0.mk (FDeviceI_drew (by repeat (first | exact HFct6.out | refine FDeviceI_alloc ?_ _ | refine FDeviceI_drewN ?_ _ | refine FDeviceI_drew ?_)))
            have n8_ := Aside0.mk (FDeviceI_drew (by repeat (first | exact HFct8.out | refine FDeviceI_alloc ?_ _ | refine FDeviceI_drewN ?_ _ | refine FDeviceI_drew ?_)))
            have n9_ := Aside0.mk (below_drew1 (by repeat (first | exact HB.out | apply below_alloc | apply pw_below_drewN | apply below_drew1)))
            clear BKg2 BKg3 BKg7 BKg8 HFct2 HFct3 HFct5 HFct6 HFct8 HB
            have BKg2 := n0_
            have BKg3 := n1_
            have BKg7 := n2_
            have BKg8 := n3_
            have HFct2 := n4_
            have HFct3 := n5_
            have HFct5 := n6_
            have HFct6 := n7_
            have HFct8 := n8_
            have HB := n9_
            clear n0_ n1_ n2_ n3_ n4_ n5_ n6_ n7_ n8_ n9_
            refine start_ (n := 5) (S := fun w' => w'.heap[g8]? = some (.cells ct6.toArray 75 (0, 0)) ∧ w'.heap[g3]? = some (.cells cs1.toArray 84 (0, 0))) (ds := []) #[false, false, false, false, false] (by kernel_rfl) rfl rfl ⟨BKg8.out, BKg3.out⟩ (fun hHeld => ?_)
            generalize World.drew _ = w17 at BKg2 BKg3 BKg7 BKg8 HFct2 HFct3 HFct5 HFct6 HFct8 HB hHeld ⊢
            refine take_ (i := 0) (N := some 40) (v := .agg ct6.toArray) (a' := ?_) #[true, false, false, false, false] rfl rfl (by kernel_rfl) (fun _ _ _ h => h) (yieldsIf_load_mid rfl 75 (.tmp 8) rfl g8 0 rfl ct6 _ (fun w' h => range_of_blk h.1) Try.underlying75 rfl (by rw [hlct6]; kernel_rfl)) hHeld ?_ ?_
            rotate_left
            · simp only [Act.put, List.setIfInBounds_toArray, List.set_cons_zero, List.set_cons_succ, i64_w, i32_w]
              rfl
            refine take_ (i := 1) (N := some 41) (v := .agg cs1.toArray) (a' := ?_) #[true, true, false, false, false] rfl rfl (by kernel_rfl) (fun _ _ _ h => h) (yieldsIf_load_mid rfl 84 (.tmp 3) rfl g3 0 rfl cs1 _ (fun w' h => range_of_blk h.2) Try.underlying84 rfl (by rw [hlcs1]; kernel_rfl)) hHeld ?_ ?_
            rotate_left
            · simp only [Act.put, List.setIfInBounds_toArray, List.set_cons_zero, List.set_cons_succ, i64_w, i32_w]
              rfl
            refine one_ (i := 2) (N := some 42) #[true, true, true, false, false] rfl rfl (by kernel_rfl) (by decide) (fun K hK => ?_)
            refine goes_ Try.func46 (by kernel_rfl) rfl #[.agg cs1.toArray] (by rfl) rfl rfl (by first | rfl | (simp only [List.map_toArray, List.map_cons, List.map_nil]; rfl)) ?_
            with_reducible refine Calls.mono (laws_toDevice_F k _ x1 t10 _ (FDeviceL_below HFcs1.out (by repeat (first | exact HB.out | apply below_alloc | apply pw_below_drewN | apply below_drew1))) At10.out) ?_
            rintro e w18 ⟨v_, rfl, hF, hb⟩
            obtain ⟨ct10, rfl, hlct10, hoct10⟩ := FDeviceI_cells hF
            refine ⟨_, rfl, ?_⟩
            have n0_ := Aside0.mk (blk_below (o := .cells cs0.toArray 84 (0, 0)) (by repeat (first | exact BKg2.out | refine blk_drewN ?_ _ | refine blk_drew ?_ | refine blk_alloc ?_ _)) hb)
            have n1_ := Aside0.mk (blk_below (o := .cells cs1.toArray 84 (0, 0)) (by repeat (first | exact BKg3.out | refine blk_drewN ?_ _ | refine blk_drew ?_ | refine blk_alloc ?_ _)) hb)
            have n2_ := Aside0.mk (blk_below (o := .cells ct5.toArray 75 (0, 0)) (by repeat (first | exact BKg7.out | refine blk_drewN ?_ _ | refine blk_drew ?_ | refine blk_alloc ?_ _)) hb)
            have n3_ := Aside0.mk (blk_below (o := .cells ct6.toArray 75 (0, 0)) (by repeat (first | exact BKg8.out | refine blk_drewN ?_ _ | refine blk_drew ?_ | refine blk_alloc ?_ _)) hb)
            have n4_ := Aside0.mk (FDeviceI_below (by repeat (first | exact HFct2.out | refine FDeviceI_alloc ?_ _ | refine FDeviceI_drewN ?_ _ | refine FDeviceI_drew ?_)) hb)
            have n5_ := Aside0.mk (FDeviceI_below (by repeat (first | exact HFct3.out | refine FDeviceI_alloc ?_ _ | refine FDeviceI_drewN ?_ _ | refine FDeviceI_drew ?_)) hb)
            have n6_ := Aside0.mk (FDeviceI_below (by repeat (first | exact HFct5.out | refine FDeviceI_alloc ?_ _ | refine FDeviceI_drewN ?_ _ | refine FDeviceI_drew ?_)) hb)
            have n7_ := Aside0.mk (FDeviceI_below (by repeat (first | exact HFct6.out | refine FDeviceI_alloc ?_ _ | refine FDeviceI_drewN ?_ _ | refine FDeviceI_drew ?_)) hb)
            have n8_ := Aside0.mk (FDeviceI_below (by repeat (first | exact HFct8.out | refine FDeviceI_alloc ?_ _ | refine FDeviceI_drewN ?_ _ | refine FDeviceI_drew ?_)) hb)
            have n9_ := Aside0.mk (below_step (by repeat (first | exact HB.out | apply below_alloc | apply pw_below_drewN | apply below_drew1)) hb)
            have n10_ := Aside0.mk (hF)
            clear BKg2
            clear BKg3
            clear BKg7
            clear BKg8
            clear HFct2
            clear HFct3
            clear HFct5
            clear HFct6
            clear HFct8
            clear HB
            have BKg2 := n0_
            have BKg3 := n1_
            have BKg7 := n2_
            have BKg8 := n3_
            have HFct2 := n4_
            have HFct3 := n5_
            have HFct5 := n6_
            have HFct6 := n7_
            have HFct8 := n8_
            have HB := n9_
            have HFct10 := n10_
            clear n0_ n1_ n2_ n3_ n4_ n5_ n6_ n7_ n8_ n9_ n10_
            (try clear hF)
            clear hb
            refine hK.out _ _ ⟨BKg8.out, BKg3.out⟩ (fun hHeld => ?_)
            clear hK K
            refine norm_ (a' := ?_) ?_ ?_
            rotate_left
            · show Act.put _ (some 42) _ = _
              simp only [Act.put, List.setIfInBounds_toArray, List.set_cons_zero, List.set_cons_succ, i64_w, i32_w]
              rfl
            refine one_ (i := 3) (N := some 43) #[true, true, true, true, false] rfl rfl (by kernel_rfl) (by decide) (fun K hK => ?_)
            refine goes_ Try.func41 (by kernel_rfl) rfl #[.agg ct6.toArray, .agg ct10.toArray] (by rfl) rfl rfl (by first | rfl | (simp only [List.map_toArray, List.map_cons, List.map_nil]; rfl)) ?_
            with_reducible refine Calls.mono (laws_eqDevice_F k _ t6 _ t10 true _ (by repeat (first | exact HFct6.out | refine FDeviceI_alloc ?_ _ | refine FDeviceI_drewN ?_ _ | refine FDeviceI_drew ?_)) (by repeat (first | exact HFct10.out | refine FDeviceI_alloc ?_ _ | refine FDeviceI_drewN ?_ _ | refine FDeviceI_drew ?_)) At11.out) ?_
            rintro e w19 ⟨rfl, hb⟩
            refine ⟨_, rfl, ?_⟩
            have n0_ := Aside0.mk (blk_below (o := .cells cs0.toArray 84 (0, 0)) (by repeat (first | exact BKg2.out | refine blk_drewN ?_ _ | refine blk_drew ?_ | refine blk_alloc ?_ _)) hb)
            have n1_ := Aside0.mk (blk_below (o := .cells cs1.toArray 84 (0, 0)) (by repeat (first | exact BKg3.out | refine blk_drewN ?_ _ | refine blk_drew ?_ | refine blk_alloc ?_ _)) hb)
            have n2_ := Aside0.mk (blk_below (o := .cells ct5.toArray 75 (0, 0)) (by repeat (first | exact BKg7.out | refine blk_drewN ?_ _ | refine blk_drew ?_ | refine blk_alloc ?_ _)) hb)
            have n3_ := Aside0.mk (blk_below (o := .cells ct6.toArray 75 (0, 0)) (by repeat (first | exact BKg8.out | refine blk_drewN ?_ _ | refine blk_drew ?_ | refine blk_alloc ?_ _)) hb)
            have n4_ := Aside0.mk (FDeviceI_below (by repeat (first | exact HFct2.out | refine FDeviceI_alloc ?_ _ | refine FDeviceI_drewN ?_ _ | refine FDeviceI_drew ?_)) hb)
            have n5_ := Aside0.mk (FDeviceI_below (by repeat (first | exact HFct3.out | refine FDeviceI_alloc ?_ _ | refine FDeviceI_drewN ?_ _ | refine FDeviceI_drew ?_)) hb)
            have n6_ := Aside0.mk (FDeviceI_below (by repeat (first | exact HFct5.out | refine FDeviceI_alloc ?_ _ | refine FDeviceI_drewN ?_ _ | refine FDeviceI_drew ?_)) hb)
            have n7_ := Aside0.mk (FDeviceI_below (by repeat (first | exact HFct6.out | refine FDeviceI_alloc ?_ _ | refine FDeviceI_drewN ?_ _ | refine FDeviceI_drew ?_)) hb)
            have n8_ := Aside0.mk (FDeviceI_below (by repeat (first | exact HFct8.out | refine FDeviceI_alloc ?_ _ | refine FDeviceI_drewN ?_ _ | refine FDeviceI_drew ?_)) hb)
            have n9_ := Aside0.mk (FDeviceI_below (by repeat (first | exact HFct10.out | refine FDeviceI_alloc ?_ _ | refine FDeviceI_drewN ?_ _ | refine FDeviceI_drew ?_)) hb)
            have n10_ := Aside0.mk (below_step (by repeat (first | exact HB.out | apply below_alloc | apply pw_below_drewN | apply below_drew1)) hb)
            clear BKg2
            clear BKg3
            clear BKg7
            clear BKg8
            clear HFct2
            clear HFct3
            clear HFct5
            clear HFct6
            clear HFct8
            clear HFct10
            clear HB
            have BKg2 := n0_
            have BKg3 := n1_
            have BKg7 := n2_
            have BKg8 := n3_
            have HFct2 := n4_
            have HFct3 := n5_
            have HFct5 := n6_
            have HFct6 := n7_
            have HFct8 := n8_
            have HFct10 := n9_
            have HB := n10_
            clear n0_ n1_ n2_ n3_ n4_ n5_ n6_ n7_ n8_ n9_ n10_
            (try clear hF)
            clear hb
            refine hK.out _ _ ⟨BKg8.out, BKg3.out⟩ (fun hHeld => ?_)
            clear hK K
            refine norm_ (a' := ?_) ?_ ?_
            rotate_left
            · show Act.put _ (some 43) _ = _
              simp only [Act.put, List.setIfInBounds_toArray, List.set_cons_zero, List.set_cons_succ, i64_w, i32_w]
              rfl
            refine pure_ (i := 4) (N := some 44) (v := ?_) (a' := ?_) #[true, true, true, true, true] rfl rfl (by kernel_rfl) (fun _ _ _ h => h) (Or.inl ⟨by rfl, ?_⟩) ?_ ?_
            rotate_left
            · intro w'
              go_simp
              with_reducible rfl
            rotate_left
            · simp only [Act.put, List.setIfInBounds_toArray, List.set_cons_zero, List.set_cons_succ, i64_w, i32_w]
              rfl
            refine done_ (by kernel_rfl) ?_
            try go_wp2
            go_ret
            exact ⟨by first | rfl | simp [*], (by repeat (first | exact HB.out | apply below_alloc | apply pw_below_drewN | apply below_drew1))⟩
          · rw [if_neg c4_] at H
            replace c4_ := Bool.eq_false_iff.2 c4_
            subst c4_
            obtain rfl := Option.some.inj H
            go_enter Try.func8, Try.ntmps8
            go_wp2_with (first | ((with_reducible refine gate_dst (N := 2) rfl ?_); refine box_event (cs := cs0.toArray) (t := 84) rfl (N := 2) rfl (by first | (go_simp; done) | (go_simp; rfl)) ?_; intro g2 hg w1 hbox hb; clear hg; have n0_ := Aside0.mk (below_step (by repeat (first | exact HB.out | apply below_alloc | apply pw_below_drewN | apply below_drew1)) hb); have n1_ := Aside0.mk (hbox); clear HB; have HB := n0_; have BKg2 := n1_; clear n0_ n1_; clear hb hbox; (try simp only [Act.put, List.setIfInBounds_toArray, List.set_cons_zero, List.set_cons_succ])) | ((with_reducible refine gate_dst (N := 3) rfl ?_); refine box_event (cs := cs1.toArray) (t := 84) rfl (N := 3) rfl (by first | (go_simp; done) | (go_simp; rfl)) ?_; intro g3 hg w2 hbox hb; clear hg; have n0_ := Aside0.mk (blk_below (o := .cells cs0.toArray 84 (0, 0)) (by repeat (first | exact BKg2.out | refine blk_drewN ?_ _ | refine blk_drew ?_ | refine blk_alloc ?_ _)) hb); have n1_ := Aside0.mk (below_step (by repeat (first | exact HB.out | apply below_alloc | apply pw_below_drewN | apply below_drew1)) hb); have n2_ := Aside0.mk (hbox); clear BKg2; clear HB; have BKg2 := n0_; have HB := n1_; have BKg3 := n2_; clear n0_ n1_ n2_; clear hb hbox; (try simp only [Act.put, List.setIfInBounds_toArray, List.set_cons_zero, List.set_cons_succ])) | ((with_reducible refine gate_dst (N := 10) rfl ?_); refine wpList_load_mid rfl 84 (.tmp 2) rfl g2 0 rfl cs0 _ (range_of_blk (by repeat (first | exact BKg2.out | refine blk_drewN ?_ _ | refine blk_drew ?_ | refine blk_alloc ?_ _))) Try.underlying84 rfl (by rw [hlcs0]; kernel_rfl) ?_; (try simp only [Act.put, List.setIfInBounds_toArray, List.set_cons_zero, List.set_cons_succ])) | ((with_reducible refine gate_dst (N := 12) rfl ?_); refine goesL_ (some 12) rfl rfl Try.func44 (by kernel_rfl) rfl #[.agg cs0.toArray, .int .i64 1048576] rfl (by first | rfl | (simp only [List.map_toArray, List.map_cons, List.map_nil]; rfl)) ?_; (with_reducible refine Calls.mono (laws_szDevice_F k _ x0 1048576 t0 _ (FDeviceL_below HFcs0.out (by repeat (first | exact HB.out | apply below_alloc | apply pw_below_drewN | apply below_drew1))) At0.out) ?_); rintro e w3 ⟨rfl, hb⟩; refine ⟨_, rfl, ?_⟩; have n0_ := Aside0.mk (blk_below (o := .cells cs0.toArray 84 (0, 0)) (by repeat (first | exact BKg2.out | refine blk_drewN ?_ _ | refine blk_drew ?_ | refine blk_alloc ?_ _)) hb); have n1_ := Aside0.mk (blk_below (o := .cells cs1.toArray 84 (0, 0)) (by repeat (first | exact BKg3.out | refine blk_drewN ?_ _ | refine blk_drew ?_ | refine blk_alloc ?_ _)) hb); have n2_ := Aside0.mk (below_step (by repeat (first | exact HB.out | apply below_alloc | apply pw_below_drewN | apply below_drew1)) hb); clear BKg2; clear BKg3; clear HB; have BKg2 := n0_; have BKg3 := n1_; have HB := n2_; clear n0_ n1_ n2_; (try clear hF); clear hb; (try simp only [Act.put, List.setIfInBounds_toArray, List.set_cons_zero, List.set_cons_succ])) | ((with_reducible refine gate_dst (N := 15) rfl ?_); refine wpList_load_mid rfl 84 (.tmp 3) rfl g3 0 rfl cs1 _ (range_of_blk (by repeat (first | exact BKg3.out | refine blk_drewN ?_ _ | refine blk_drew ?_ | refine blk_alloc ?_ _))) Try.underlying84 rfl (by rw [hlcs1]; kernel_rfl) ?_; (try simp only [Act.put, List.setIfInBounds_toArray, List.set_cons_zero, List.set_cons_succ])) | ((with_reducible refine gate_dst (N := 17) rfl ?_); refine goesL_ (some 17) rfl rfl Try.func44 (by kernel_rfl) rfl #[.agg cs1.toArray, .int .i64 t0] rfl (by first | rfl | (simp only [List.map_toArray, List.map_cons, List.map_nil]; rfl)) ?_; (with_reducible refine Calls.mono (laws_szDevice_F k _ x1 t0 t1 _ (FDeviceL_below HFcs1.out (by repeat (first | exact HB.out | apply below_alloc | apply pw_below_drewN | apply below_drew1))) At1.out) ?_); rintro e w4 ⟨rfl, hb⟩; refine ⟨_, rfl, ?_⟩; have n0_ := Aside0.mk (blk_below (o := .cells cs0.toArray 84 (0, 0)) (by repeat (first | exact BKg2.out | refine blk_drewN ?_ _ | refine blk_drew ?_ | refine blk_alloc ?_ _)) hb); have n1_ := Aside0.mk (blk_below (o := .cells cs1.toArray 84 (0, 0)) (by repeat (first | exact BKg3.out | refine blk_drewN ?_ _ | refine blk_drew ?_ | refine blk_alloc ?_ _)) hb); have n2_ := Aside0.mk (below_step (by repeat (first | exact HB.out | apply below_alloc | apply pw_below_drewN | apply below_drew1)) hb); clear BKg2; clear BKg3; clear HB; have BKg2 := n0_; have BKg3 := n1_; have HB := n2_; clear n0_ n1_ n2_; (try clear hF); clear hb; (try simp only [Act.put, List.setIfInBounds_toArray, List.set_cons_zero, List.set_cons_succ])))
            have n0_ := Aside0.mk (blk_drew (o := .cells cs0.toArray 84 (0, 0)) (by repeat (first | exact BKg2.out | refine blk_drewN ?_ _ | refine blk_drew ?_ | refine blk_alloc ?_ _)))
            have n1_ := Aside0.mk (blk_drew (o := .cells cs1.toArray 84 (0, 0)) (by repeat (first | exact BKg3.out | refine blk_drewN ?_ _ | refine blk_drew ?_ | refine blk_alloc ?_ _)))
            have n2_ := Aside0.mk (below_drew1 (by repeat (first | exact HB.out | apply below_alloc | apply pw_below_drewN | apply below_drew1)))
            clear BKg2 BKg3 HB
            have BKg2 := n0_
            have BKg3 := n1_
            have HB := n2_
            clear n0_ n1_ n2_
            refine start_ (n := 6) (S := fun w' => w'.heap[g2]? = some (.cells cs0.toArray 84 (0, 0)) ∧ w'.heap[g3]? = some (.cells cs1.toArray 84 (0, 0))) (ds := []) #[false, false, false, false, false, false] (by kernel_rfl) rfl rfl ⟨BKg2.out, BKg3.out⟩ (fun hHeld => ?_)
            generalize World.drew _ = w5 at BKg2 BKg3  HB hHeld ⊢
            refine take_ (i := 0) (N := some 20) (v := .agg cs0.toArray) (a' := ?_) #[true, false, false, false, false, false] rfl rfl (by kernel_rfl) (fun _ _ _ h => h) (yieldsIf_load_mid rfl 84 (.tmp 2) rfl g2 0 rfl cs0 _ (fun w' h => range_of_blk h.1) Try.underlying84 rfl (by rw [hlcs0]; kernel_rfl)) hHeld ?_ ?_
            rotate_left
            · simp only [Act.put, List.setIfInBounds_toArray, List.set_cons_zero, List.set_cons_succ, i64_w, i32_w]
              rfl
            refine take_ (i := 2) (N := some 22) (v := .agg cs1.toArray) (a' := ?_) #[true, false, true, false, false, false] rfl rfl (by kernel_rfl) (fun _ _ _ h => h) (yieldsIf_load_mid rfl 84 (.tmp 3) rfl g3 0 rfl cs1 _ (fun w' h => range_of_blk h.2) Try.underlying84 rfl (by rw [hlcs1]; kernel_rfl)) hHeld ?_ ?_
            rotate_left
            · simp only [Act.put, List.setIfInBounds_toArray, List.set_cons_zero, List.set_cons_succ, i64_w, i32_w]
              rfl
            refine one_ (i := 1) (N := some 21) #[true, true, true, false, false, false] rfl rfl (by kernel_rfl) (by decide) (fun K hK => ?_)
            refine goes_ Try.func46 (by kernel_rfl) rfl #[.agg cs0.toArray] (by rfl) rfl rfl (by first | rfl | (simp only [List.map_toArray, List.map_cons, List.map_nil]; rfl)) ?_
            with_reducible refine Calls.mono (laws_toDevice_F k _ x0 t2 _ (FDeviceL_below HFcs0.out (by repeat (first | exact HB.out | apply below_alloc | apply pw_below_drewN | apply below_drew1))) At2.out) ?_
            rintro e w6 ⟨v_, rfl, hF, hb⟩
            obtain ⟨ct2, rfl, hlct2, hoct2⟩ := FDeviceI_cells hF
            refine ⟨_, rfl, ?_⟩
            have n0_ := Aside0.mk (blk_below (o := .cells cs0.toArray 84 (0, 0)) (by repeat (first | exact BKg2.out | refine blk_drewN ?_ _ | refine blk_drew ?_ | refine blk_alloc ?_ _)) hb)
            have n1_ := Aside0.mk (blk_below (o := .cells cs1.toArray 84 (0, 0)) (by repeat (first | exact BKg3.out | refine blk_drewN ?_ _ | refine blk_drew ?_ | refine blk_alloc ?_ _)) hb)
            have n2_ := Aside0.mk (below_step (by repeat (first | exact HB.out | apply below_alloc | apply pw_below_drewN | apply below_drew1)) hb)
            have n3_ := Aside0.mk (hF)
            clear BKg2
            clear BKg3
            clear HB
            have BKg2 := n0_
            have BKg3 := n1_
            have HB := n2_
            have HFct2 := n3_
            clear n0_ n1_ n2_ n3_
            (try clear hF)
            clear hb
            refine hK.out _ _ ⟨BKg2.out, BKg3.out⟩ (fun hHeld => ?_)
            clear hK K
            refine norm_ (a' := ?_) ?_ ?_
            rotate_left
            · show Act.put _ (some 21) _ = _
              simp only [Act.put, List.setIfInBounds_toArray, List.set_cons_zero, List.set_cons_succ, i64_w, i32_w]
              rfl
            refine one_ (i := 3) (N := some 23) #[true, true, true, true, false, false] rfl rfl (by kernel_rfl) (by decide) (fun K hK => ?_)
            refine goes_ Try.func46 (by kernel_rfl) rfl #[.agg cs1.toArray] (by rfl) rfl rfl (by first | rfl | (simp only [List.map_toArray, List.map_cons, List.map_nil]; rfl)) ?_
            with_reducible refine Calls.mono (laws_toDevice_F k _ x1 t3 _ (FDeviceL_below HFcs1.out (by repeat (first | exact HB.out | apply below_alloc | apply pw_below_drewN | apply below_drew1))) At3.out) ?_
            rintro e w7 ⟨v_, rfl, hF, hb⟩
            obtain ⟨ct3, rfl, hlct3, hoct3⟩ := FDeviceI_cells hF
            refine ⟨_, rfl, ?_⟩
            have n0_ := Aside0.mk (blk_below (o := .cells cs0.toArray 84 (0, 0)) (by repeat (first | exact BKg2.out | refine blk_drewN ?_ _ | refine blk_drew ?_ | refine blk_alloc ?_ _)) hb)
            have n1_ := Aside0.mk (blk_below (o := .cells cs1.toArray 84 (0, 0)) (by repeat (first | exact BKg3.out | refine blk_drewN ?_ _ | refine blk_drew ?_ | refine blk_alloc ?_ _)) hb)
            have n2_ := Aside0.mk (FDeviceI_below (by repeat (first | exact HFct2.out | refine FDeviceI_alloc ?_ _ | refine FDeviceI_drewN ?_ _ | refine FDeviceI_drew ?_)) hb)
            have n3_ := Aside0.mk (below_step (by repeat (first | exact HB.out | apply below_alloc | apply pw_below_drewN | apply below_drew1)) hb)
            have n4_ := Aside0.mk (hF)
            clear BKg2
            clear BKg3
            clear HFct2
            clear HB
            have BKg2 := n0_
            have BKg3 := n1_
            have HFct2 := n2_
            have HB := n3_
            have HFct3 := n4_
            clear n0_ n1_ n2_ n3_ n4_
            (try clear hF)
            clear hb
            refine hK.out _ _ ⟨BKg2.out, BKg3.out⟩ (fun hHeld => ?_)
            clear hK K
            refine norm_ (a' := ?_) ?_ ?_
            rotate_left
            · show Act.put _ (some 23) _ = _
              simp only [Act.put, List.setIfInBounds_toArray, List.set_cons_zero, List.set_cons_succ, i64_w, i32_w]
              rfl
            refine one_ (i := 4) (N := some 24) #[true, true, true, true, true, false] rfl rfl (by kernel_rfl) (by decide) (fun K hK => ?_)
            refine goes_ Try.func45 (by kernel_rfl) rfl #[.agg ct2.toArray, .agg ct3.toArray] (by rfl) rfl rfl (by first | rfl | (simp only [List.map_toArray, List.map_cons, List.map_nil]; rfl)) ?_
            with_reducible refine Calls.mono (spec_SameDevice_F k _ t2 _ t3 t4 _ (by repeat (first | exact HFct2.out | refine FDeviceI_alloc ?_ _ | refine FDeviceI_drewN ?_ _ | refine FDeviceI_drew ?_)) (by repeat (first | exact HFct3.out | refine FDeviceI_alloc ?_ _ | refine FDeviceI_drewN ?_ _ | refine FDeviceI_drew ?_)) At4.out) ?_
            rintro e w8 ⟨rfl, hb⟩
            refine ⟨_, rfl, ?_⟩
            have n0_ := Aside0.mk (blk_below (o := .cells cs0.toArray 84 (0, 0)) (by repeat (first | exact BKg2.out | refine blk_drewN ?_ _ | refine blk_drew ?_ | refine blk_alloc ?_ _)) hb)
            have n1_ := Aside0.mk (blk_below (o := .cells cs1.toArray 84 (0, 0)) (by repeat (first | exact BKg3.out | refine blk_drewN ?_ _ | refine blk_drew ?_ | refine blk_alloc ?_ _)) hb)
            have n2_ := Aside0.mk (FDeviceI_below (by repeat (first | exact HFct2.out | refine FDeviceI_alloc ?_ _ | refine FDeviceI_drewN ?_ _ | refine FDeviceI_drew ?_)) hb)
            have n3_ := Aside0.mk (FDeviceI_below (by repeat (first | exact HFct3.out | refine FDeviceI_alloc ?_ _ | refine FDeviceI_drewN ?_ _ | refine FDeviceI_drew ?_)) hb)
            have n4_ := Aside0.mk (below_step (by repeat (first | exact HB.out | apply below_alloc | apply pw_below_drewN | apply below_drew1)) hb)
            clear BKg2
            clear BKg3
            clear HFct2
            clear HFct3
            clear HB
            have BKg2 := n0_
            have BKg3 := n1_
            have HFct2 := n2_
            have HFct3 := n3_
            have HB := n4_
            clear n0_ n1_ n2_ n3_ n4_
            (try clear hF)
            clear hb
            refine hK.out _ _ ⟨BKg2.out, BKg3.out⟩ (fun hHeld => ?_)
            clear hK K
            refine norm_ (a' := ?_) ?_ ?_
            rotate_left
            · show Act.put _ (some 24) _ = _
              simp only [Act.put, List.setIfInBounds_toArray, List.set_cons_zero, List.set_cons_succ, i64_w, i32_w]
              rfl
            refine pure_ (i := 5) (N := some 6) (v := ?_) (a' := ?_) #[true, true, true, true, true, true] rfl rfl (by kernel_rfl) (fun _ _ _ h => h) (Or.inl ⟨by rfl, ?_⟩) ?_ ?_
            rotate_left
            · intro w'
              go_simp
              with_reducible rfl
            rotate_left
            · simp only [Act.put, List.setIfInBounds_toArray, List.set_cons_zero, List.set_cons_succ, i64_w, i32_w]
              rfl
            refine done_ (by kernel_rfl) ?_
            go_wp2_with (first | ((with_reducible refine gate_dst (N := 25) rfl ?_); refine wpList_load_mid rfl 84 (.tmp 2) rfl g2 0 rfl cs0 _ (range_of_blk (by repeat (first | exact BKg2.out | refine blk_drewN ?_ _ | refine blk_drew ?_ | refine blk_alloc ?_ _))) Try.underlying84 rfl (by rw [hlcs0]; kernel_rfl) ?_; (try simp only [Act.put, List.setIfInBounds_toArray, List.set_cons_zero, List.set_cons_succ])) | ((with_reducible refine gate_dst (N := 26) rfl ?_); refine goesL_ (some 26) rfl rfl Try.func46 (by kernel_rfl) rfl #[.agg cs0.toArray] rfl (by first | rfl | (simp only [List.map_toArray, List.map_cons, List.map_nil]; rfl)) ?_; (with_reducible refine Calls.mono (laws_toDevice_F k _ x0 t5 _ (FDeviceL_below HFcs0.out (by repeat (first | exact HB.out | apply below_alloc | apply pw_below_drewN | apply below_drew1))) At5.out) ?_); rintro e w9 ⟨v_, rfl, hF, hb⟩; obtain ⟨ct5, rfl, hlct5, hoct5⟩ := FDeviceI_cells hF; refine ⟨_, rfl, ?_⟩; have n0_ := Aside0.mk (blk_below (o := .cells cs0.toArray 84 (0, 0)) (by repeat (first | exact BKg2.out | refine blk_drewN ?_ _ | refine blk_drew ?_ | refine blk_alloc ?_ _)) hb); have n1_ := Aside0.mk (blk_below (o := .cells cs1.toArray 84 (0, 0)) (by repeat (first | exact BKg3.out | refine blk_drewN ?_ _ | refine blk_drew ?_ | refine blk_alloc ?_ _)) hb); have n2_ := Aside0.mk (FDeviceI_below (by repeat (first | exact HFct2.out | refine FDeviceI_alloc ?_ _ | refine FDeviceI_drewN ?_ _ | refine FDeviceI_drew ?_)) hb); have n3_ := Aside0.mk (FDeviceI_below (by repeat (first | exact HFct3.out | refine FDeviceI_alloc ?_ _ | refine FDeviceI_drewN ?_ _ | refine FDeviceI_drew ?_)) hb); have n4_ := Aside0.mk (below_step (by repeat (first | exact HB.out | apply below_alloc | apply pw_below_drewN | apply below_drew1)) hb); have n5_ := Aside0.mk (hF); clear BKg2; clear BKg3; clear HFct2; clear HFct3; clear HB; have BKg2 := n0_; have BKg3 := n1_; have HFct2 := n2_; have HFct3 := n3_; have HB := n4_; have HFct5 := n5_; clear n0_ n1_ n2_ n3_ n4_ n5_; (try clear hF); clear hb; (try simp only [Act.put, List.setIfInBounds_toArray, List.set_cons_zero, List.set_cons_succ])) | ((with_reducible refine gate_dst (N := 7) rfl ?_); refine alloc_store_event 7 75 _ rfl rfl rfl rfl rfl (cs := ct5) rfl rfl hoct5 (by rw [hlct5]; exact hz75) (by rw [hlct5]; exact hzc75) ?_; intro g7 hg w10 hbox hb; clear hg; have n0_ := Aside0.mk (blk_below (o := .cells cs0.toArray 84 (0, 0)) (by repeat (first | exact BKg2.out | refine blk_drewN ?_ _ | refine blk_drew ?_ | refine blk_alloc ?_ _)) hb); have n1_ := Aside0.mk (blk_below (o := .cells cs1.toArray 84 (0, 0)) (by repeat (first | exact BKg3.out | refine blk_drewN ?_ _ | refine blk_drew ?_ | refine blk_alloc ?_ _)) hb); have n2_ := Aside0.mk (FDeviceI_below (by repeat (first | exact HFct2.out | refine FDeviceI_alloc ?_ _ | refine FDeviceI_drewN ?_ _ | refine FDeviceI_drew ?_)) hb); have n3_ := Aside0.mk (FDeviceI_below (by repeat (first | exact HFct3.out | refine FDeviceI_alloc ?_ _ | refine FDeviceI_drewN ?_ _ | refine FDeviceI_drew ?_)) hb); have n4_ := Aside0.mk (FDeviceI_below (by repeat (first | exact HFct5.out | refine FDeviceI_alloc ?_ _ | refine FDeviceI_drewN ?_ _ | refine FDeviceI_drew ?_)) hb); have n5_ := Aside0.mk (below_step (by repeat (first | exact HB.out | apply below_alloc | apply pw_below_drewN | apply below_drew1)) hb); have n6_ := Aside0.mk (hbox); clear BKg2; clear BKg3; clear HFct2; clear HFct3; clear HFct5; clear HB; have BKg2 := n0_; have BKg3 := n1_; have HFct2 := n2_; have HFct3 := n3_; have HFct5 := n4_; have HB := n5_; have BKg7 := n6_; clear n0_ n1_ n2_ n3_ n4_ n5_ n6_; clear hb hbox; (try simp only [Act.put, List.setIfInBounds_toArray, List.set_cons_zero, List.set_cons_succ])) | ((with_reducible refine gate_dst (N := 27) rfl ?_); refine wpList_load_mid rfl 84 (.tmp 3) rfl g3 0 rfl cs1 _ (range_of_blk (by repeat (first | exact BKg3.out | refine blk_drewN ?_ _ | refine blk_drew ?_ | refine blk_alloc ?_ _))) Try.underlying84 rfl (by rw [hlcs1]; kernel_rfl) ?_; (try simp only [Act.put, List.setIfInBounds_toArray, List.set_cons_zero, List.set_cons_succ])) | ((with_reducible refine gate_dst (N := 28) rfl ?_); refine goesL_ (some 28) rfl rfl Try.func46 (by kernel_rfl) rfl #[.agg cs1.toArray] rfl (by first | rfl | (simp only [List.map_toArray, List.map_cons, List.map_nil]; rfl)) ?_; (with_reducible refine Calls.mono (laws_toDevice_F k _ x1 t6 _ (FDeviceL_below HFcs1.out (by repeat (first | exact HB.out | apply below_alloc | apply pw_below_drewN | apply below_drew1))) At6.out) ?_); rintro e w11 ⟨v_, rfl, hF, hb⟩; obtain ⟨ct6, rfl, hlct6, hoct6⟩ := FDeviceI_cells hF; refine ⟨_, rfl, ?_⟩; have n0_ := Aside0.mk (blk_below (o := .cells cs0.toArray 84 (0, 0)) (by repeat (first | exact BKg2.out | refine blk_drewN ?_ _ | refine blk_drew ?_ | refine blk_alloc ?_ _)) hb); have n1_ := Aside0.mk (blk_below (o := .cells cs1.toArray 84 (0, 0)) (by repeat (first | exact BKg3.out | refine blk_drewN ?_ _ | refine blk_drew ?_ | refine blk_alloc ?_ _)) hb); have n2_ := Aside0.mk (blk_below (o := .cells ct5.toArray 75 (0, 0)) (by repeat (first | exact BKg7.out | refine blk_drewN ?_ _ | refine blk_drew ?_ | refine blk_alloc ?_ _)) hb); have n3_ := Aside0.mk (FDeviceI_below (by repeat (first | exact HFct2.out | refine FDeviceI_alloc ?_ _ | refine FDeviceI_drewN ?_ _ | refine FDeviceI_drew ?_)) hb); have n4_ := Aside0.mk (FDeviceI_below (by repeat (first | exact HFct3.out | refine FDeviceI_alloc ?_ _ | refine FDeviceI_drewN ?_ _ | refine FDeviceI_drew ?_)) hb); have n5_ := Aside0.mk (FDeviceI_below (by repeat (first | exact HFct5.out | refine FDeviceI_alloc ?_ _ | refine FDeviceI_drewN ?_ _ | refine FDeviceI_drew ?_)) hb); have n6_ := Aside0.mk (below_step (by repeat (first | exact HB.out | apply below_alloc | apply pw_below_drewN | apply below_drew1)) hb); have n7_ := Aside0.mk (hF); clear BKg2; clear BKg3; clear BKg7; clear HFct2; clear HFct3; clear HFct5; clear HB; have BKg2 := n0_; have BKg3 := n1_; have BKg7 := n2_; have HFct2 := n3_; have HFct3 := n4_; have HFct5 := n5_; have HB := n6_; have HFct6 := n7_; clear n0_ n1_ n2_ n3_ n4_ n5_ n6_ n7_; (try clear hF); clear hb; (try simp only [Act.put, List.setIfInBounds_toArray, List.set_cons_zero, List.set_cons_succ])) | ((with_reducible refine gate_dst (N := 8) rfl ?_); refine alloc_store_event 8 75 _ rfl rfl rfl rfl rfl (cs := ct6) rfl rfl hoct6 (by rw [hlct6]; exact hz75) (by rw [hlct6]; exact hzc75) ?_; intro g8 hg w12 hbox hb; clear hg; have n0_ := Aside0.mk (blk_below (o := .cells cs0.toArray 84 (0, 0)) (by repeat (first | exact BKg2.out | refine blk_drewN ?_ _ | refine blk_drew ?_ | refine blk_alloc ?_ _)) hb); have n1_ := Aside0.mk (blk_below (o := .cells cs1.toArray 84 (0, 0)) (by repeat (first | exact BKg3.out | refine blk_drewN ?_ _ | refine blk_drew ?_ | refine blk_alloc ?_ _)) hb); have n2_ := Aside0.mk (blk_below (o := .cells ct5.toArray 75 (0, 0)) (by repeat (first | exact BKg7.out | refine blk_drewN ?_ _ | refine blk_drew ?_ | refine blk_alloc ?_ _)) hb); have n3_ := Aside0.mk (FDeviceI_below (by repeat (first | exact HFct2.out | refine FDeviceI_alloc ?_ _ | refine FDeviceI_drewN ?_ _ | refine FDeviceI_drew ?_)) hb); have n4_ := Aside0.mk (FDeviceI_below (by repeat (first | exact HFct3.out | refine FDeviceI_alloc ?_ _ | refine FDeviceI_drewN ?_ _ | refine FDeviceI_drew ?_)) hb); have n5_ := Aside0.mk (FDeviceI_below (by repeat (first | exact HFct5.out | refine FDeviceI_alloc ?_ _ | refine FDeviceI_drewN ?_ _ | refine FDeviceI_drew ?_)) hb); have n6_ := Aside0.mk (FDeviceI_below (by repeat (first | exact HFct6.out | refine FDeviceI_alloc ?_ _ | refine FDeviceI_drewN ?_ _ | refine FDeviceI_drew ?_)) hb); have n7_ := Aside0.mk (below_step (by repeat (first | exact HB.out | apply below_alloc | apply pw_below_drewN | apply below_drew1)) hb); have n8_ := Aside0.mk (hbox); clear BKg2; clear BKg3; clear BKg7; clear HFct2; clear HFct3; clear HFct5; clear HFct6; clear HB; have BKg2 := n0_; have BKg3 := n1_; have BKg7 := n2_; have HFct2 := n3_; have HFct3 := n4_; have HFct5 := n5_; have HFct6 := n6_; have HB := n7_; have BKg8 := n8_; clear n0_ n1_ n2_ n3_ n4_ n5_ n6_ n7_ n8_; clear hb hbox; (try simp only [Act.put, List.setIfInBounds_toArray, List.set_cons_zero, List.set_cons_succ])) | ((with_reducible refine gate_dst (N := 29) rfl ?_); refine wpList_load_mid rfl 75 (.tmp 7) rfl g7 0 rfl ct5 _ (range_of_blk (by repeat (first | exact BKg7.out | refine blk_drewN ?_ _ | refine blk_drew ?_ | refine blk_alloc ?_ _))) Try.underlying75 rfl (by rw [hlct5]; kernel_rfl) ?_; (try simp only [Act.put, List.setIfInBounds_toArray, List.set_cons_zero, List.set_cons_succ])) | ((with_reducible refine gate_dst (N := 30) rfl ?_); refine wpList_load_mid rfl 75 (.tmp 8) rfl g8 0 rfl ct6 _ (range_of_blk (by repeat (first | exact BKg8.out | refine blk_drewN ?_ _ | refine blk_drew ?_ | refine blk_alloc ?_ _))) Try.underlying75 rfl (by rw [hlct6]; kernel_rfl) ?_; (try simp only [Act.put, List.setIfInBounds_toArray, List.set_cons_zero, List.set_cons_succ])) | ((with_reducible refine gate_dst (N := 31) rfl ?_); refine goesL_ (some 31) rfl rfl Try.func47 (by kernel_rfl) rfl #[.agg ct5.toArray, .agg ct6.toArray] rfl (by first | rfl | (simp only [List.map_toArray, List.map_cons, List.map_nil]; rfl)) ?_; (with_reducible refine Calls.mono (impl_SameDevice_F _ t5 _ t6 t7 _ (by repeat (first | exact HFct5.out | refine FDeviceI_alloc ?_ _ | refine FDeviceI_drewN ?_ _ | refine FDeviceI_drew ?_)) (by repeat (first | exact HFct6.out | refine FDeviceI_alloc ?_ _ | refine FDeviceI_drewN ?_ _ | refine FDeviceI_drew ?_)) At7.out) ?_); rintro e w13 ⟨rfl, hb⟩; refine ⟨_, rfl, ?_⟩; have n0_ := Aside0.mk (blk_below (o := .cells cs0.toArray 84 (0, 0)) (by repeat (first | exact BKg2.out | refine blk_drewN ?_ _ | refine blk_drew ?_ | refine blk_alloc ?_ _)) hb); have n1_ := Aside0.mk (blk_below (o := .cells cs1.toArray 84 (0, 0)) (by repeat (first | exact BKg3.out | refine blk_drewN ?_ _ | refine blk_drew ?_ | refine blk_alloc ?_ _)) hb); have n2_ := Aside0.mk (blk_below (o := .cells ct5.toArray 75 (0, 0)) (by repeat (first | exact BKg7.out | refine blk_drewN ?_ _ | refine blk_drew ?_ | refine blk_alloc ?_ _)) hb); have n3_ := Aside0.mk (blk_below (o := .cells ct6.toArray 75 (0, 0)) (by repeat (first | exact BKg8.out | refine blk_drewN ?_ _ | refine blk_drew ?_ | refine blk_alloc ?_ _)) hb); have n4_ := Aside0.mk (FDeviceI_below (by repeat (first | exact HFct2.out | refine FDeviceI_alloc ?_ _ | refine FDeviceI_drewN ?_ _ | refine FDeviceI_drew ?_)) hb); have n5_ := Aside0.mk (FDeviceI_below (by repeat (first | exact HFct3.out | refine FDeviceI_alloc ?_ _ | refine FDeviceI_drewN ?_ _ | refine FDeviceI_drew ?_)) hb); have n6_ := Aside0.mk (FDeviceI_below (by repeat (first | exact HFct5.out | refine FDeviceI_alloc ?_ _ | refine FDeviceI_drewN ?_ _ | refine FDeviceI_drew ?_)) hb); have n7_ := Aside0.mk (FDeviceI_below (by repeat (first | exact HFct6.out | refine FDeviceI_alloc ?_ _ | refine FDeviceI_drewN ?_ _ | refine FDeviceI_drew ?_)) hb); have n8_ := Aside0.mk (below_step (by repeat (first | exact HB.out | apply below_alloc | apply pw_below_drewN | apply below_drew1)) hb); clear BKg2; clear BKg3; clear BKg7; clear BKg8; clear HFct2; clear HFct3; clear HFct5; clear HFct6; clear HB; have BKg2 := n0_; have BKg3 := n1_; have BKg7 := n2_; have BKg8 := n3_; have HFct2 := n4_; have HFct3 := n5_; have HFct5 := n6_; have HFct6 := n7_; have HB := n8_; clear n0_ n1_ n2_ n3_ n4_ n5_ n6_ n7_ n8_; (try clear hF); clear hb; (try simp only [Act.put, List.setIfInBounds_toArray, List.set_cons_zero, List.set_cons_succ])))
            have n0_ := Aside0.mk (blk_drew (o := .cells cs0.toArray 84 (0, 0)) (by repeat (first | exact BKg2.out | refine blk_drewN ?_ _ | refine blk_drew ?_ | refine blk_alloc ?_ _)))
            have n1_ := Aside0.mk (blk_drew (o := .cells cs1.toArray 84 (0, 0)) (by repeat (first | exact BKg3.out | refine blk_drewN ?_ _ | refine blk_drew ?_ | refine blk_alloc ?_ _)))
            have n2_ := Aside0.mk (blk_drew (o := .cells ct5.toArray 75 (0, 0)) (by repeat (first | exact BKg7.out | refine blk_drewN ?_ _ | refine blk_drew ?_ | refine blk_alloc ?_ _)))
            have n3_ := Aside0.mk (blk_drew (o := .cells ct6.toArray 75 (0, 0)) (by repeat (first | exact BKg8.out | refine blk_drewN ?_ _ | refine blk_drew ?_ | refine blk_alloc ?_ _)))
            have n4_ := Aside0.mk (FDeviceI_drew (by repeat (first | exact HFct2.out | refine FDeviceI_alloc ?_ _ | refine FDeviceI_drewN ?_ _ | refine FDeviceI_drew ?_)))
            have n5_ := Aside0.mk (FDeviceI_drew (by repeat (first | exact HFct3.out | refine FDeviceI_alloc ?_ _ | refine FDeviceI_drewN ?_ _ | refine FDeviceI_drew ?_)))
            have n6_ := Aside0.mk (FDeviceI_drew (by repeat (first | exact HFct5.out | refine FDeviceI_alloc ?_ _ | refine FDeviceI_drewN ?_ _ | refine FDeviceI_drew ?_)))
            have n7_ := Aside0.mk (FDeviceI_drew (by repeat (first | exact HFct6.out | refine FDeviceI_alloc ?_ _ | refine FDeviceI_drewN ?_ _ | refine FDeviceI_drew ?_)))
            have n8_ := Aside0.mk (below_drew1 (by repeat (first | exact HB.out | apply below_alloc | apply pw_below_drewN | apply below_drew1)))
            clear BKg2 BKg3 BKg7 BKg8 HFct2 HFct3 HFct5 HFct6 HB
            have BKg2 := n0_
            have BKg3 := n1_
            have BKg7 := n2_
            have BKg8 := n3_
            have HFct2 := n4_
            have HFct3 := n5_
            have HFct5 := n6_
            have HFct6 := n7_
            have HB := n8_
            clear n0_ n1_ n2_ n3_ n4_ n5_ n6_ n7_ n8_
            refine start_ (n := 5) (S := fun w' => w'.heap[g7]? = some (.cells ct5.toArray 75 (0, 0)) ∧ w'.heap[g2]? = some (.cells cs0.toArray 84 (0, 0))) (ds := []) #[false, false, false, false, false] (by kernel_rfl) rfl rfl ⟨BKg7.out, BKg2.out⟩ (fun hHeld => ?_)
            generalize World.drew _ = w14 at BKg2 BKg3 BKg7 BKg8 HFct2 HFct3 HFct5 HFct6 HB hHeld ⊢
            refine take_ (i := 0) (N := some 35) (v := .agg ct5.toArray) (a' := ?_) #[true, false, false, false, false] rfl rfl (by kernel_rfl) (fun _ _ _ h => h) (yieldsIf_load_mid rfl 75 (.tmp 7) rfl g7 0 rfl ct5 _ (fun w' h => range_of_blk h.1) Try.underlying75 rfl (by rw [hlct5]; kernel_rfl)) hHeld ?_ ?_
            rotate_left
            · simp only [Act.put, List.setIfInBounds_toArray, List.set_cons_zero, List.set_cons_succ, i64_w, i32_w]
              rfl
            refine take_ (i := 1) (N := some 36) (v := .agg cs0.toArray) (a' := ?_) #[true, true, false, false, false] rfl rfl (by kernel_rfl) (fun _ _ _ h => h) (yieldsIf_load_mid rfl 84 (.tmp 2) rfl g2 0 rfl cs0 _ (fun w' h => range_of_blk h.2) Try.underlying84 rfl (by rw [hlcs0]; kernel_rfl)) hHeld ?_ ?_
            rotate_left
            · simp only [Act.put, List.setIfInBounds_toArray, List.set_cons_zero, List.set_cons_succ, i64_w, i32_w]
              rfl
            refine one_ (i := 2) (N := some 37) #[true, true, true, false, false] rfl rfl (by kernel_rfl) (by decide) (fun K hK => ?_)
            refine goes_ Try.func46 (by kernel_rfl) rfl #[.agg cs0.toArray] (by rfl) rfl rfl (by first | rfl | (simp only [List.map_toArray, List.map_cons, List.map_nil]; rfl)) ?_
            with_reducible refine Calls.mono (laws_toDevice_F k _ x0 t8 _ (FDeviceL_below HFcs0.out (by repeat (first | exact HB.out | apply below_alloc | apply pw_below_drewN | apply below_drew1))) At8.out) ?_
            rintro e w15 ⟨v_, rfl, hF, hb⟩
            obtain ⟨ct8, rfl, hlct8, hoct8⟩ := FDeviceI_cells hF
            refine ⟨_, rfl, ?_⟩
            have n0_ := Aside0.mk (blk_below (o := .cells cs0.toArray 84 (0, 0)) (by repeat (first | exact BKg2.out | refine blk_drewN ?_ _ | refine blk_drew ?_ | refine blk_alloc ?_ _)) hb)
            have n1_ := Aside0.mk (blk_below (o := .cells cs1.toArray 84 (0, 0)) (by repeat (first | exact BKg3.out | refine blk_drewN ?_ _ | refine blk_drew ?_ | refine blk_alloc ?_ _)) hb)
            have n2_ := Aside0.mk (blk_below (o := .cells ct5.toArray 75 (0, 0)) (by repeat (first | exact BKg7.out | refine blk_drewN ?_ _ | refine blk_drew ?_ | refine blk_alloc ?_ _)) hb)
            have n3_ := Aside0.mk (blk_below (o := .cells ct6.toArray 75 (0, 0)) (by repeat (first | exact BKg8.out | refine blk_drewN ?_ _ | refine blk_drew ?_ | refine blk_alloc ?_ _)) hb)
            have n4_ := Aside0.mk (FDeviceI_below (by repeat (first | exact HFct2.out | refine FDeviceI_alloc ?_ _ | refine FDeviceI_drewN ?_ _ | refine FDeviceI_drew ?_)) hb)
            have n5_ := Aside0.mk (FDeviceI_below (by repeat (first | exact HFct3.out | refine FDeviceI_alloc ?_ _ | refine FDeviceI_drewN ?_ _ | refine FDeviceI_drew ?_)) hb)
            have n6_ := Aside0.mk (FDeviceI_below (by repeat (first | exact HFct5.out | refine FDeviceI_alloc ?_ _ | refine FDeviceI_drewN ?_ _ | refine FDeviceI_drew ?_)) hb)
            have n7_ := Aside0.mk (FDeviceI_below (by repeat (first | exact HFct6.out | refine FDeviceI_alloc ?_ _ | refine FDeviceI_drewN ?_ _ | refine FDeviceI_drew ?_)) hb)
            have n8_ := Aside0.mk (below_step (by repeat (first | exact HB.out | apply below_alloc | apply pw_below_drewN | apply below_drew1)) hb)
            have n9_ := Aside0.mk (hF)
            clear BKg2
            clear BKg3
            clear BKg7
            clear BKg8
            clear HFct2
            clear HFct3
            clear HFct5
            clear HFct6
            clear HB
            have BKg2 := n0_
            have BKg3 := n1_
            have BKg7 := n2_
            have BKg8 := n3_
            have HFct2 := n4_
            have HFct3 := n5_
            have HFct5 := n6_
            have HFct6 := n7_
            have HB := n8_
            have HFct8 := n9_
            clear n0_ n1_ n2_ n3_ n4_ n5_ n6_ n7_ n8_ n9_
            (try clear hF)
            clear hb
            refine hK.out _ _ ⟨BKg7.out, BKg2.out⟩ (fun hHeld => ?_)
            clear hK K
            refine norm_ (a' := ?_) ?_ ?_
            rotate_left
            · show Act.put _ (some 37) _ = _
              simp only [Act.put, List.setIfInBounds_toArray, List.set_cons_zero, List.set_cons_succ, i64_w, i32_w]
              rfl
            refine one_ (i := 3) (N := some 38) #[true, true, true, true, false] rfl rfl (by kernel_rfl) (by decide) (fun K hK => ?_)
            refine goes_ Try.func41 (by kernel_rfl) rfl #[.agg ct5.toArray, .agg ct8.toArray] (by rfl) rfl rfl (by first | rfl | (simp only [List.map_toArray, List.map_cons, List.map_nil]; rfl)) ?_
            with_reducible refine Calls.mono (laws_eqDevice_F k _ t5 _ t8 true _ (by repeat (first | exact HFct5.out | refine FDeviceI_alloc ?_ _ | refine FDeviceI_drewN ?_ _ | refine FDeviceI_drew ?_)) (by repeat (first | exact HFct8.out | refine FDeviceI_alloc ?_ _ | refine FDeviceI_drewN ?_ _ | refine FDeviceI_drew ?_)) At9.out) ?_
            rintro e w16 ⟨rfl, hb⟩
            refine ⟨_, rfl, ?_⟩
            have n0_ := Aside0.mk (blk_below (o := .cells cs0.toArray 84 (0, 0)) (by repeat (first | exact BKg2.out | refine blk_drewN ?_ _ | refine blk_drew ?_ | refine blk_alloc ?_ _)) hb)
            have n1_ := Aside0.mk (blk_below (o := .cells cs1.toArray 84 (0, 0)) (by repeat (first | exact BKg3.out | refine blk_drewN ?_ _ | refine blk_drew ?_ | refine blk_alloc ?_ _)) hb)
            have n2_ := Aside0.mk (blk_below (o := .cells ct5.toArray 75 (0, 0)) (by repeat (first | exact BKg7.out | refine blk_drewN ?_ _ | refine blk_drew ?_ | refine blk_alloc ?_ _)) hb)
            have n3_ := Aside0.mk (blk_below (o := .cells ct6.toArray 75 (0, 0)) (by repeat (first | exact BKg8.out | refine blk_drewN ?_ _ | refine blk_drew ?_ | refine blk_alloc ?_ _)) hb)
            have n4_ := Aside0.mk (FDeviceI_below (by repeat (first | exact HFct2.out | refine FDeviceI_alloc ?_ _ | refine FDeviceI_drewN ?_ _ | refine FDeviceI_drew ?_)) hb)
            have n5_ := Aside0.mk (FDeviceI_below (by repeat (first | exact HFct3.out | refine FDeviceI_alloc ?_ _ | refine FDeviceI_drewN ?_ _ | refine FDeviceI_drew ?_)) hb)
            have n6_ := Aside0.mk (FDeviceI_below (by repeat (first | exact HFct5.out | refine FDeviceI_alloc ?_ _ | refine FDeviceI_drewN ?_ _ | refine FDeviceI_drew ?_)) hb)
            have n7_ := Aside0.mk (FDeviceI_below (by repeat (first | exact HFct6.out | refine FDeviceI_alloc ?_ _ | refine FDeviceI_drewN ?_ _ | refine FDeviceI_drew ?_)) hb)
            have n8_ := Aside0.mk (FDeviceI_below (by repeat (first | exact HFct8.out | refine FDeviceI_alloc ?_ _ | refine FDeviceI_drewN ?_ _ | refine FDeviceI_drew ?_)) hb)
            have n9_ := Aside0.mk (below_step (by repeat (first | exact HB.out | apply below_alloc | apply pw_below_drewN | apply below_drew1)) hb)
            clear BKg2
            clear BKg3
            clear BKg7
            clear BKg8
            clear HFct2
            clear HFct3
            clear HFct5
            clear HFct6
            clear HFct8
            clear HB
            have BKg2 := n0_
            have BKg3 := n1_
            have BKg7 := n2_
            have BKg8 := n3_
            have HFct2 := n4_
            have HFct3 := n5_
            have HFct5 := n6_
            have HFct6 := n7_
            have HFct8 := n8_
            have HB := n9_
            clear n0_ n1_ n2_ n3_ n4_ n5_ n6_ n7_ n8_ n9_
            (try clear hF)
            clear hb
            refine hK.out _ _ ⟨BKg7.out, BKg2.out⟩ (fun hHeld => ?_)
            clear hK K
            refine norm_ (a' := ?_) ?_ ?_
            rotate_left
            · show Act.put _ (some 38) _ = _
              simp only [Act.put, List.setIfInBounds_toArray, List.set_cons_zero, List.set_cons_succ, i64_w, i32_w]
              rfl
            refine pure_ (i := 4) (N := some 39) (v := ?_) (a' := ?_) #[true, true, true, true, true] rfl rfl (by kernel_rfl) (fun _ _ _ h => h) (Or.inl ⟨by rfl, ?_⟩) ?_ ?_
            rotate_left
            · intro w'
              go_simp
              with_reducible rfl
            rotate_left
            · simp only [Act.put, List.setIfInBounds_toArray, List.set_cons_zero, List.set_cons_succ, i64_w, i32_w]
              rfl
            refine done_ (by kernel_rfl) ?_
            try go_wp2
            have n0_ := Aside0.mk (blk_drew (o := .cells cs0.toArray 84 (0, 0)) (by repeat (first | exact BKg2.out | refine blk_drewN ?_ _ | refine blk_drew ?_ | refine blk_alloc ?_ _)))
            have n1_ := Aside0.mk (blk_drew (o := .cells cs1.toArray 84 (0, 0)) (by repeat (first | exact BKg3.out | refine blk_drewN ?_ _ | refine blk_drew ?_ | refine blk_alloc ?_ _)))
            have n2_ := Aside0.mk (blk_drew (o := .cells ct5.toArray 75 (0, 0)) (by repeat (first | exact BKg7.out | refine blk_drewN ?_ _ | refine blk_drew ?_ | refine blk_alloc ?_ _)))
            have n3_ := Aside0.mk (blk_drew (o := .cells ct6.toArray 75 (0, 0)) (by repeat (first | exact BKg8.out | refine blk_drewN ?_ _ | refine blk_drew ?_ | refine blk_alloc ?_ _)))
            have n4_ := Aside0.mk (FDeviceI_drew (by repeat (first | exact HFct2.out | refine FDeviceI_alloc ?_ _ | refine FDeviceI_drewN ?_ _ | refine FDeviceI_drew ?_)))
            have n5_ := Aside0.mk (FDeviceI_drew (by repeat (first | exact HFct3.out | refine FDeviceI_alloc ?_ _ | refine FDeviceI_drewN ?_ _ | refine FDeviceI_drew ?_)))
            have n6_ := Aside0.mk (FDeviceI_drew (by repeat (first | exact HFct5.out | refine FDeviceI_alloc ?_ _ | refine FDeviceI_drewN ?_ _ | refine FDeviceI_drew ?_)))
            have n7_ := Aside0.mk (FDeviceI_drew (by repeat (first | exact HFct6.out | refine FDeviceI_alloc ?_ _ | refine FDeviceI_drewN ?_ _ | refine FDeviceI_drew ?_)))
            have n8_ := Aside0.mk (FDeviceI_drew (by repeat (first | exact HFct8.out | refine FDeviceI_alloc ?_ _ | refine FDeviceI_drewN ?_ _ | refine FDeviceI_drew ?_)))
            have n9_ := Aside0.mk (below_drew1 (by repeat (first | exact HB.out | apply below_alloc | apply pw_below_drewN | apply below_drew1)))
            clear BKg2 BKg3 BKg7 BKg8 HFct2 HFct3 HFct5 HFct6 HFct8 HB
            have BKg2 := n0_
            have BKg3 := n1_
            have BKg7 := n2_
            have BKg8 := n3_
            have HFct2 := n4_
            have HFct3 := n5_
            have HFct5 := n6_
            have HFct6 := n7_
            have HFct8 := n8_
            have HB := n9_
            clear n0_ n1_ n2_ n3_ n4_ n5_ n6_ n7_ n8_ n9_
            refine start_ (n := 5) (S := fun w' => w'.heap[g8]? = some (.cells ct6.toArray 75 (0, 0)) ∧ w'.heap[g3]? = some (.cells cs1.toArray 84 (0, 0))) (ds := []) #[false, false, false, false, false] (by kernel_rfl) rfl rfl ⟨BKg8.out, BKg3.out⟩ (fun hHeld => ?_)
            generalize World.drew _ = w17 at BKg2 BKg3 BKg7 BKg8 HFct2 HFct3 HFct5 HFct6 HFct8 HB hHeld ⊢
            refine take_ (i := 0) (N := some 40) (v := .agg ct6.toArray) (a' := ?_) #[true, false, false, false, false] rfl rfl (by kernel_rfl) (fun _ _ _ h => h) (yieldsIf_load_mid rfl 75 (.tmp 8) rfl g8 0 rfl ct6 _ (fun w' h => range_of_blk h.1) Try.underlying75 rfl (by rw [hlct6]; kernel_rfl)) hHeld ?_ ?_
            rotate_left
            · simp only [Act.put, List.setIfInBounds_toArray, List.set_cons_zero, List.set_cons_succ, i64_w, i32_w]
              rfl
            refine take_ (i := 1) (N := some 41) (v := .agg cs1.toArray) (a' := ?_) #[true, true, false, false, false] rfl rfl (by kernel_rfl) (fun _ _ _ h => h) (yieldsIf_load_mid rfl 84 (.tmp 3) rfl g3 0 rfl cs1 _ (fun w' h => range_of_blk h.2) Try.underlying84 rfl (by rw [hlcs1]; kernel_rfl)) hHeld ?_ ?_
            rotate_left
            · simp only [Act.put, List.setIfInBounds_toArray, List.set_cons_zero, List.set_cons_succ, i64_w, i32_w]
              rfl
            refine one_ (i := 2) (N := some 42) #[true, true, true, false, false] rfl rfl (by kernel_rfl) (by decide) (fun K hK => ?_)
            refine goes_ Try.func46 (by kernel_rfl) rfl #[.agg cs1.toArray] (by rfl) rfl rfl (by first | rfl | (simp only [List.map_toArray, List.map_cons, List.map_nil]; rfl)) ?_
            with_reducible refine Calls.mono (laws_toDevice_F k _ x1 t10 _ (FDeviceL_below HFcs1.out (by repeat (first | exact HB.out | apply below_alloc | apply pw_below_drewN | apply below_drew1))) At10.out) ?_
            rintro e w18 ⟨v_, rfl, hF, hb⟩
            obtain ⟨ct10, rfl, hlct10, hoct10⟩ := FDeviceI_cells hF
            refine ⟨_, rfl, ?_⟩
            have n0_ := Aside0.mk (blk_below (o := .cells cs0.toArray 84 (0, 0)) (by repeat (first | exact BKg2.out | refine blk_drewN ?_ _ | refine blk_drew ?_ | refine blk_alloc ?_ _)) hb)
            have n1_ := Aside0.mk (blk_below (o := .cells cs1.toArray 84 (0, 0)) (by repeat (first | exact BKg3.out | refine blk_drewN ?_ _ | refine blk_drew ?_ | refine blk_alloc ?_ _)) hb)
            have n2_ := Aside0.mk (blk_below (o := .cells ct5.toArray 75 (0, 0)) (by repeat (first | exact BKg7.out | refine blk_drewN ?_ _ | refine blk_drew ?_ | refine blk_alloc ?_ _)) hb)
            have n3_ := Aside0.mk (blk_below (o := .cells ct6.toArray 75 (0, 0)) (by repeat (first | exact BKg8.out | refine blk_drewN ?_ _ | refine blk_drew ?_ | refine blk_alloc ?_ _)) hb)
            have n4_ := Aside0.mk (FDeviceI_below (by repeat (first | exact HFct2.out | refine FDeviceI_alloc ?_ _ | refine FDeviceI_drewN ?_ _ | refine FDeviceI_drew ?_)) hb)
            have n5_ := Aside0.mk (FDeviceI_below (by repeat (first | exact HFct3.out | refine FDeviceI_alloc ?_ _ | refine FDeviceI_drewN ?_ _ | refine FDeviceI_drew ?_)) hb)
            have n6_ := Aside0.mk (FDeviceI_below (by repeat (first | exact HFct5.out | refine FDeviceI_alloc ?_ _ | refine FDeviceI_drewN ?_ _ | refine FDeviceI_drew ?_)) hb)
            have n7_ := Aside0.mk (FDeviceI_below (by repeat (first | exact HFct6.out | refine FDeviceI_alloc ?_ _ | refine FDeviceI_drewN ?_ _ | refine FDeviceI_drew ?_)) hb)
            have n8_ := Aside0.mk (FDeviceI_below (by repeat (first | exact HFct8.out | refine FDeviceI_alloc ?_ _ | refine FDeviceI_drewN ?_ _ | refine FDeviceI_drew ?_)) hb)
            have n9_ := Aside0.mk (below_step (by repeat (first | exact HB.out | apply below_alloc | apply pw_below_drewN | apply below_drew1)) hb)
            have n10_ := Aside0.mk (hF)
            clear BKg2
            clear BKg3
            clear BKg7
            clear BKg8
            clear HFct2
            clear HFct3
            clear HFct5
            clear HFct6
            clear HFct8
            clear HB
            have BKg2 := n0_
            have BKg3 := n1_
            have BKg7 := n2_
            have BKg8 := n3_
            have HFct2 := n4_
            have HFct3 := n5_
            have HFct5 := n6_
            have HFct6 := n7_
            have HFct8 := n8_
            have HB := n9_
            have HFct10 := n10_
            clear n0_ n1_ n2_ n3_ n4_ n5_ n6_ n7_ n8_ n9_ n10_
            (try clear hF)
            clear hb
            refine hK.out _ _ ⟨BKg8.out, BKg3.out⟩ (fun hHeld => ?_)
            clear hK K
            refine norm_ (a' := ?_) ?_ ?_
            rotate_left
            · show Act.put _ (some 42) _ = _
              simp only [Act.put, List.setIfInBounds_toArray, List.set_cons_zero, List.set_cons_succ, i64_w, i32_w]
              rfl
            refine one_ (i := 3) (N := some 43) #[true, true, true, true, false] rfl rfl (by kernel_rfl) (by decide) (fun K hK => ?_)
            refine goes_ Try.func41 (by kernel_rfl) rfl #[.agg ct6.toArray, .agg ct10.toArray] (by rfl) rfl rfl (by first | rfl | (simp only [List.map_toArray, List.map_cons, List.map_nil]; rfl)) ?_
            with_reducible refine Calls.mono (laws_eqDevice_F k _ t6 _ t10 false _ (by repeat (first | exact HFct6.out | refine FDeviceI_alloc ?_ _ | refine FDeviceI_drewN ?_ _ | refine FDeviceI_drew ?_)) (by repeat (first | exact HFct10.out | refine FDeviceI_alloc ?_ _ | refine FDeviceI_drewN ?_ _ | refine FDeviceI_drew ?_)) At11.out) ?_
            rintro e w19 ⟨rfl, hb⟩
            refine ⟨_, rfl, ?_⟩
            have n0_ := Aside0.mk (blk_below (o := .cells cs0.toArray 84 (0, 0)) (by repeat (first | exact BKg2.out | refine blk_drewN ?_ _ | refine blk_drew ?_ | refine blk_alloc ?_ _)) hb)
            have n1_ := Aside0.mk (blk_below (o := .cells cs1.toArray 84 (0, 0)) (by repeat (first | exact BKg3.out | refine blk_drewN ?_ _ | refine blk_drew ?_ | refine blk_alloc ?_ _)) hb)
            have n2_ := Aside0.mk (blk_below (o := .cells ct5.toArray 75 (0, 0)) (by repeat (first | exact BKg7.out | refine blk_drewN ?_ _ | refine blk_drew ?_ | refine blk_alloc ?_ _)) hb)
            have n3_ := Aside0.mk (blk_below (o := .cells ct6.toArray 75 (0, 0)) (by repeat (first | exact BKg8.out | refine blk_drewN ?_ _ | refine blk_drew ?_ | refine blk_alloc ?_ _)) hb)
            have n4_ := Aside0.mk (FDeviceI_below (by repeat (first | exact HFct2.out | refine FDeviceI_alloc ?_ _ | refine FDeviceI_drewN ?_ _ | refine FDeviceI_drew ?_)) hb)
            have n5_ := Aside0.mk (FDeviceI_below (by repeat (first | exact HFct3.out | refine FDeviceI_alloc ?_ _ | refine FDeviceI_drewN ?_ _ | refine FDeviceI_drew ?_)) hb)
            have n6_ := Aside0.mk (FDeviceI_below (by repeat (first | exact HFct5.out | refine FDeviceI_alloc ?_ _ | refine FDeviceI_drewN ?_ _ | refine FDeviceI_drew ?_)) hb)
            have n7_ := Aside0.mk (FDeviceI_below (by repeat (first | exact HFct6.out | refine FDeviceI_alloc ?_ _ | refine FDeviceI_drewN ?_ _ | refine FDeviceI_drew ?_)) hb)
            have n8_ := Aside0.mk (FDeviceI_below (by repeat (first | exact HFct8.out | refine FDeviceI_alloc ?_ _ | refine FDeviceI_drewN ?_ _ | refine FDeviceI_drew ?_)) hb)
            have n9_ := Aside0.mk (FDeviceI_below (by repeat (first | exact HFct10.out | refine FDeviceI_alloc ?_ _ | refine FDeviceI_drewN ?_ _ | refine FDeviceI_drew ?_)) hb)
            have n10_ := Aside0.mk (below_step (by repeat (first | exact HB.out | apply below_alloc | apply pw_below_drewN | apply below_drew1)) hb)
            clear BKg2
            clear BKg3
            clear BKg7
            clear BKg8
            clear HFct2
            clear HFct3
            clear HFct5
            clear HFct6
            clear HFct8
            clear HFct10
            clear HB
            have BKg2 := n0_
            have BKg3 := n1_
            have BKg7 := n2_
            have BKg8 := n3_
            have HFct2 := n4_
            have HFct3 := n5_
            have HFct5 := n6_
            have HFct6 := n7_
            have HFct8 := n8_
            have HFct10 := n9_
            have HB := n10_
            clear n0_ n1_ n2_ n3_ n4_ n5_ n6_ n7_ n8_ n9_ n10_
            (try clear hF)
            clear hb
            refine hK.out _ _ ⟨BKg8.out, BKg3.out⟩ (fun hHeld => ?_)
            clear hK K
            refine norm_ (a' := ?_) ?_ ?_
            rotate_left
            · show Act.put _ (some 43) _ = _
              simp only [Act.put, List.setIfInBounds_toArray, List.set_cons_zero, List.set_cons_succ, i64_w, i32_w]
              rfl
            refine pure_ (i := 4) (N := some 44) (v := ?_) (a' := ?_) #[true, true, true, true, true] rfl rfl (by kernel_rfl) (fun _ _ _ h => h) (Or.inl ⟨by rfl, ?_⟩) ?_ ?_
            rotate_left
            · intro w'
              go_simp
              with_reducible rfl
            rotate_left
            · simp only [Act.put, List.setIfInBounds_toArray, List.set_cons_zero, List.set_cons_succ, i64_w, i32_w]
              rfl
            refine done_ (by kernel_rfl) ?_
            try go_wp2
            go_ret
            exact ⟨by first | rfl | simp [*], (by repeat (first | exact HB.out | apply below_alloc | apply pw_below_drewN | apply below_drew1))⟩
        · rw [if_neg c3_] at H
          replace c3_ := Bool.eq_false_iff.2 c3_
          subst c3_
          obtain rfl := Option.some.inj H
          go_enter Try.func8, Try.ntmps8
          go_wp2_with (first | ((with_reducible refine gate_dst (N := 2) rfl ?_); refine box_event (cs := cs0.toArray) (t := 84) rfl (N := 2) rfl (by first | (go_simp; done) | (go_simp; rfl)) ?_; intro g2 hg w1 hbox hb; clear hg; have n0_ := Aside0.mk (below_step (by repeat (first | exact HB.out | apply below_alloc | apply pw_below_drewN | apply below_drew1)) hb); have n1_ := Aside0.mk (hbox); clear HB; have HB := n0_; have BKg2 := n1_; clear n0_ n1_; clear hb hbox; (try simp only [Act.put, List.setIfInBounds_toArray, List.set_cons_zero, List.set_cons_succ])) | ((with_reducible refine gate_dst (N := 3) rfl ?_); refine box_event (cs := cs1.toArray) (t := 84) rfl (N := 3) rfl (by first | (go_simp; done) | (go_simp; rfl)) ?_; intro g3 hg w2 hbox hb; clear hg; have n0_ := Aside0.mk (blk_below (o := .cells cs0.toArray 84 (0, 0)) (by repeat (first | exact BKg2.out | refine blk_drewN ?_ _ | refine blk_drew ?_ | refine blk_alloc ?_ _)) hb); have n1_ := Aside0.mk (below_step (by repeat (first | exact HB.out | apply below_alloc | apply pw_below_drewN | apply below_drew1)) hb); have n2_ := Aside0.mk (hbox); clear BKg2; clear HB; have BKg2 := n0_; have HB := n1_; have BKg3 := n2_; clear n0_ n1_ n2_; clear hb hbox; (try simp only [Act.put, List.setIfInBounds_toArray, List.set_cons_zero, List.set_cons_succ])) | ((with_reducible refine gate_dst (N := 10) rfl ?_); refine wpList_load_mid rfl 84 (.tmp 2) rfl g2 0 rfl cs0 _ (range_of_blk (by repeat (first | exact BKg2.out | refine blk_drewN ?_ _ | refine blk_drew ?_ | refine blk_alloc ?_ _))) Try.underlying84 rfl (by rw [hlcs0]; kernel_rfl) ?_; (try simp only [Act.put, List.setIfInBounds_toArray, List.set_cons_zero, List.set_cons_succ])) | ((with_reducible refine gate_dst (N := 12) rfl ?_); refine goesL_ (some 12) rfl rfl Try.func44 (by kernel_rfl) rfl #[.agg cs0.toArray, .int .i64 1048576] rfl (by first | rfl | (simp only [List.map_toArray, List.map_cons, List.map_nil]; rfl)) ?_; (with_reducible refine Calls.mono (laws_szDevice_F k _ x0 1048576 t0 _ (FDeviceL_below HFcs0.out (by repeat (first | exact HB.out | apply below_alloc | apply pw_below_drewN | apply below_drew1))) At0.out) ?_); rintro e w3 ⟨rfl, hb⟩; refine ⟨_, rfl, ?_⟩; have n0_ := Aside0.mk (blk_below (o := .cells cs0.toArray 84 (0, 0)) (by repeat (first | exact BKg2.out | refine blk_drewN ?_ _ | refine blk_drew ?_ | refine blk_alloc ?_ _)) hb); have n1_ := Aside0.mk (blk_below (o := .cells cs1.toArray 84 (0, 0)) (by repeat (first | exact BKg3.out | refine blk_drewN ?_ _ | refine blk_drew ?_ | refine blk_alloc ?_ _)) hb); have n2_ := Aside0.mk (below_step (by repeat (first | exact HB.out | apply below_alloc | apply pw_below_drewN | apply below_drew1)) hb); clear BKg2; clear BKg3; clear HB; have BKg2 := n0_; have BKg3 := n1_; have HB := n2_; clear n0_ n1_ n2_; (try clear hF); clear hb; (try simp only [Act.put, List.setIfInBounds_toArray, List.set_cons_zero, List.set_cons_succ])) | ((with_reducible refine gate_dst (N := 15) rfl ?_); refine wpList_load_mid rfl 84 (.tmp 3) rfl g3 0 rfl cs1 _ (range_of_blk (by repeat (first | exact BKg3.out | refine blk_drewN ?_ _ | refine blk_drew ?_ | refine blk_alloc ?_ _))) Try.underlying84 rfl (by rw [hlcs1]; kernel_rfl) ?_; (try simp only [Act.put, List.setIfInBounds_toArray, List.set_cons_zero, List.set_cons_succ])) | ((with_reducible refine gate_dst (N := 17) rfl ?_); refine goesL_ (some 17) rfl rfl Try.func44 (by kernel_rfl) rfl #[.agg cs1.toArray, .int .i64 t0] rfl (by first | rfl | (simp only [List.map_toArray, List.map_cons, List.map_nil]; rfl)) ?_; (with_reducible refine Calls.mono (laws_szDevice_F k _ x1 t0 t1 _ (FDeviceL_below HFcs1.out (by repeat (first | exact HB.out | apply below_alloc | apply pw_below_drewN | apply below_drew1))) At1.out) ?_); rintro e w4 ⟨rfl, hb⟩; refine ⟨_, rfl, ?_⟩; have n0_ := Aside0.mk (blk_below (o := .cells cs0.toArray 84 (0, 0)) (by repeat (first | exact BKg2.out | refine blk_drewN ?_ _ | refine blk_drew ?_ | refine blk_alloc ?_ _)) hb); have n1_ := Aside0.mk (blk_below (o := .cells cs1.toArray 84 (0, 0)) (by repeat (first | exact BKg3.out | refine blk_drewN ?_ _ | refine blk_drew ?_ | refine blk_alloc ?_ _)) hb); have n2_ := Aside0.mk (below_step (by repeat (first | exact HB.out | apply below_alloc | apply pw_below_drewN | apply below_drew1)) hb); clear BKg2; clear BKg3; clear HB; have BKg2 := n0_; have BKg3 := n1_; have HB := n2_; clear n0_ n1_ n2_; (try clear hF); clear hb; (try simp only [Act.put, List.setIfInBounds_toArray, List.set_cons_zero, List.set_cons_succ])))
          have n0_ := Aside0.mk (blk_drew (o := .cells cs0.toArray 84 (0, 0)) (by repeat (first | exact BKg2.out | refine blk_drewN ?_ _ | refine blk_drew ?_ | refine blk_alloc ?_ _)))
          have n1_ := Aside0.mk (blk_drew (o := .cells cs1.toArray 84 (0, 0)) (by repeat (first | exact BKg3.out | refine blk_drewN ?_ _ | refine blk_drew ?_ | refine blk_alloc ?_ _)))
          have n2_ := Aside0.mk (below_drew1 (by repeat (first | exact HB.out | apply below_alloc | apply pw_below_drewN | apply below_drew1)))
          clear BKg2 BKg3 HB
          have BKg2 := n0_
          have BKg3 := n1_
          have HB := n2_
          clear n0_ n1_ n2_
          refine start_ (n := 6) (S := fun w' => w'.heap[g2]? = some (.cells cs0.toArray 84 (0, 0)) ∧ w'.heap[g3]? = some (.cells cs1.toArray 84 (0, 0))) (ds := []) #[false, false, false, false, false, false] (by kernel_rfl) rfl rfl ⟨BKg2.out, BKg3.out⟩ (fun hHeld => ?_)
          generalize World.drew _ = w5 at BKg2 BKg3  HB hHeld ⊢
          refine take_ (i := 0) (N := some 20) (v := .agg cs0.toArray) (a' := ?_) #[true, false, false, false, false, false] rfl rfl (by kernel_rfl) (fun _ _ _ h => h) (yieldsIf_load_mid rfl 84 (.tmp 2) rfl g2 0 rfl cs0 _ (fun w' h => range_of_blk h.1) Try.underlying84 rfl (by rw [hlcs0]; kernel_rfl)) hHeld ?_ ?_
          rotate_left
          · simp only [Act.put, List.setIfInBounds_toArray, List.set_cons_zero, List.set_cons_succ, i64_w, i32_w]
            rfl
          refine take_ (i := 2) (N := some 22) (v := .agg cs1.toArray) (a' := ?_) #[true, false, true, false, false, false] rfl rfl (by kernel_rfl) (fun _ _ _ h => h) (yieldsIf_load_mid rfl 84 (.tmp 3) rfl g3 0 rfl cs1 _ (fun w' h => range_of_blk h.2) Try.underlying84 rfl (by rw [hlcs1]; kernel_rfl)) hHeld ?_ ?_
          rotate_left
          · simp only [Act.put, List.setIfInBounds_toArray, List.set_cons_zero, List.set_cons_succ, i64_w, i32_w]
            rfl
          refine one_ (i := 1) (N := some 21) #[true, true, true, false, false, false] rfl rfl (by kernel_rfl) (by decide) (fun K hK => ?_)
          refine goes_ Try.func46 (by kernel_rfl) rfl #[.agg cs0.toArray] (by rfl) rfl rfl (by first | rfl | (simp only [List.map_toArray, List.map_cons, List.map_nil]; rfl)) ?_
          with_reducible refine Calls.mono (laws_toDevice_F k _ x0 t2 _ (FDeviceL_below HFcs0.out (by repeat (first | exact HB.out | apply below_alloc | apply pw_below_drewN | apply below_drew1))) At2.out) ?_
          rintro e w6 ⟨v_, rfl, hF, hb⟩
          obtain ⟨ct2, rfl, hlct2, hoct2⟩ := FDeviceI_cells hF
          refine ⟨_, rfl, ?_⟩
          have n0_ := Aside0.mk (blk_below (o := .cells cs0.toArray 84 (0, 0)) (by repeat (first | exact BKg2.out | refine blk_drewN ?_ _ | refine blk_drew ?_ | refine blk_alloc ?_ _)) hb)
          have n1_ := Aside0.mk (blk_below (o := .cells cs1.toArray 84 (0, 0)) (by repeat (first | exact BKg3.out | refine blk_drewN ?_ _ | refine blk_drew ?_ | refine blk_alloc ?_ _)) hb)
          have n2_ := Aside0.mk (below_step (by repeat (first | exact HB.out | apply below_alloc | apply pw_below_drewN | apply below_drew1)) hb)
          have n3_ := Aside0.mk (hF)
          clear BKg2
          clear BKg3
          clear HB
          have BKg2 := n0_
          have BKg3 := n1_
          have HB := n2_
          have HFct2 := n3_
          clear n0_ n1_ n2_ n3_
          (try clear hF)
          clear hb
          refine hK.out _ _ ⟨BKg2.out, BKg3.out⟩ (fun hHeld => ?_)
          clear hK K
          refine norm_ (a' := ?_) ?_ ?_
          rotate_left
          · show Act.put _ (some 21) _ = _
            simp only [Act.put, List.setIfInBounds_toArray, List.set_cons_zero, List.set_cons_succ, i64_w, i32_w]
            rfl
          refine one_ (i := 3) (N := some 23) #[true, true, true, true, false, false] rfl rfl (by kernel_rfl) (by decide) (fun K hK => ?_)
          refine goes_ Try.func46 (by kernel_rfl) rfl #[.agg cs1.toArray] (by rfl) rfl rfl (by first | rfl | (simp only [List.map_toArray, List.map_cons, List.map_nil]; rfl)) ?_
          with_reducible refine Calls.mono (laws_toDevice_F k _ x1 t3 _ (FDeviceL_below HFcs1.out (by repeat (first | exact HB.out | apply below_alloc | apply pw_below_drewN | apply below_drew1))) At3.out) ?_
          rintro e w7 ⟨v_, rfl, hF, hb⟩
          obtain ⟨ct3, rfl, hlct3, hoct3⟩ := FDeviceI_cells hF
          refine ⟨_, rfl, ?_⟩
          have n0_ := Aside0.mk (blk_below (o := .cells cs0.toArray 84 (0, 0)) (by repeat (first | exact BKg2.out | refine blk_drewN ?_ _ | refine blk_drew ?_ | refine blk_alloc ?_ _)) hb)
          have n1_ := Aside0.mk (blk_below (o := .cells cs1.toArray 84 (0, 0)) (by repeat (first | exact BKg3.out | refine blk_drewN ?_ _ | refine blk_drew ?_ | refine blk_alloc ?_ _)) hb)
          have n2_ := Aside0.mk (FDeviceI_below (by repeat (first | exact HFct2.out | refine FDeviceI_alloc ?_ _ | refine FDeviceI_drewN ?_ _ | refine FDeviceI_drew ?_)) hb)
          have n3_ := Aside0.mk (below_step (by repeat (first | exact HB.out | apply below_alloc | apply pw_below_drewN | apply below_drew1)) hb)
          have n4_ := Aside0.mk (hF)
          clear BKg2
          clear BKg3
          clear HFct2
          clear HB
          have BKg2 := n0_
          have BKg3 := n1_
          have HFct2 := n2_
          have HB := n3_
          have HFct3 := n4_
          clear n0_ n1_ n2_ n3_ n4_
          (try clear hF)
          clear hb
          refine hK.out _ _ ⟨BKg2.out, BKg3.out⟩ (fun hHeld => ?_)
          clear hK K
          refine norm_ (a' := ?_) ?_ ?_
          rotate_left
          · show Act.put _ (some 23) _ = _
            simp only [Act.put, List.setIfInBounds_toArray, List.set_cons_zero, List.set_cons_succ, i64_w, i32_w]
            rfl
          refine one_ (i := 4) (N := some 24) #[true, true, true, true, true, false] rfl rfl (by kernel_rfl) (by decide) (fun K hK => ?_)
          refine goes_ Try.func45 (by kernel_rfl) rfl #[.agg ct2.toArray, .agg ct3.toArray] (by rfl) rfl rfl (by first | rfl | (simp only [List.map_toArray, List.map_cons, List.map_nil]; rfl)) ?_
          with_reducible refine Calls.mono (spec_SameDevice_F k _ t2 _ t3 t4 _ (by repeat (first | exact HFct2.out | refine FDeviceI_alloc ?_ _ | refine FDeviceI_drewN ?_ _ | refine FDeviceI_drew ?_)) (by repeat (first | exact HFct3.out | refine FDeviceI_alloc ?_ _ | refine FDeviceI_drewN ?_ _ | refine FDeviceI_drew ?_)) At4.out) ?_
          rintro e w8 ⟨rfl, hb⟩
          refine ⟨_, rfl, ?_⟩
          have n0_ := Aside0.mk (blk_below (o := .cells cs0.toArray 84 (0, 0)) (by repeat (first | exact BKg2.out | refine blk_drewN ?_ _ | refine blk_drew ?_ | refine blk_alloc ?_ _)) hb)
          have n1_ := Aside0.mk (blk_below (o := .cells cs1.toArray 84 (0, 0)) (by repeat (first | exact BKg3.out | refine blk_drewN ?_ _ | refine blk_drew ?_ | refine blk_alloc ?_ _)) hb)
          have n2_ := Aside0.mk (FDeviceI_below (by repeat (first | exact HFct2.out | refine FDeviceI_alloc ?_ _ | refine FDeviceI_drewN ?_ _ | refine FDeviceI_drew ?_)) hb)
          have n3_ := Aside0.mk (FDeviceI_below (by repeat (first | exact HFct3.out | refine FDeviceI_alloc ?_ _ | refine FDeviceI_drewN ?_ _ | refine FDeviceI_drew ?_)) hb)
          have n4_ := Aside0.mk (below_step (by repeat (first | exact HB.out | apply below_alloc | apply pw_below_drewN | apply below_drew1)) hb)
          clear BKg2
          clear BKg3
          clear HFct2
          clear HFct3
          clear HB
          have BKg2 := n0_
          have BKg3 := n1_
          have HFct2 := n2_
          have HFct3 := n3_
          have HB := n4_
          clear n0_ n1_ n2_ n3_ n4_
          (try clear hF)
          clear hb
          refine hK.out _ _ ⟨BKg2.out, BKg3.out⟩ (fun hHeld => ?_)
          clear hK K
          refine norm_ (a' := ?_) ?_ ?_
          rotate_left
          · show Act.put _ (some 24) _ = _
            simp only [Act.put, List.setIfInBounds_toArray, List.set_cons_zero, List.set_cons_succ, i64_w, i32_w]
            rfl
          refine pure_ (i := 5) (N := some 6) (v := ?_) (a' := ?_) #[true, true, true, true, true, true] rfl rfl (by kernel_rfl) (fun _ _ _ h => h) (Or.inl ⟨by rfl, ?_⟩) ?_ ?_
          rotate_left
          · intro w'
            go_simp
            with_reducible rfl
          rotate_left
          · simp only [Act.put, List.setIfInBounds_toArray, List.set_cons_zero, List.set_cons_succ, i64_w, i32_w]
            rfl
          refine done_ (by kernel_rfl) ?_
          go_wp2_with (first | ((with_reducible refine gate_dst (N := 25) rfl ?_); refine wpList_load_mid rfl 84 (.tmp 2) rfl g2 0 rfl cs0 _ (range_of_blk (by repeat (first | exact BKg2.out | refine blk_drewN ?_ _ | refine blk_drew ?_ | refine blk_alloc ?_ _))) Try.underlying84 rfl (by rw [hlcs0]; kernel_rfl) ?_; (try simp only [Act.put, List.setIfInBounds_toArray, List.set_cons_zero, List.set_cons_succ])) | ((with_reducible refine gate_dst (N := 26) rfl ?_); refine goesL_ (some 26) rfl rfl Try.func46 (by kernel_rfl) rfl #[.agg cs0.toArray] rfl (by first | rfl | (simp only [List.map_toArray, List.map_cons, List.map_nil]; rfl)) ?_; (with_reducible refine Calls.mono (laws_toDevice_F k _ x0 t5 _ (FDeviceL_below HFcs0.out (by repeat (first | exact HB.out | apply below_alloc | apply pw_below_drewN | apply below_drew1))) At5.out) ?_); rintro e w9 ⟨v_, rfl, hF, hb⟩; obtain ⟨ct5, rfl, hlct5, hoct5⟩ := FDeviceI_cells hF; refine ⟨_, rfl, ?_⟩; have n0_ := Aside0.mk (blk_below (o := .cells cs0.toArray 84 (0, 0)) (by repeat (first | exact BKg2.out | refine blk_drewN ?_ _ | refine blk_drew ?_ | refine blk_alloc ?_ _)) hb); have n1_ := Aside0.mk (blk_below (o := .cells cs1.toArray 84 (0, 0)) (by repeat (first | exact BKg3.out | refine blk_drewN ?_ _ | refine blk_drew ?_ | refine blk_alloc ?_ _)) hb); have n2_ := Aside0.mk (FDeviceI_below (by repeat (first | exact HFct2.out | refine FDeviceI_alloc ?_ _ | refine FDeviceI_drewN ?_ _ | refine FDeviceI_drew ?_)) hb); have n3_ := Aside0.mk (FDeviceI_below (by repeat (first | exact HFct3.out | refine FDeviceI_alloc ?_ _ | refine FDeviceI_drewN ?_ _ | refine FDeviceI_drew ?_)) hb); have n4_ := Aside0.mk (below_step (by repeat (first | exact HB.out | apply below_alloc | apply pw_below_drewN | apply below_drew1)) hb); have n5_ := Aside0.mk (hF); clear BKg2; clear BKg3; clear HFct2; clear HFct3; clear HB; have BKg2 := n0_; have BKg3 := n1_; have HFct2 := n2_; have HFct3 := n3_; have HB := n4_; have HFct5 := n5_; clear n0_ n1_ n2_ n3_ n4_ n5_; (try clear hF); clear hb; (try simp only [Act.put, List.setIfInBounds_toArray, List.set_cons_zero, List.set_cons_succ])) | ((with_reducible refine gate_dst (N := 7) rfl ?_); refine alloc_store_event 7 75 _ rfl rfl rfl rfl rfl (cs := ct5) rfl rfl hoct5 (by rw [hlct5]; exact hz75) (by rw [hlct5]; exact hzc75) ?_; intro g7 hg w10 hbox hb; clear hg; have n0_ := Aside0.mk (blk_below (o := .cells cs0.toArray 84 (0, 0)) (by repeat (first | exact BKg2.out | refine blk_drewN ?_ _ | refine blk_drew ?_ | refine blk_alloc ?_ _)) hb); have n1_ := Aside0.mk (blk_below (o := .cells cs1.toArray 84 (0, 0)) (by repeat (first | exact BKg3.out | refine blk_drewN ?_ _ | refine blk_drew ?_ | refine blk_alloc ?_ _)) hb); have n2_ := Aside0.mk (FDeviceI_below (by repeat (first | exact HFct2.out | refine FDeviceI_alloc ?_ _ | refine FDeviceI_drewN ?_ _ | refine FDeviceI_drew ?_)) hb); have n3_ := Aside0.mk (FDeviceI_below (by repeat (first | exact HFct3.out | refine FDeviceI_alloc ?_ _ | refine FDeviceI_drewN ?_ _ | refine FDeviceI_drew ?_)) hb); have n4_ := Aside0.mk (FDeviceI_below (by repeat (first | exact HFct5.out | refine FDeviceI_alloc ?_ _ | refine FDeviceI_drewN ?_ _ | refine FDeviceI_drew ?_)) hb); have n5_ := Aside0.mk (below_step (by repeat (first | exact HB.out | apply below_alloc | apply pw_below_drewN | apply below_drew1)) hb); have n6_ := Aside0.mk (hbox); clear BKg2; clear BKg3; clear HFct2; clear HFct3; clear HFct5; clear HB; have BKg2 := n0_; have BKg3 := n1_; have HFct2 := n2_; have HFct3 := n3_; have HFct5 := n4_; have HB := n5_; have BKg7 := n6_; clear n0_ n1_ n2_ n3_ n4_ n5_ n6_; clear hb hbox; (try simp only [Act.put, List.setIfInBounds_toArray, List.set_cons_zero, List.set_cons_succ])) | ((with_reducible refine gate_dst (N := 27) rfl ?_); refine wpList_load_mid rfl 84 (.tmp 3) rfl g3 0 rfl cs1 _ (range_of_blk (by repeat (first | exact BKg3.out | refine blk_drewN ?_ _ | refine blk_drew ?_ | refine blk_alloc ?_ _))) Try.underlying84 rfl (by rw [hlcs1]; kernel_rfl) ?_; (try simp only [Act.put, List.setIfInBounds_toArray, List.set_cons_zero, List.set_cons_succ])) | ((with_reducible refine gate_dst (N := 28) rfl ?_); refine goesL_ (some 28) rfl rfl Try.func46 (by kernel_rfl) rfl #[.agg cs1.toArray] rfl (by first | rfl | (simp only [List.map_toArray, List.map_cons, List.map_nil]; rfl)) ?_; (with_reducible refine Calls.mono (laws_toDevice_F k _ x1 t6 _ (FDeviceL_below HFcs1.out (by repeat (first | exact HB.out | apply below_alloc | apply pw_below_drewN | apply below_drew1))) At6.out) ?_); rintro e w11 ⟨v_, rfl, hF, hb⟩; obtain ⟨ct6, rfl, hlct6, hoct6⟩ := FDeviceI_cells hF; refine ⟨_, rfl, ?_⟩; have n0_ := Aside0.mk (blk_below (o := .cells cs0.toArray 84 (0, 0)) (by repeat (first | exact BKg2.out | refine blk_drewN ?_ _ | refine blk_drew ?_ | refine blk_alloc ?_ _)) hb); have n1_ := Aside0.mk (blk_below (o := .cells cs1.toArray 84 (0, 0)) (by repeat (first | exact BKg3.out | refine blk_drewN ?_ _ | refine blk_drew ?_ | refine blk_alloc ?_ _)) hb); have n2_ := Aside0.mk (blk_below (o := .cells ct5.toArray 75 (0, 0)) (by repeat (first | exact BKg7.out | refine blk_drewN ?_ _ | refine blk_drew ?_ | refine blk_alloc ?_ _)) hb); have n3_ := Aside0.mk (FDeviceI_below (by repeat (first | exact HFct2.out | refine FDeviceI_alloc ?_ _ | refine FDeviceI_drewN ?_ _ | refine FDeviceI_drew ?_)) hb); have n4_ := Aside0.mk (FDeviceI_below (by repeat (first | exact HFct3.out | refine FDeviceI_alloc ?_ _ | refine FDeviceI_drewN ?_ _ | refine FDeviceI_drew ?_)) hb); have n5_ := Aside0.mk (FDeviceI_below (by repeat (first | exact HFct5.out | refine FDeviceI_alloc ?_ _ | refine FDeviceI_drewN ?_ _ | refine FDeviceI_drew ?_)) hb); have n6_ := Aside0.mk (below_step (by repeat (first | exact HB.out | apply below_alloc | apply pw_below_drewN | apply below_drew1)) hb); have n7_ := Aside0.mk (hF); clear BKg2; clear BKg3; clear BKg7; clear HFct2; clear HFct3; clear HFct5; clear HB; have BKg2 := n0_; have BKg3 := n1_; have BKg7 := n2_; have HFct2 := n3_; have HFct3 := n4_; have HFct5 := n5_; have HB := n6_; have HFct6 := n7_; clear n0_ n1_ n2_ n3_ n4_ n5_ n6_ n7_; (try clear hF); clear hb; (try simp only [Act.put, List.setIfInBounds_toArray, List.set_cons_zero, List.set_cons_succ])) | ((with_reducible refine gate_dst (N := 8) rfl ?_); refine alloc_store_event 8 75 _ rfl rfl rfl rfl rfl (cs := ct6) rfl rfl hoct6 (by rw [hlct6]; exact hz75) (by rw [hlct6]; exact hzc75) ?_; intro g8 hg w12 hbox hb; clear hg; have n0_ := Aside0.mk (blk_below (o := .cells cs0.toArray 84 (0, 0)) (by repeat (first | exact BKg2.out | refine blk_drewN ?_ _ | refine blk_drew ?_ | refine blk_alloc ?_ _)) hb); have n1_ := Aside0.mk (blk_below (o := .cells cs1.toArray 84 (0, 0)) (by repeat (first | exact BKg3.out | refine blk_drewN ?_ _ | refine blk_drew ?_ | refine blk_alloc ?_ _)) hb); have n2_ := Aside0.mk (blk_below (o := .cells ct5.toArray 75 (0, 0)) (by repeat (first | exact BKg7.out | refine blk_drewN ?_ _ | refine blk_drew ?_ | refine blk_alloc ?_ _)) hb); have n3_ := Aside0.mk (FDeviceI_below (by repeat (first | exact HFct2.out | refine FDeviceI_alloc ?_ _ | refine FDeviceI_drewN ?_ _ | refine FDeviceI_drew ?_)) hb); have n4_ := Aside0.mk (FDeviceI_below (by repeat (first | exact HFct3.out | refine FDeviceI_alloc ?_ _ | refine FDeviceI_drewN ?_ _ | refine FDeviceI_drew ?_)) hb); have n5_ := Aside0.mk (FDeviceI_below (by repeat (first | exact HFct5.out | refine FDeviceI_alloc ?_ _ | refine FDeviceI_drewN ?_ _ | refine FDeviceI_drew ?_)) hb); have n6_ := Aside0.mk (FDeviceI_below (by repeat (first | exact HFct6.out | refine FDeviceI_alloc ?_ _ | refine FDeviceI_drewN ?_ _ | refine FDeviceI_drew ?_)) hb); have n7_ := Aside0.mk (below_step (by repeat (first | exact HB.out | apply below_alloc | apply pw_below_drewN | apply below_drew1)) hb); have n8_ := Aside0.mk (hbox); clear BKg2; clear BKg3; clear BKg7; clear HFct2; clear HFct3; clear HFct5; clear HFct6; clear HB; have BKg2 := n0_; have BKg3 := n1_; have BKg7 := n2_; have HFct2 := n3_; have HFct3 := n4_; have HFct5 := n5_; have HFct6 := n6_; have HB := n7_; have BKg8 := n8_; clear n0_ n1_ n2_ n3_ n4_ n5_ n6_ n7_ n8_; clear hb hbox; (try simp only [Act.put, List.setIfInBounds_toArray, List.set_cons_zero, List.set_cons_succ])) | ((with_reducible refine gate_dst (N := 29) rfl ?_); refine wpList_load_mid rfl 75 (.tmp 7) rfl g7 0 rfl ct5 _ (range_of_blk (by repeat (first | exact BKg7.out | refine blk_drewN ?_ _ | refine blk_drew ?_ | refine blk_alloc ?_ _))) Try.underlying75 rfl (by rw [hlct5]; kernel_rfl) ?_; (try simp only [Act.put, List.setIfInBounds_toArray, List.set_cons_zero, List.set_cons_succ])) | ((with_reducible refine gate_dst (N := 30) rfl ?_); refine wpList_load_mid rfl 75 (.tmp 8) rfl g8 0 rfl ct6 _ (range_of_blk (by repeat (first | exact BKg8.out | refine blk_drewN ?_ _ | refine blk_drew ?_ | refine blk_alloc ?_ _))) Try.underlying75 rfl (by rw [hlct6]; kernel_rfl) ?_; (try simp only [Act.put, List.setIfInBounds_toArray, List.set_cons_zero, List.set_cons_succ])) | ((with_reducible refine gate_dst (N := 31) rfl ?_); refine goesL_ (some 31) rfl rfl Try.func47 (by kernel_rfl) rfl #[.agg ct5.toArray, .agg ct6.toArray] rfl (by first | rfl | (simp only [List.map_toArray, List.map_cons, List.map_nil]; rfl)) ?_; (with_reducible refine Calls.mono (impl_SameDevice_F _ t5 _ t6 t7 _ (by repeat (first | exact HFct5.out | refine FDeviceI_alloc ?_ _ | refine FDeviceI_drewN ?_ _ | refine FDeviceI_drew ?_)) (by repeat (first | exact HFct6.out | refine FDeviceI_alloc ?_ _ | refine FDeviceI_drewN ?_ _ | refine FDeviceI_drew ?_)) At7.out) ?_); rintro e w13 ⟨rfl, hb⟩; refine ⟨_, rfl, ?_⟩; have n0_ := Aside0.mk (blk_below (o := .cells cs0.toArray 84 (0, 0)) (by repeat (first | exact BKg2.out | refine blk_drewN ?_ _ | refine blk_drew ?_ | refine blk_alloc ?_ _)) hb); have n1_ := Aside0.mk (blk_below (o := .cells cs1.toArray 84 (0, 0)) (by repeat (first | exact BKg3.out | refine blk_drewN ?_ _ | refine blk_drew ?_ | refine blk_alloc ?_ _)) hb); have n2_ := Aside0.mk (blk_below (o := .cells ct5.toArray 75 (0, 0)) (by repeat (first | exact BKg7.out | refine blk_drewN ?_ _ | refine blk_drew ?_ | refine blk_alloc ?_ _)) hb); have n3_ := Aside0.mk (blk_below (o := .cells ct6.toArray 75 (0, 0)) (by repeat (first | exact BKg8.out | refine blk_drewN ?_ _ | refine blk_drew ?_ | refine blk_alloc ?_ _)) hb); have n4_ := Aside0.mk (FDeviceI_below (by repeat (first | exact HFct2.out | refine FDeviceI_alloc ?_ _ | refine FDeviceI_drewN ?_ _ | refine FDeviceI_drew ?_)) hb); have n5_ := Aside0.mk (FDeviceI_below (by repeat (first | exact HFct3.out | refine FDeviceI_alloc ?_ _ | refine FDeviceI_drewN ?_ _ | refine FDeviceI_drew ?_)) hb); have n6_ := Aside0.mk (FDeviceI_below (by repeat (first | exact HFct5.out | refine FDeviceI_alloc ?_ _ | refine FDeviceI_drewN ?_ _ | refine FDeviceI_drew ?_)) hb); have n7_ := Aside0.mk (FDeviceI_below (by repeat (first | exact HFct6.out | refine FDeviceI_alloc ?_ _ | refine FDeviceI_drewN ?_ _ | refine FDeviceI_drew ?_)) hb); have n8_ := Aside0.mk (below_step (by repeat (first | exact HB.out | apply below_alloc | apply pw_below_drewN | apply below_drew1)) hb); clear BKg2; clear BKg3; clear BKg7; clear BKg8; clear HFct2; clear HFct3; clear HFct5; clear HFct6; clear HB; have BKg2 := n0_; have BKg3 := n1_; have BKg7 := n2_; have BKg8 := n3_; have HFct2 := n4_; have HFct3 := n5_; have HFct5 := n6_; have HFct6 := n7_; have HB := n8_; clear n0_ n1_ n2_ n3_ n4_ n5_ n6_ n7_ n8_; (try clear hF); clear hb; (try simp only [Act.put, List.setIfInBounds_toArray, List.set_cons_zero, List.set_cons_succ])))
          have n0_ := Aside0.mk (blk_drew (o := .cells cs0.toArray 84 (0, 0)) (by repeat (first | exact BKg2.out | refine blk_drewN ?_ _ | refine blk_drew ?_ | refine blk_alloc ?_ _)))
          have n1_ := Aside0.mk (blk_drew (o := .cells cs1.toArray 84 (0, 0)) (by repeat (first | exact BKg3.out | refine blk_drewN ?_ _ | refine blk_drew ?_ | refine blk_alloc ?_ _)))
          have n2_ := Aside0.mk (blk_drew (o := .cells ct5.toArray 75 (0, 0)) (by repeat (first | exact BKg7.out | refine blk_drewN ?_ _ | refine blk_drew ?_ | refine blk_alloc ?_ _)))
          have n3_ := Aside0.mk (blk_drew (o := .cells ct6.toArray 75 (0, 0)) (by repeat (first | exact BKg8.out | refine blk_drewN ?_ _ | refine blk_drew ?_ | refine blk_alloc ?_ _)))
          have n4_ := Aside0.mk (FDeviceI_drew (by repeat (first | exact HFct2.out | refine FDeviceI_alloc ?_ _ | refine FDeviceI_drewN ?_ _ | refine FDeviceI_drew ?_)))
          have n5_ := Aside0.mk (FDeviceI_drew (by repeat (first | exact HFct3.out | refine FDeviceI_alloc ?_ _ | refine FDeviceI_drewN ?_ _ | refine FDeviceI_drew ?_)))
          have n6_ := Aside0.mk (FDeviceI_drew (by repeat (first | exact HFct5.out | refine FDeviceI_alloc ?_ _ | refine FDeviceI_drewN ?_ _ | refine FDeviceI_drew ?_)))
          have n7_ := Aside0.mk (FDeviceI_drew (by repeat (first | exact HFct6.out | refine FDeviceI_alloc ?_ _ | refine FDeviceI_drewN ?_ _ | refine FDeviceI_drew ?_)))
          have n8_ := Aside0.mk (below_drew1 (by repeat (first | exact HB.out | apply below_alloc | apply pw_below_drewN | apply below_drew1)))
          clear BKg2 BKg3 BKg7 BKg8 HFct2 HFct3 HFct5 HFct6 HB
          have BKg2 := n0_
          have BKg3 := n1_
          have BKg7 := n2_
          have BKg8 := n3_
          have HFct2 := n4_
          have HFct3 := n5_
          have HFct5 := n6_
          have HFct6 := n7_
          have HB := n8_
          clear n0_ n1_ n2_ n3_ n4_ n5_ n6_ n7_ n8_
          refine start_ (n := 5) (S := fun w' => w'.heap[g7]? = some (.cells ct5.toArray 75 (0, 0)) ∧ w'.heap[g2]? = some (.cells cs0.toArray 84 (0, 0))) (ds := []) #[false, false, false, false, false] (by kernel_rfl) rfl rfl ⟨BKg7.out, BKg2.out⟩ (fun hHeld => ?_)
          generalize World.drew _ = w14 at BKg2 BKg3 BKg7 BKg8 HFct2 HFct3 HFct5 HFct6 HB hHeld ⊢
          refine take_ (i := 0) (N := some 35) (v := .agg ct5.toArray) (a' := ?_) #[true, false, false, false, false] rfl rfl (by kernel_rfl) (fun _ _ _ h => h) (yieldsIf_load_mid rfl 75 (.tmp 7) rfl g7 0 rfl ct5 _ (fun w' h => range_of_blk h.1) Try.underlying75 rfl (by rw [hlct5]; kernel_rfl)) hHeld ?_ ?_
          rotate_left
          · simp only [Act.put, List.setIfInBounds_toArray, List.set_cons_zero, List.set_cons_succ, i64_w, i32_w]
            rfl
          refine take_ (i := 1) (N := some 36) (v := .agg cs0.toArray) (a' := ?_) #[true, true, false, false, false] rfl rfl (by kernel_rfl) (fun _ _ _ h => h) (yieldsIf_load_mid rfl 84 (.tmp 2) rfl g2 0 rfl cs0 _ (fun w' h => range_of_blk h.2) Try.underlying84 rfl (by rw [hlcs0]; kernel_rfl)) hHeld ?_ ?_
          rotate_left
          · simp only [Act.put, List.setIfInBounds_toArray, List.set_cons_zero, List.set_cons_succ, i64_w, i32_w]
            rfl
          refine one_ (i := 2) (N := some 37) #[true, true, true, false, false] rfl rfl (by kernel_rfl) (by decide) (fun K hK => ?_)
          refine goes_ Try.func46 (by kernel_rfl) rfl #[.agg cs0.toArray] (by rfl) rfl rfl (by first | rfl | (simp only [List.map_toArray, List.map_cons, List.map_nil]; rfl)) ?_
          with_reducible refine Calls.mono (laws_toDevice_F k _ x0 t8 _ (FDeviceL_below HFcs0.out (by repeat (first | exact HB.out | apply below_alloc | apply pw_below_drewN | apply below_drew1))) At8.out) ?_
          rintro e w15 ⟨v_, rfl, hF, hb⟩
          obtain ⟨ct8, rfl, hlct8, hoct8⟩ := FDeviceI_cells hF
          refine ⟨_, rfl, ?_⟩
          have n0_ := Aside0.mk (blk_below (o := .cells cs0.toArray 84 (0, 0)) (by repeat (first | exact BKg2.out | refine blk_drewN ?_ _ | refine blk_drew ?_ | refine blk_alloc ?_ _)) hb)
          have n1_ := Aside0.mk (blk_below (o := .cells cs1.toArray 84 (0, 0)) (by repeat (first | exact BKg3.out | refine blk_drewN ?_ _ | refine blk_drew ?_ | refine blk_alloc ?_ _)) hb)
          have n2_ := Aside0.mk (blk_below (o := .cells ct5.toArray 75 (0, 0)) (by repeat (first | exact BKg7.out | refine blk_drewN ?_ _ | refine blk_drew ?_ | refine blk_alloc ?_ _)) hb)
          have n3_ := Aside0.mk (blk_below (o := .cells ct6.toArray 75 (0, 0)) (by repeat (first | exact BKg8.out | refine blk_drewN ?_ _ | refine blk_drew ?_ | refine blk_alloc ?_ _)) hb)
          have n4_ := Aside0.mk (FDeviceI_below (by repeat (first | exact HFct2.out | refine FDeviceI_alloc ?_ _ | refine FDeviceI_drewN ?_ _ | refine FDeviceI_drew ?_)) hb)
          have n5_ := Aside0.mk (FDeviceI_below (by repeat (first | exact HFct3.out | refine FDeviceI_alloc ?_ _ | refine FDeviceI_drewN ?_ _ | refine FDeviceI_drew ?_)) hb)
          have n6_ := Aside0.mk (FDeviceI_below (by repeat (first | exact HFct5.out | refine FDeviceI_alloc ?_ _ | refine FDeviceI_drewN ?_ _ | refine FDeviceI_drew ?_)) hb)
          have n7_ := Aside0.mk (FDeviceI_below (by repeat (first | exact HFct6.out | refine FDeviceI_alloc ?_ _ | refine FDeviceI_drewN ?_ _ | refine FDeviceI_drew ?_)) hb)
          have n8_ := Aside0.mk (below_step (by repeat (first | exact HB.out | apply below_alloc | apply pw_below_drewN | apply below_drew1)) hb)
          have n9_ := Aside0.mk (hF)
          clear BKg2
          clear BKg3
          clear BKg7
          clear BKg8
          clear HFct2
          clear HFct3
          clear HFct5
          clear HFct6
          clear HB
          have BKg2 := n0_
          have BKg3 := n1_
          have BKg7 := n2_
          have BKg8 := n3_
          have HFct2 := n4_
          have HFct3 := n5_
          have HFct5 := n6_
          have HFct6 := n7_
          have HB := n8_
          have HFct8 := n9_
          clear n0_ n1_ n2_ n3_ n4_ n5_ n6_ n7_ n8_ n9_
          (try clear hF)
          clear hb
          refine hK.out _ _ ⟨BKg7.out, BKg2.out⟩ (fun hHeld => ?_)
          clear hK K
          refine norm_ (a' := ?_) ?_ ?_
          rotate_left
          · show Act.put _ (some 37) _ = _
            simp only [Act.put, List.setIfInBounds_toArray, List.set_cons_zero, List.set_cons_succ, i64_w, i32_w]
            rfl
          refine one_ (i := 3) (N := some 38) #[true, true, true, true, false] rfl rfl (by kernel_rfl) (by decide) (fun K hK => ?_)
          refine goes_ Try.func41 (by kernel_rfl) rfl #[.agg ct5.toArray, .agg ct8.toArray] (by rfl) rfl rfl (by first | rfl | (simp only [List.map_toArray, List.map_cons, List.map_nil]; rfl)) ?_
          with_reducible refine Calls.mono (laws_eqDevice_F k _ t5 _ t8 false _ (by repeat (first | exact HFct5.out | refine FDeviceI_alloc ?_ _ | refine FDeviceI_drewN ?_ _ | refine FDeviceI_drew ?_)) (by repeat (first | exact HFct8.out | refine FDeviceI_alloc ?_ _ | refine FDeviceI_drewN ?_ _ | refine FDeviceI_drew ?_)) At9.out) ?_
          rintro e w16 ⟨rfl, hb⟩
          refine ⟨_, rfl, ?_⟩
          have n0_ := Aside0.mk (blk_below (o := .cells cs0.toArray 84 (0, 0)) (by repeat (first | exact BKg2.out | refine blk_drewN ?_ _ | refine blk_drew ?_ | refine blk_alloc ?_ _)) hb)
          have n1_ := Aside0.mk (blk_below (o := .cells cs1.toArray 84 (0, 0)) (by repeat (first | exact BKg3.out | refine blk_drewN ?_ _ | refine blk_drew ?_ | refine blk_alloc ?_ _)) hb)
          have n2_ := Aside0.mk (blk_below (o := .cells ct5.toArray 75 (0, 0)) (by repeat (first | exact BKg7.out | refine blk_drewN ?_ _ | refine blk_drew ?_ | refine blk_alloc ?_ _)) hb)
          have n3_ := Aside0.mk (blk_below (o := .cells ct6.toArray 75 (0, 0)) (by repeat (first | exact BKg8.out | refine blk_drewN ?_ _ | refine blk_drew ?_ | refine blk_alloc ?_ _)) hb)
          have n4_ := Aside0.mk (FDeviceI_below (by repeat (first | exact HFct2.out | refine FDeviceI_alloc ?_ _ | refine FDeviceI_drewN ?_ _ | refine FDeviceI_drew ?_)) hb)
          have n5_ := Aside0.mk (FDeviceI_below (by repeat (first | exact HFct3.out | refine FDeviceI_alloc ?_ _ | refine FDeviceI_drewN ?_ _ | refine FDeviceI_drew ?_)) hb)
          have n6_ := Aside0.mk (FDeviceI_below (by repeat (first | exact HFct5.out | refine FDeviceI_alloc ?_ _ | refine FDeviceI_drewN ?_ _ | refine FDeviceI_drew ?_)) hb)
          have n7_ := Aside0.mk (FDeviceI_below (by repeat (first | exact HFct6.out | refine FDeviceI_alloc ?_ _ | refine FDeviceI_drewN ?_ _ | refine FDeviceI_drew ?_)) hb)
          have n8_ := Aside0.mk (FDeviceI_below (by repeat (first | exact HFct8.out | refine FDeviceI_alloc ?_ _ | refine FDeviceI_drewN ?_ _ | refine FDeviceI_drew ?_)) hb)
          have n9_ := Aside0.mk (below_step (by repeat (first | exact HB.out | apply below_alloc | apply pw_below_drewN | apply below_drew1)) hb)
          clear BKg2
          clear BKg3
          clear BKg7
          clear BKg8
          clear HFct2
          clear HFct3
          clear HFct5
          clear HFct6
          clear HFct8
          clear HB
          have BKg2 := n0_
          have BKg3 := n1_
          have BKg7 := n2_
          have BKg8 := n3_
          have HFct2 := n4_
          have HFct3 := n5_
          have HFct5 := n6_
          have HFct6 := n7_
          have HFct8 := n8_
          have HB := n9_
          clear n0_ n1_ n2_ n3_ n4_ n5_ n6_ n7_ n8_ n9_
          (try clear hF)
          clear hb
          refine hK.out _ _ ⟨BKg7.out, BKg2.out⟩ (fun hHeld => ?_)
          clear hK K
          refine norm_ (a' := ?_) ?_ ?_
          rotate_left
          · show Act.put _ (some 38) _ = _
            simp only [Act.put, List.setIfInBounds_toArray, List.set_cons_zero, List.set_cons_succ, i64_w, i32_w]
            rfl
          refine pure_ (i := 4) (N := some 39) (v := ?_) (a' := ?_) #[true, true, true, true, true] rfl rfl (by kernel_rfl) (fun _ _ _ h => h) (Or.inl ⟨by rfl, ?_⟩) ?_ ?_
          rotate_left
          · intro w'
            go_simp
            with_reducible rfl
          rotate_left
          · simp only [Act.put, List.setIfInBounds_toArray, List.set_cons_zero, List.set_cons_succ, i64_w, i32_w]
            rfl
          refine done_ (by kernel_rfl) ?_
          try go_wp2
          go_ret
          exact ⟨by first | rfl | simp [*], (by repeat (first | exact HB.out | apply below_alloc | apply pw_below_drewN | apply below_drew1))⟩
theorem laws_FnExactSameDevice.calls (k : Nat) (a0_0 : Int) (a0_1 : Int) (a0_2 : Int) (A0_3 : Option Addr) (c0_3 : Nat) (l0_3 : List (S172)) (a0_4 : Int) (a0_5 : Int) (a0_6 : Bool) (a0_7 : Int) (A0_8 : Option Addr) (c0_8 : Nat) (l0_8 : List (S181)) (a1_0 : Int) (a1_1 : Int) (a1_2 : Int) (A1_3 : Option Addr) (c1_3 : Nat) (l1_3 : List (S172)) (a1_4 : Int) (a1_5 : Int) (a1_6 : Bool) (a1_7 : Int) (A1_8 : Option Addr) (c1_8 : Nat) (l1_8 : List (S181)) (r : Bool) (w : World) (hr0_3 : Kd.C k172 w A0_3 l0_3.length l0_3) (hc0_3 : l0_3.length ≤ c0_3) (hr0_8 : Kd.C k181 w A0_8 l0_8.length l0_8) (hc0_8 : l0_8.length ≤ c0_8) (hr1_3 : Kd.C k172 w A1_3 l1_3.length l1_3) (hc1_3 : l1_3.length ≤ c1_3) (hr1_8 : Kd.C k181 w A1_8 l1_8.length l1_8) (hc1_8 : l1_8.length ≤ c1_8) (h : laws_FnExactSameDevice.f k a0_0 a0_1 a0_2 l0_3 a0_4 a0_5 a0_6 a0_7 l0_8 a1_0 a1_1 a1_2 l1_3 a1_4 a1_5 a1_6 a1_7 l1_8 = some r) :
    Calls Try.prog 8 #[.agg #[.int .i64 a0_0, .int .i64 a0_1, .int .i64 a0_2, .slice A0_3 l0_3.length c0_3, .int .i64 a0_4, .int .i64 a0_5, .bool a0_6, .int .i64 a0_7, .slice A0_8 l0_8.length c0_8], .agg #[.int .i64 a1_0, .int .i64 a1_1, .int .i64 a1_2, .slice A1_3 l1_3.length c1_3, .int .i64 a1_4, .int .i64 a1_5, .bool a1_6, .int .i64 a1_7, .slice A1_8 l1_8.length c1_8]] w fun e w' => e = .returned (.bool r) ∧ Below w.heap.size w w' :=
  laws_FnExactSameDevice.core k _ (a0_0, a0_1, a0_2, l0_3, a0_4, a0_5, a0_6, a0_7, l0_8) _ (a1_0, a1_1, a1_2, l1_3, a1_4, a1_5, a1_6, a1_7, l1_8) r w ⟨A0_3, c0_3, A0_8, c0_8, rfl, hr0_3, hc0_3, hr0_8, hc0_8⟩ ⟨A1_3, c1_3, A1_8, c1_8, rfl, hr1_3, hc1_3, hr1_8, hc1_8⟩ h

end Go.Proofs.Ytaecdlhomihejaa.Q
