/- The program's functions as Lean functions, and for each the proof that the machine's call comes to what its function says. Conditions: those that stand before each theorem. -/
import Derived.Test.YtogndjjoeahccaaQ0
namespace Go.Proofs.Ytogndjjoeahccaa.Q
open Go.RowKit Go.Proofs.YtogndjjoeahccaaW.PrintWords Go.Proofs.YtogndjjoeahccaaW.PrintLast Go.Proofs.YtogndjjoeahccaaW.PrintMore
set_option linter.unusedVariables false
set_option linter.unusedSimpArgs false

def impl_within.f (a0 : Int) (a1 : Int) (a2 : Int) : Option (Bool) := if a0 ≥ a1 then (some (decide (a0 ≤ a2))) else (some false)
set_option maxHeartbeats 8000000 in
set_option maxRecDepth 100000 in
theorem impl_within.calls (a0 : Int) (a1 : Int) (a2 : Int) (r : Bool) (w : World) (h : impl_within.f a0 a1 a2 = some r) :
    Calls Try.prog 60 #[.int .i64 a0, .int .i64 a1, .int .i64 a2] w fun e w' => e = .returned (.bool r) ∧ Drawn0 w w' := by
  have H : (if a0 ≥ a1 then (some (decide (a0 ≤ a2))) else (some false)) = some r := h
  clear h
  by_cases c4 : a0 ≥ a1
  · rw [if_pos c4] at H
    have c4b0 : decide (a1 ≤ a0) = true := decide_eq_true c4
    clear c4
    obtain rfl := Option.some.inj H
    go_enter Try.func60, Try.ntmps60
    go_wp2
    go_ret
    exact ⟨by first | rfl | (simp; done) | (simp [*]; done), by repeat (first | exact Drawn0.refl _ | apply Drawn0.step)⟩
  · rw [if_neg c4] at H
    have c4b0 : decide (a1 ≤ a0) = false := decide_eq_false c4
    clear c4
    obtain rfl := Option.some.inj H
    go_enter Try.func60, Try.ntmps60
    go_wp2
    go_ret
    exact ⟨by first | rfl | (simp; done) | (simp [*]; done), by repeat (first | exact Drawn0.refl _ | apply Drawn0.step)⟩

def impl_ValidKey.f (a0 : ByteArray) : Option (Bool) := (impl_within.f (a0.size : Int) 1 8).bind fun t263 => (some t263)
set_option maxHeartbeats 8000000 in
set_option maxRecDepth 100000 in
theorem impl_ValidKey.calls (a0 : ByteArray) (r : Bool) (w : World) (h : impl_ValidKey.f a0 = some r) :
    Calls Try.prog 59 #[.string a0] w fun e w' => e = .returned (.bool r) ∧ Drawn0 w w' := by
  have H : ((impl_within.f (a0.size : Int) 1 8).bind fun t263 => (some t263)) = some r := h
  clear h
  replace H := Option.bind_eq_some_iff.mp H
  obtain ⟨t263, A20, H⟩ := H
  replace H : (some t263) = some r := H
  have A2 := Aside0.mk A20
  clear A20
  obtain rfl := Option.some.inj H
  go_enter Try.func59, Try.ntmps59
  go_wp2_with (first | ((with_reducible refine gate_callee (f := 60) rfl ?_); refine goesL_ (some 5) rfl rfl Try.func60 (by kernel_rfl) rfl #[.int .i64 (a0.size : Int), .int .i64 1, .int .i64 8] rfl (by (try simp only [List.map_toArray, List.map_cons, List.map_nil]); first | done | rfl | (simp only [List.length_drop, List.length_take]; rfl)) ?_; (with_reducible refine (impl_within.calls (a0.size : Int) 1 8 t263 _ A2.out).mono ?_); rintro e w' ⟨rfl, ⟨nd, rfl⟩⟩; refine ⟨_, rfl, ?_⟩))
  go_ret
  exact ⟨by first | rfl | (simp; done) | (simp [*]; done), by repeat (first | exact Drawn0.refl _ | apply Drawn0.step)⟩

def impl_ValidRecord.j0 : Nat → Bool → ByteArray → Int → Int → ByteArray → ByteArray → Option (Bool)
  | 0, _, _, _, _, _, _ => none
  | k + 1, x12, x265000, x265001, x265002, x265003, x265004 => if x12 = true then (some false) else (if x265002 = 1 then (if (x265003.size : Int) ≤ 16 then (some (x265004.toList == ([] : List UInt8))) else (some false)) else (if x265002 = 2 then (if x265003.toList = ([] : List UInt8) then (some (x265004.toList == ([] : List UInt8))) else (some false)) else (if x265002 = 3 then (if x265003.toList = ([] : List UInt8) then ((impl_ValidKey.f x265004).bind fun t267 => (if t267 = true then (some (Op.bytesLess x265000.toList x265004.toList)) else (some false))) else (some false)) else (some false))))
def impl_ValidRecord.f (k : Nat) (a0_0 : ByteArray) (a0_1 : Int) (a0_2 : Int) (a0_3 : ByteArray) (a0_4 : ByteArray) : Option (Bool) := (impl_ValidKey.f a0_0).bind fun t265 => (if t265 = true then ((impl_within.f a0_1 1 1000000).bind fun t266 => (impl_ValidRecord.j0 k (!t266) a0_0 a0_1 a0_2 a0_3 a0_4)) else (impl_ValidRecord.j0 k true a0_0 a0_1 a0_2 a0_3 a0_4))
set_option maxHeartbeats 8000000 in
set_option maxRecDepth 100000 in
theorem impl_ValidRecord.calls (k : Nat) (a0_0 : ByteArray) (a0_1 : Int) (a0_2 : Int) (a0_3 : ByteArray) (a0_4 : ByteArray) (r : Bool) (w : World) (h : impl_ValidRecord.f k a0_0 a0_1 a0_2 a0_3 a0_4 = some r) :
    Calls Try.prog 38 #[.agg #[.string a0_0, .int .i64 a0_1, .int .i64 a0_2, .string a0_3, .string a0_4]] w fun e w' => e = .returned (.bool r) ∧ Below w.heap.size w w' := by
  have hu49 := Try.underlying49
  have HB := Aside0.mk (Below.refl w.heap.size w)
  have H : ((impl_ValidKey.f a0_0).bind fun t265 => (if t265 = true then ((impl_within.f a0_1 1 1000000).bind fun t266 => (impl_ValidRecord.j0 k (!t266) a0_0 a0_1 a0_2 a0_3 a0_4)) else (impl_ValidRecord.j0 k true a0_0 a0_1 a0_2 a0_3 a0_4))) = some r := h
  clear h
  have HC2 := Aside0.mk H
  clear H
  go_enter Try.func38, Try.ntmps38
  go_upto_region 1 with (first | ((with_reducible refine gate_dst (N := 1) rfl ?_); refine box_event ?hg (N := 1) ?hd (cs := #[.string a0_0, .int .i64 a0_1, .int .i64 a0_2, .string a0_3, .string a0_4]) (t := 49) ?hr ?_; (case hd => rfl); (case hg => rfl); (case hr => first | (go_simp; done) | (go_simp; rfl)); intro gb264 hg w3 hbox hb; have n0_ := Aside0.mk (below_step (by repeat (first | (with_reducible first | exact HB.out | apply below_alloc | apply pw_below_drewN | apply below_drew1) | exact HB.out)) hb); have n1_ := Aside0.mk (hbox); have n2_ := Aside0.mk ((by rw [hg]; exact (below_size (by repeat (first | (with_reducible first | exact HB.out | apply below_alloc | apply pw_below_drewN | apply below_drew1) | exact HB.out))) : w.heap.size ≤ gb264)); have n3_ := Aside0.mk ((by rw [hg]; exact (below_size (by repeat (first | (with_reducible first | exact HB.out | apply below_alloc | apply pw_below_drewN | apply below_drew1) | exact HB.out))) : w.heap.size ≤ gb264)); clear HB; have HB := n0_; have BK264 := n1_; have GW264 := n2_; have GE264 := n3_; clear n0_ n1_ n2_ n3_; clear hb hbox hg))
  (try simp only [Act.put, List.setIfInBounds_toArray, List.set_cons_zero, List.set_cons_succ])
  go_cut [12] (fun v12 wc => ∃ (kq : Nat) (x12_1 : Bool), v12 = .bool x12_1 ∧ Aside0 (impl_ValidRecord.j0 kq x12_1 a0_0 a0_1 a0_2 a0_3 a0_4 = some r) ∧ Aside0 (kq ≤ k) ∧ Aside0 (wc.heap[gb264]? = some (.cells #[.string a0_0, .int .i64 a0_1, .int .i64 a0_2, .string a0_3, .string a0_4] 49 (0, 0))) ∧ Aside0 (Below w.heap.size w wc))
  case first =>
    have H := HC2.out
    clear HC2
    replace H := Option.bind_eq_some_iff.mp H
    obtain ⟨t265, A40, H⟩ := H
    replace H : (if t265 = true then ((impl_within.f a0_1 1 1000000).bind fun t266 => (impl_ValidRecord.j0 k (!t266) a0_0 a0_1 a0_2 a0_3 a0_4)) else (impl_ValidRecord.j0 k true a0_0 a0_1 a0_2 a0_3 a0_4)) = some r := H
    have A4 := Aside0.mk A40
    clear A40
    by_cases c5 : t265 = true
    · subst c5
      have H1 : ((impl_within.f a0_1 1 1000000).bind fun t266 => (impl_ValidRecord.j0 k (!t266) a0_0 a0_1 a0_2 a0_3 a0_4)) = some r := by rw [if_pos rfl] at H; exact H
      clear H
      have H := H1
      clear H1
      replace H := Option.bind_eq_some_iff.mp H
      obtain ⟨t266, A60, H⟩ := H
      replace H : (impl_ValidRecord.j0 k (!t266) a0_0 a0_1 a0_2 a0_3 a0_4) = some r := H
      have A6 := Aside0.mk A60
      clear A60
      have H' := Aside0.mk H
      clear H
      have hcz7_0 : w3.cell? ⟨gb264, 0, none⟩ = some (.string a0_0) := (blk_cell BK264.out 0).trans rfl
      have hcz7_1 : w3.cell? ⟨gb264, 1, none⟩ = some (.int .i64 a0_1) := (blk_cell BK264.out 1).trans rfl
      have hcz7_2 : w3.cell? ⟨gb264, 2, none⟩ = some (.int .i64 a0_2) := (blk_cell BK264.out 2).trans rfl
      have hcz7_3 : w3.cell? ⟨gb264, 3, none⟩ = some (.string a0_3) := (blk_cell BK264.out 3).trans rfl
      have hcz7_4 : w3.cell? ⟨gb264, 4, none⟩ = some (.string a0_4) := (blk_cell BK264.out 4).trans rfl
      have hfz7_0 := blk_frozen BK264.out 0
      have hfz7_1 := blk_frozen BK264.out 1
      have hfz7_2 := blk_frozen BK264.out 2
      have hfz7_3 := blk_frozen BK264.out 3
      have hfz7_4 := blk_frozen BK264.out 4
      go_wp2_with (first | ((with_reducible refine gate_callee (f := 59) rfl ?_); refine goesL_ (some 5) rfl rfl Try.func59 (by kernel_rfl) rfl #[.string a0_0] rfl (by (try simp only [List.map_toArray, List.map_cons, List.map_nil]); first | done | rfl | (simp only [List.length_drop, List.length_take]; rfl)) ?_; (with_reducible refine (impl_ValidKey.calls a0_0 true _ A4.out).mono ?_); rintro e w' ⟨rfl, ⟨nd, rfl⟩⟩; refine ⟨_, rfl, ?_⟩) | (go_at_call 60; (with_reducible refine (impl_within.calls a0_1 1 1000000 t266 _ A6.out).mono ?_); rintro e w' ⟨rfl, ⟨nd, rfl⟩⟩))
      go_meet
      case rel => exact ⟨_, (!t266), (by first | rfl | (simp; done) | (simp [*]; done)), H', ⟨by first | omega | exact Nat.le_refl _⟩, ⟨by (with_reducible repeat (first | refine blk_drewN ?_ _ | refine blk_drew ?_ | refine blk_alloc ?_ _)); exact BK264.out⟩, ⟨by repeat (first | (with_reducible first | exact HB.out | apply below_alloc | apply pw_below_drewN | apply below_drew1 | refine below_set ?_ GE264.out) | exact HB.out)⟩⟩
    · replace c5 := Bool.eq_false_iff.mpr c5
      subst c5
      have H1 : (impl_ValidRecord.j0 k true a0_0 a0_1 a0_2 a0_3 a0_4) = some r := by rw [if_neg (show ¬ (false = true) by decide)] at H; exact H
      clear H
      have H := H1
      clear H1
      have H' := Aside0.mk H
      clear H
      have hcz8_0 : w3.cell? ⟨gb264, 0, none⟩ = some (.string a0_0) := (blk_cell BK264.out 0).trans rfl
      have hcz8_1 : w3.cell? ⟨gb264, 1, none⟩ = some (.int .i64 a0_1) := (blk_cell BK264.out 1).trans rfl
      have hcz8_2 : w3.cell? ⟨gb264, 2, none⟩ = some (.int .i64 a0_2) := (blk_cell BK264.out 2).trans rfl
      have hcz8_3 : w3.cell? ⟨gb264, 3, none⟩ = some (.string a0_3) := (blk_cell BK264.out 3).trans rfl
      have hcz8_4 : w3.cell? ⟨gb264, 4, none⟩ = some (.string a0_4) := (blk_cell BK264.out 4).trans rfl
      have hfz8_0 := blk_frozen BK264.out 0
      have hfz8_1 := blk_frozen BK264.out 1
      have hfz8_2 := blk_frozen BK264.out 2
      have hfz8_3 := blk_frozen BK264.out 3
      have hfz8_4 := blk_frozen BK264.out 4
      go_wp2_with (first | ((with_reducible refine gate_callee (f := 59) rfl ?_); refine goesL_ (some 5) rfl rfl Try.func59 (by kernel_rfl) rfl #[.string a0_0] rfl (by (try simp only [List.map_toArray, List.map_cons, List.map_nil]); first | done | rfl | (simp only [List.length_drop, List.length_take]; rfl)) ?_; (with_reducible refine (impl_ValidKey.calls a0_0 false _ A4.out).mono ?_); rintro e w' ⟨rfl, ⟨nd, rfl⟩⟩; refine ⟨_, rfl, ?_⟩))
      go_meet
      case rel => exact ⟨_, (true), (by first | rfl | (simp; done) | (simp [*]; done)), H', ⟨by first | omega | exact Nat.le_refl _⟩, ⟨by (with_reducible repeat (first | refine blk_drewN ?_ _ | refine blk_drew ?_ | refine blk_alloc ?_ _)); exact BK264.out⟩, ⟨by repeat (first | (with_reducible first | exact HB.out | apply below_alloc | apply pw_below_drewN | apply below_drew1 | refine below_set ?_ GE264.out) | exact HB.out)⟩⟩
  case rest =>
    clear HC2
    try clear p2
    try clear c3
    try clear c5
    try clear hcz7_0
    try clear hcz7_1
    try clear hcz7_2
    try clear hcz7_3
    try clear hcz7_4
    try clear hcz8_0
    try clear hcz8_1
    try clear hcz8_2
    try clear hcz8_3
    try clear hcz8_4
    try clear hfz7_0
    try clear hfz7_1
    try clear hfz7_2
    try clear hfz7_3
    try clear hfz7_4
    try clear hfz8_0
    try clear hfz8_1
    try clear hfz8_2
    try clear hfz8_3
    try clear hfz8_4
    obtain ⟨kq, x12_1, rfl, HA, HJ1, BK264, HB⟩ := hcut
    cases kq with
    | zero => exact absurd HA.out (by simp [impl_ValidRecord.j0])
    | succ kj1 =>
      have H := HA.out
      clear HA
      simp only [impl_ValidRecord.j0] at H
      by_cases c9 : x12_1 = true
      · subst c9
        have H1 : (some false) = some r := by rw [if_pos rfl] at H; exact H
        clear H
        have H := H1
        clear H1
        obtain rfl := Option.some.inj H
        go_wp2
        go_ret
        exact ⟨by first | rfl | (simp [errW_none, errW_some] <;> rfl) | (simp [*, errW_none, errW_some] <;> rfl), by repeat (first | (with_reducible first | exact HB.out | apply below_alloc | apply pw_below_drewN | apply below_drew1 | refine below_set ?_ GE264.out) | exact HB.out)⟩
      · replace c9 := Bool.eq_false_iff.mpr c9
        subst c9
        have H1 : (if a0_2 = 1 then (if (a0_3.size : Int) ≤ 16 then (some (a0_4.toList == ([] : List UInt8))) else (some false)) else (if a0_2 = 2 then (if a0_3.toList = ([] : List UInt8) then (some (a0_4.toList == ([] : List UInt8))) else (some false)) else (if a0_2 = 3 then (if a0_3.toList = ([] : List UInt8) then ((impl_ValidKey.f a0_4).bind fun t267 => (if t267 = true then (some (Op.bytesLess a0_0.toList a0_4.toList)) else (some false))) else (some false)) else (some false)))) = some r := by rw [if_neg (show ¬ (false = true) by decide)] at H; exact H
        clear H
        have H := H1
        clear H1
        by_cases c10 : a0_2 = 1
        · rw [if_pos c10] at H
          have c10b0 : (a0_2 == 1) = true := beq_iff_eq.mpr c10
          have c10b1 : (a0_2 != 1) = false := bne_eq_false_iff_eq.mpr c10
          clear c10
          by_cases c11 : (a0_3.size : Int) ≤ 16
          · rw [if_pos c11] at H
            have c11b0 : decide ((a0_3.size : Int) ≤ 16) = true := decide_eq_true c11
            have c11b1 : decide (a0_3.size ≤ 16) = true := decide_eq_true (by omega)
            clear c11
            obtain rfl := Option.some.inj H
            have hcz12_0 : wc.cell? ⟨gb264, 0, none⟩ = some (.string a0_0) := (blk_cell BK264.out 0).trans rfl
            have hcz12_1 : wc.cell? ⟨gb264, 1, none⟩ = some (.int .i64 a0_1) := (blk_cell BK264.out 1).trans rfl
            have hcz12_2 : wc.cell? ⟨gb264, 2, none⟩ = some (.int .i64 a0_2) := (blk_cell BK264.out 2).trans rfl
            have hcz12_3 : wc.cell? ⟨gb264, 3, none⟩ = some (.string a0_3) := (blk_cell BK264.out 3).trans rfl
            have hcz12_4 : wc.cell? ⟨gb264, 4, none⟩ = some (.string a0_4) := (blk_cell BK264.out 4).trans rfl
            have hfz12_0 := blk_frozen BK264.out 0
            have hfz12_1 := blk_frozen BK264.out 1
            have hfz12_2 := blk_frozen BK264.out 2
            have hfz12_3 := blk_frozen BK264.out 3
            have hfz12_4 := blk_frozen BK264.out 4
            go_wp2
            go_ret
            exact ⟨by first | rfl | (simp [errW_none, errW_some] <;> rfl) | (simp [*, errW_none, errW_some] <;> rfl), by repeat (first | (with_reducible first | exact HB.out | apply below_alloc | apply pw_below_drewN | apply below_drew1 | refine below_set ?_ GE264.out) | exact HB.out)⟩
          · rw [if_neg c11] at H
            have c11b0 : decide ((a0_3.size : Int) ≤ 16) = false := decide_eq_false c11
            have c11b1 : decide (a0_3.size ≤ 16) = false := decide_eq_false (by omega)
            clear c11
            obtain rfl := Option.some.inj H
            have hcz13_0 : wc.cell? ⟨gb264, 0, none⟩ = some (.string a0_0) := (blk_cell BK264.out 0).trans rfl
            have hcz13_1 : wc.cell? ⟨gb264, 1, none⟩ = some (.int .i64 a0_1) := (blk_cell BK264.out 1).trans rfl
            have hcz13_2 : wc.cell? ⟨gb264, 2, none⟩ = some (.int .i64 a0_2) := (blk_cell BK264.out 2).trans rfl
            have hcz13_3 : wc.cell? ⟨gb264, 3, none⟩ = some (.string a0_3) := (blk_cell BK264.out 3).trans rfl
            have hcz13_4 : wc.cell? ⟨gb264, 4, none⟩ = some (.string a0_4) := (blk_cell BK264.out 4).trans rfl
            have hfz13_0 := blk_frozen BK264.out 0
            have hfz13_1 := blk_frozen BK264.out 1
            have hfz13_2 := blk_frozen BK264.out 2
            have hfz13_3 := blk_frozen BK264.out 3
            have hfz13_4 := blk_frozen BK264.out 4
            go_wp2
            go_ret
            exact ⟨by first | rfl | (simp [errW_none, errW_some] <;> rfl) | (simp [*, errW_none, errW_some] <;> rfl), by repeat (first | (with_reducible first | exact HB.out | apply below_alloc | apply pw_below_drewN | apply below_drew1 | refine below_set ?_ GE264.out) | exact HB.out)⟩
        · rw [if_neg c10] at H
          have c10b0 : (a0_2 == 1) = false := beq_eq_false_iff_ne.mpr c10
          have c10b1 : (a0_2 != 1) = true := bne_iff_ne.mpr c10
          by_cases c14 : a0_2 = 2
          · rw [if_pos c14] at H
            have c14b0 : (a0_2 == 2) = true := beq_iff_eq.mpr c14
            have c14b1 : (a0_2 != 2) = false := bne_eq_false_iff_eq.mpr c14
            clear c14
            by_cases c15 : a0_3.toList = ([] : List UInt8)
            · rw [if_pos c15] at H
              have c15b0 : (a0_3.toList == ([] : List UInt8)) = true := beq_iff_eq.mpr c15
              have c15b1 : (a0_3.toList != ([] : List UInt8)) = false := bne_eq_false_iff_eq.mpr c15
              clear c15
              obtain rfl := Option.some.inj H
              have hcz16_0 : wc.cell? ⟨gb264, 0, none⟩ = some (.string a0_0) := (blk_cell BK264.out 0).trans rfl
              have hcz16_1 : wc.cell? ⟨gb264, 1, none⟩ = some (.int .i64 a0_1) := (blk_cell BK264.out 1).trans rfl
              have hcz16_2 : wc.cell? ⟨gb264, 2, none⟩ = some (.int .i64 a0_2) := (blk_cell BK264.out 2).trans rfl
              have hcz16_3 : wc.cell? ⟨gb264, 3, none⟩ = some (.string a0_3) := (blk_cell BK264.out 3).trans rfl
              have hcz16_4 : wc.cell? ⟨gb264, 4, none⟩ = some (.string a0_4) := (blk_cell BK264.out 4).trans rfl
              have hfz16_0 := blk_frozen BK264.out 0
              have hfz16_1 := blk_frozen BK264.out 1
              have hfz16_2 := blk_frozen BK264.out 2
              have hfz16_3 := blk_frozen BK264.out 3
              have hfz16_4 := blk_frozen BK264.out 4
              go_wp2
              go_ret
              exact ⟨by first | rfl | (simp [errW_none, errW_some] <;> rfl) | (simp [*, errW_none, errW_some] <;> rfl), by repeat (first | (with_reducible first | exact HB.out | apply below_alloc | apply pw_below_drewN | apply below_drew1 | refine below_set ?_ GE264.out) | exact HB.out)⟩
            · rw [if_neg c15] at H
              have c15b0 : (a0_3.toList == ([] : List UInt8)) = false := beq_eq_false_iff_ne.mpr c15
              have c15b1 : (a0_3.toList != ([] : List UInt8)) = true := bne_iff_ne.mpr c15
              obtain rfl := Option.some.inj H
              have hcz17_0 : wc.cell? ⟨gb264, 0, none⟩ = some (.string a0_0) := (blk_cell BK264.out 0).trans rfl
              have hcz17_1 : wc.cell? ⟨gb264, 1, none⟩ = some (.int .i64 a0_1) := (blk_cell BK264.out 1).trans rfl
              have hcz17_2 : wc.cell? ⟨gb264, 2, none⟩ = some (.int .i64 a0_2) := (blk_cell BK264.out 2).trans rfl
              have hcz17_3 : wc.cell? ⟨gb264, 3, none⟩ = some (.string a0_3) := (blk_cell BK264.out 3).trans rfl
              have hcz17_4 : wc.cell? ⟨gb264, 4, none⟩ = some (.string a0_4) := (blk_cell BK264.out 4).trans rfl
              have hfz17_0 := blk_frozen BK264.out 0
              have hfz17_1 := blk_frozen BK264.out 1
              have hfz17_2 := blk_frozen BK264.out 2
              have hfz17_3 := blk_frozen BK264.out 3
              have hfz17_4 := blk_frozen BK264.out 4
              go_wp2
              go_ret
              exact ⟨by first | rfl | (simp [errW_none, errW_some] <;> rfl) | (simp [*, errW_none, errW_some] <;> rfl), by repeat (first | (with_reducible first | exact HB.out | apply below_alloc | apply pw_below_drewN | apply below_drew1 | refine below_set ?_ GE264.out) | exact HB.out)⟩
          · rw [if_neg c14] at H
            have c14b0 : (a0_2 == 2) = false := beq_eq_false_iff_ne.mpr c14
            have c14b1 : (a0_2 != 2) = true := bne_iff_ne.mpr c14
            by_cases c18 : a0_2 = 3
            · rw [if_pos c18] at H
              have c18b0 : (a0_2 == 3) = true := beq_iff_eq.mpr c18
              have c18b1 : (a0_2 != 3) = false := bne_eq_false_iff_eq.mpr c18
              clear c18
              by_cases c19 : a0_3.toList = ([] : List UInt8)
              · rw [if_pos c19] at H
                have c19b0 : (a0_3.toList == ([] : List UInt8)) = true := beq_iff_eq.mpr c19
                have c19b1 : (a0_3.toList != ([] : List UInt8)) = false := bne_eq_false_iff_eq.mpr c19
                clear c19
                replace H := Option.bind_eq_some_iff.mp H
                obtain ⟨t267, A200, H⟩ := H
                replace H : (if t267 = true then (some (Op.bytesLess a0_0.toList a0_4.toList)) else (some false)) = some r := H
                have A20 := Aside0.mk A200
                clear A200
                by_cases c21 : t267 = true
                · subst c21
                  have H1 : (some (Op.bytesLess a0_0.toList a0_4.toList)) = some r := by rw [if_pos rfl] at H; exact H
                  clear H
                  have H := H1
                  clear H1
                  obtain rfl := Option.some.inj H
                  have hcz22_0 : wc.cell? ⟨gb264, 0, none⟩ = some (.string a0_0) := (blk_cell BK264.out 0).trans rfl
                  have hcz22_1 : wc.cell? ⟨gb264, 1, none⟩ = some (.int .i64 a0_1) := (blk_cell BK264.out 1).trans rfl
                  have hcz22_2 : wc.cell? ⟨gb264, 2, none⟩ = some (.int .i64 a0_2) := (blk_cell BK264.out 2).trans rfl
                  have hcz22_3 : wc.cell? ⟨gb264, 3, none⟩ = some (.string a0_3) := (blk_cell BK264.out 3).trans rfl
                  have hcz22_4 : wc.cell? ⟨gb264, 4, none⟩ = some (.string a0_4) := (blk_cell BK264.out 4).trans rfl
                  have hfz22_0 := blk_frozen BK264.out 0
                  have hfz22_1 := blk_frozen BK264.out 1
                  have hfz22_2 := blk_frozen BK264.out 2
                  have hfz22_3 := blk_frozen BK264.out 3
                  have hfz22_4 := blk_frozen BK264.out 4
                  go_wp2_with (first | (go_at_call 59; (with_reducible refine (impl_ValidKey.calls a0_4 true _ A20.out).mono ?_); rintro e w' ⟨rfl, ⟨nd, rfl⟩⟩))
                  go_ret
                  exact ⟨by first | rfl | (simp [errW_none, errW_some] <;> rfl) | (simp [*, errW_none, errW_some] <;> rfl), by repeat (first | (with_reducible first | exact HB.out | apply below_alloc | apply pw_below_drewN | apply below_drew1 | refine below_set ?_ GE264.out) | exact HB.out)⟩
                · replace c21 := Bool.eq_false_iff.mpr c21
                  subst c21
                  have H1 : (some false) = some r := by rw [if_neg (show ¬ (false = true) by decide)] at H; exact H
                  clear H
                  have H := H1
                  clear H1
                  obtain rfl := Option.some.inj H
                  have hcz23_0 : wc.cell? ⟨gb264, 0, none⟩ = some (.string a0_0) := (blk_cell BK264.out 0).trans rfl
                  have hcz23_1 : wc.cell? ⟨gb264, 1, none⟩ = some (.int .i64 a0_1) := (blk_cell BK264.out 1).trans rfl
                  have hcz23_2 : wc.cell? ⟨gb264, 2, none⟩ = some (.int .i64 a0_2) := (blk_cell BK264.out 2).trans rfl
                  have hcz23_3 : wc.cell? ⟨gb264, 3, none⟩ = some (.string a0_3) := (blk_cell BK264.out 3).trans rfl
                  have hcz23_4 : wc.cell? ⟨gb264, 4, none⟩ = some (.string a0_4) := (blk_cell BK264.out 4).trans rfl
                  have hfz23_0 := blk_frozen BK264.out 0
                  have hfz23_1 := blk_frozen BK264.out 1
                  have hfz23_2 := blk_frozen BK264.out 2
                  have hfz23_3 := blk_frozen BK264.out 3
                  have hfz23_4 := blk_frozen BK264.out 4
                  go_wp2_with (first | (go_at_call 59; (with_reducible refine (impl_ValidKey.calls a0_4 false _ A20.out).mono ?_); rintro e w' ⟨rfl, ⟨nd, rfl⟩⟩))
                  go_ret
                  exact ⟨by first | rfl | (simp [errW_none, errW_some] <;> rfl) | (simp [*, errW_none, errW_some] <;> rfl), by repeat (first | (with_reducible first | exact HB.out | apply below_alloc | apply pw_below_drewN | apply below_drew1 | refine below_set ?_ GE264.out) | exact HB.out)⟩
              · rw [if_neg c19] at H
                have c19b0 : (a0_3.toList == ([] : List UInt8)) = false := beq_eq_false_iff_ne.mpr c19
                have c19b1 : (a0_3.toList != ([] : List UInt8)) = true := bne_iff_ne.mpr c19
                obtain rfl := Option.some.inj H
                have hcz24_0 : wc.cell? ⟨gb264, 0, none⟩ = some (.string a0_0) := (blk_cell BK264.out 0).trans rfl
                have hcz24_1 : wc.cell? ⟨gb264, 1, none⟩ = some (.int .i64 a0_1) := (blk_cell BK264.out 1).trans rfl
                have hcz24_2 : wc.cell? ⟨gb264, 2, none⟩ = some (.int .i64 a0_2) := (blk_cell BK264.out 2).trans rfl
                have hcz24_3 : wc.cell? ⟨gb264, 3, none⟩ = some (.string a0_3) := (blk_cell BK264.out 3).trans rfl
                have hcz24_4 : wc.cell? ⟨gb264, 4, none⟩ = some (.string a0_4) := (blk_cell BK264.out 4).trans rfl
                have hfz24_0 := blk_frozen BK264.out 0
                have hfz24_1 := blk_frozen BK264.out 1
                have hfz24_2 := blk_frozen BK264.out 2
                have hfz24_3 := blk_frozen BK264.out 3
                have hfz24_4 := blk_frozen BK264.out 4
                go_wp2
                go_ret
                exact ⟨by first | rfl | (simp [errW_none, errW_some] <;> rfl) | (simp [*, errW_none, errW_some] <;> rfl), by repeat (first | (with_reducible first | exact HB.out | apply below_alloc | apply pw_below_drewN | apply below_drew1 | refine below_set ?_ GE264.out) | exact HB.out)⟩
            · rw [if_neg c18] at H
              have c18b0 : (a0_2 == 3) = false := beq_eq_false_iff_ne.mpr c18
              have c18b1 : (a0_2 != 3) = true := bne_iff_ne.mpr c18
              obtain rfl := Option.some.inj H
              have hcz25_0 : wc.cell? ⟨gb264, 0, none⟩ = some (.string a0_0) := (blk_cell BK264.out 0).trans rfl
              have hcz25_1 : wc.cell? ⟨gb264, 1, none⟩ = some (.int .i64 a0_1) := (blk_cell BK264.out 1).trans rfl
              have hcz25_2 : wc.cell? ⟨gb264, 2, none⟩ = some (.int .i64 a0_2) := (blk_cell BK264.out 2).trans rfl
              have hcz25_3 : wc.cell? ⟨gb264, 3, none⟩ = some (.string a0_3) := (blk_cell BK264.out 3).trans rfl
              have hcz25_4 : wc.cell? ⟨gb264, 4, none⟩ = some (.string a0_4) := (blk_cell BK264.out 4).trans rfl
              have hfz25_0 := blk_frozen BK264.out 0
              have hfz25_1 := blk_frozen BK264.out 1
              have hfz25_2 := blk_frozen BK264.out 2
              have hfz25_3 := blk_frozen BK264.out 3
              have hfz25_4 := blk_frozen BK264.out 4
              go_wp2
              go_ret
              exact ⟨by first | rfl | (simp [errW_none, errW_some] <;> rfl) | (simp [*, errW_none, errW_some] <;> rfl), by repeat (first | (with_reducible first | exact HB.out | apply below_alloc | apply pw_below_drewN | apply below_drew1 | refine below_set ?_ GE264.out) | exact HB.out)⟩

end Go.Proofs.Ytogndjjoeahccaa.Q
