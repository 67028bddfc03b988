/- The program's functions as Lean functions, and for each the proof that the machine's call comes to what its function says. Conditions: those that stand before each theorem. -/
import Derived.Test.YtogndjjoeahccaaQ0
import Derived.Test.YtogndjjoeahccaaQ4
namespace Go.Proofs.Ytogndjjoeahccaa.Q
open Go.RowKit Go.Proofs.YtogndjjoeahccaaW.PrintWords Go.Proofs.YtogndjjoeahccaaW.PrintLast Go.Proofs.YtogndjjoeahccaaW.PrintMore
set_option linter.unusedVariables false
set_option linter.unusedSimpArgs false

def spec_l20Next.j0 : Nat → ByteArray → Int → ByteArray → Int → Int → Int → Bool → Option (ByteArray × Int × Int × ByteArray × ByteArray × Int)
  | 0, _, _, _, _, _, _, _ => none
  | k + 1, x0, x1, x2, x8, x9, x11, x48 => if x48 = true then (some ((⟨#[]⟩ : ByteArray), 0, 0, (⟨#[]⟩ : ByteArray), (⟨#[]⟩ : ByteArray), 0)) else (if 0 ≤ (wrap64 (x1 + 5)) then (if (wrap64 (x1 + 5)) < (x0.size : Int) then (if 0 ≤ (wrap64 (x1 + 2)) then (if (wrap64 (x1 + 2)) ≤ (wrap64 (x1 + 5)) then (if (wrap64 (x1 + 5)) ≤ (x0.size : Int) then ((spec_l17Num.f k (x0.extract ((wrap64 (x1 + 2)) : Int).toNat ((wrap64 (x1 + 5)) : Int).toNat)).bind fun t147 => (if 0 ≤ x8 then (if x8 ≤ (x2.size : Int) then (if 0 ≤ (wrap64 (x1 + 7)) then (if (wrap64 (x1 + 7)) ≤ (wrap64 ((wrap64 (x1 + 7)) + x9)) then (if (wrap64 ((wrap64 (x1 + 7)) + x9)) ≤ (x0.size : Int) then (if (x2.extract 0 (x8 : Int).toNat).size + (x0.extract ((wrap64 (x1 + 7)) : Int).toNat ((wrap64 ((wrap64 (x1 + 7)) + x9)) : Int).toNat).size ≤ 9223372036854775807 then (if 0 ≤ (wrap64 ((wrap64 (x1 + 7)) + x9)) then (if (wrap64 ((wrap64 (x1 + 7)) + x9)) ≤ x11 then (if x11 ≤ (x0.size : Int) then ((spec_l17With.f ((x2.extract 0 (x8 : Int).toNat) ++ (x0.extract ((wrap64 (x1 + 7)) : Int).toNat ((wrap64 ((wrap64 (x1 + 7)) + x9)) : Int).toNat)) t147 (wrap64 (bt x0 (wrap64 (x1 + 5)))) (⟨#[]⟩ : ByteArray) (⟨#[]⟩ : ByteArray) (x0.extract ((wrap64 ((wrap64 (x1 + 7)) + x9)) : Int).toNat (x11 : Int).toNat)).bind fun bt149 => (some (bt149.1, bt149.2.1, bt149.2.2.1, bt149.2.2.2.1, bt149.2.2.2.2, x11))) else (none)) else (none)) else (none)) else (none)) else (none)) else (none)) else (none)) else (none)) else (none))) else (none)) else (none)) else (none)) else (none)) else (none))
def spec_l20Next.f (k : Nat) (a0 : ByteArray) (a1 : Int) (a2 : ByteArray) : Option (ByteArray × Int × Int × ByteArray × ByteArray × Int) := if (wrap64 (a1 + 7)) > (a0.size : Int) then (some ((⟨#[]⟩ : ByteArray), 0, 0, (⟨#[]⟩ : ByteArray), (⟨#[]⟩ : ByteArray), 0)) else (if 0 ≤ a1 then (if a1 < (a0.size : Int) then (if 0 ≤ (wrap64 (a1 + 1)) then (if (wrap64 (a1 + 1)) < (a0.size : Int) then (if 0 ≤ (wrap64 (a1 + 6)) then (if (wrap64 (a1 + 6)) < (a0.size : Int) then (if (wrap64 ((wrap64 ((wrap64 (a1 + 7)) + (wrap64 (bt a0 (wrap64 (a1 + 1)))))) + (wrap64 (bt a0 (wrap64 (a1 + 6)))))) > (a0.size : Int) then (spec_l20Next.j0 k a0 a1 a2 (wrap64 (bt a0 a1)) (wrap64 (bt a0 (wrap64 (a1 + 1)))) (wrap64 ((wrap64 ((wrap64 (a1 + 7)) + (wrap64 (bt a0 (wrap64 (a1 + 1)))))) + (wrap64 (bt a0 (wrap64 (a1 + 6)))))) true) else (spec_l20Next.j0 k a0 a1 a2 (wrap64 (bt a0 a1)) (wrap64 (bt a0 (wrap64 (a1 + 1)))) (wrap64 ((wrap64 ((wrap64 (a1 + 7)) + (wrap64 (bt a0 (wrap64 (a1 + 1)))))) + (wrap64 (bt a0 (wrap64 (a1 + 6)))))) (decide ((wrap64 (bt a0 a1)) > (a2.size : Int))))) else (none)) else (none)) else (none)) else (none)) else (none)) else (none))
def spec_l20Next.T9 : Bool × List (List Nat × List Nat) := (true, [([], []), ([], []), ([1], [1]), ([0, 2], [0, 2]), ([3], [3]), ([], []), ([], []), ([6], [6]), ([], []), ([8], [8]), ([5, 7, 9], [5, 7, 9]), ([10], [10]), ([], []), ([], []), ([12, 13], [12, 13]), ([], []), ([], []), ([16], [16]), ([], []), ([18], [18]), ([], []), ([19, 20], [19, 20]), ([15, 17, 21], [15, 17, 21]), ([14, 22], [14, 22]), ([4, 11, 23], [4, 11, 23]), ([], []), ([25, 24, 11, 0, 1, 2, 3, 4, 5, 6, 7, 8, 9, 10, 11, 12, 13, 14, 15, 16, 17, 18, 19, 20, 21, 22, 23, 24, 25], [24, 25])])
def spec_l20Next.B9 : List Nat := [0, 0, 2, 7, 15, 0, 0, 64, 0, 256, 992, 2016, 0, 0, 12288, 0, 0, 65536, 0, 262144, 0, 1835008, 4161536, 8384512, 16777215, 0, 67108863]
theorem spec_l20Next.tab9 : rtab .any (opsOf Try.f93 9) = spec_l20Next.T9 := by kernel_rfl
theorem spec_l20Next.bits9 : waitsOk spec_l20Next.T9.2 spec_l20Next.B9 = true := by kernel_rfl
def spec_l20Next.T10 : Bool × List (List Nat × List Nat) := (true, [([], []), ([], []), ([], []), ([2], [2]), ([], []), ([3, 4], [3, 4]), ([], []), ([1, 5, 6], [1, 5, 6]), ([0, 7], [0, 7]), ([], []), ([8, 8, 0, 1, 2, 3, 4, 5, 6, 7, 8], [8]), ([9, 10, 0, 1, 2, 3, 4, 5, 6, 7, 8, 9, 10], [9])])
def spec_l20Next.B10 : List Nat := [0, 0, 0, 4, 0, 28, 0, 126, 255, 0, 511, 2047]
theorem spec_l20Next.tab10 : rtab .any (opsOf Try.f93 10) = spec_l20Next.T10 := by kernel_rfl
theorem spec_l20Next.bits10 : waitsOk spec_l20Next.T10.2 spec_l20Next.B10 = true := by kernel_rfl
set_option maxHeartbeats 8000000 in
set_option maxRecDepth 100000 in
theorem spec_l20Next.calls (k : Nat) (a0 : ByteArray) (a1 : Int) (a2 : ByteArray) (r1 : ByteArray) (r2 : Int) (r3 : Int) (r4 : ByteArray) (r5 : ByteArray) (r6 : Int) (w : World) (h : spec_l20Next.f k a0 a1 a2 = some (r1, r2, r3, r4, r5, r6)) :
    Calls Try.prog 93 #[.string a0, .int .i64 a1, .string a2] w fun e w' => e = .returned (.tuple #[.agg #[.string r1, .int .i64 r2, .int .i64 r3, .string r4, .string r5], .int .i64 r6]) ∧ Below w.heap.size w w' := by
  have hu49 := Try.underlying49
  have HB := Aside0.mk (Below.refl w.heap.size w)
  have H : (if (wrap64 (a1 + 7)) > (a0.size : Int) then (some ((⟨#[]⟩ : ByteArray), 0, 0, (⟨#[]⟩ : ByteArray), (⟨#[]⟩ : ByteArray), 0)) else (if 0 ≤ a1 then (if a1 < (a0.size : Int) then (if 0 ≤ (wrap64 (a1 + 1)) then (if (wrap64 (a1 + 1)) < (a0.size : Int) then (if 0 ≤ (wrap64 (a1 + 6)) then (if (wrap64 (a1 + 6)) < (a0.size : Int) then (if (wrap64 ((wrap64 ((wrap64 (a1 + 7)) + (wrap64 (bt a0 (wrap64 (a1 + 1)))))) + (wrap64 (bt a0 (wrap64 (a1 + 6)))))) > (a0.size : Int) then (spec_l20Next.j0 k a0 a1 a2 (wrap64 (bt a0 a1)) (wrap64 (bt a0 (wrap64 (a1 + 1)))) (wrap64 ((wrap64 ((wrap64 (a1 + 7)) + (wrap64 (bt a0 (wrap64 (a1 + 1)))))) + (wrap64 (bt a0 (wrap64 (a1 + 6)))))) true) else (spec_l20Next.j0 k a0 a1 a2 (wrap64 (bt a0 a1)) (wrap64 (bt a0 (wrap64 (a1 + 1)))) (wrap64 ((wrap64 ((wrap64 (a1 + 7)) + (wrap64 (bt a0 (wrap64 (a1 + 1)))))) + (wrap64 (bt a0 (wrap64 (a1 + 6)))))) (decide ((wrap64 (bt a0 a1)) > (a2.size : Int))))) else (none)) else (none)) else (none)) else (none)) else (none)) else (none))) = some (r1, r2, r3, r4, r5, r6) := h
  clear h
  by_cases c4 : (wrap64 (a1 + 7)) > (a0.size : Int)
  · rw [if_pos c4] at H
    have c4b0 : decide ((a0.size : Int) < (wrap64 (a1 + 7))) = true := decide_eq_true c4
    clear c4
    simp only [Option.some.injEq, Prod.mk.injEq] at H
    obtain ⟨rfl, rfl, rfl, rfl, rfl, rfl⟩ := H
    go_enter Try.func93, Try.ntmps93
    go_wp2_with (first | ((with_reducible refine gate_dst (N := 6) rfl ?_); (try (refine gate_guard (by rfl) ?_; dsimp only)); refine box_event ?hg (N := 6) ?hd (cs := #[.string (⟨#[]⟩ : ByteArray), .int .i64 0, .int .i64 0, .string (⟨#[]⟩ : ByteArray), .string (⟨#[]⟩ : ByteArray)]) (t := 49) ?hr ?_; (case hd => rfl); (case hg => rfl); (case hr => first | (go_simp; done) | (go_simp; rfl)); intro gb146 hg w5 hbox hb; have n0_ := Aside0.mk (below_step (by repeat (first | (with_reducible first | exact HB.out | apply below_alloc | apply pw_below_drewN | apply below_drew1) | exact HB.out)) hb); have n1_ := Aside0.mk (hbox); have n2_ := Aside0.mk ((by rw [hg]; exact (below_size (by repeat (first | (with_reducible first | exact HB.out | apply below_alloc | apply pw_below_drewN | apply below_drew1) | exact HB.out))) : w.heap.size ≤ gb146)); have n3_ := Aside0.mk ((by rw [hg]; exact (below_size (by repeat (first | (with_reducible first | exact HB.out | apply below_alloc | apply pw_below_drewN | apply below_drew1) | exact HB.out))) : w.heap.size ≤ gb146)); clear HB; have HB := n0_; have BK146 := n1_; have GW146 := n2_; have GE146 := n3_; clear n0_ n1_ n2_ n3_; clear hb hbox hg; have hcz6_0 : w5.cell? ⟨gb146, 0, none⟩ = some (.string (⟨#[]⟩ : ByteArray)) := (blk_cell BK146.out 0).trans rfl; have hcz6_1 : w5.cell? ⟨gb146, 1, none⟩ = some (.int .i64 0) := (blk_cell BK146.out 1).trans rfl; have hcz6_2 : w5.cell? ⟨gb146, 2, none⟩ = some (.int .i64 0) := (blk_cell BK146.out 2).trans rfl; have hcz6_3 : w5.cell? ⟨gb146, 3, none⟩ = some (.string (⟨#[]⟩ : ByteArray)) := (blk_cell BK146.out 3).trans rfl; have hcz6_4 : w5.cell? ⟨gb146, 4, none⟩ = some (.string (⟨#[]⟩ : ByteArray)) := (blk_cell BK146.out 4).trans rfl; have hfz6_0 := blk_frozen BK146.out 0; have hfz6_1 := blk_frozen BK146.out 1; have hfz6_2 := blk_frozen BK146.out 2; have hfz6_3 := blk_frozen BK146.out 3; have hfz6_4 := blk_frozen BK146.out 4))
    refine bodyPost_ret (results_ct rfl _ _ gb146 49 #[.string (⟨#[]⟩ : ByteArray), .int .i64 0, .int .i64 0, .string (⟨#[]⟩ : ByteArray), .string (⟨#[]⟩ : ByteArray)] (0, 0) _ rfl (by (with_reducible repeat (first | refine blk_drewN ?_ _ | refine blk_drew ?_ | refine blk_alloc ?_ _)); refine blk_put (cs := #[.string (⟨#[]⟩ : ByteArray), .int .i64 0, .int .i64 0, .string (⟨#[]⟩ : ByteArray), .string (⟨#[]⟩ : ByteArray)]) ?_ 4 _ rfl; (with_reducible repeat (first | refine blk_drewN ?_ _ | refine blk_drew ?_ | refine blk_alloc ?_ _)); refine blk_put (cs := #[.string (⟨#[]⟩ : ByteArray), .int .i64 0, .int .i64 0, .string (⟨#[]⟩ : ByteArray), .string (⟨#[]⟩ : ByteArray)]) ?_ 3 _ rfl; (with_reducible repeat (first | refine blk_drewN ?_ _ | refine blk_drew ?_ | refine blk_alloc ?_ _)); refine blk_put (cs := #[.string (⟨#[]⟩ : ByteArray), .int .i64 0, .int .i64 0, .string (⟨#[]⟩ : ByteArray), .string (⟨#[]⟩ : ByteArray)]) ?_ 2 _ rfl; (with_reducible repeat (first | refine blk_drewN ?_ _ | refine blk_drew ?_ | refine blk_alloc ?_ _)); refine blk_put (cs := #[.string (⟨#[]⟩ : ByteArray), .int .i64 0, .int .i64 0, .string (⟨#[]⟩ : ByteArray), .string (⟨#[]⟩ : ByteArray)]) ?_ 1 _ rfl; (with_reducible repeat (first | refine blk_drewN ?_ _ | refine blk_drew ?_ | refine blk_alloc ?_ _)); refine blk_put (cs := #[.string (⟨#[]⟩ : ByteArray), .int .i64 0, .int .i64 0, .string (⟨#[]⟩ : ByteArray), .string (⟨#[]⟩ : ByteArray)]) ?_ 0 _ rfl; (with_reducible repeat (first | refine blk_drewN ?_ _ | refine blk_drew ?_ | refine blk_alloc ?_ _)); exact BK146.out) Try.underlying49 rfl (by kernel_rfl)) rfl ?_
    exact ⟨by first | rfl | (simp [errW_none, errW_some] <;> rfl) | (simp [*, errW_none, errW_some] <;> rfl), by repeat (first | (with_reducible first | exact HB.out | apply below_alloc | apply pw_below_drewN | apply below_drew1 | refine below_set ?_ GE146.out) | exact HB.out)⟩
  · rw [if_neg c4] at H
    have c4b0 : decide ((a0.size : Int) < (wrap64 (a1 + 7))) = false := decide_eq_false c4
    clear c4
    by_cases c7 : 0 ≤ a1
    · rw [if_pos c7] at H
      have c7b0 : decide (0 ≤ a1) = true := decide_eq_true c7
      clear c7
      by_cases c8 : a1 < (a0.size : Int)
      · rw [if_pos c8] at H
        have c8b0 : decide (a1 < (a0.size : Int)) = true := decide_eq_true c8
        clear c8
        obtain ⟨ji10, hji10⟩ : ∃ j_ : Int, (wrap64 (a1 + 1)) = j_ := ⟨_, rfl⟩
        replace H : (if 0 ≤ (ji10) then (if (ji10) < (a0.size : Int) then (if 0 ≤ (wrap64 (a1 + 6)) then (if (wrap64 (a1 + 6)) < (a0.size : Int) then (if (wrap64 ((wrap64 ((wrap64 (a1 + 7)) + (wrap64 (bt a0 (ji10))))) + (wrap64 (bt a0 (wrap64 (a1 + 6)))))) > (a0.size : Int) then (spec_l20Next.j0 k a0 a1 a2 (wrap64 (bt a0 a1)) (wrap64 (bt a0 (ji10))) (wrap64 ((wrap64 ((wrap64 (a1 + 7)) + (wrap64 (bt a0 (ji10))))) + (wrap64 (bt a0 (wrap64 (a1 + 6)))))) true) else (spec_l20Next.j0 k a0 a1 a2 (wrap64 (bt a0 a1)) (wrap64 (bt a0 (ji10))) (wrap64 ((wrap64 ((wrap64 (a1 + 7)) + (wrap64 (bt a0 (ji10))))) + (wrap64 (bt a0 (wrap64 (a1 + 6)))))) (decide ((wrap64 (bt a0 a1)) > (a2.size : Int))))) else (none)) else (none)) else (none)) else (none)) = some (r1, r2, r3, r4, r5, r6) := by first | (rw [hji10] at H; exact H) | (simp only [hji10] at H ⊢; exact H)
        have hji10w : (IntKind.i64.wrap (a1 + 1)) = ji10 := (i64_w _).trans hji10
        by_cases c11 : 0 ≤ (ji10)
        · rw [if_pos c11] at H
          have c11b0 : decide (0 ≤ (ji10)) = true := decide_eq_true c11
          clear c11
          by_cases c12 : (ji10) < (a0.size : Int)
          · rw [if_pos c12] at H
            have c12b0 : decide ((ji10) < (a0.size : Int)) = true := decide_eq_true c12
            clear c12
            obtain ⟨ji14, hji14⟩ : ∃ j_ : Int, (wrap64 (a1 + 6)) = j_ := ⟨_, rfl⟩
            replace H : (if 0 ≤ (ji14) then (if (ji14) < (a0.size : Int) then (if (wrap64 ((wrap64 ((wrap64 (a1 + 7)) + (wrap64 (bt a0 (ji10))))) + (wrap64 (bt a0 (ji14))))) > (a0.size : Int) then (spec_l20Next.j0 k a0 a1 a2 (wrap64 (bt a0 a1)) (wrap64 (bt a0 (ji10))) (wrap64 ((wrap64 ((wrap64 (a1 + 7)) + (wrap64 (bt a0 (ji10))))) + (wrap64 (bt a0 (ji14))))) true) else (spec_l20Next.j0 k a0 a1 a2 (wrap64 (bt a0 a1)) (wrap64 (bt a0 (ji10))) (wrap64 ((wrap64 ((wrap64 (a1 + 7)) + (wrap64 (bt a0 (ji10))))) + (wrap64 (bt a0 (ji14))))) (decide ((wrap64 (bt a0 a1)) > (a2.size : Int))))) else (none)) else (none)) = some (r1, r2, r3, r4, r5, r6) := by first | (rw [hji14] at H; exact H) | (simp only [hji14] at H ⊢; exact H)
            have hji14w : (IntKind.i64.wrap (a1 + 6)) = ji14 := (i64_w _).trans hji14
            by_cases c15 : 0 ≤ (ji14)
            · rw [if_pos c15] at H
              have c15b0 : decide (0 ≤ (ji14)) = true := decide_eq_true c15
              clear c15
              by_cases c16 : (ji14) < (a0.size : Int)
              · rw [if_pos c16] at H
                have c16b0 : decide ((ji14) < (a0.size : Int)) = true := decide_eq_true c16
                clear c16
                have HC18 := Aside0.mk H
                clear H
                go_enter Try.func93, Try.ntmps93
                go_upto_region 7 with (first | ((with_reducible refine gate_dst (N := 6) rfl ?_); (try (refine gate_guard (by rfl) ?_; dsimp only)); refine box_event ?hg (N := 6) ?hd (cs := #[.string (⟨#[]⟩ : ByteArray), .int .i64 0, .int .i64 0, .string (⟨#[]⟩ : ByteArray), .string (⟨#[]⟩ : ByteArray)]) (t := 49) ?hr ?_; (case hd => rfl); (case hg => rfl); (case hr => first | (go_simp; done) | (go_simp; rfl)); intro gb146 hg w19 hbox hb; have n0_ := Aside0.mk (below_step (by repeat (first | (with_reducible first | exact HB.out | apply below_alloc | apply pw_below_drewN | apply below_drew1) | exact HB.out)) hb); have n1_ := Aside0.mk (hbox); have n2_ := Aside0.mk ((by rw [hg]; exact (below_size (by repeat (first | (with_reducible first | exact HB.out | apply below_alloc | apply pw_below_drewN | apply below_drew1) | exact HB.out))) : w.heap.size ≤ gb146)); have n3_ := Aside0.mk ((by rw [hg]; exact (below_size (by repeat (first | (with_reducible first | exact HB.out | apply below_alloc | apply pw_below_drewN | apply below_drew1) | exact HB.out))) : w.heap.size ≤ gb146)); clear HB; have HB := n0_; have BK146 := n1_; have GW146 := n2_; have GE146 := n3_; clear n0_ n1_ n2_ n3_; clear hb hbox hg; have p9 : 0 ≤ (a1 : Int) := of_decide_eq_true (by first | (with_reducible assumption) | assumption); have q9 : a1 < (a0.size : Int) := of_decide_eq_true (by first | (with_reducible assumption) | assumption); have hx9 := bt_at a0 a1; replace p9 := eq_true p9; replace q9 := eq_true q9; have p13 : 0 ≤ ((ji10) : Int) := of_decide_eq_true (by first | (with_reducible assumption) | assumption); have q13 : (ji10) < (a0.size : Int) := of_decide_eq_true (by first | (with_reducible assumption) | assumption); have hx13 := bt_at a0 (ji10); replace p13 := eq_true p13; replace q13 := eq_true q13; have p17 : 0 ≤ ((ji14) : Int) := of_decide_eq_true (by first | (with_reducible assumption) | assumption); have q17 : (ji14) < (a0.size : Int) := of_decide_eq_true (by first | (with_reducible assumption) | assumption); have hx17 := bt_at a0 (ji14); replace p17 := eq_true p17; replace q17 := eq_true q17))
                (try simp only [Act.put, List.setIfInBounds_toArray, List.set_cons_zero, List.set_cons_succ])
                go_cut [48] (fun v48 wc => ∃ (kq : Nat) (x48_17 : Bool), v48 = .bool x48_17 ∧ Aside0 (spec_l20Next.j0 kq a0 a1 a2 (wrap64 (bt a0 a1)) (wrap64 (bt a0 (ji10))) (wrap64 ((wrap64 ((wrap64 (a1 + 7)) + (wrap64 (bt a0 (ji10))))) + (wrap64 (bt a0 (ji14))))) x48_17 = some (r1, r2, r3, r4, r5, r6)) ∧ Aside0 (kq ≤ k) ∧ Aside0 (wc.heap[gb146]? = some (.cells #[.string (⟨#[]⟩ : ByteArray), .int .i64 0, .int .i64 0, .string (⟨#[]⟩ : ByteArray), .string (⟨#[]⟩ : ByteArray)] 49 (0, 0))) ∧ Aside0 (Below w.heap.size w wc))
                case first =>
                  have H := HC18.out
                  clear HC18
                  by_cases c20 : (wrap64 ((wrap64 ((wrap64 (a1 + 7)) + (wrap64 (bt a0 (ji10))))) + (wrap64 (bt a0 (ji14))))) > (a0.size : Int)
                  · rw [if_pos c20] at H
                    have c20b0 : decide ((a0.size : Int) < (wrap64 ((wrap64 ((wrap64 (a1 + 7)) + (wrap64 (bt a0 (ji10))))) + (wrap64 (bt a0 (ji14)))))) = true := decide_eq_true c20
                    clear c20
                    (first | rw [c20b0] | (simp only [i64_w, i32_w]; rw [c20b0]) | skip)
                    have H' := Aside0.mk H
                    clear H
                    go_wp2
                    go_meet
                    case rel => exact ⟨_, (true), (by first | rfl | (simp; done) | (simp [*]; done)), H', ⟨by first | omega | exact Nat.le_refl _⟩, ⟨by (with_reducible repeat (first | refine blk_drewN ?_ _ | refine blk_drew ?_ | refine blk_alloc ?_ _)); exact BK146.out⟩, ⟨by repeat (first | (with_reducible first | exact HB.out | apply below_alloc | apply pw_below_drewN | apply below_drew1 | refine below_set ?_ GE146.out) | exact HB.out)⟩⟩
                  · rw [if_neg c20] at H
                    have c20b0 : decide ((a0.size : Int) < (wrap64 ((wrap64 ((wrap64 (a1 + 7)) + (wrap64 (bt a0 (ji10))))) + (wrap64 (bt a0 (ji14)))))) = false := decide_eq_false c20
                    clear c20
                    (first | rw [c20b0] | (simp only [i64_w, i32_w]; rw [c20b0]) | skip)
                    have H' := Aside0.mk H
                    clear H
                    go_wp2
                    go_meet
                    case rel => exact ⟨_, (decide ((wrap64 (bt a0 a1)) > (a2.size : Int))), (by first | rfl | (simp; done) | (simp [*]; done)), H', ⟨by first | omega | exact Nat.le_refl _⟩, ⟨by (with_reducible repeat (first | refine blk_drewN ?_ _ | refine blk_drew ?_ | refine blk_alloc ?_ _)); exact BK146.out⟩, ⟨by repeat (first | (with_reducible first | exact HB.out | apply below_alloc | apply pw_below_drewN | apply below_drew1 | refine below_set ?_ GE146.out) | exact HB.out)⟩⟩
                case rest =>
                  clear HC18
                  try clear c1
                  try clear p1
                  try clear q1
                  try clear hx1
                  try clear c2
                  try clear p2
                  try clear c4
                  try clear c4b0
                  try clear p6
                  try clear c7
                  try clear c7b0
                  try clear c8
                  try clear c8b0
                  try clear c9
                  try clear p9
                  try clear q9
                  try clear hx9
                  try clear c11
                  try clear c11b0
                  try clear c12
                  try clear c12b0
                  try clear p13
                  try clear q13
                  try clear hx13
                  try clear c15
                  try clear c15b0
                  try clear c16
                  try clear c16b0
                  try clear p17
                  try clear q17
                  try clear hx17
                  try clear c20
                  try clear c20b0
                  try clear hcz6_0
                  try clear hcz6_1
                  try clear hcz6_2
                  try clear hcz6_3
                  try clear hcz6_4
                  try clear hfz6_0
                  try clear hfz6_1
                  try clear hfz6_2
                  try clear hfz6_3
                  try clear hfz6_4
                  try clear p13
                  try clear p17
                  try clear p9
                  try clear q13
                  try clear q17
                  try clear q9
                  obtain ⟨kq, x48_17, rfl, HA, HJ17, BK146, HB⟩ := hcut
                  cases kq with
                  | zero => exact absurd HA.out (by simp [spec_l20Next.j0])
                  | succ kj17 =>
                    have H := HA.out
                    clear HA
                    simp only [spec_l20Next.j0] at H
                    by_cases c21 : x48_17 = true
                    · subst c21
                      have H1 : (some ((⟨#[]⟩ : ByteArray), 0, 0, (⟨#[]⟩ : ByteArray), (⟨#[]⟩ : ByteArray), 0)) = some (r1, r2, r3, r4, r5, r6) := by rw [if_pos rfl] at H; exact H
                      clear H
                      have H := H1
                      clear H1
                      simp only [Option.some.injEq, Prod.mk.injEq] at H
                      obtain ⟨rfl, rfl, rfl, rfl, rfl, rfl⟩ := H
                      have hcz22_0 : wc.cell? ⟨gb146, 0, none⟩ = some (.string (⟨#[]⟩ : ByteArray)) := (blk_cell BK146.out 0).trans rfl
                      have hcz22_1 : wc.cell? ⟨gb146, 1, none⟩ = some (.int .i64 0) := (blk_cell BK146.out 1).trans rfl
                      have hcz22_2 : wc.cell? ⟨gb146, 2, none⟩ = some (.int .i64 0) := (blk_cell BK146.out 2).trans rfl
                      have hcz22_3 : wc.cell? ⟨gb146, 3, none⟩ = some (.string (⟨#[]⟩ : ByteArray)) := (blk_cell BK146.out 3).trans rfl
                      have hcz22_4 : wc.cell? ⟨gb146, 4, none⟩ = some (.string (⟨#[]⟩ : ByteArray)) := (blk_cell BK146.out 4).trans rfl
                      have hfz22_0 := blk_frozen BK146.out 0
                      have hfz22_1 := blk_frozen BK146.out 1
                      have hfz22_2 := blk_frozen BK146.out 2
                      have hfz22_3 := blk_frozen BK146.out 3
                      have hfz22_4 := blk_frozen BK146.out 4
                      go_wp2
                      refine bodyPost_ret (results_ct rfl _ _ gb146 49 #[.string (⟨#[]⟩ : ByteArray), .int .i64 0, .int .i64 0, .string (⟨#[]⟩ : ByteArray), .string (⟨#[]⟩ : ByteArray)] (0, 0) _ rfl (by (with_reducible repeat (first | refine blk_drewN ?_ _ | refine blk_drew ?_ | refine blk_alloc ?_ _)); refine blk_put (cs := #[.string (⟨#[]⟩ : ByteArray), .int .i64 0, .int .i64 0, .string (⟨#[]⟩ : ByteArray), .string (⟨#[]⟩ : ByteArray)]) ?_ 4 _ rfl; (with_reducible repeat (first | refine blk_drewN ?_ _ | refine blk_drew ?_ | refine blk_alloc ?_ _)); refine blk_put (cs := #[.string (⟨#[]⟩ : ByteArray), .int .i64 0, .int .i64 0, .string (⟨#[]⟩ : ByteArray), .string (⟨#[]⟩ : ByteArray)]) ?_ 3 _ rfl; (with_reducible repeat (first | refine blk_drewN ?_ _ | refine blk_drew ?_ | refine blk_alloc ?_ _)); refine blk_put (cs := #[.string (⟨#[]⟩ : ByteArray), .int .i64 0, .int .i64 0, .string (⟨#[]⟩ : ByteArray), .string (⟨#[]⟩ : ByteArray)]) ?_ 2 _ rfl; (with_reducible repeat (first | refine blk_drewN ?_ _ | refine blk_drew ?_ | refine blk_alloc ?_ _)); refine blk_put (cs := #[.string (⟨#[]⟩ : ByteArray), .int .i64 0, .int .i64 0, .string (⟨#[]⟩ : ByteArray), .string (⟨#[]⟩ : ByteArray)]) ?_ 1 _ rfl; (with_reducible repeat (first | refine blk_drewN ?_ _ | refine blk_drew ?_ | refine blk_alloc ?_ _)); refine blk_put (cs := #[.string (⟨#[]⟩ : ByteArray), .int .i64 0, .int .i64 0, .string (⟨#[]⟩ : ByteArray), .string (⟨#[]⟩ : ByteArray)]) ?_ 0 _ rfl; (with_reducible repeat (first | refine blk_drewN ?_ _ | refine blk_drew ?_ | refine blk_alloc ?_ _)); exact BK146.out) Try.underlying49 rfl (by kernel_rfl)) rfl ?_
                      exact ⟨by first | rfl | (simp [errW_none, errW_some] <;> rfl) | (simp only [← hji10, ← hji14]; first | rfl | (simp [errW_none, errW_some] <;> rfl)) | (simp [*, errW_none, errW_some] <;> rfl), by repeat (first | (with_reducible first | exact HB.out | apply below_alloc | apply pw_below_drewN | apply below_drew1 | refine below_set ?_ GE146.out) | exact HB.out)⟩
                    · replace c21 := Bool.eq_false_iff.mpr c21
                      subst c21
                      have H1 : (if 0 ≤ (wrap64 (a1 + 5)) then (if (wrap64 (a1 + 5)) < (a0.size : Int) then (if 0 ≤ (wrap64 (a1 + 2)) then (if (wrap64 (a1 + 2)) ≤ (wrap64 (a1 + 5)) then (if (wrap64 (a1 + 5)) ≤ (a0.size : Int) then ((spec_l17Num.f kj17 (a0.extract ((wrap64 (a1 + 2)) : Int).toNat ((wrap64 (a1 + 5)) : Int).toNat)).bind fun t147 => (if 0 ≤ (wrap64 (bt a0 a1)) then (if (wrap64 (bt a0 a1)) ≤ (a2.size : Int) then (if 0 ≤ (wrap64 (a1 + 7)) then (if (wrap64 (a1 + 7)) ≤ (wrap64 ((wrap64 (a1 + 7)) + (wrap64 (bt a0 (ji10))))) then (if (wrap64 ((wrap64 (a1 + 7)) + (wrap64 (bt a0 (ji10))))) ≤ (a0.size : Int) then (if (a2.extract 0 ((wrap64 (bt a0 a1)) : Int).toNat).size + (a0.extract ((wrap64 (a1 + 7)) : Int).toNat ((wrap64 ((wrap64 (a1 + 7)) + (wrap64 (bt a0 (ji10))))) : Int).toNat).size ≤ 9223372036854775807 then (if 0 ≤ (wrap64 ((wrap64 (a1 + 7)) + (wrap64 (bt a0 (ji10))))) then (if (wrap64 ((wrap64 (a1 + 7)) + (wrap64 (bt a0 (ji10))))) ≤ (wrap64 ((wrap64 ((wrap64 (a1 + 7)) + (wrap64 (bt a0 (ji10))))) + (wrap64 (bt a0 (ji14))))) then (if (wrap64 ((wrap64 ((wrap64 (a1 + 7)) + (wrap64 (bt a0 (ji10))))) + (wrap64 (bt a0 (ji14))))) ≤ (a0.size : Int) then ((spec_l17With.f ((a2.extract 0 ((wrap64 (bt a0 a1)) : Int).toNat) ++ (a0.extract ((wrap64 (a1 + 7)) : Int).toNat ((wrap64 ((wrap64 (a1 + 7)) + (wrap64 (bt a0 (ji10))))) : Int).toNat)) t147 (wrap64 (bt a0 (wrap64 (a1 + 5)))) (⟨#[]⟩ : ByteArray) (⟨#[]⟩ : ByteArray) (a0.extract ((wrap64 ((wrap64 (a1 + 7)) + (wrap64 (bt a0 (ji10))))) : Int).toNat ((wrap64 ((wrap64 ((wrap64 (a1 + 7)) + (wrap64 (bt a0 (ji10))))) + (wrap64 (bt a0 (ji14))))) : Int).toNat)).bind fun bt149 => (some (bt149.1, bt149.2.1, bt149.2.2.1, bt149.2.2.2.1, bt149.2.2.2.2, (wrap64 ((wrap64 ((wrap64 (a1 + 7)) + (wrap64 (bt a0 (ji10))))) + (wrap64 (bt a0 (ji14)))))))) else (none)) else (none)) else (none)) else (none)) else (none)) else (none)) else (none)) else (none)) else (none))) else (none)) else (none)) else (none)) else (none)) else (none)) = some (r1, r2, r3, r4, r5, r6) := by rw [if_neg (show ¬ (false = true) by decide)] at H; exact H
                      clear H
                      have H := H1
                      clear H1
                      obtain ⟨ji23, hji23⟩ : ∃ j_ : Int, (wrap64 (a1 + 5)) = j_ := ⟨_, rfl⟩
                      replace H : (if 0 ≤ (ji23) then (if (ji23) < (a0.size : Int) then (if 0 ≤ (wrap64 (a1 + 2)) then (if (wrap64 (a1 + 2)) ≤ (ji23) then (if (ji23) ≤ (a0.size : Int) then ((spec_l17Num.f kj17 (a0.extract ((wrap64 (a1 + 2)) : Int).toNat ((ji23) : Int).toNat)).bind fun t147 => (if 0 ≤ (wrap64 (bt a0 a1)) then (if (wrap64 (bt a0 a1)) ≤ (a2.size : Int) then (if 0 ≤ (wrap64 (a1 + 7)) then (if (wrap64 (a1 + 7)) ≤ (wrap64 ((wrap64 (a1 + 7)) + (wrap64 (bt a0 (ji10))))) then (if (wrap64 ((wrap64 (a1 + 7)) + (wrap64 (bt a0 (ji10))))) ≤ (a0.size : Int) then (if (a2.extract 0 ((wrap64 (bt a0 a1)) : Int).toNat).size + (a0.extract ((wrap64 (a1 + 7)) : Int).toNat ((wrap64 ((wrap64 (a1 + 7)) + (wrap64 (bt a0 (ji10))))) : Int).toNat).size ≤ 9223372036854775807 then (if 0 ≤ (wrap64 ((wrap64 (a1 + 7)) + (wrap64 (bt a0 (ji10))))) then (if (wrap64 ((wrap64 (a1 + 7)) + (wrap64 (bt a0 (ji10))))) ≤ (wrap64 ((wrap64 ((wrap64 (a1 + 7)) + (wrap64 (bt a0 (ji10))))) + (wrap64 (bt a0 (ji14))))) then (if (wrap64 ((wrap64 ((wrap64 (a1 + 7)) + (wrap64 (bt a0 (ji10))))) + (wrap64 (bt a0 (ji14))))) ≤ (a0.size : Int) then ((spec_l17With.f ((a2.extract 0 ((wrap64 (bt a0 a1)) : Int).toNat) ++ (a0.extract ((wrap64 (a1 + 7)) : Int).toNat ((wrap64 ((wrap64 (a1 + 7)) + (wrap64 (bt a0 (ji10))))) : Int).toNat)) t147 (wrap64 (bt a0 (ji23))) (⟨#[]⟩ : ByteArray) (⟨#[]⟩ : ByteArray) (a0.extract ((wrap64 ((wrap64 (a1 + 7)) + (wrap64 (bt a0 (ji10))))) : Int).toNat ((wrap64 ((wrap64 ((wrap64 (a1 + 7)) + (wrap64 (bt a0 (ji10))))) + (wrap64 (bt a0 (ji14))))) : Int).toNat)).bind fun bt149 => (some (bt149.1, bt149.2.1, bt149.2.2.1, bt149.2.2.2.1, bt149.2.2.2.2, (wrap64 ((wrap64 ((wrap64 (a1 + 7)) + (wrap64 (bt a0 (ji10))))) + (wrap64 (bt a0 (ji14)))))))) else (none)) else (none)) else (none)) else (none)) else (none)) else (none)) else (none)) else (none)) else (none))) else (none)) else (none)) else (none)) else (none)) else (none)) = some (r1, r2, r3, r4, r5, r6) := by first | (rw [hji23] at H; exact H) | (simp only [hji23] at H ⊢; exact H)
                      have hji23w : (IntKind.i64.wrap (a1 + 5)) = ji23 := (i64_w _).trans hji23
                      by_cases c24 : 0 ≤ (ji23)
                      · rw [if_pos c24] at H
                        have c24b0 : decide (0 ≤ (ji23)) = true := decide_eq_true c24
                        clear c24
                        by_cases c25 : (ji23) < (a0.size : Int)
                        · rw [if_pos c25] at H
                          have c25b0 : decide ((ji23) < (a0.size : Int)) = true := decide_eq_true c25
                          clear c25
                          obtain ⟨ji27, hji27⟩ : ∃ j_ : Int, (wrap64 (a1 + 2)) = j_ := ⟨_, rfl⟩
                          replace H : (if 0 ≤ (ji27) then (if (ji27) ≤ (ji23) then (if (ji23) ≤ (a0.size : Int) then ((spec_l17Num.f kj17 (a0.extract ((ji27) : Int).toNat ((ji23) : Int).toNat)).bind fun t147 => (if 0 ≤ (wrap64 (bt a0 a1)) then (if (wrap64 (bt a0 a1)) ≤ (a2.size : Int) then (if 0 ≤ (wrap64 (a1 + 7)) then (if (wrap64 (a1 + 7)) ≤ (wrap64 ((wrap64 (a1 + 7)) + (wrap64 (bt a0 (ji10))))) then (if (wrap64 ((wrap64 (a1 + 7)) + (wrap64 (bt a0 (ji10))))) ≤ (a0.size : Int) then (if (a2.extract 0 ((wrap64 (bt a0 a1)) : Int).toNat).size + (a0.extract ((wrap64 (a1 + 7)) : Int).toNat ((wrap64 ((wrap64 (a1 + 7)) + (wrap64 (bt a0 (ji10))))) : Int).toNat).size ≤ 9223372036854775807 then (if 0 ≤ (wrap64 ((wrap64 (a1 + 7)) + (wrap64 (bt a0 (ji10))))) then (if (wrap64 ((wrap64 (a1 + 7)) + (wrap64 (bt a0 (ji10))))) ≤ (wrap64 ((wrap64 ((wrap64 (a1 + 7)) + (wrap64 (bt a0 (ji10))))) + (wrap64 (bt a0 (ji14))))) then (if (wrap64 ((wrap64 ((wrap64 (a1 + 7)) + (wrap64 (bt a0 (ji10))))) + (wrap64 (bt a0 (ji14))))) ≤ (a0.size : Int) then ((spec_l17With.f ((a2.extract 0 ((wrap64 (bt a0 a1)) : Int).toNat) ++ (a0.extract ((wrap64 (a1 + 7)) : Int).toNat ((wrap64 ((wrap64 (a1 + 7)) + (wrap64 (bt a0 (ji10))))) : Int).toNat)) t147 (wrap64 (bt a0 (ji23))) (⟨#[]⟩ : ByteArray) (⟨#[]⟩ : ByteArray) (a0.extract ((wrap64 ((wrap64 (a1 + 7)) + (wrap64 (bt a0 (ji10))))) : Int).toNat ((wrap64 ((wrap64 ((wrap64 (a1 + 7)) + (wrap64 (bt a0 (ji10))))) + (wrap64 (bt a0 (ji14))))) : Int).toNat)).bind fun bt149 => (some (bt149.1, bt149.2.1, bt149.2.2.1, bt149.2.2.2.1, bt149.2.2.2.2, (wrap64 ((wrap64 ((wrap64 (a1 + 7)) + (wrap64 (bt a0 (ji10))))) + (wrap64 (bt a0 (ji14)))))))) else (none)) else (none)) else (none)) else (none)) else (none)) else (none)) else (none)) else (none)) else (none))) else (none)) else (none)) else (none)) = some (r1, r2, r3, r4, r5, r6) := by first | (rw [hji27] at H; exact H) | (simp only [hji27] at H ⊢; exact H)
                          have hji27w : (IntKind.i64.wrap (a1 + 2)) = ji27 := (i64_w _).trans hji27
                          by_cases c28 : 0 ≤ (ji27)
                          · rw [if_pos c28] at H
                            have c28b0 := eq_true c28
                            have c28b1 : decide (0 ≤ (ji27)) = true := decide_eq_true c28
                            clear c28
                            by_cases c29 : (ji27) ≤ (ji23)
                            · rw [if_pos c29] at H
                              have c29b0 := eq_true c29
                              have c29b1 : decide ((ji27) ≤ (ji23)) = true := decide_eq_true c29
                              clear c29
                              by_cases c30 : (ji23) ≤ (a0.size : Int)
                              · rw [if_pos c30] at H
                                have c30b0 := eq_true c30
                                have c30b1 : decide ((ji23) ≤ (a0.size : Int)) = true := decide_eq_true c30
                                clear c30
                                replace H := Option.bind_eq_some_iff.mp H
                                obtain ⟨t147, A310, H⟩ := H
                                replace H : (if 0 ≤ (wrap64 (bt a0 a1)) then (if (wrap64 (bt a0 a1)) ≤ (a2.size : Int) then (if 0 ≤ (wrap64 (a1 + 7)) then (if (wrap64 (a1 + 7)) ≤ (wrap64 ((wrap64 (a1 + 7)) + (wrap64 (bt a0 (ji10))))) then (if (wrap64 ((wrap64 (a1 + 7)) + (wrap64 (bt a0 (ji10))))) ≤ (a0.size : Int) then (if (a2.extract 0 ((wrap64 (bt a0 a1)) : Int).toNat).size + (a0.extract ((wrap64 (a1 + 7)) : Int).toNat ((wrap64 ((wrap64 (a1 + 7)) + (wrap64 (bt a0 (ji10))))) : Int).toNat).size ≤ 9223372036854775807 then (if 0 ≤ (wrap64 ((wrap64 (a1 + 7)) + (wrap64 (bt a0 (ji10))))) then (if (wrap64 ((wrap64 (a1 + 7)) + (wrap64 (bt a0 (ji10))))) ≤ (wrap64 ((wrap64 ((wrap64 (a1 + 7)) + (wrap64 (bt a0 (ji10))))) + (wrap64 (bt a0 (ji14))))) then (if (wrap64 ((wrap64 ((wrap64 (a1 + 7)) + (wrap64 (bt a0 (ji10))))) + (wrap64 (bt a0 (ji14))))) ≤ (a0.size : Int) then ((spec_l17With.f ((a2.extract 0 ((wrap64 (bt a0 a1)) : Int).toNat) ++ (a0.extract ((wrap64 (a1 + 7)) : Int).toNat ((wrap64 ((wrap64 (a1 + 7)) + (wrap64 (bt a0 (ji10))))) : Int).toNat)) t147 (wrap64 (bt a0 (ji23))) (⟨#[]⟩ : ByteArray) (⟨#[]⟩ : ByteArray) (a0.extract ((wrap64 ((wrap64 (a1 + 7)) + (wrap64 (bt a0 (ji10))))) : Int).toNat ((wrap64 ((wrap64 ((wrap64 (a1 + 7)) + (wrap64 (bt a0 (ji10))))) + (wrap64 (bt a0 (ji14))))) : Int).toNat)).bind fun bt149 => (some (bt149.1, bt149.2.1, bt149.2.2.1, bt149.2.2.2.1, bt149.2.2.2.2, (wrap64 ((wrap64 ((wrap64 (a1 + 7)) + (wrap64 (bt a0 (ji10))))) + (wrap64 (bt a0 (ji14)))))))) else (none)) else (none)) else (none)) else (none)) else (none)) else (none)) else (none)) else (none)) else (none)) = some (r1, r2, r3, r4, r5, r6) := H
                                have A31 := Aside0.mk A310
                                clear A310
                                obtain ⟨ji32, hji32⟩ : ∃ j_ : Int, (wrap64 (bt a0 a1)) = j_ := ⟨_, rfl⟩
                                replace H : (if 0 ≤ (ji32) then (if (ji32) ≤ (a2.size : Int) then (if 0 ≤ (wrap64 (a1 + 7)) then (if (wrap64 (a1 + 7)) ≤ (wrap64 ((wrap64 (a1 + 7)) + (wrap64 (bt a0 (ji10))))) then (if (wrap64 ((wrap64 (a1 + 7)) + (wrap64 (bt a0 (ji10))))) ≤ (a0.size : Int) then (if (a2.extract 0 ((ji32) : Int).toNat).size + (a0.extract ((wrap64 (a1 + 7)) : Int).toNat ((wrap64 ((wrap64 (a1 + 7)) + (wrap64 (bt a0 (ji10))))) : Int).toNat).size ≤ 9223372036854775807 then (if 0 ≤ (wrap64 ((wrap64 (a1 + 7)) + (wrap64 (bt a0 (ji10))))) then (if (wrap64 ((wrap64 (a1 + 7)) + (wrap64 (bt a0 (ji10))))) ≤ (wrap64 ((wrap64 ((wrap64 (a1 + 7)) + (wrap64 (bt a0 (ji10))))) + (wrap64 (bt a0 (ji14))))) then (if (wrap64 ((wrap64 ((wrap64 (a1 + 7)) + (wrap64 (bt a0 (ji10))))) + (wrap64 (bt a0 (ji14))))) ≤ (a0.size : Int) then ((spec_l17With.f ((a2.extract 0 ((ji32) : Int).toNat) ++ (a0.extract ((wrap64 (a1 + 7)) : Int).toNat ((wrap64 ((wrap64 (a1 + 7)) + (wrap64 (bt a0 (ji10))))) : Int).toNat)) t147 (wrap64 (bt a0 (ji23))) (⟨#[]⟩ : ByteArray) (⟨#[]⟩ : ByteArray) (a0.extract ((wrap64 ((wrap64 (a1 + 7)) + (wrap64 (bt a0 (ji10))))) : Int).toNat ((wrap64 ((wrap64 ((wrap64 (a1 + 7)) + (wrap64 (bt a0 (ji10))))) + (wrap64 (bt a0 (ji14))))) : Int).toNat)).bind fun bt149 => (some (bt149.1, bt149.2.1, bt149.2.2.1, bt149.2.2.2.1, bt149.2.2.2.2, (wrap64 ((wrap64 ((wrap64 (a1 + 7)) + (wrap64 (bt a0 (ji10))))) + (wrap64 (bt a0 (ji14)))))))) else (none)) else (none)) else (none)) else (none)) else (none)) else (none)) else (none)) else (none)) else (none)) = some (r1, r2, r3, r4, r5, r6) := by first | (rw [hji32] at H; exact H) | (simp only [hji32] at H ⊢; exact H)
                                (try rw [hji32] at A31)
                                have hji32w : (IntKind.i64.wrap (bt a0 a1)) = ji32 := (i64_w _).trans hji32
                                by_cases c33 : 0 ≤ (ji32)
                                · rw [if_pos c33] at H
                                  have c33b0 := eq_true c33
                                  have c33b1 : decide (0 ≤ (ji32)) = true := decide_eq_true c33
                                  clear c33
                                  by_cases c34 : (ji32) ≤ (a2.size : Int)
                                  · rw [if_pos c34] at H
                                    have c34b0 := eq_true c34
                                    have c34b1 : decide ((ji32) ≤ (a2.size : Int)) = true := decide_eq_true c34
                                    clear c34
                                    obtain ⟨ji35, hji35⟩ : ∃ j_ : Int, (wrap64 (a1 + 7)) = j_ := ⟨_, rfl⟩
                                    replace H : (if 0 ≤ (ji35) then (if (ji35) ≤ (wrap64 ((ji35) + (wrap64 (bt a0 (ji10))))) then (if (wrap64 ((ji35) + (wrap64 (bt a0 (ji10))))) ≤ (a0.size : Int) then (if (a2.extract 0 ((ji32) : Int).toNat).size + (a0.extract ((ji35) : Int).toNat ((wrap64 ((ji35) + (wrap64 (bt a0 (ji10))))) : Int).toNat).size ≤ 9223372036854775807 then (if 0 ≤ (wrap64 ((ji35) + (wrap64 (bt a0 (ji10))))) then (if (wrap64 ((ji35) + (wrap64 (bt a0 (ji10))))) ≤ (wrap64 ((wrap64 ((ji35) + (wrap64 (bt a0 (ji10))))) + (wrap64 (bt a0 (ji14))))) then (if (wrap64 ((wrap64 ((ji35) + (wrap64 (bt a0 (ji10))))) + (wrap64 (bt a0 (ji14))))) ≤ (a0.size : Int) then ((spec_l17With.f ((a2.extract 0 ((ji32) : Int).toNat) ++ (a0.extract ((ji35) : Int).toNat ((wrap64 ((ji35) + (wrap64 (bt a0 (ji10))))) : Int).toNat)) t147 (wrap64 (bt a0 (ji23))) (⟨#[]⟩ : ByteArray) (⟨#[]⟩ : ByteArray) (a0.extract ((wrap64 ((ji35) + (wrap64 (bt a0 (ji10))))) : Int).toNat ((wrap64 ((wrap64 ((ji35) + (wrap64 (bt a0 (ji10))))) + (wrap64 (bt a0 (ji14))))) : Int).toNat)).bind fun bt149 => (some (bt149.1, bt149.2.1, bt149.2.2.1, bt149.2.2.2.1, bt149.2.2.2.2, (wrap64 ((wrap64 ((ji35) + (wrap64 (bt a0 (ji10))))) + (wrap64 (bt a0 (ji14)))))))) else (none)) else (none)) else (none)) else (none)) else (none)) else (none)) else (none)) = some (r1, r2, r3, r4, r5, r6) := by first | (rw [hji35] at H; exact H) | (simp only [hji35] at H ⊢; exact H)
                                    (try rw [hji35] at c4b0)
                                    (try rw [hji35] at A31)
                                    have hji35w : (IntKind.i64.wrap (a1 + 7)) = ji35 := (i64_w _).trans hji35
                                    by_cases c36 : 0 ≤ (ji35)
                                    · rw [if_pos c36] at H
                                      have c36b0 := eq_true c36
                                      have c36b1 : decide (0 ≤ (ji35)) = true := decide_eq_true c36
                                      clear c36
                                      by_cases c37 : (ji35) ≤ (wrap64 ((ji35) + (wrap64 (bt a0 (ji10)))))
                                      · rw [if_pos c37] at H
                                        have c37b0 := eq_true c37
                                        have c37b1 : decide ((ji35) ≤ (wrap64 ((ji35) + (wrap64 (bt a0 (ji10)))))) = true := decide_eq_true c37
                                        by_cases c38 : (wrap64 ((ji35) + (wrap64 (bt a0 (ji10))))) ≤ (a0.size : Int)
                                        · rw [if_pos c38] at H
                                          have c38b0 := eq_true c38
                                          have c38b1 : decide ((wrap64 ((ji35) + (wrap64 (bt a0 (ji10))))) ≤ (a0.size : Int)) = true := decide_eq_true c38
                                          by_cases c39 : (a2.extract 0 ((ji32) : Int).toNat).size + (a0.extract ((ji35) : Int).toNat ((wrap64 ((ji35) + (wrap64 (bt a0 (ji10))))) : Int).toNat).size ≤ 9223372036854775807
                                          · rw [if_pos c39] at H
                                            have c39b0 := eq_true c39
                                            have c39b1 : decide ((a2.extract 0 ((ji32) : Int).toNat).size + (a0.extract ((ji35) : Int).toNat ((wrap64 ((ji35) + (wrap64 (bt a0 (ji10))))) : Int).toNat).size ≤ 9223372036854775807) = true := decide_eq_true c39
                                            try have c39b2 : (9223372036854775807 < (a2.extract 0 ((ji32) : Int).toNat).size + (a0.extract ((ji35) : Int).toNat ((wrap64 ((ji35) + (wrap64 (bt a0 (ji10))))) : Int).toNat).size) = False := eq_false (Nat.not_lt.2 c39)
                                            try have c39b4 : (9223372036854775807 < ((ji32) : Int).toNat + (((wrap64 ((ji35) + (wrap64 (bt a0 (ji10))))) : Int).toNat - ((ji35) : Int).toNat)) = False := StrCmp.cut2_false c39 (Int.toNat_le.2 (by first | assumption | exact of_eq_true (by assumption))) (Int.toNat_le.2 (by first | assumption | exact of_eq_true (by assumption)))
                                            try (have c39b3 := c39b2; simp only [ByteArray.size_extract, Nat.min_self] at c39b3)
                                            obtain ⟨ji40, hji40⟩ : ∃ j_ : Int, (wrap64 ((ji35) + (wrap64 (bt a0 (ji10))))) = j_ := ⟨_, rfl⟩
                                            replace H : (if 0 ≤ (ji40) then (if (ji40) ≤ (wrap64 ((ji40) + (wrap64 (bt a0 (ji14))))) then (if (wrap64 ((ji40) + (wrap64 (bt a0 (ji14))))) ≤ (a0.size : Int) then ((spec_l17With.f ((a2.extract 0 ((ji32) : Int).toNat) ++ (a0.extract ((ji35) : Int).toNat ((ji40) : Int).toNat)) t147 (wrap64 (bt a0 (ji23))) (⟨#[]⟩ : ByteArray) (⟨#[]⟩ : ByteArray) (a0.extract ((ji40) : Int).toNat ((wrap64 ((ji40) + (wrap64 (bt a0 (ji14))))) : Int).toNat)).bind fun bt149 => (some (bt149.1, bt149.2.1, bt149.2.2.1, bt149.2.2.2.1, bt149.2.2.2.2, (wrap64 ((ji40) + (wrap64 (bt a0 (ji14)))))))) else (none)) else (none)) else (none)) = some (r1, r2, r3, r4, r5, r6) := by first | (rw [hji40] at H; exact H) | (simp only [hji40] at H ⊢; exact H)
                                            (try rw [hji40] at c37b0)
                                            (try rw [hji40] at c37b1)
                                            (try rw [hji40] at c37b3)
                                            (try rw [hji40] at c37b4)
                                            (try rw [hji40] at c37)
                                            (try rw [hji40] at c38b0)
                                            (try rw [hji40] at c38b1)
                                            (try rw [hji40] at c38b3)
                                            (try rw [hji40] at c38b4)
                                            (try rw [hji40] at c38)
                                            (try rw [hji40] at c39b0)
                                            (try rw [hji40] at c39b1)
                                            (try rw [hji40] at c39b3)
                                            (try rw [hji40] at c39b4)
                                            (try rw [hji40] at c39)
                                            (try rw [hji40] at A31)
                                            have hji40w : (IntKind.i64.wrap ((ji35) + (wrap64 (bt a0 (ji10))))) = ji40 := (i64_w _).trans hji40
                                            by_cases c41 : 0 ≤ (ji40)
                                            · rw [if_pos c41] at H
                                              have c41b0 := eq_true c41
                                              have c41b1 : decide (0 ≤ (ji40)) = true := decide_eq_true c41
                                              clear c41
                                              by_cases c42 : (ji40) ≤ (wrap64 ((ji40) + (wrap64 (bt a0 (ji14)))))
                                              · rw [if_pos c42] at H
                                                have c42b0 := eq_true c42
                                                have c42b1 : decide ((ji40) ≤ (wrap64 ((ji40) + (wrap64 (bt a0 (ji14)))))) = true := decide_eq_true c42
                                                by_cases c43 : (wrap64 ((ji40) + (wrap64 (bt a0 (ji14))))) ≤ (a0.size : Int)
                                                · rw [if_pos c43] at H
                                                  have c43b0 := eq_true c43
                                                  have c43b1 : decide ((wrap64 ((ji40) + (wrap64 (bt a0 (ji14))))) ≤ (a0.size : Int)) = true := decide_eq_true c43
                                                  replace H := Option.bind_eq_some_iff.mp H
                                                  obtain ⟨⟨t149, t150, t151, t152, t153⟩, A440, H⟩ := H
                                                  replace H : (some (t149, t150, t151, t152, t153, (wrap64 ((ji40) + (wrap64 (bt a0 (ji14))))))) = some (r1, r2, r3, r4, r5, r6) := H
                                                  have A44 := Aside0.mk A440
                                                  clear A440
                                                  simp only [Option.some.injEq, Prod.mk.injEq] at H
                                                  obtain ⟨rfl, rfl, rfl, rfl, rfl, rfl⟩ := H
                                                  try go_wp2
                                                  have n0_ := Aside0.mk (blk_drew BK146.out)
                                                  have n1_ := Aside0.mk (below_drew1 HB.out)
                                                  clear BK146
                                                  clear HB
                                                  have BK146 := n0_
                                                  have HB := n1_
                                                  clear n0_ n1_
                                                  have p26 : 0 ≤ ((ji23) : Int) := of_decide_eq_true (by first | (with_reducible assumption) | assumption)
                                                  have q26 : (ji23) < (a0.size : Int) := of_decide_eq_true (by first | (with_reducible assumption) | assumption)
                                                  have hx26 := bt_at a0 (ji23)
                                                  replace p26 := eq_true p26
                                                  replace q26 := eq_true q26
                                                  refine start_ (n := 27) (S := fun w' => True) (ds := []) #[false, false, false, false, false, false, false, false, false, false, false, false, false, false, false, false, false, false, false, false, false, false, false, false, false, false, false] (by kernel_rfl) rfl rfl trivial (fun hHeld => ?_); refine with_tabW spec_l20Next.tab9 spec_l20Next.bits9 (fun HT_ HW_ => ?_)
                                                  generalize wc.drew = w45 at BK146 HB hHeld ⊢
                                                  refine pure_ (i := 0) (N := some 50) (v := ?_) (a' := ?_) #[true, false, false, false, false, false, false, false, false, false, false, false, false, false, false, false, false, false, false, false, false, false, false, false, false, false, false] rfl rfl (any_of HT_.out (by kernel_rfl)) (fun _ _ _ h => h) (Or.inl ⟨by rfl, ?_⟩) ?_ ?_
                                                  rotate_left
                                                  · intro w'
                                                    go_simp
                                                    with_reducible rfl
                                                  rotate_left
                                                  · simp only [Act.put, List.setIfInBounds_toArray, List.set_cons_zero, List.set_cons_succ, i64_w, i32_w]
                                                    rfl
                                                  refine pure_ (i := 1) (N := some 51) (v := ?_) (a' := ?_) #[true, true, false, false, false, false, false, false, false, false, false, false, false, false, false, false, false, false, false, false, false, false, false, false, false, false, false] rfl rfl (any_of HT_.out (by kernel_rfl)) (fun _ _ _ h => h) (Or.inl ⟨by rfl, ?_⟩) ?_ ?_
                                                  rotate_left
                                                  · intro w'
                                                    go_simp
                                                    with_reducible rfl
                                                  rotate_left
                                                  · simp only [Act.put, List.setIfInBounds_toArray, List.set_cons_zero, List.set_cons_succ, i64_w, i32_w]
                                                    rfl
                                                  refine pure_ (i := 2) (N := some 52) (v := ?_) (a' := ?_) #[true, true, true, false, false, false, false, false, false, false, false, false, false, false, false, false, false, false, false, false, false, false, false, false, false, false, false] rfl rfl (any_of HT_.out (by kernel_rfl)) (fun _ _ _ h => h) (Or.inl ⟨by rfl, ?_⟩) ?_ ?_
                                                  rotate_left
                                                  · intro w'
                                                    go_simp
                                                    with_reducible rfl
                                                  rotate_left
                                                  · simp only [Act.put, List.setIfInBounds_toArray, List.set_cons_zero, List.set_cons_succ, i64_w, i32_w]
                                                    rfl
                                                  refine pure_ (i := 5) (N := some 55) (v := ?_) (a' := ?_) #[true, true, true, false, false, true, false, false, false, false, false, false, false, false, false, false, false, false, false, false, false, false, false, false, false, false, false] rfl rfl (any_of HT_.out (by kernel_rfl)) (fun _ _ _ h => h) (Or.inl ⟨by rfl, ?_⟩) ?_ ?_
                                                  rotate_left
                                                  · intro w'
                                                    go_simp
                                                    with_reducible rfl
                                                  rotate_left
                                                  · simp only [Act.put, List.setIfInBounds_toArray, List.set_cons_zero, List.set_cons_succ, i64_w, i32_w]
                                                    rfl
                                                  refine pure_ (i := 6) (N := some 56) (v := ?_) (a' := ?_) #[true, true, true, false, false, true, true, false, false, false, false, false, false, false, false, false, false, false, false, false, false, false, false, false, false, false, false] rfl rfl (any_of HT_.out (by kernel_rfl)) (fun _ _ _ h => h) (Or.inl ⟨by rfl, ?_⟩) ?_ ?_
                                                  rotate_left
                                                  · intro w'
                                                    go_simp
                                                    with_reducible rfl
                                                  rotate_left
                                                  · simp only [Act.put, List.setIfInBounds_toArray, List.set_cons_zero, List.set_cons_succ, i64_w, i32_w]
                                                    rfl
                                                  refine pure_ (i := 7) (N := some 57) (v := ?_) (a' := ?_) #[true, true, true, false, false, true, true, true, false, false, false, false, false, false, false, false, false, false, false, false, false, false, false, false, false, false, false] rfl rfl (any_of HT_.out (by kernel_rfl)) (fun _ _ _ h => h) (Or.inl ⟨by rfl, ?_⟩) ?_ ?_
                                                  rotate_left
                                                  · intro w'
                                                    go_simp
                                                    with_reducible rfl
                                                  rotate_left
                                                  · simp only [Act.put, List.setIfInBounds_toArray, List.set_cons_zero, List.set_cons_succ, i64_w, i32_w]
                                                    rfl
                                                  refine pure_ (i := 8) (N := some 58) (v := ?_) (a' := ?_) #[true, true, true, false, false, true, true, true, true, false, false, false, false, false, false, false, false, false, false, false, false, false, false, false, false, false, false] rfl rfl (any_of HT_.out (by kernel_rfl)) (fun _ _ _ h => h) (Or.inl ⟨by rfl, ?_⟩) ?_ ?_
                                                  rotate_left
                                                  · intro w'
                                                    go_simp
                                                    with_reducible rfl
                                                  rotate_left
                                                  · simp only [Act.put, List.setIfInBounds_toArray, List.set_cons_zero, List.set_cons_succ, i64_w, i32_w]
                                                    rfl
                                                  refine pure_ (i := 9) (N := some 59) (v := ?_) (a' := ?_) #[true, true, true, false, false, true, true, true, true, true, false, false, false, false, false, false, false, false, false, false, false, false, false, false, false, false, false] rfl rfl (any_of HT_.out (by kernel_rfl)) (fun _ _ _ h => h) (Or.inl ⟨by rfl, ?_⟩) ?_ ?_
                                                  rotate_left
                                                  · intro w'
                                                    go_simp
                                                    with_reducible rfl
                                                  rotate_left
                                                  · simp only [Act.put, List.setIfInBounds_toArray, List.set_cons_zero, List.set_cons_succ, i64_w, i32_w]
                                                    rfl
                                                  refine pure_ (i := 10) (N := some 60) (v := ?_) (a' := ?_) #[true, true, true, false, false, true, true, true, true, true, true, false, false, false, false, false, false, false, false, false, false, false, false, false, false, false, false] rfl rfl (any_of HT_.out (by kernel_rfl)) (fun _ _ _ h => h) (Or.inl ⟨by rfl, ?_⟩) ?_ ?_
                                                  rotate_left
                                                  · intro w'
                                                    go_simp
                                                    with_reducible rfl
                                                  rotate_left
                                                  · simp only [Act.put, List.setIfInBounds_toArray, List.set_cons_zero, List.set_cons_succ, i64_w, i32_w]
                                                    rfl
                                                  refine pure_ (i := 12) (N := some 62) (v := ?_) (a' := ?_) #[true, true, true, false, false, true, true, true, true, true, true, false, true, false, false, false, false, false, false, false, false, false, false, false, false, false, false] rfl rfl (any_of HT_.out (by kernel_rfl)) (fun _ _ _ h => h) (Or.inl ⟨by rfl, ?_⟩) ?_ ?_
                                                  rotate_left
                                                  · intro w'
                                                    go_simp
                                                    with_reducible rfl
                                                  rotate_left
                                                  · simp only [Act.put, List.setIfInBounds_toArray, List.set_cons_zero, List.set_cons_succ, i64_w, i32_w]
                                                    rfl
                                                  refine pure_ (i := 13) (N := some 63) (v := ?_) (a' := ?_) #[true, true, true, false, false, true, true, true, true, true, true, false, true, true, false, false, false, false, false, false, false, false, false, false, false, false, false] rfl rfl (any_of HT_.out (by kernel_rfl)) (fun _ _ _ h => h) (Or.inl ⟨by rfl, ?_⟩) ?_ ?_
                                                  rotate_left
                                                  · intro w'
                                                    go_simp
                                                    with_reducible rfl
                                                  rotate_left
                                                  · simp only [Act.put, List.setIfInBounds_toArray, List.set_cons_zero, List.set_cons_succ, i64_w, i32_w]
                                                    rfl
                                                  refine pure_ (i := 14) (N := some 64) (v := ?_) (a' := ?_) #[true, true, true, false, false, true, true, true, true, true, true, false, true, true, true, false, false, false, false, false, false, false, false, false, false, false, false] rfl rfl (any_of HT_.out (by kernel_rfl)) (fun _ _ _ h => h) (Or.inl ⟨by rfl, ?_⟩) ?_ ?_
                                                  rotate_left
                                                  · intro w'
                                                    go_simp
                                                    with_reducible rfl
                                                  rotate_left
                                                  · simp only [Act.put, List.setIfInBounds_toArray, List.set_cons_zero, List.set_cons_succ, i64_w, i32_w]
                                                    rfl
                                                  refine pure_ (i := 15) (N := some 65) (v := ?_) (a' := ?_) #[true, true, true, false, false, true, true, true, true, true, true, false, true, true, true, true, false, false, false, false, false, false, false, false, false, false, false] rfl rfl (any_of HT_.out (by kernel_rfl)) (fun _ _ _ h => h) (Or.inl ⟨by rfl, ?_⟩) ?_ ?_
                                                  rotate_left
                                                  · intro w'
                                                    go_simp
                                                    with_reducible rfl
                                                  rotate_left
                                                  · simp only [Act.put, List.setIfInBounds_toArray, List.set_cons_zero, List.set_cons_succ, i64_w, i32_w]
                                                    rfl
                                                  refine pure_ (i := 16) (N := some 66) (v := ?_) (a' := ?_) #[true, true, true, false, false, true, true, true, true, true, true, false, true, true, true, true, true, false, false, false, false, false, false, false, false, false, false] rfl rfl (any_of HT_.out (by kernel_rfl)) (fun _ _ _ h => h) (Or.inl ⟨by rfl, ?_⟩) ?_ ?_
                                                  rotate_left
                                                  · intro w'
                                                    go_simp
                                                    with_reducible rfl
                                                  rotate_left
                                                  · simp only [Act.put, List.setIfInBounds_toArray, List.set_cons_zero, List.set_cons_succ, i64_w, i32_w]
                                                    rfl
                                                  refine pure_ (i := 17) (N := some 67) (v := ?_) (a' := ?_) #[true, true, true, false, false, true, true, true, true, true, true, false, true, true, true, true, true, true, false, false, false, false, false, false, false, false, false] rfl rfl (any_of HT_.out (by kernel_rfl)) (fun _ _ _ h => h) (Or.inl ⟨by rfl, ?_⟩) ?_ ?_
                                                  rotate_left
                                                  · intro w'
                                                    go_simp
                                                    with_reducible rfl
                                                  rotate_left
                                                  · simp only [Act.put, List.setIfInBounds_toArray, List.set_cons_zero, List.set_cons_succ, i64_w, i32_w]
                                                    rfl
                                                  refine pure_ (i := 18) (N := some 68) (v := ?_) (a' := ?_) #[true, true, true, false, false, true, true, true, true, true, true, false, true, true, true, true, true, true, true, false, false, false, false, false, false, false, false] rfl rfl (any_of HT_.out (by kernel_rfl)) (fun _ _ _ h => h) (Or.inl ⟨by rfl, ?_⟩) ?_ ?_
                                                  rotate_left
                                                  · intro w'
                                                    go_simp
                                                    with_reducible rfl
                                                  rotate_left
                                                  · simp only [Act.put, List.setIfInBounds_toArray, List.set_cons_zero, List.set_cons_succ, i64_w, i32_w]
                                                    rfl
                                                  refine pure_ (i := 19) (N := some 69) (v := ?_) (a' := ?_) #[true, true, true, false, false, true, true, true, true, true, true, false, true, true, true, true, true, true, true, true, false, false, false, false, false, false, false] rfl rfl (any_of HT_.out (by kernel_rfl)) (fun _ _ _ h => h) (Or.inl ⟨by rfl, ?_⟩) ?_ ?_
                                                  rotate_left
                                                  · intro w'
                                                    go_simp
                                                    with_reducible rfl
                                                  rotate_left
                                                  · simp only [Act.put, List.setIfInBounds_toArray, List.set_cons_zero, List.set_cons_succ, i64_w, i32_w]
                                                    rfl
                                                  refine pure_ (i := 20) (N := some 70) (v := ?_) (a' := ?_) #[true, true, true, false, false, true, true, true, true, true, true, false, true, true, true, true, true, true, true, true, true, false, false, false, false, false, false] rfl rfl (any_of HT_.out (by kernel_rfl)) (fun _ _ _ h => h) (Or.inl ⟨by rfl, ?_⟩) ?_ ?_
                                                  rotate_left
                                                  · intro w'
                                                    go_simp
                                                    with_reducible rfl
                                                  rotate_left
                                                  · simp only [Act.put, List.setIfInBounds_toArray, List.set_cons_zero, List.set_cons_succ, i64_w, i32_w]
                                                    rfl
                                                  refine pure_ (i := 21) (N := some 71) (v := ?_) (a' := ?_) #[true, true, true, false, false, true, true, true, true, true, true, false, true, true, true, true, true, true, true, true, true, true, false, false, false, false, false] rfl rfl (any_of HT_.out (by kernel_rfl)) (fun _ _ _ h => h) (Or.inl ⟨by rfl, ?_⟩) ?_ ?_
                                                  rotate_left
                                                  · intro w'
                                                    go_simp
                                                    with_reducible rfl
                                                  rotate_left
                                                  · simp only [Act.put, List.setIfInBounds_toArray, List.set_cons_zero, List.set_cons_succ, i64_w, i32_w]
                                                    rfl
                                                  refine pure_ (i := 22) (N := some 72) (v := ?_) (a' := ?_) #[true, true, true, false, false, true, true, true, true, true, true, false, true, true, true, true, true, true, true, true, true, true, true, false, false, false, false] rfl rfl (any_of HT_.out (by kernel_rfl)) (fun _ _ _ h => h) (Or.inl ⟨by rfl, ?_⟩) ?_ ?_
                                                  rotate_left
                                                  · intro w'
                                                    go_simp
                                                    with_reducible rfl
                                                  rotate_left
                                                  · simp only [Act.put, List.setIfInBounds_toArray, List.set_cons_zero, List.set_cons_succ, i64_w, i32_w]
                                                    rfl
                                                  refine pure_ (i := 23) (N := some 73) (v := ?_) (a' := ?_) #[true, true, true, false, false, true, true, true, true, true, true, false, true, true, true, true, true, true, true, true, true, true, true, true, false, false, false] rfl rfl (any_of HT_.out (by kernel_rfl)) (fun _ _ _ h => h) (Or.inl ⟨by rfl, ?_⟩) ?_ ?_
                                                  rotate_left
                                                  · intro w'
                                                    go_simp
                                                    with_reducible rfl
                                                  rotate_left
                                                  · simp only [Act.put, List.setIfInBounds_toArray, List.set_cons_zero, List.set_cons_succ, i64_w, i32_w]
                                                    rfl
                                                  refine take_ (i := 3) (N := some 53) (v := ?_) (a' := ?_) #[true, true, true, true, false, true, true, true, true, true, true, false, true, true, true, true, true, true, true, true, true, true, true, true, false, false, false] rfl rfl (take_ofW HT_.out HW_.out (by kernel_rfl)) (fun _ _ _ h => h) (Or.inl ⟨by rfl, ?_⟩) hHeld ?_ ?_
                                                  rotate_left
                                                  · intro w' _
                                                    go_simp
                                                    with_reducible rfl
                                                  rotate_left
                                                  · simp only [Act.put, List.setIfInBounds_toArray, List.set_cons_zero, List.set_cons_succ, i64_w, i32_w]
                                                    rfl
                                                  refine pure_ (i := 4) (N := some 54) (v := ?_) (a' := ?_) #[true, true, true, true, true, true, true, true, true, true, true, false, true, true, true, true, true, true, true, true, true, true, true, true, false, false, false] rfl rfl (any_of HT_.out (by kernel_rfl)) (fun _ _ _ h => h) (Or.inl ⟨by rfl, ?_⟩) ?_ ?_
                                                  rotate_left
                                                  · intro w'
                                                    go_simp
                                                    with_reducible rfl
                                                  rotate_left
                                                  · simp only [Act.put, List.setIfInBounds_toArray, List.set_cons_zero, List.set_cons_succ, i64_w, i32_w]
                                                    rfl
                                                  refine join_ (σ := Nat) 1 #[true, true, true, true, true, true, true, true, true, true, true, true, true, true, true, true, true, true, true, true, true, true, true, true, true, true, false] (fun s_ => [(61, .int .i64 t147), (12, .pointer (some ⟨s_, 0, none⟩)), (74, .agg #[.string ((a2.extract 0 ((ji32) : Int).toNat) ++ (a0.extract ((ji35) : Int).toNat ((ji40) : Int).toNat)), .int .i64 t147, .int .i64 (wrap64 (bt a0 (ji23))), .string (⟨#[]⟩ : ByteArray), .string (⟨#[]⟩ : ByteArray)])]) (fun s_ w' => (w'.heap[gb146]? = some (.cells #[.string (⟨#[]⟩ : ByteArray), .int .i64 0, .int .i64 0, .string (⟨#[]⟩ : ByteArray), .string (⟨#[]⟩ : ByteArray)] 49 (0, 0))) ∧ (w'.heap[s_]? = some (.cells #[.string (⟨#[]⟩ : ByteArray), .int .i64 0, .int .i64 0, .string (⟨#[]⟩ : ByteArray), .string (⟨#[]⟩ : ByteArray)] 49 (0, 0))) ∧ (w.heap.size ≤ s_) ∧ (w.heap.size ≤ s_) ∧ (gb146 ≠ s_) ∧ (s_ ≠ gb146) ∧ (Below w.heap.size w w')) ?_ ?_
                                                  rotate_left
                                                  · intro hCont
                                                    refine two_ (i := 11) (j := 25) (Ni := some 61) (Nj := some 12) #[true, true, true, true, true, true, true, true, true, true, true, true, true, true, true, true, true, true, true, true, true, true, true, true, false, false, false] #[true, true, true, true, true, true, true, true, true, true, true, false, true, true, true, true, true, true, true, true, true, true, true, true, false, true, false] rfl rfl rfl rfl (two_of HT_.out (by kernel_rfl)) (by decide) (by decide) (fun K hK => ?_) (fun K hK => ?_)
                                                    · skip
                                                      refine goes_ Try.func101 (by kernel_rfl) rfl #[.string (a0.extract ((ji27) : Int).toNat ((ji23) : Int).toNat)] (by rfl) rfl rfl (by (try simp only [List.map_toArray, List.map_cons, List.map_nil]); first | done | (simp only [hji23, hji27]; rfl) | rfl | (simp only [List.length_drop, List.length_take]; rfl)) ?_
                                                      with_reducible refine (spec_l17Num.calls kj17 (a0.extract ((ji27) : Int).toNat ((ji23) : Int).toNat) t147 _ A31.out).mono ?_
                                                      rintro e w' ⟨rfl, ⟨nd, rfl⟩⟩
                                                      refine ⟨_, rfl, ?_⟩
                                                      refine hK.out _ _ trivial (fun hHeld => ?_)
                                                      clear hK K
                                                      refine norm_ (a' := ?_) ?_ ?_
                                                      rotate_left
                                                      · show Act.put _ (some 61) _ = _
                                                        simp only [Act.put, List.setIfInBounds_toArray, List.set_cons_zero, List.set_cons_succ, i64_w, i32_w]
                                                        rfl
                                                      refine pure_ (i := 24) (N := some 74) (v := ?_) (a' := ?_) #[true, true, true, true, true, true, true, true, true, true, true, true, true, true, true, true, true, true, true, true, true, true, true, true, true, false, false] rfl rfl (any_of HT_.out (by kernel_rfl)) (fun _ _ _ h => h) (Or.inl ⟨by rfl, ?_⟩) ?_ ?_
                                                      rotate_left
                                                      · intro w'
                                                        go_simp
                                                        with_reducible rfl
                                                      rotate_left
                                                      · simp only [Act.put, List.setIfInBounds_toArray, List.set_cons_zero, List.set_cons_succ, i64_w, i32_w]
                                                        rfl
                                                      refine one_ (i := 25) (N := some 12) #[true, true, true, true, true, true, true, true, true, true, true, true, true, true, true, true, true, true, true, true, true, true, true, true, true, true, false] rfl rfl (one_of HT_.out (by kernel_rfl)) (by decide) (fun K hK => ?_)
                                                      refine box_step ?hg (N := 12) ?hd (cs := #[.string (⟨#[]⟩ : ByteArray), .int .i64 0, .int .i64 0, .string (⟨#[]⟩ : ByteArray), .string (⟨#[]⟩ : ByteArray)]) (t := 49) ?hr ?_; (case hd => rfl); (case hg => rfl); (case hr => first | (go_simp; done) | (go_simp; rfl))
                                                      intro gb148 hg w46 hbox hb
                                                      have n0_ := Aside0.mk (blk_below (g := gb146) (o := .cells #[.string (⟨#[]⟩ : ByteArray), .int .i64 0, .int .i64 0, .string (⟨#[]⟩ : ByteArray), .string (⟨#[]⟩ : ByteArray)] 49 (0, 0)) (by (with_reducible repeat (first | refine blk_drewN ?_ _ | refine blk_drew ?_ | refine blk_alloc ?_ _)); exact BK146.out) hb)
                                                      have n1_ := Aside0.mk (below_step (by repeat (first | (with_reducible first | exact HB.out | apply below_alloc | apply pw_below_drewN | apply below_drew1 | refine below_set ?_ GE146.out) | exact HB.out)) hb)
                                                      have n2_ := Aside0.mk (hbox)
                                                      have n3_ := Aside0.mk ((by rw [hg]; exact (below_size (by repeat (first | (with_reducible first | exact HB.out | apply below_alloc | apply pw_below_drewN | apply below_drew1 | refine below_set ?_ GE146.out) | exact HB.out))) : w.heap.size ≤ gb148))
                                                      have n4_ := Aside0.mk ((by rw [hg]; exact (below_size (by repeat (first | (with_reducible first | exact HB.out | apply below_alloc | apply pw_below_drewN | apply below_drew1 | refine below_set ?_ GE146.out) | exact HB.out))) : w.heap.size ≤ gb148))
                                                      have n5_ := Aside0.mk ((by rw [hg]; exact Nat.ne_of_lt (blk_lt (g := gb146) (o := .cells #[.string (⟨#[]⟩ : ByteArray), .int .i64 0, .int .i64 0, .string (⟨#[]⟩ : ByteArray), .string (⟨#[]⟩ : ByteArray)] 49 (0, 0)) (by (with_reducible repeat (first | refine blk_drewN ?_ _ | refine blk_drew ?_ | refine blk_alloc ?_ _)); exact BK146.out)) : gb146 ≠ gb148))
                                                      have n6_ := Aside0.mk ((by rw [hg]; exact Nat.ne_of_gt (blk_lt (g := gb146) (o := .cells #[.string (⟨#[]⟩ : ByteArray), .int .i64 0, .int .i64 0, .string (⟨#[]⟩ : ByteArray), .string (⟨#[]⟩ : ByteArray)] 49 (0, 0)) (by (with_reducible repeat (first | refine blk_drewN ?_ _ | refine blk_drew ?_ | refine blk_alloc ?_ _)); exact BK146.out)) : gb148 ≠ gb146))
                                                      clear BK146
                                                      clear HB
                                                      have BK146 := n0_
                                                      have HB := n1_
                                                      have BK148 := n2_
                                                      have GW148 := n3_
                                                      have GE148 := n4_
                                                      have NB146_148 := n5_
                                                      have NB148_146 := n6_
                                                      clear n0_ n1_ n2_ n3_ n4_ n5_ n6_
                                                      clear hb hbox hg
                                                      refine hK.out _ _ trivial (fun hHeld => ?_)
                                                      clear hK K
                                                      refine norm_ (a' := ?_) ?_ ?_
                                                      rotate_left
                                                      · show Act.put _ (some 12) _ = _
                                                        simp only [Act.put, List.setIfInBounds_toArray, List.set_cons_zero, List.set_cons_succ, i64_w, i32_w]
                                                        rfl
                                                      exact norm_ (by simp only [putAll, Act.put, List.setIfInBounds_toArray, List.set_cons_zero, List.set_cons_succ]) (hCont (gb148) _ ⟨(by (with_reducible repeat (first | refine blk_drewN ?_ _ | refine blk_drew ?_ | refine blk_alloc ?_ _)); exact BK146.out), (by (with_reducible repeat (first | refine blk_drewN ?_ _ | refine blk_drew ?_ | refine blk_alloc ?_ _)); exact BK148.out), GW148.out, GE148.out, NB146_148.out, NB148_146.out, (by repeat (first | (with_reducible first | exact HB.out | apply below_alloc | apply pw_below_drewN | apply below_drew1 | refine below_set ?_ GE146.out | refine below_set ?_ GE148.out) | exact HB.out))⟩)
                                                    · skip
                                                      refine box_step ?hg (N := 12) ?hd (cs := #[.string (⟨#[]⟩ : ByteArray), .int .i64 0, .int .i64 0, .string (⟨#[]⟩ : ByteArray), .string (⟨#[]⟩ : ByteArray)]) (t := 49) ?hr ?_; (case hd => rfl); (case hg => rfl); (case hr => first | (go_simp; done) | (go_simp; rfl))
                                                      intro gb148 hg w46 hbox hb
                                                      have n0_ := Aside0.mk (blk_below (g := gb146) (o := .cells #[.string (⟨#[]⟩ : ByteArray), .int .i64 0, .int .i64 0, .string (⟨#[]⟩ : ByteArray), .string (⟨#[]⟩ : ByteArray)] 49 (0, 0)) (by (with_reducible repeat (first | refine blk_drewN ?_ _ | refine blk_drew ?_ | refine blk_alloc ?_ _)); exact BK146.out) hb)
                                                      have n1_ := Aside0.mk (below_step (by repeat (first | (with_reducible first | exact HB.out | apply below_alloc | apply pw_below_drewN | apply below_drew1 | refine below_set ?_ GE146.out) | exact HB.out)) hb)
                                                      have n2_ := Aside0.mk (hbox)
                                                      have n3_ := Aside0.mk ((by rw [hg]; exact (below_size (by repeat (first | (with_reducible first | exact HB.out | apply below_alloc | apply pw_below_drewN | apply below_drew1 | refine below_set ?_ GE146.out) | exact HB.out))) : w.heap.size ≤ gb148))
                                                      have n4_ := Aside0.mk ((by rw [hg]; exact (below_size (by repeat (first | (with_reducible first | exact HB.out | apply below_alloc | apply pw_below_drewN | apply below_drew1 | refine below_set ?_ GE146.out) | exact HB.out))) : w.heap.size ≤ gb148))
                                                      have n5_ := Aside0.mk ((by rw [hg]; exact Nat.ne_of_lt (blk_lt (g := gb146) (o := .cells #[.string (⟨#[]⟩ : ByteArray), .int .i64 0, .int .i64 0, .string (⟨#[]⟩ : ByteArray), .string (⟨#[]⟩ : ByteArray)] 49 (0, 0)) (by (with_reducible repeat (first | refine blk_drewN ?_ _ | refine blk_drew ?_ | refine blk_alloc ?_ _)); exact BK146.out)) : gb146 ≠ gb148))
                                                      have n6_ := Aside0.mk ((by rw [hg]; exact Nat.ne_of_gt (blk_lt (g := gb146) (o := .cells #[.string (⟨#[]⟩ : ByteArray), .int .i64 0, .int .i64 0, .string (⟨#[]⟩ : ByteArray), .string (⟨#[]⟩ : ByteArray)] 49 (0, 0)) (by (with_reducible repeat (first | refine blk_drewN ?_ _ | refine blk_drew ?_ | refine blk_alloc ?_ _)); exact BK146.out)) : gb148 ≠ gb146))
                                                      clear BK146
                                                      clear HB
                                                      have BK146 := n0_
                                                      have HB := n1_
                                                      have BK148 := n2_
                                                      have GW148 := n3_
                                                      have GE148 := n4_
                                                      have NB146_148 := n5_
                                                      have NB148_146 := n6_
                                                      clear n0_ n1_ n2_ n3_ n4_ n5_ n6_
                                                      clear hb hbox hg
                                                      refine hK.out _ _ trivial (fun hHeld => ?_)
                                                      clear hK K
                                                      refine norm_ (a' := ?_) ?_ ?_
                                                      rotate_left
                                                      · show Act.put _ (some 12) _ = _
                                                        simp only [Act.put, List.setIfInBounds_toArray, List.set_cons_zero, List.set_cons_succ, i64_w, i32_w]
                                                        rfl
                                                      refine one_ (i := 11) (N := some 61) #[true, true, true, true, true, true, true, true, true, true, true, true, true, true, true, true, true, true, true, true, true, true, true, true, false, true, false] rfl rfl (one_of HT_.out (by kernel_rfl)) (by decide) (fun K hK => ?_)
                                                      refine goes_ Try.func101 (by kernel_rfl) rfl #[.string (a0.extract ((ji27) : Int).toNat ((ji23) : Int).toNat)] (by rfl) rfl rfl (by (try simp only [List.map_toArray, List.map_cons, List.map_nil]); first | done | (simp only [hji23, hji27]; rfl) | rfl | (simp only [List.length_drop, List.length_take]; rfl)) ?_
                                                      with_reducible refine (spec_l17Num.calls kj17 (a0.extract ((ji27) : Int).toNat ((ji23) : Int).toNat) t147 _ A31.out).mono ?_
                                                      rintro e w' ⟨rfl, ⟨nd, rfl⟩⟩
                                                      refine ⟨_, rfl, ?_⟩
                                                      refine hK.out _ _ trivial (fun hHeld => ?_)
                                                      clear hK K
                                                      refine norm_ (a' := ?_) ?_ ?_
                                                      rotate_left
                                                      · show Act.put _ (some 61) _ = _
                                                        simp only [Act.put, List.setIfInBounds_toArray, List.set_cons_zero, List.set_cons_succ, i64_w, i32_w]
                                                        rfl
                                                      refine pure_ (i := 24) (N := some 74) (v := ?_) (a' := ?_) #[true, true, true, true, true, true, true, true, true, true, true, true, true, true, true, true, true, true, true, true, true, true, true, true, true, true, false] rfl rfl (any_of HT_.out (by kernel_rfl)) (fun _ _ _ h => h) (Or.inl ⟨by rfl, ?_⟩) ?_ ?_
                                                      rotate_left
                                                      · intro w'
                                                        go_simp
                                                        with_reducible rfl
                                                      rotate_left
                                                      · simp only [Act.put, List.setIfInBounds_toArray, List.set_cons_zero, List.set_cons_succ, i64_w, i32_w]
                                                        rfl
                                                      exact norm_ (by simp only [putAll, Act.put, List.setIfInBounds_toArray, List.set_cons_zero, List.set_cons_succ]) (hCont (gb148) _ ⟨(by (with_reducible repeat (first | refine blk_drewN ?_ _ | refine blk_drew ?_ | refine blk_alloc ?_ _)); exact BK146.out), (by (with_reducible repeat (first | refine blk_drewN ?_ _ | refine blk_drew ?_ | refine blk_alloc ?_ _)); exact BK148.out), GW148.out, GE148.out, NB146_148.out, NB148_146.out, (by repeat (first | (with_reducible first | exact HB.out | apply below_alloc | apply pw_below_drewN | apply below_drew1 | refine below_set ?_ GE146.out | refine below_set ?_ GE148.out) | exact HB.out))⟩)
                                                  rintro gb148 w47 ⟨h0_, h1_, h2_, h3_, h4_, h5_, h6_⟩
                                                  have n0_ : Aside0 (w47.heap[gb146]? = some (.cells #[.string (⟨#[]⟩ : ByteArray), .int .i64 0, .int .i64 0, .string (⟨#[]⟩ : ByteArray), .string (⟨#[]⟩ : ByteArray)] 49 (0, 0))) := ⟨h0_⟩
                                                  have n1_ : Aside0 (w47.heap[gb148]? = some (.cells #[.string (⟨#[]⟩ : ByteArray), .int .i64 0, .int .i64 0, .string (⟨#[]⟩ : ByteArray), .string (⟨#[]⟩ : ByteArray)] 49 (0, 0))) := ⟨h1_⟩
                                                  have n2_ : Aside0 (w.heap.size ≤ gb148) := ⟨h2_⟩
                                                  have n3_ : Aside0 (w.heap.size ≤ gb148) := ⟨h3_⟩
                                                  have n4_ : Aside0 (gb146 ≠ gb148) := ⟨h4_⟩
                                                  have n5_ : Aside0 (gb148 ≠ gb146) := ⟨h5_⟩
                                                  have n6_ : Aside0 (Below w.heap.size w w47) := ⟨h6_⟩
                                                  clear BK146
                                                  clear HB
                                                  clear h0_ h1_ h2_ h3_ h4_ h5_ h6_
                                                  have BK146 := n0_
                                                  have BK148 := n1_
                                                  have GW148 := n2_
                                                  have GE148 := n3_
                                                  have NB146_148 := n4_
                                                  have NB148_146 := n5_
                                                  have HB := n6_
                                                  clear n0_ n1_ n2_ n3_ n4_ n5_ n6_
                                                  have hHeld := trivial
                                                  refine norm_ (a' := ?_) ?_ ?_
                                                  rotate_left
                                                  · simp only [putAll, Act.put, List.setIfInBounds_toArray, List.set_cons_zero, List.set_cons_succ]
                                                    rfl
                                                  refine one_ (i := 26) (N := none) #[true, true, true, true, true, true, true, true, true, true, true, true, true, true, true, true, true, true, true, true, true, true, true, true, true, true, true] rfl rfl (one_of HT_.out (by kernel_rfl)) (by decide) (fun K hK => ?_)
                                                  have hs48 : w47.cell? ⟨gb148, 0, none⟩ = some (.string (⟨#[]⟩ : ByteArray)) := (blk_cell BK148.out 0).trans rfl
                                                  have hfs48 := blk_frozen BK148.out 0
                                                  have hns48_0 := NB146_148.out
                                                  have hms48_0 := NB148_146.out
                                                  have hs49 : w47.cell? ⟨gb148, 1, none⟩ = some (.int .i64 0) := (blk_cell BK148.out 1).trans rfl
                                                  have hfs49 := blk_frozen BK148.out 1
                                                  have hns49_0 := NB146_148.out
                                                  have hms49_0 := NB148_146.out
                                                  have hs50 : w47.cell? ⟨gb148, 2, none⟩ = some (.int .i64 0) := (blk_cell BK148.out 2).trans rfl
                                                  have hfs50 := blk_frozen BK148.out 2
                                                  have hns50_0 := NB146_148.out
                                                  have hms50_0 := NB148_146.out
                                                  have hs51 : w47.cell? ⟨gb148, 3, none⟩ = some (.string (⟨#[]⟩ : ByteArray)) := (blk_cell BK148.out 3).trans rfl
                                                  have hfs51 := blk_frozen BK148.out 3
                                                  have hns51_0 := NB146_148.out
                                                  have hms51_0 := NB148_146.out
                                                  have hs52 : w47.cell? ⟨gb148, 4, none⟩ = some (.string (⟨#[]⟩ : ByteArray)) := (blk_cell BK148.out 4).trans rfl
                                                  have hfs52 := blk_frozen BK148.out 4
                                                  have hns52_0 := NB146_148.out
                                                  have hms52_0 := NB148_146.out
                                                  refine skip_ (w1 := ?_) (by rfl) rfl ?_ ?_
                                                  rotate_left
                                                  · go_simp
                                                    rfl
                                                  refine hK.out _ _ trivial (fun hHeld => ?_)
                                                  clear hK K
                                                  refine done_ (done_of HT_.out (by kernel_rfl)) ?_
                                                  try go_wp2
                                                  have n0_ : Aside0 ((((((w47.setCell ⟨gb148, 0, none⟩ (.string ((a2.extract 0 ((ji32) : Int).toNat) ++ (a0.extract ((ji35) : Int).toNat ((ji40) : Int).toNat)))).setCell ⟨gb148, 1, none⟩ (.int .i64 t147)).setCell ⟨gb148, 2, none⟩ (.int .i64 (wrap64 (bt a0 (ji23))))).setCell ⟨gb148, 3, none⟩ (.string (⟨#[]⟩ : ByteArray))).setCell ⟨gb148, 4, none⟩ (.string (⟨#[]⟩ : ByteArray))).heap[gb146]? = some (.cells #[.string (⟨#[]⟩ : ByteArray), .int .i64 0, .int .i64 0, .string (⟨#[]⟩ : ByteArray), .string (⟨#[]⟩ : ByteArray)] 49 (0, 0))) := ⟨by (with_reducible repeat (first | refine blk_drewN ?_ _ | refine blk_drew ?_ | refine blk_alloc ?_ _)); refine blk_far ?_ NB146_148.out _; (with_reducible repeat (first | refine blk_drewN ?_ _ | refine blk_drew ?_ | refine blk_alloc ?_ _)); refine blk_far ?_ NB146_148.out _; (with_reducible repeat (first | refine blk_drewN ?_ _ | refine blk_drew ?_ | refine blk_alloc ?_ _)); refine blk_far ?_ NB146_148.out _; (with_reducible repeat (first | refine blk_drewN ?_ _ | refine blk_drew ?_ | refine blk_alloc ?_ _)); refine blk_far ?_ NB146_148.out _; (with_reducible repeat (first | refine blk_drewN ?_ _ | refine blk_drew ?_ | refine blk_alloc ?_ _)); refine blk_far ?_ NB146_148.out _; (with_reducible repeat (first | refine blk_drewN ?_ _ | refine blk_drew ?_ | refine blk_alloc ?_ _)); exact BK146.out⟩
                                                  have n1_ : Aside0 ((((((w47.setCell ⟨gb148, 0, none⟩ (.string ((a2.extract 0 ((ji32) : Int).toNat) ++ (a0.extract ((ji35) : Int).toNat ((ji40) : Int).toNat)))).setCell ⟨gb148, 1, none⟩ (.int .i64 t147)).setCell ⟨gb148, 2, none⟩ (.int .i64 (wrap64 (bt a0 (ji23))))).setCell ⟨gb148, 3, none⟩ (.string (⟨#[]⟩ : ByteArray))).setCell ⟨gb148, 4, none⟩ (.string (⟨#[]⟩ : ByteArray))).heap[gb148]? = some (.cells #[.string ((a2.extract 0 ((ji32) : Int).toNat) ++ (a0.extract ((ji35) : Int).toNat ((ji40) : Int).toNat)), .int .i64 t147, .int .i64 (wrap64 (bt a0 (ji23))), .string (⟨#[]⟩ : ByteArray), .string (⟨#[]⟩ : ByteArray)] 49 (0, 0))) := ⟨by (with_reducible repeat (first | refine blk_drewN ?_ _ | refine blk_drew ?_ | refine blk_alloc ?_ _)); refine blk_put (cs := #[.string ((a2.extract 0 ((ji32) : Int).toNat) ++ (a0.extract ((ji35) : Int).toNat ((ji40) : Int).toNat)), .int .i64 t147, .int .i64 (wrap64 (bt a0 (ji23))), .string (⟨#[]⟩ : ByteArray), .string (⟨#[]⟩ : ByteArray)]) ?_ 4 _ rfl; (with_reducible repeat (first | refine blk_drewN ?_ _ | refine blk_drew ?_ | refine blk_alloc ?_ _)); refine blk_put (cs := #[.string ((a2.extract 0 ((ji32) : Int).toNat) ++ (a0.extract ((ji35) : Int).toNat ((ji40) : Int).toNat)), .int .i64 t147, .int .i64 (wrap64 (bt a0 (ji23))), .string (⟨#[]⟩ : ByteArray), .string (⟨#[]⟩ : ByteArray)]) ?_ 3 _ rfl; (with_reducible repeat (first | refine blk_drewN ?_ _ | refine blk_drew ?_ | refine blk_alloc ?_ _)); refine blk_put (cs := #[.string ((a2.extract 0 ((ji32) : Int).toNat) ++ (a0.extract ((ji35) : Int).toNat ((ji40) : Int).toNat)), .int .i64 t147, .int .i64 0, .string (⟨#[]⟩ : ByteArray), .string (⟨#[]⟩ : ByteArray)]) ?_ 2 _ rfl; (with_reducible repeat (first | refine blk_drewN ?_ _ | refine blk_drew ?_ | refine blk_alloc ?_ _)); refine blk_put (cs := #[.string ((a2.extract 0 ((ji32) : Int).toNat) ++ (a0.extract ((ji35) : Int).toNat ((ji40) : Int).toNat)), .int .i64 0, .int .i64 0, .string (⟨#[]⟩ : ByteArray), .string (⟨#[]⟩ : ByteArray)]) ?_ 1 _ rfl; (with_reducible repeat (first | refine blk_drewN ?_ _ | refine blk_drew ?_ | refine blk_alloc ?_ _)); refine blk_put (cs := #[.string (⟨#[]⟩ : ByteArray), .int .i64 0, .int .i64 0, .string (⟨#[]⟩ : ByteArray), .string (⟨#[]⟩ : ByteArray)]) ?_ 0 _ rfl; (with_reducible repeat (first | refine blk_drewN ?_ _ | refine blk_drew ?_ | refine blk_alloc ?_ _)); exact BK148.out⟩
                                                  have n2_ : Aside0 (Below w.heap.size w (((((w47.setCell ⟨gb148, 0, none⟩ (.string ((a2.extract 0 ((ji32) : Int).toNat) ++ (a0.extract ((ji35) : Int).toNat ((ji40) : Int).toNat)))).setCell ⟨gb148, 1, none⟩ (.int .i64 t147)).setCell ⟨gb148, 2, none⟩ (.int .i64 (wrap64 (bt a0 (ji23))))).setCell ⟨gb148, 3, none⟩ (.string (⟨#[]⟩ : ByteArray))).setCell ⟨gb148, 4, none⟩ (.string (⟨#[]⟩ : ByteArray)))) := ⟨by repeat (first | (with_reducible first | exact HB.out | apply below_alloc | apply pw_below_drewN | apply below_drew1 | refine below_set ?_ GE146.out | refine below_set ?_ GE148.out) | exact HB.out)⟩
                                                  (try clear BK146)
                                                  (try clear BK148)
                                                  (try clear HB)
                                                  generalize (((((w47.setCell ⟨gb148, 0, none⟩ (.string ((a2.extract 0 ((ji32) : Int).toNat) ++ (a0.extract ((ji35) : Int).toNat ((ji40) : Int).toNat)))).setCell ⟨gb148, 1, none⟩ (.int .i64 t147)).setCell ⟨gb148, 2, none⟩ (.int .i64 (wrap64 (bt a0 (ji23))))).setCell ⟨gb148, 3, none⟩ (.string (⟨#[]⟩ : ByteArray))).setCell ⟨gb148, 4, none⟩ (.string (⟨#[]⟩ : ByteArray))) = w53 at n0_ n1_ n2_ ⊢
                                                  have BK146 := n0_
                                                  have BK148 := n1_
                                                  have HB := n2_
                                                  clear n0_ n1_ n2_
                                                  have n0_ := Aside0.mk (blk_drew BK146.out)
                                                  have n1_ := Aside0.mk (blk_drew BK148.out)
                                                  have n2_ := Aside0.mk (below_drew1 HB.out)
                                                  clear BK146
                                                  clear BK148
                                                  clear HB
                                                  have BK146 := n0_
                                                  have BK148 := n1_
                                                  have HB := n2_
                                                  clear n0_ n1_ n2_
                                                  refine start_ (n := 12) (S := fun w' => w'.cell? ⟨gb148, 0, none⟩ = some (.string ((a2.extract 0 ((ji32) : Int).toNat) ++ (a0.extract ((ji35) : Int).toNat ((ji40) : Int).toNat))) ∧ w'.cell? ⟨gb148, 1, none⟩ = some (.int .i64 t147) ∧ w'.cell? ⟨gb148, 2, none⟩ = some (.int .i64 (wrap64 (bt a0 (ji23)))) ∧ w'.cell? ⟨gb148, 3, none⟩ = some (.string (⟨#[]⟩ : ByteArray)) ∧ w'.cell? ⟨gb148, 4, none⟩ = some (.string (⟨#[]⟩ : ByteArray))) (ds := []) #[false, false, false, false, false, false, false, false, false, false, false, false] (by kernel_rfl) rfl rfl ⟨(blk_cell BK148.out 0).trans rfl, (blk_cell BK148.out 1).trans rfl, (blk_cell BK148.out 2).trans rfl, (blk_cell BK148.out 3).trans rfl, (blk_cell BK148.out 4).trans rfl⟩ (fun hHeld => ?_); refine with_tabW spec_l20Next.tab10 spec_l20Next.bits10 (fun HT_ HW_ => ?_)
                                                  generalize w53.drew = w54 at BK146 BK148 HB hHeld ⊢
                                                  refine pure_ (i := 1) (N := some 76) (v := ?_) (a' := ?_) #[false, true, false, false, false, false, false, false, false, false, false, false] rfl rfl (any_of HT_.out (by kernel_rfl)) (fun _ _ _ h => h) (Or.inl ⟨by rfl, ?_⟩) ?_ ?_
                                                  rotate_left
                                                  · intro w'
                                                    go_simp
                                                    with_reducible rfl
                                                  rotate_left
                                                  · simp only [Act.put, List.setIfInBounds_toArray, List.set_cons_zero, List.set_cons_succ, i64_w, i32_w]
                                                    rfl
                                                  refine pure_ (i := 2) (N := some 77) (v := ?_) (a' := ?_) #[false, true, true, false, false, false, false, false, false, false, false, false] rfl rfl (any_of HT_.out (by kernel_rfl)) (fun _ _ _ h => h) (Or.inl ⟨by rfl, ?_⟩) ?_ ?_
                                                  rotate_left
                                                  · intro w'
                                                    go_simp
                                                    with_reducible rfl
                                                  rotate_left
                                                  · simp only [Act.put, List.setIfInBounds_toArray, List.set_cons_zero, List.set_cons_succ, i64_w, i32_w]
                                                    rfl
                                                  refine pure_ (i := 3) (N := some 78) (v := ?_) (a' := ?_) #[false, true, true, true, false, false, false, false, false, false, false, false] rfl rfl (any_of HT_.out (by kernel_rfl)) (fun _ _ _ h => h) (Or.inl ⟨by rfl, ?_⟩) ?_ ?_
                                                  rotate_left
                                                  · intro w'
                                                    go_simp
                                                    with_reducible rfl
                                                  rotate_left
                                                  · simp only [Act.put, List.setIfInBounds_toArray, List.set_cons_zero, List.set_cons_succ, i64_w, i32_w]
                                                    rfl
                                                  refine pure_ (i := 4) (N := some 79) (v := ?_) (a' := ?_) #[false, true, true, true, true, false, false, false, false, false, false, false] rfl rfl (any_of HT_.out (by kernel_rfl)) (fun _ _ _ h => h) (Or.inl ⟨by rfl, ?_⟩) ?_ ?_
                                                  rotate_left
                                                  · intro w'
                                                    go_simp
                                                    with_reducible rfl
                                                  rotate_left
                                                  · simp only [Act.put, List.setIfInBounds_toArray, List.set_cons_zero, List.set_cons_succ, i64_w, i32_w]
                                                    rfl
                                                  refine pure_ (i := 5) (N := some 80) (v := ?_) (a' := ?_) #[false, true, true, true, true, true, false, false, false, false, false, false] rfl rfl (any_of HT_.out (by kernel_rfl)) (fun _ _ _ h => h) (Or.inl ⟨by rfl, ?_⟩) ?_ ?_
                                                  rotate_left
                                                  · intro w'
                                                    go_simp
                                                    with_reducible rfl
                                                  rotate_left
                                                  · simp only [Act.put, List.setIfInBounds_toArray, List.set_cons_zero, List.set_cons_succ, i64_w, i32_w]
                                                    rfl
                                                  refine pure_ (i := 6) (N := some 81) (v := ?_) (a' := ?_) #[false, true, true, true, true, true, true, false, false, false, false, false] rfl rfl (any_of HT_.out (by kernel_rfl)) (fun _ _ _ h => h) (Or.inl ⟨by rfl, ?_⟩) ?_ ?_
                                                  rotate_left
                                                  · intro w'
                                                    go_simp
                                                    with_reducible rfl
                                                  rotate_left
                                                  · simp only [Act.put, List.setIfInBounds_toArray, List.set_cons_zero, List.set_cons_succ, i64_w, i32_w]
                                                    rfl
                                                  refine pure_ (i := 7) (N := some 82) (v := ?_) (a' := ?_) #[false, true, true, true, true, true, true, true, false, false, false, false] rfl rfl (any_of HT_.out (by kernel_rfl)) (fun _ _ _ h => h) (Or.inl ⟨by rfl, ?_⟩) ?_ ?_
                                                  rotate_left
                                                  · intro w'
                                                    go_simp
                                                    with_reducible rfl
                                                  rotate_left
                                                  · simp only [Act.put, List.setIfInBounds_toArray, List.set_cons_zero, List.set_cons_succ, i64_w, i32_w]
                                                    rfl
                                                  refine pure_ (i := 9) (N := some 84) (v := ?_) (a' := ?_) #[false, true, true, true, true, true, true, true, false, true, false, false] rfl rfl (any_of HT_.out (by kernel_rfl)) (fun _ _ _ h => h) (Or.inl ⟨by rfl, ?_⟩) ?_ ?_
                                                  rotate_left
                                                  · intro w'
                                                    go_simp
                                                    with_reducible rfl
                                                  rotate_left
                                                  · simp only [Act.put, List.setIfInBounds_toArray, List.set_cons_zero, List.set_cons_succ, i64_w, i32_w]
                                                    rfl
                                                  refine take_ (i := 0) (N := some 75) (v := ?_) (a' := ?_) #[true, true, true, true, true, true, true, true, false, true, false, false] rfl rfl (take_ofW HT_.out HW_.out (by kernel_rfl)) (fun _ _ _ h => h) (Or.inl ⟨by rfl, ?_⟩) hHeld ?_ ?_
                                                  rotate_left
                                                  · rintro w' ⟨s0, s1, s2, s3, s4⟩
                                                    go_simp
                                                    with_reducible rfl
                                                  rotate_left
                                                  · simp only [Act.put, List.setIfInBounds_toArray, List.set_cons_zero, List.set_cons_succ, i64_w, i32_w]
                                                    rfl
                                                  refine one_ (i := 8) (N := some 83) #[true, true, true, true, true, true, true, true, true, true, false, false] rfl rfl (one_of HT_.out (by kernel_rfl)) (by decide) (fun K hK => ?_)
                                                  refine goes_ Try.func102 (by kernel_rfl) rfl #[.agg #[.string ((a2.extract 0 ((ji32) : Int).toNat) ++ (a0.extract ((ji35) : Int).toNat ((ji40) : Int).toNat)), .int .i64 t147, .int .i64 (wrap64 (bt a0 (ji23))), .string (⟨#[]⟩ : ByteArray), .string (⟨#[]⟩ : ByteArray)], .string (a0.extract ((ji40) : Int).toNat ((wrap64 ((ji40) + (wrap64 (bt a0 (ji14))))) : Int).toNat)] (by rfl) rfl rfl (by (try simp only [List.map_toArray, List.map_cons, List.map_nil]); first | done | (simp only [hji14, hji23, hji32, hji35, hji40]; rfl) | rfl | (simp only [List.length_drop, List.length_take]; rfl)) ?_
                                                  with_reducible refine (spec_l17With.calls ((a2.extract 0 ((ji32) : Int).toNat) ++ (a0.extract ((ji35) : Int).toNat ((ji40) : Int).toNat)) t147 (wrap64 (bt a0 (ji23))) (⟨#[]⟩ : ByteArray) (⟨#[]⟩ : ByteArray) (a0.extract ((ji40) : Int).toNat ((wrap64 ((ji40) + (wrap64 (bt a0 (ji14))))) : Int).toNat) t149 t150 t151 t152 t153 _ A44.out).mono ?_
                                                  rintro e w55 ⟨rfl, hb⟩
                                                  refine ⟨_, rfl, ?_⟩
                                                  have n0_ := Aside0.mk (blk_below (g := gb146) (o := .cells #[.string (⟨#[]⟩ : ByteArray), .int .i64 0, .int .i64 0, .string (⟨#[]⟩ : ByteArray), .string (⟨#[]⟩ : ByteArray)] 49 (0, 0)) (by (with_reducible repeat (first | refine blk_drewN ?_ _ | refine blk_drew ?_ | refine blk_alloc ?_ _)); exact BK146.out) hb)
                                                  have n1_ := Aside0.mk (blk_below (g := gb148) (o := .cells #[.string ((a2.extract 0 ((ji32) : Int).toNat) ++ (a0.extract ((ji35) : Int).toNat ((ji40) : Int).toNat)), .int .i64 t147, .int .i64 (wrap64 (bt a0 (ji23))), .string (⟨#[]⟩ : ByteArray), .string (⟨#[]⟩ : ByteArray)] 49 (0, 0)) (by (with_reducible repeat (first | refine blk_drewN ?_ _ | refine blk_drew ?_ | refine blk_alloc ?_ _)); exact BK148.out) hb)
                                                  have n2_ := Aside0.mk (below_step (by repeat (first | (with_reducible first | exact HB.out | apply below_alloc | apply pw_below_drewN | apply below_drew1 | refine below_set ?_ GE146.out | refine below_set ?_ GE148.out) | exact HB.out)) hb)
                                                  clear BK146
                                                  clear BK148
                                                  clear HB
                                                  have BK146 := n0_
                                                  have BK148 := n1_
                                                  have HB := n2_
                                                  clear n0_ n1_ n2_
                                                  (try clear hb)
                                                  (try clear hb2)
                                                  (try clear hk)
                                                  (try clear hi)
                                                  refine hK.out _ _ ⟨(blk_cell BK148.out 0).trans rfl, (blk_cell BK148.out 1).trans rfl, (blk_cell BK148.out 2).trans rfl, (blk_cell BK148.out 3).trans rfl, (blk_cell BK148.out 4).trans rfl⟩ (fun hHeld => ?_)
                                                  clear hK K
                                                  refine norm_ (a' := ?_) ?_ ?_
                                                  rotate_left
                                                  · show Act.put _ (some 83) _ = _
                                                    simp only [Act.put, List.setIfInBounds_toArray, List.set_cons_zero, List.set_cons_succ, i64_w, i32_w]
                                                    rfl
                                                  refine one_ (i := 10) (N := none) #[true, true, true, true, true, true, true, true, true, true, true, false] rfl rfl (one_of HT_.out (by kernel_rfl)) (by decide) (fun K hK => ?_)
                                                  have hs56 : w55.cell? ⟨gb146, 0, none⟩ = some (.string (⟨#[]⟩ : ByteArray)) := (blk_cell BK146.out 0).trans rfl
                                                  have hfs56 := blk_frozen BK146.out 0
                                                  have hns56_1 := NB148_146.out
                                                  have hms56_1 := NB146_148.out
                                                  have hs57 : w55.cell? ⟨gb146, 1, none⟩ = some (.int .i64 0) := (blk_cell BK146.out 1).trans rfl
                                                  have hfs57 := blk_frozen BK146.out 1
                                                  have hns57_1 := NB148_146.out
                                                  have hms57_1 := NB146_148.out
                                                  have hs58 : w55.cell? ⟨gb146, 2, none⟩ = some (.int .i64 0) := (blk_cell BK146.out 2).trans rfl
                                                  have hfs58 := blk_frozen BK146.out 2
                                                  have hns58_1 := NB148_146.out
                                                  have hms58_1 := NB146_148.out
                                                  have hs59 : w55.cell? ⟨gb146, 3, none⟩ = some (.string (⟨#[]⟩ : ByteArray)) := (blk_cell BK146.out 3).trans rfl
                                                  have hfs59 := blk_frozen BK146.out 3
                                                  have hns59_1 := NB148_146.out
                                                  have hms59_1 := NB146_148.out
                                                  have hs60 : w55.cell? ⟨gb146, 4, none⟩ = some (.string (⟨#[]⟩ : ByteArray)) := (blk_cell BK146.out 4).trans rfl
                                                  have hfs60 := blk_frozen BK146.out 4
                                                  have hns60_1 := NB148_146.out
                                                  have hms60_1 := NB146_148.out
                                                  refine skip_ (w1 := ?_) (by rfl) rfl ?_ ?_
                                                  rotate_left
                                                  · go_simp
                                                    rfl
                                                  refine hK.out _ _ ⟨((cell_far (p := ⟨gb146, _, none⟩) NB148_146.out _).trans (((cell_far (p := ⟨gb146, _, none⟩) NB148_146.out _).trans (((cell_far (p := ⟨gb146, _, none⟩) NB148_146.out _).trans (((cell_far (p := ⟨gb146, _, none⟩) NB148_146.out _).trans (((cell_far (p := ⟨gb146, _, none⟩) NB148_146.out _).trans (hHeld.1)))))))))), ((cell_far (p := ⟨gb146, _, none⟩) NB148_146.out _).trans (((cell_far (p := ⟨gb146, _, none⟩) NB148_146.out _).trans (((cell_far (p := ⟨gb146, _, none⟩) NB148_146.out _).trans (((cell_far (p := ⟨gb146, _, none⟩) NB148_146.out _).trans (((cell_far (p := ⟨gb146, _, none⟩) NB148_146.out _).trans (hHeld.2.1)))))))))), ((cell_far (p := ⟨gb146, _, none⟩) NB148_146.out _).trans (((cell_far (p := ⟨gb146, _, none⟩) NB148_146.out _).trans (((cell_far (p := ⟨gb146, _, none⟩) NB148_146.out _).trans (((cell_far (p := ⟨gb146, _, none⟩) NB148_146.out _).trans (((cell_far (p := ⟨gb146, _, none⟩) NB148_146.out _).trans (hHeld.2.2.1)))))))))), ((cell_far (p := ⟨gb146, _, none⟩) NB148_146.out _).trans (((cell_far (p := ⟨gb146, _, none⟩) NB148_146.out _).trans (((cell_far (p := ⟨gb146, _, none⟩) NB148_146.out _).trans (((cell_far (p := ⟨gb146, _, none⟩) NB148_146.out _).trans (((cell_far (p := ⟨gb146, _, none⟩) NB148_146.out _).trans (hHeld.2.2.2.1)))))))))), ((cell_far (p := ⟨gb146, _, none⟩) NB148_146.out _).trans (((cell_far (p := ⟨gb146, _, none⟩) NB148_146.out _).trans (((cell_far (p := ⟨gb146, _, none⟩) NB148_146.out _).trans (((cell_far (p := ⟨gb146, _, none⟩) NB148_146.out _).trans (((cell_far (p := ⟨gb146, _, none⟩) NB148_146.out _).trans (hHeld.2.2.2.2))))))))))⟩ (fun hHeld => ?_)
                                                  clear hK K
                                                  refine pure_ (i := 11) (N := some 7) (v := ?_) (a' := ?_) #[true, true, true, true, true, true, true, true, true, true, true, true] rfl rfl (any_of HT_.out (by kernel_rfl)) (fun _ _ _ h => h) (Or.inl ⟨by rfl, ?_⟩) ?_ ?_
                                                  rotate_left
                                                  · intro w'
                                                    go_simp
                                                    with_reducible rfl
                                                  rotate_left
                                                  · simp only [Act.put, List.setIfInBounds_toArray, List.set_cons_zero, List.set_cons_succ, i64_w, i32_w]
                                                    rfl
                                                  refine done_ (done_of HT_.out (by kernel_rfl)) ?_
                                                  try go_wp2
                                                  refine bodyPost_ret (results_ct rfl _ _ gb146 49 #[.string t149, .int .i64 t150, .int .i64 t151, .string t152, .string t153] (0, 0) _ rfl (by (with_reducible repeat (first | refine blk_drewN ?_ _ | refine blk_drew ?_ | refine blk_alloc ?_ _)); refine blk_put (cs := #[.string t149, .int .i64 t150, .int .i64 t151, .string t152, .string (⟨#[]⟩ : ByteArray)]) ?_ 4 _ rfl; (with_reducible repeat (first | refine blk_drewN ?_ _ | refine blk_drew ?_ | refine blk_alloc ?_ _)); refine blk_put (cs := #[.string t149, .int .i64 t150, .int .i64 t151, .string (⟨#[]⟩ : ByteArray), .string (⟨#[]⟩ : ByteArray)]) ?_ 3 _ rfl; (with_reducible repeat (first | refine blk_drewN ?_ _ | refine blk_drew ?_ | refine blk_alloc ?_ _)); refine blk_put (cs := #[.string t149, .int .i64 t150, .int .i64 0, .string (⟨#[]⟩ : ByteArray), .string (⟨#[]⟩ : ByteArray)]) ?_ 2 _ rfl; (with_reducible repeat (first | refine blk_drewN ?_ _ | refine blk_drew ?_ | refine blk_alloc ?_ _)); refine blk_put (cs := #[.string t149, .int .i64 0, .int .i64 0, .string (⟨#[]⟩ : ByteArray), .string (⟨#[]⟩ : ByteArray)]) ?_ 1 _ rfl; (with_reducible repeat (first | refine blk_drewN ?_ _ | refine blk_drew ?_ | refine blk_alloc ?_ _)); refine blk_put (cs := #[.string (⟨#[]⟩ : ByteArray), .int .i64 0, .int .i64 0, .string (⟨#[]⟩ : ByteArray), .string (⟨#[]⟩ : ByteArray)]) ?_ 0 _ rfl; (with_reducible repeat (first | refine blk_drewN ?_ _ | refine blk_drew ?_ | refine blk_alloc ?_ _)); exact BK146.out) Try.underlying49 rfl (by kernel_rfl)) rfl ?_
                                                  exact ⟨by first | rfl | (simp [errW_none, errW_some] <;> rfl) | (simp only [← hji10, ← hji14, ← hji23, ← hji27, ← hji32, ← hji35, ← hji40]; first | rfl | (simp [errW_none, errW_some] <;> rfl)) | (simp [*, errW_none, errW_some] <;> rfl), by repeat (first | (with_reducible first | exact HB.out | apply below_alloc | apply pw_below_drewN | apply below_drew1 | refine below_set ?_ GE146.out | refine below_set ?_ GE148.out) | exact HB.out)⟩
                                                · rw [if_neg c43] at H
                                                  exact absurd H (by simp)
                                              · rw [if_neg c42] at H
                                                exact absurd H (by simp)
                                            · rw [if_neg c41] at H
                                              exact absurd H (by simp)
                                          · rw [if_neg c39] at H
                                            exact absurd H (by simp)
                                        · rw [if_neg c38] at H
                                          exact absurd H (by simp)
                                      · rw [if_neg c37] at H
                                        exact absurd H (by simp)
                                    · rw [if_neg c36] at H
                                      exact absurd H (by simp)
                                  · rw [if_neg c34] at H
                                    exact absurd H (by simp)
                                · rw [if_neg c33] at H
                                  exact absurd H (by simp)
                              · rw [if_neg c30] at H
                                exact absurd H (by simp)
                            · rw [if_neg c29] at H
                              exact absurd H (by simp)
                          · rw [if_neg c28] at H
                            exact absurd H (by simp)
                        · rw [if_neg c25] at H
                          exact absurd H (by simp)
                      · rw [if_neg c24] at H
                        exact absurd H (by simp)
              · rw [if_neg c16] at H
                exact absurd H (by simp)
            · rw [if_neg c15] at H
              exact absurd H (by simp)
          · rw [if_neg c12] at H
            exact absurd H (by simp)
        · rw [if_neg c11] at H
          exact absurd H (by simp)
      · rw [if_neg c8] at H
        exact absurd H (by simp)
    · rw [if_neg c7] at H
      exact absurd H (by simp)

end Go.Proofs.Ytogndjjoeahccaa.Q
