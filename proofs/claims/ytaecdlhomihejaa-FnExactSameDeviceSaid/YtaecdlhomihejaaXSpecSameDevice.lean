/- The program's functions as Lean functions, and for each the proof that the machine's call comes to what its function says. Conditions: those that stand before each theorem. -/
import Derived.Test.YtaecdlhomihejaaQ0
import Derived.Test.YtaecdlhomihejaaQ6
import Derived.Test.YtaecdlhomihejaaQ7
namespace Go.Proofs.Ytaecdlhomihejaa.Q
open Go.RowKit Go.Proofs.YtaecdlhomihejaaW.PrintWords Go.Proofs.YtaecdlhomihejaaW.PrintLast Go.Proofs.YtaecdlhomihejaaW.PrintMore
set_option linter.unusedVariables false
set_option linter.unusedSimpArgs false

mutual
def spec_SameDevice.j0 : Nat → Bool → Int → Int → Int → List (S120) → Int → Int → Bool → Int → List (S132) → Int → Int → Int → List (S120) → Int → Int → Bool → Int → List (S132) → Option (Bool)
  | 0, _, _, _, _, _, _, _, _, _, _, _, _, _, _, _, _, _, _, _ => none
  | k + 1, x22, x159000, x159001, x159002, x159003, x159004, x159005, x159006, x159007, x159008, x160000, x160001, x160002, x160003, x160004, x160005, x160006, x160007, x160008 => if x22 = true then (some false) else (spec_SameDevice.l0 k 0 x159000 x159001 x159002 x159003 x159004 x159005 x159006 x159007 x159008 x160000 x160001 x160002 x160003 x160004 x160005 x160006 x160007 x160008)
def spec_SameDevice.l0 : Nat → Int → Int → Int → Int → List (S120) → Int → Int → Bool → Int → List (S132) → Int → Int → Int → List (S120) → Int → Int → Bool → Int → List (S132) → Option (Bool)
  | 0, _, _, _, _, _, _, _, _, _, _, _, _, _, _, _, _, _, _, _ => none
  | k + 1, x5, x159000, x159001, x159002, x159003, x159004, x159005, x159006, x159007, x159008, x160000, x160001, x160002, x160003, x160004, x160005, x160006, x160007, x160008 => if x5 < (x159008.length : Int) then (if 0 ≤ x5 then (if x5 < (x160008.length : Int) then (if ((rd_T132 x159008 x5).f0) = ((rd_T132 x160008 x5).f0) then (if ((rd_T132 x159008 x5).f2) = ((rd_T132 x160008 x5).f2) then (if ((rd_T132 x159008 x5).f3) = ((rd_T132 x160008 x5).f3) then ((spec_l16SameInts.f k ((rd_T132 x159008 x5).f1) ((rd_T132 x160008 x5).f1)).bind fun t165 => (if t165 = true then ((spec_l16SameInts.f k ((rd_T132 x159008 x5).f4) ((rd_T132 x160008 x5).f4)).bind fun t166 => (if t166 = true then ((spec_l16SameTexts.f k ((rd_T132 x159008 x5).f5) ((rd_T132 x160008 x5).f5)).bind fun t167 => (if t167 = true then (spec_SameDevice.l0 k (wrap64 (x5 + 1)) x159000 x159001 x159002 x159003 x159004 x159005 x159006 x159007 x159008 x160000 x160001 x160002 x160003 x160004 x160005 x160006 x160007 x160008) else (some false))) else (some false))) else (some false))) else (some false)) else (some false)) else (some false)) else (none)) else (none)) else (some true)
end
def spec_SameDevice.f (k : Nat) (a0_0 : Int) (a0_1 : Int) (a0_2 : Int) (l0_3 : List (S120)) (a0_4 : Int) (a0_5 : Int) (a0_6 : Bool) (a0_7 : Int) (l0_8 : List (S132)) (a1_0 : Int) (a1_1 : Int) (a1_2 : Int) (l1_3 : List (S120)) (a1_4 : Int) (a1_5 : Int) (a1_6 : Bool) (a1_7 : Int) (l1_8 : List (S132)) : Option (Bool) := (spec_SameFlash.f k a0_0 a0_1 a0_2 l0_3 a0_4 a0_5 a0_6 a0_7 a1_0 a1_1 a1_2 l1_3 a1_4 a1_5 a1_6 a1_7).bind fun t160 => (if t160 = true then (spec_SameDevice.j0 k ((l0_8.length : Int) != (l1_8.length : Int)) a0_0 a0_1 a0_2 l0_3 a0_4 a0_5 a0_6 a0_7 l0_8 a1_0 a1_1 a1_2 l1_3 a1_4 a1_5 a1_6 a1_7 l1_8) else (spec_SameDevice.j0 k true a0_0 a0_1 a0_2 l0_3 a0_4 a0_5 a0_6 a0_7 l0_8 a1_0 a1_1 a1_2 l1_3 a1_4 a1_5 a1_6 a1_7 l1_8))
theorem put6 {w : World} {g t : Nat} {o0 o1 o2 o3 o4 o5 : Value} (h : w.heap[g]? = some (.cells #[o0, o1, o2, o3, o4, o5] t (0, 0))) (v0 v1 v2 v3 v4 v5 : Value) : ((((((w.setCell ⟨g, 0, none⟩ v0).setCell ⟨g, 1, none⟩ v1).setCell ⟨g, 2, none⟩ v2).setCell ⟨g, 3, none⟩ v3).setCell ⟨g, 4, none⟩ v4).setCell ⟨g, 5, none⟩ v5).heap[g]? = some (.cells #[v0, v1, v2, v3, v4, v5] t (0, 0)) :=
  blk_put (blk_put (blk_put (blk_put (blk_put (blk_put h 0 v0 rfl) 1 v1 rfl) 2 v2 rfl) 3 v3 rfl) 4 v4 rfl) 5 v5 rfl
theorem far6 {w : World} {g g' t : Nat} {cs : Array Value} (h : w.heap[g]? = some (.cells cs t (0, 0))) (hn : g ≠ g') (v0 v1 v2 v3 v4 v5 : Value) : ((((((w.setCell ⟨g', 0, none⟩ v0).setCell ⟨g', 1, none⟩ v1).setCell ⟨g', 2, none⟩ v2).setCell ⟨g', 3, none⟩ v3).setCell ⟨g', 4, none⟩ v4).setCell ⟨g', 5, none⟩ v5).heap[g]? = some (.cells cs t (0, 0)) :=
  blk_far (blk_far (blk_far (blk_far (blk_far (blk_far h hn _) hn _) hn _) hn _) hn _) hn _
theorem set6 {w w1 : World} {g : Nat} (h : Below w.heap.size w w1) (hn : w.heap.size ≤ g) (v0 v1 v2 v3 v4 v5 : Value) : Below w.heap.size w ((((((w1.setCell ⟨g, 0, none⟩ v0).setCell ⟨g, 1, none⟩ v1).setCell ⟨g, 2, none⟩ v2).setCell ⟨g, 3, none⟩ v3).setCell ⟨g, 4, none⟩ v4).setCell ⟨g, 5, none⟩ v5) :=
  below_set (below_set (below_set (below_set (below_set (below_set h hn) hn) hn) hn) hn) hn
def spec_SameDevice.T6 : Bool × List (List Nat × List Nat) := (true, [([], []), ([0], [0]), ([], []), ([1, 2], [1, 2]), ([3], [3]), ([], []), ([5], [5]), ([], []), ([6, 7], [6, 7]), ([8], [8]), ([], []), ([], []), ([10, 4, 0, 1, 2, 3, 4, 10, 11], [4, 10]), ([11, 9, 12, 0, 1, 2, 3, 4, 5, 6, 7, 8, 9, 10, 11, 12], [9, 11])])
def spec_SameDevice.B6 : List Nat := [0, 1, 0, 7, 15, 0, 32, 0, 224, 480, 0, 0, 3103, 8191]
theorem spec_SameDevice.tab6 : rtab .any (opsOf Try.f45 6) = spec_SameDevice.T6 := by kernel_rfl
theorem spec_SameDevice.bits6 : waitsOk spec_SameDevice.T6.2 spec_SameDevice.B6 = true := by kernel_rfl
set_option maxHeartbeats 8000000 in
set_option maxRecDepth 100000 in
theorem spec_SameDevice.calls (k : Nat) (a0_0 : Int) (a0_1 : Int) (a0_2 : Int) (A0_3 : Option Addr) (c0_3 : Nat) (l0_3 : List (S120)) (a0_4 : Int) (a0_5 : Int) (a0_6 : Bool) (a0_7 : Int) (A0_8 : Option Addr) (c0_8 : Nat) (l0_8 : List (S132)) (a1_0 : Int) (a1_1 : Int) (a1_2 : Int) (A1_3 : Option Addr) (c1_3 : Nat) (l1_3 : List (S120)) (a1_4 : Int) (a1_5 : Int) (a1_6 : Bool) (a1_7 : Int) (A1_8 : Option Addr) (c1_8 : Nat) (l1_8 : List (S132)) (r : Bool) (w : World) (hr0_3 : Kd.C k120 w A0_3 l0_3.length l0_3) (hc0_3 : l0_3.length ≤ c0_3) (hr0_8 : Kd.C k132 w A0_8 l0_8.length l0_8) (hc0_8 : l0_8.length ≤ c0_8) (hr1_3 : Kd.C k120 w A1_3 l1_3.length l1_3) (hc1_3 : l1_3.length ≤ c1_3) (hr1_8 : Kd.C k132 w A1_8 l1_8.length l1_8) (hc1_8 : l1_8.length ≤ c1_8) (h : spec_SameDevice.f k a0_0 a0_1 a0_2 l0_3 a0_4 a0_5 a0_6 a0_7 l0_8 a1_0 a1_1 a1_2 l1_3 a1_4 a1_5 a1_6 a1_7 l1_8 = some r) :
    Calls Try.prog 45 #[.agg #[.int .i64 a0_0, .int .i64 a0_1, .int .i64 a0_2, .slice A0_3 l0_3.length c0_3, .int .i64 a0_4, .int .i64 a0_5, .bool a0_6, .int .i64 a0_7, .slice A0_8 l0_8.length c0_8], .agg #[.int .i64 a1_0, .int .i64 a1_1, .int .i64 a1_2, .slice A1_3 l1_3.length c1_3, .int .i64 a1_4, .int .i64 a1_5, .bool a1_6, .int .i64 a1_7, .slice A1_8 l1_8.length c1_8]] w fun e w' => e = .returned (.bool r) ∧ Below w.heap.size w w' := by
  have hu75 := Try.underlying75
  have hu40 := Try.underlying40
  have hu132 := Try.underlying132
  have HR0_3 := Aside0.mk hr0_3
  have HC0_3 := Aside0.mk hc0_3
  clear hr0_3 hc0_3
  have HR0_8 := Aside0.mk hr0_8
  have HC0_8 := Aside0.mk hc0_8
  clear hr0_8 hc0_8
  have HR1_3 := Aside0.mk hr1_3
  have HC1_3 := Aside0.mk hc1_3
  clear hr1_3 hc1_3
  have HR1_8 := Aside0.mk hr1_8
  have HC1_8 := Aside0.mk hc1_8
  clear hr1_8 hc1_8
  have HB := Aside0.mk (Below.refl w.heap.size w)
  have H : ((spec_SameFlash.f k a0_0 a0_1 a0_2 l0_3 a0_4 a0_5 a0_6 a0_7 a1_0 a1_1 a1_2 l1_3 a1_4 a1_5 a1_6 a1_7).bind fun t160 => (if t160 = true then (spec_SameDevice.j0 k ((l0_8.length : Int) != (l1_8.length : Int)) a0_0 a0_1 a0_2 l0_3 a0_4 a0_5 a0_6 a0_7 l0_8 a1_0 a1_1 a1_2 l1_3 a1_4 a1_5 a1_6 a1_7 l1_8) else (spec_SameDevice.j0 k true a0_0 a0_1 a0_2 l0_3 a0_4 a0_5 a0_6 a0_7 l0_8 a1_0 a1_1 a1_2 l1_3 a1_4 a1_5 a1_6 a1_7 l1_8))) = some r := h
  clear h
  have HC3 := Aside0.mk H
  clear H
  go_enter Try.func45, Try.ntmps45
  go_upto_region 1 with (first | ((with_reducible refine gate_dst (N := 2) rfl ?_); (try (refine gate_guard (by rfl) ?_; dsimp only)); refine box_event ?hg (N := 2) ?hd (cs := #[.int .i64 a0_0, .int .i64 a0_1, .int .i64 a0_2, .slice A0_3 l0_3.length c0_3, .int .i64 a0_4, .int .i64 a0_5, .bool a0_6, .int .i64 a0_7, .slice A0_8 l0_8.length c0_8]) (t := 75) ?hr ?_; (case hd => rfl); (case hg => rfl); (case hr => first | (go_simp; done) | (go_simp; rfl)); intro gb158 hg w4 hbox hb; have n0_ := Aside0.mk (below_step (by repeat (first | (with_reducible first | exact HB.out | apply below_alloc | apply pw_below_drewN | apply below_drew1) | exact HB.out)) hb); have n1_ := Aside0.mk (hbox); have n2_ := Aside0.mk ((by rw [hg]; exact (below_size (by repeat (first | (with_reducible first | exact HB.out | apply below_alloc | apply pw_below_drewN | apply below_drew1) | exact HB.out))) : w.heap.size ≤ gb158)); have n3_ := Aside0.mk ((by rw [hg]; exact (below_size (by repeat (first | (with_reducible first | exact HB.out | apply below_alloc | apply pw_below_drewN | apply below_drew1) | exact HB.out))) : w.heap.size ≤ gb158)); clear HB; have HB := n0_; have BK158 := n1_; have GW158 := n2_; have GE158 := n3_; clear n0_ n1_ n2_ n3_; clear hb hbox hg) | ((with_reducible refine gate_dst (N := 3) rfl ?_); (try (refine gate_guard (by rfl) ?_; dsimp only)); refine box_event ?hg (N := 3) ?hd (cs := #[.int .i64 a1_0, .int .i64 a1_1, .int .i64 a1_2, .slice A1_3 l1_3.length c1_3, .int .i64 a1_4, .int .i64 a1_5, .bool a1_6, .int .i64 a1_7, .slice A1_8 l1_8.length c1_8]) (t := 75) ?hr ?_; (case hd => rfl); (case hg => rfl); (case hr => first | (go_simp; done) | (go_simp; rfl)); intro gb159 hg w5 hbox hb; have n0_ := Aside0.mk (blk_below (g := gb158) (o := .cells #[.int .i64 a0_0, .int .i64 a0_1, .int .i64 a0_2, .slice A0_3 l0_3.length c0_3, .int .i64 a0_4, .int .i64 a0_5, .bool a0_6, .int .i64 a0_7, .slice A0_8 l0_8.length c0_8] 75 (0, 0)) (by (with_reducible repeat (first | refine blk_drewN ?_ _ | refine blk_drew ?_ | refine blk_alloc ?_ _)); exact BK158.out) hb); have n1_ := Aside0.mk (below_step (by repeat (first | (with_reducible first | exact HB.out | apply below_alloc | apply pw_below_drewN | apply below_drew1 | refine below_set ?_ GE158.out) | exact HB.out)) hb); have n2_ := Aside0.mk (hbox); have n3_ := Aside0.mk ((by rw [hg]; exact (below_size (by repeat (first | (with_reducible first | exact HB.out | apply below_alloc | apply pw_below_drewN | apply below_drew1 | refine below_set ?_ GE158.out) | exact HB.out))) : w.heap.size ≤ gb159)); have n4_ := Aside0.mk ((by rw [hg]; exact (below_size (by repeat (first | (with_reducible first | exact HB.out | apply below_alloc | apply pw_below_drewN | apply below_drew1 | refine below_set ?_ GE158.out) | exact HB.out))) : w.heap.size ≤ gb159)); have n5_ := Aside0.mk ((by rw [hg]; exact Nat.ne_of_lt (blk_lt (g := gb158) (o := .cells #[.int .i64 a0_0, .int .i64 a0_1, .int .i64 a0_2, .slice A0_3 l0_3.length c0_3, .int .i64 a0_4, .int .i64 a0_5, .bool a0_6, .int .i64 a0_7, .slice A0_8 l0_8.length c0_8] 75 (0, 0)) (by (with_reducible repeat (first | refine blk_drewN ?_ _ | refine blk_drew ?_ | refine blk_alloc ?_ _)); exact BK158.out)) : gb158 ≠ gb159)); have n6_ := Aside0.mk ((by rw [hg]; exact Nat.ne_of_gt (blk_lt (g := gb158) (o := .cells #[.int .i64 a0_0, .int .i64 a0_1, .int .i64 a0_2, .slice A0_3 l0_3.length c0_3, .int .i64 a0_4, .int .i64 a0_5, .bool a0_6, .int .i64 a0_7, .slice A0_8 l0_8.length c0_8] 75 (0, 0)) (by (with_reducible repeat (first | refine blk_drewN ?_ _ | refine blk_drew ?_ | refine blk_alloc ?_ _)); exact BK158.out)) : gb159 ≠ gb158)); clear BK158; clear HB; have BK158 := n0_; have HB := n1_; have BK159 := n2_; have GW159 := n3_; have GE159 := n4_; have NB158_159 := n5_; have NB159_158 := n6_; clear n0_ n1_ n2_ n3_ n4_ n5_ n6_; clear hb hbox hg))
  (try simp only [Act.put, List.setIfInBounds_toArray, List.set_cons_zero, List.set_cons_succ])
  go_cut [22] (fun v22 wc => ∃ (kq : Nat) (x22_2 : Bool), v22 = .bool x22_2 ∧ Aside0 (spec_SameDevice.j0 kq x22_2 a0_0 a0_1 a0_2 l0_3 a0_4 a0_5 a0_6 a0_7 l0_8 a1_0 a1_1 a1_2 l1_3 a1_4 a1_5 a1_6 a1_7 l1_8 = some r) ∧ Aside0 (kq ≤ k) ∧ Aside0 (wc.heap[gb158]? = some (.cells #[.int .i64 a0_0, .int .i64 a0_1, .int .i64 a0_2, (.slice A0_3 l0_3.length c0_3), .int .i64 a0_4, .int .i64 a0_5, .bool a0_6, .int .i64 a0_7, (.slice A0_8 l0_8.length c0_8)] 75 (0, 0))) ∧ Aside0 (wc.heap[gb159]? = some (.cells #[.int .i64 a1_0, .int .i64 a1_1, .int .i64 a1_2, (.slice A1_3 l1_3.length c1_3), .int .i64 a1_4, .int .i64 a1_5, .bool a1_6, .int .i64 a1_7, (.slice A1_8 l1_8.length c1_8)] 75 (0, 0))) ∧ Aside0 (Below w.heap.size w wc))
  case first =>
    have H := HC3.out
    clear HC3
    replace H := Option.bind_eq_some_iff.mp H
    obtain ⟨t160, A60, H⟩ := H
    replace H : (if t160 = true then (spec_SameDevice.j0 k ((l0_8.length : Int) != (l1_8.length : Int)) a0_0 a0_1 a0_2 l0_3 a0_4 a0_5 a0_6 a0_7 l0_8 a1_0 a1_1 a1_2 l1_3 a1_4 a1_5 a1_6 a1_7 l1_8) else (spec_SameDevice.j0 k true a0_0 a0_1 a0_2 l0_3 a0_4 a0_5 a0_6 a0_7 l0_8 a1_0 a1_1 a1_2 l1_3 a1_4 a1_5 a1_6 a1_7 l1_8)) = some r := H
    have A6 := Aside0.mk A60
    clear A60
    by_cases c7 : t160 = true
    · subst c7
      have H1 : (spec_SameDevice.j0 k ((l0_8.length : Int) != (l1_8.length : Int)) a0_0 a0_1 a0_2 l0_3 a0_4 a0_5 a0_6 a0_7 l0_8 a1_0 a1_1 a1_2 l1_3 a1_4 a1_5 a1_6 a1_7 l1_8) = some r := by rw [if_pos rfl] at H; exact H
      clear H
      have H := H1
      clear H1
      have H' := Aside0.mk H
      clear H
      have hnb8 := NB158_159.out
      have hnc8 := NB159_158.out
      have hcz9_0 : w5.cell? ⟨gb158, 0, none⟩ = some (.int .i64 a0_0) := (blk_cell BK158.out 0).trans rfl
      have hcz9_1 : w5.cell? ⟨gb158, 1, none⟩ = some (.int .i64 a0_1) := (blk_cell BK158.out 1).trans rfl
      have hcz9_2 : w5.cell? ⟨gb158, 2, none⟩ = some (.int .i64 a0_2) := (blk_cell BK158.out 2).trans rfl
      have hcz9_3 : w5.cell? ⟨gb158, 3, none⟩ = some (.slice A0_3 l0_3.length c0_3) := (blk_cell BK158.out 3).trans rfl
      have hcz9_4 : w5.cell? ⟨gb158, 4, none⟩ = some (.int .i64 a0_4) := (blk_cell BK158.out 4).trans rfl
      have hcz9_5 : w5.cell? ⟨gb158, 5, none⟩ = some (.int .i64 a0_5) := (blk_cell BK158.out 5).trans rfl
      have hcz9_6 : w5.cell? ⟨gb158, 6, none⟩ = some (.bool a0_6) := (blk_cell BK158.out 6).trans rfl
      have hcz9_7 : w5.cell? ⟨gb158, 7, none⟩ = some (.int .i64 a0_7) := (blk_cell BK158.out 7).trans rfl
      have hcz9_8 : w5.cell? ⟨gb158, 8, none⟩ = some (.slice A0_8 l0_8.length c0_8) := (blk_cell BK158.out 8).trans rfl
      have hfz9_0 := blk_frozen BK158.out 0
      have hfz9_1 := blk_frozen BK158.out 1
      have hfz9_2 := blk_frozen BK158.out 2
      have hfz9_3 := blk_frozen BK158.out 3
      have hfz9_4 := blk_frozen BK158.out 4
      have hfz9_5 := blk_frozen BK158.out 5
      have hfz9_6 := blk_frozen BK158.out 6
      have hfz9_7 := blk_frozen BK158.out 7
      have hfz9_8 := blk_frozen BK158.out 8
      have hcz10_0 : w5.cell? ⟨gb159, 0, none⟩ = some (.int .i64 a1_0) := (blk_cell BK159.out 0).trans rfl
      have hcz10_1 : w5.cell? ⟨gb159, 1, none⟩ = some (.int .i64 a1_1) := (blk_cell BK159.out 1).trans rfl
      have hcz10_2 : w5.cell? ⟨gb159, 2, none⟩ = some (.int .i64 a1_2) := (blk_cell BK159.out 2).trans rfl
      have hcz10_3 : w5.cell? ⟨gb159, 3, none⟩ = some (.slice A1_3 l1_3.length c1_3) := (blk_cell BK159.out 3).trans rfl
      have hcz10_4 : w5.cell? ⟨gb159, 4, none⟩ = some (.int .i64 a1_4) := (blk_cell BK159.out 4).trans rfl
      have hcz10_5 : w5.cell? ⟨gb159, 5, none⟩ = some (.int .i64 a1_5) := (blk_cell BK159.out 5).trans rfl
      have hcz10_6 : w5.cell? ⟨gb159, 6, none⟩ = some (.bool a1_6) := (blk_cell BK159.out 6).trans rfl
      have hcz10_7 : w5.cell? ⟨gb159, 7, none⟩ = some (.int .i64 a1_7) := (blk_cell BK159.out 7).trans rfl
      have hcz10_8 : w5.cell? ⟨gb159, 8, none⟩ = some (.slice A1_8 l1_8.length c1_8) := (blk_cell BK159.out 8).trans rfl
      have hfz10_0 := blk_frozen BK159.out 0
      have hfz10_1 := blk_frozen BK159.out 1
      have hfz10_2 := blk_frozen BK159.out 2
      have hfz10_3 := blk_frozen BK159.out 3
      have hfz10_4 := blk_frozen BK159.out 4
      have hfz10_5 := blk_frozen BK159.out 5
      have hfz10_6 := blk_frozen BK159.out 6
      have hfz10_7 := blk_frozen BK159.out 7
      have hfz10_8 := blk_frozen BK159.out 8
      go_wp2_with (first | ((with_reducible refine gate_callee (f := 104) rfl ?_); refine goesL_ (some 12) rfl rfl Try.func104 (by kernel_rfl) rfl #[.agg #[.int .i64 a0_0, .int .i64 a0_1, .int .i64 a0_2, .slice A0_3 l0_3.length c0_3, .int .i64 a0_4, .int .i64 a0_5, .bool a0_6, .int .i64 a0_7], .agg #[.int .i64 a1_0, .int .i64 a1_1, .int .i64 a1_2, .slice A1_3 l1_3.length c1_3, .int .i64 a1_4, .int .i64 a1_5, .bool a1_6, .int .i64 a1_7]] rfl (by (try simp only [List.map_toArray, List.map_cons, List.map_nil]); first | done | rfl | (simp only [List.length_drop, List.length_take]; rfl)) ?_; (with_reducible refine (spec_SameFlash.calls k a0_0 a0_1 a0_2 _ _ l0_3 a0_4 a0_5 a0_6 a0_7 a1_0 a1_1 a1_2 _ _ l1_3 a1_4 a1_5 a1_6 a1_7 true _ ?side1 ?side2 ?side3 ?side4 A6.out).mono ?_); (case side1 => repeat (first | exact (Kd.C_below HR0_3.out HB.out) | (with_reducible refine Kd.C_alloc ?_ _) | (with_reducible refine Kd.C_drewN ?_ _) | (with_reducible refine Kd.C_drew ?_))); (case side2 => exact HC0_3.out); (case side3 => repeat (first | exact (Kd.C_below HR1_3.out HB.out) | (with_reducible refine Kd.C_alloc ?_ _) | (with_reducible refine Kd.C_drewN ?_ _) | (with_reducible refine Kd.C_drew ?_))); (case side4 => exact HC1_3.out); rintro e w11 ⟨rfl, hb⟩; refine ⟨_, rfl, ?_⟩; have n0_ := Aside0.mk (blk_below (g := gb158) (o := .cells #[.int .i64 a0_0, .int .i64 a0_1, .int .i64 a0_2, .slice A0_3 l0_3.length c0_3, .int .i64 a0_4, .int .i64 a0_5, .bool a0_6, .int .i64 a0_7, .slice A0_8 l0_8.length c0_8] 75 (0, 0)) (by (with_reducible repeat (first | refine blk_drewN ?_ _ | refine blk_drew ?_ | refine blk_alloc ?_ _)); exact BK158.out) hb); have n1_ := Aside0.mk (blk_below (g := gb159) (o := .cells #[.int .i64 a1_0, .int .i64 a1_1, .int .i64 a1_2, .slice A1_3 l1_3.length c1_3, .int .i64 a1_4, .int .i64 a1_5, .bool a1_6, .int .i64 a1_7, .slice A1_8 l1_8.length c1_8] 75 (0, 0)) (by (with_reducible repeat (first | refine blk_drewN ?_ _ | refine blk_drew ?_ | refine blk_alloc ?_ _)); exact BK159.out) hb); have n2_ := Aside0.mk (below_step (by repeat (first | (with_reducible first | exact HB.out | apply below_alloc | apply pw_below_drewN | apply below_drew1 | refine below_set ?_ GE158.out | refine below_set ?_ GE159.out) | exact HB.out)) hb); clear BK158; clear BK159; clear HB; have BK158 := n0_; have BK159 := n1_; have HB := n2_; clear n0_ n1_ n2_; (try clear hb); (try clear hb2); (try clear hk); (try clear hi); have hcz12_0 : w11.cell? ⟨gb158, 0, none⟩ = some (.int .i64 a0_0) := (blk_cell BK158.out 0).trans rfl; have hcz12_1 : w11.cell? ⟨gb158, 1, none⟩ = some (.int .i64 a0_1) := (blk_cell BK158.out 1).trans rfl; have hcz12_2 : w11.cell? ⟨gb158, 2, none⟩ = some (.int .i64 a0_2) := (blk_cell BK158.out 2).trans rfl; have hcz12_3 : w11.cell? ⟨gb158, 3, none⟩ = some (.slice A0_3 l0_3.length c0_3) := (blk_cell BK158.out 3).trans rfl; have hcz12_4 : w11.cell? ⟨gb158, 4, none⟩ = some (.int .i64 a0_4) := (blk_cell BK158.out 4).trans rfl; have hcz12_5 : w11.cell? ⟨gb158, 5, none⟩ = some (.int .i64 a0_5) := (blk_cell BK158.out 5).trans rfl; have hcz12_6 : w11.cell? ⟨gb158, 6, none⟩ = some (.bool a0_6) := (blk_cell BK158.out 6).trans rfl; have hcz12_7 : w11.cell? ⟨gb158, 7, none⟩ = some (.int .i64 a0_7) := (blk_cell BK158.out 7).trans rfl; have hcz12_8 : w11.cell? ⟨gb158, 8, none⟩ = some (.slice A0_8 l0_8.length c0_8) := (blk_cell BK158.out 8).trans rfl; have hfz12_0 := blk_frozen BK158.out 0; have hfz12_1 := blk_frozen BK158.out 1; have hfz12_2 := blk_frozen BK158.out 2; have hfz12_3 := blk_frozen BK158.out 3; have hfz12_4 := blk_frozen BK158.out 4; have hfz12_5 := blk_frozen BK158.out 5; have hfz12_6 := blk_frozen BK158.out 6; have hfz12_7 := blk_frozen BK158.out 7; have hfz12_8 := blk_frozen BK158.out 8; have hcz13_0 : w11.cell? ⟨gb159, 0, none⟩ = some (.int .i64 a1_0) := (blk_cell BK159.out 0).trans rfl; have hcz13_1 : w11.cell? ⟨gb159, 1, none⟩ = some (.int .i64 a1_1) := (blk_cell BK159.out 1).trans rfl; have hcz13_2 : w11.cell? ⟨gb159, 2, none⟩ = some (.int .i64 a1_2) := (blk_cell BK159.out 2).trans rfl; have hcz13_3 : w11.cell? ⟨gb159, 3, none⟩ = some (.slice A1_3 l1_3.length c1_3) := (blk_cell BK159.out 3).trans rfl; have hcz13_4 : w11.cell? ⟨gb159, 4, none⟩ = some (.int .i64 a1_4) := (blk_cell BK159.out 4).trans rfl; have hcz13_5 : w11.cell? ⟨gb159, 5, none⟩ = some (.int .i64 a1_5) := (blk_cell BK159.out 5).trans rfl; have hcz13_6 : w11.cell? ⟨gb159, 6, none⟩ = some (.bool a1_6) := (blk_cell BK159.out 6).trans rfl; have hcz13_7 : w11.cell? ⟨gb159, 7, none⟩ = some (.int .i64 a1_7) := (blk_cell BK159.out 7).trans rfl; have hcz13_8 : w11.cell? ⟨gb159, 8, none⟩ = some (.slice A1_8 l1_8.length c1_8) := (blk_cell BK159.out 8).trans rfl; have hfz13_0 := blk_frozen BK159.out 0; have hfz13_1 := blk_frozen BK159.out 1; have hfz13_2 := blk_frozen BK159.out 2; have hfz13_3 := blk_frozen BK159.out 3; have hfz13_4 := blk_frozen BK159.out 4; have hfz13_5 := blk_frozen BK159.out 5; have hfz13_6 := blk_frozen BK159.out 6; have hfz13_7 := blk_frozen BK159.out 7; have hfz13_8 := blk_frozen BK159.out 8))
      go_meet
      case rel => exact ⟨_, (((l0_8.length : Int) != (l1_8.length : Int))), (by first | rfl | (simp; done) | (simp [*]; done)), H', ⟨by first | omega | exact Nat.le_refl _⟩, ⟨by (with_reducible repeat (first | refine blk_drewN ?_ _ | refine blk_drew ?_ | refine blk_alloc ?_ _)); exact BK158.out⟩, ⟨by (with_reducible repeat (first | refine blk_drewN ?_ _ | refine blk_drew ?_ | refine blk_alloc ?_ _)); exact BK159.out⟩, ⟨by repeat (first | (with_reducible first | exact HB.out | apply below_alloc | apply pw_below_drewN | apply below_drew1 | refine below_set ?_ GE158.out | refine below_set ?_ GE159.out) | exact HB.out)⟩⟩
    · replace c7 := Bool.eq_false_iff.mpr c7
      subst c7
      have H1 : (spec_SameDevice.j0 k true a0_0 a0_1 a0_2 l0_3 a0_4 a0_5 a0_6 a0_7 l0_8 a1_0 a1_1 a1_2 l1_3 a1_4 a1_5 a1_6 a1_7 l1_8) = some r := by rw [if_neg (show ¬ (false = true) by decide)] at H; exact H
      clear H
      have H := H1
      clear H1
      have H' := Aside0.mk H
      clear H
      have hnb14 := NB158_159.out
      have hnc14 := NB159_158.out
      have hcz15_0 : w5.cell? ⟨gb158, 0, none⟩ = some (.int .i64 a0_0) := (blk_cell BK158.out 0).trans rfl
      have hcz15_1 : w5.cell? ⟨gb158, 1, none⟩ = some (.int .i64 a0_1) := (blk_cell BK158.out 1).trans rfl
      have hcz15_2 : w5.cell? ⟨gb158, 2, none⟩ = some (.int .i64 a0_2) := (blk_cell BK158.out 2).trans rfl
      have hcz15_3 : w5.cell? ⟨gb158, 3, none⟩ = some (.slice A0_3 l0_3.length c0_3) := (blk_cell BK158.out 3).trans rfl
      have hcz15_4 : w5.cell? ⟨gb158, 4, none⟩ = some (.int .i64 a0_4) := (blk_cell BK158.out 4).trans rfl
      have hcz15_5 : w5.cell? ⟨gb158, 5, none⟩ = some (.int .i64 a0_5) := (blk_cell BK158.out 5).trans rfl
      have hcz15_6 : w5.cell? ⟨gb158, 6, none⟩ = some (.bool a0_6) := (blk_cell BK158.out 6).trans rfl
      have hcz15_7 : w5.cell? ⟨gb158, 7, none⟩ = some (.int .i64 a0_7) := (blk_cell BK158.out 7).trans rfl
      have hcz15_8 : w5.cell? ⟨gb158, 8, none⟩ = some (.slice A0_8 l0_8.length c0_8) := (blk_cell BK158.out 8).trans rfl
      have hfz15_0 := blk_frozen BK158.out 0
      have hfz15_1 := blk_frozen BK158.out 1
      have hfz15_2 := blk_frozen BK158.out 2
      have hfz15_3 := blk_frozen BK158.out 3
      have hfz15_4 := blk_frozen BK158.out 4
      have hfz15_5 := blk_frozen BK158.out 5
      have hfz15_6 := blk_frozen BK158.out 6
      have hfz15_7 := blk_frozen BK158.out 7
      have hfz15_8 := blk_frozen BK158.out 8
      have hcz16_0 : w5.cell? ⟨gb159, 0, none⟩ = some (.int .i64 a1_0) := (blk_cell BK159.out 0).trans rfl
      have hcz16_1 : w5.cell? ⟨gb159, 1, none⟩ = some (.int .i64 a1_1) := (blk_cell BK159.out 1).trans rfl
      have hcz16_2 : w5.cell? ⟨gb159, 2, none⟩ = some (.int .i64 a1_2) := (blk_cell BK159.out 2).trans rfl
      have hcz16_3 : w5.cell? ⟨gb159, 3, none⟩ = some (.slice A1_3 l1_3.length c1_3) := (blk_cell BK159.out 3).trans rfl
      have hcz16_4 : w5.cell? ⟨gb159, 4, none⟩ = some (.int .i64 a1_4) := (blk_cell BK159.out 4).trans rfl
      have hcz16_5 : w5.cell? ⟨gb159, 5, none⟩ = some (.int .i64 a1_5) := (blk_cell BK159.out 5).trans rfl
      have hcz16_6 : w5.cell? ⟨gb159, 6, none⟩ = some (.bool a1_6) := (blk_cell BK159.out 6).trans rfl
      have hcz16_7 : w5.cell? ⟨gb159, 7, none⟩ = some (.int .i64 a1_7) := (blk_cell BK159.out 7).trans rfl
      have hcz16_8 : w5.cell? ⟨gb159, 8, none⟩ = some (.slice A1_8 l1_8.length c1_8) := (blk_cell BK159.out 8).trans rfl
      have hfz16_0 := blk_frozen BK159.out 0
      have hfz16_1 := blk_frozen BK159.out 1
      have hfz16_2 := blk_frozen BK159.out 2
      have hfz16_3 := blk_frozen BK159.out 3
      have hfz16_4 := blk_frozen BK159.out 4
      have hfz16_5 := blk_frozen BK159.out 5
      have hfz16_6 := blk_frozen BK159.out 6
      have hfz16_7 := blk_frozen BK159.out 7
      have hfz16_8 := blk_frozen BK159.out 8
      go_wp2_with (first | ((with_reducible refine gate_callee (f := 104) rfl ?_); refine goesL_ (some 12) rfl rfl Try.func104 (by kernel_rfl) rfl #[.agg #[.int .i64 a0_0, .int .i64 a0_1, .int .i64 a0_2, .slice A0_3 l0_3.length c0_3, .int .i64 a0_4, .int .i64 a0_5, .bool a0_6, .int .i64 a0_7], .agg #[.int .i64 a1_0, .int .i64 a1_1, .int .i64 a1_2, .slice A1_3 l1_3.length c1_3, .int .i64 a1_4, .int .i64 a1_5, .bool a1_6, .int .i64 a1_7]] rfl (by (try simp only [List.map_toArray, List.map_cons, List.map_nil]); first | done | rfl | (simp only [List.length_drop, List.length_take]; rfl)) ?_; (with_reducible refine (spec_SameFlash.calls k a0_0 a0_1 a0_2 _ _ l0_3 a0_4 a0_5 a0_6 a0_7 a1_0 a1_1 a1_2 _ _ l1_3 a1_4 a1_5 a1_6 a1_7 false _ ?side1 ?side2 ?side3 ?side4 A6.out).mono ?_); (case side1 => repeat (first | exact (Kd.C_below HR0_3.out HB.out) | (with_reducible refine Kd.C_alloc ?_ _) | (with_reducible refine Kd.C_drewN ?_ _) | (with_reducible refine Kd.C_drew ?_))); (case side2 => exact HC0_3.out); (case side3 => repeat (first | exact (Kd.C_below HR1_3.out HB.out) | (with_reducible refine Kd.C_alloc ?_ _) | (with_reducible refine Kd.C_drewN ?_ _) | (with_reducible refine Kd.C_drew ?_))); (case side4 => exact HC1_3.out); rintro e w17 ⟨rfl, hb⟩; refine ⟨_, rfl, ?_⟩; have n0_ := Aside0.mk (blk_below (g := gb158) (o := .cells #[.int .i64 a0_0, .int .i64 a0_1, .int .i64 a0_2, .slice A0_3 l0_3.length c0_3, .int .i64 a0_4, .int .i64 a0_5, .bool a0_6, .int .i64 a0_7, .slice A0_8 l0_8.length c0_8] 75 (0, 0)) (by (with_reducible repeat (first | refine blk_drewN ?_ _ | refine blk_drew ?_ | refine blk_alloc ?_ _)); exact BK158.out) hb); have n1_ := Aside0.mk (blk_below (g := gb159) (o := .cells #[.int .i64 a1_0, .int .i64 a1_1, .int .i64 a1_2, .slice A1_3 l1_3.length c1_3, .int .i64 a1_4, .int .i64 a1_5, .bool a1_6, .int .i64 a1_7, .slice A1_8 l1_8.length c1_8] 75 (0, 0)) (by (with_reducible repeat (first | refine blk_drewN ?_ _ | refine blk_drew ?_ | refine blk_alloc ?_ _)); exact BK159.out) hb); have n2_ := Aside0.mk (below_step (by repeat (first | (with_reducible first | exact HB.out | apply below_alloc | apply pw_below_drewN | apply below_drew1 | refine below_set ?_ GE158.out | refine below_set ?_ GE159.out) | exact HB.out)) hb); clear BK158; clear BK159; clear HB; have BK158 := n0_; have BK159 := n1_; have HB := n2_; clear n0_ n1_ n2_; (try clear hb); (try clear hb2); (try clear hk); (try clear hi)))
      go_meet
      case rel => exact ⟨_, (true), (by first | rfl | (simp; done) | (simp [*]; done)), H', ⟨by first | omega | exact Nat.le_refl _⟩, ⟨by (with_reducible repeat (first | refine blk_drewN ?_ _ | refine blk_drew ?_ | refine blk_alloc ?_ _)); exact BK158.out⟩, ⟨by (with_reducible repeat (first | refine blk_drewN ?_ _ | refine blk_drew ?_ | refine blk_alloc ?_ _)); exact BK159.out⟩, ⟨by repeat (first | (with_reducible first | exact HB.out | apply below_alloc | apply pw_below_drewN | apply below_drew1 | refine below_set ?_ GE158.out | refine below_set ?_ GE159.out) | exact HB.out)⟩⟩
  case rest =>
    clear HC3
    try clear c1
    try clear p2
    try clear c4
    try clear c7
    try clear c8
    try clear c10
    try clear c14
    obtain ⟨kq, x22_2, rfl, HA, HJ2, BK158, BK159, HB⟩ := hcut
    cases kq with
    | zero => exact absurd HA.out (by simp [spec_SameDevice.j0])
    | succ kj2 =>
      have H := HA.out
      clear HA
      simp only [spec_SameDevice.j0] at H
      by_cases c18 : x22_2 = true
      · subst c18
        have H1 : (some false) = some r := by rw [if_pos rfl] at H; exact H
        clear H
        have H := H1
        clear H1
        obtain rfl := Option.some.inj H
        go_wp2
        go_ret
        exact ⟨by first | rfl | (simp [errW_none, errW_some] <;> rfl) | (simp [*, errW_none, errW_some] <;> rfl), by repeat (first | (with_reducible first | exact HB.out | apply below_alloc | apply pw_below_drewN | apply below_drew1 | refine below_set ?_ GE158.out | refine below_set ?_ GE159.out) | exact HB.out)⟩
      · replace c18 := Bool.eq_false_iff.mpr c18
        subst c18
        have H1 : (spec_SameDevice.l0 kj2 0 a0_0 a0_1 a0_2 l0_3 a0_4 a0_5 a0_6 a0_7 l0_8 a1_0 a1_1 a1_2 l1_3 a1_4 a1_5 a1_6 a1_7 l1_8) = some r := by rw [if_neg (show ¬ (false = true) by decide)] at H; exact H
        clear H
        have H := H1
        clear H1
        have H' := Aside0.mk H
        clear H
        go_wp2
        go_loopg [5] kj2 (fun kq v5 w' => ∃ (x5_2 : Int), v5 = .int .i64 x5_2 ∧ Aside0 (spec_SameDevice.l0 kq x5_2 a0_0 a0_1 a0_2 l0_3 a0_4 a0_5 a0_6 a0_7 l0_8 a1_0 a1_1 a1_2 l1_3 a1_4 a1_5 a1_6 a1_7 l1_8 = some r) ∧ Aside0 (kq ≤ kj2) ∧ Aside0 (w'.heap[gb158]? = some (.cells #[.int .i64 a0_0, .int .i64 a0_1, .int .i64 a0_2, (.slice A0_3 l0_3.length c0_3), .int .i64 a0_4, .int .i64 a0_5, .bool a0_6, .int .i64 a0_7, (.slice A0_8 l0_8.length c0_8)] 75 (0, 0))) ∧ Aside0 (w'.heap[gb159]? = some (.cells #[.int .i64 a1_0, .int .i64 a1_1, .int .i64 a1_2, (.slice A1_3 l1_3.length c1_3), .int .i64 a1_4, .int .i64 a1_5, .bool a1_6, .int .i64 a1_7, (.slice A1_8 l1_8.length c1_8)] 75 (0, 0))) ∧ Aside0 (Below w.heap.size w w'))
        case atStart => exact ⟨(0), (by first | rfl | (simp; done) | (simp [*]; done)), H', ⟨Nat.le_refl _⟩, ⟨by (with_reducible repeat (first | refine blk_drewN ?_ _ | refine blk_drew ?_ | refine blk_alloc ?_ _)); exact BK158.out⟩, ⟨by (with_reducible repeat (first | refine blk_drewN ?_ _ | refine blk_drew ?_ | refine blk_alloc ?_ _)); exact BK159.out⟩, ⟨by repeat (first | (with_reducible first | exact HB.out | apply below_alloc | apply pw_below_drewN | apply below_drew1 | refine below_set ?_ GE158.out | refine below_set ?_ GE159.out) | exact HB.out)⟩⟩
        case round =>
          clear H'
          try clear c1
          try clear p2
          try clear c4
          try clear c7
          try clear c8
          try clear c10
          try clear c14
          try clear c18
          try clear p2
          obtain ⟨x5_2, rfl, HA, HK2, BK158, BK159, HB⟩ := hrel
          cases gk with
          | zero => exact absurd HA.out (by simp [spec_SameDevice.l0])
          | succ k2 =>
            have H := HA.out
            clear HA
            simp only [spec_SameDevice.l0] at H
            by_cases c19 : x5_2 < (l0_8.length : Int)
            · rw [if_pos c19] at H
              have c19b0 : decide (x5_2 < (l0_8.length : Int)) = true := decide_eq_true c19
              clear c19
              by_cases c20 : 0 ≤ x5_2
              · rw [if_pos c20] at H
                have c20b0 : decide (0 ≤ x5_2) = true := decide_eq_true c20
                clear c20
                by_cases c21 : x5_2 < (l1_8.length : Int)
                · rw [if_pos c21] at H
                  have c21b0 : decide (x5_2 < (l1_8.length : Int)) = true := decide_eq_true c21
                  clear c21
                  have hnb31 := NB158_159.out
                  have hnc31 := NB159_158.out
                  have hcz32_0 : wr.cell? ⟨gb158, 0, none⟩ = some (.int .i64 a0_0) := (blk_cell BK158.out 0).trans rfl
                  have hcz32_1 : wr.cell? ⟨gb158, 1, none⟩ = some (.int .i64 a0_1) := (blk_cell BK158.out 1).trans rfl
                  have hcz32_2 : wr.cell? ⟨gb158, 2, none⟩ = some (.int .i64 a0_2) := (blk_cell BK158.out 2).trans rfl
                  have hcz32_3 : wr.cell? ⟨gb158, 3, none⟩ = some (.slice A0_3 l0_3.length c0_3) := (blk_cell BK158.out 3).trans rfl
                  have hcz32_4 : wr.cell? ⟨gb158, 4, none⟩ = some (.int .i64 a0_4) := (blk_cell BK158.out 4).trans rfl
                  have hcz32_5 : wr.cell? ⟨gb158, 5, none⟩ = some (.int .i64 a0_5) := (blk_cell BK158.out 5).trans rfl
                  have hcz32_6 : wr.cell? ⟨gb158, 6, none⟩ = some (.bool a0_6) := (blk_cell BK158.out 6).trans rfl
                  have hcz32_7 : wr.cell? ⟨gb158, 7, none⟩ = some (.int .i64 a0_7) := (blk_cell BK158.out 7).trans rfl
                  have hcz32_8 : wr.cell? ⟨gb158, 8, none⟩ = some (.slice A0_8 l0_8.length c0_8) := (blk_cell BK158.out 8).trans rfl
                  have hfz32_0 := blk_frozen BK158.out 0
                  have hfz32_1 := blk_frozen BK158.out 1
                  have hfz32_2 := blk_frozen BK158.out 2
                  have hfz32_3 := blk_frozen BK158.out 3
                  have hfz32_4 := blk_frozen BK158.out 4
                  have hfz32_5 := blk_frozen BK158.out 5
                  have hfz32_6 := blk_frozen BK158.out 6
                  have hfz32_7 := blk_frozen BK158.out 7
                  have hfz32_8 := blk_frozen BK158.out 8
                  try go_wp2
                  have n0_ := Aside0.mk (blk_drew BK158.out)
                  have n1_ := Aside0.mk (blk_drew BK159.out)
                  have n2_ := Aside0.mk (below_drew1 HB.out)
                  clear BK158
                  clear BK159
                  clear HB
                  have BK158 := n0_
                  have BK159 := n1_
                  have HB := n2_
                  clear n0_ n1_ n2_
                  have p161 : 0 ≤ (x5_2 : Int) := of_decide_eq_true (by first | (with_reducible assumption) | assumption)
                  have q161 : x5_2 < (l0_8.length : Int) := of_decide_eq_true (by first | (with_reducible assumption) | assumption)
                  obtain ⟨ad161, A161_1, c161_1, A161_4, c161_4, A161_5, c161_5, e161, hx161_0, hx161_1, hx161_2, hx161_3, hx161_4, hx161_5, hl161_1, hi161_1, hl161_4, hi161_4, hl161_5, hi161_5⟩ := at_T132 HR0_8.out x5_2 p161 q161
                  have hw161_5 := hx161_5
                  have hw161_4 := hx161_4
                  have hw161_3 := hx161_3
                  have hw161_2 := hx161_2
                  have hw161_1 := hx161_1
                  have hw161_0 := hx161_0
                  cases e161
                  replace hx161_0 := (HB.out.cell (World.block_lt_of_cell? w _ hx161_0)).trans hx161_0
                  replace hx161_1 := (HB.out.cell (World.block_lt_of_cell? w _ hx161_1)).trans hx161_1
                  replace hx161_2 := (HB.out.cell (World.block_lt_of_cell? w _ hx161_2)).trans hx161_2
                  replace hx161_3 := (HB.out.cell (World.block_lt_of_cell? w _ hx161_3)).trans hx161_3
                  replace hx161_4 := (HB.out.cell (World.block_lt_of_cell? w _ hx161_4)).trans hx161_4
                  replace hx161_5 := (HB.out.cell (World.block_lt_of_cell? w _ hx161_5)).trans hx161_5
                  have HR161_1 := Aside0.mk hi161_1
                  have HC161_1 := Aside0.mk hl161_1
                  clear hi161_1 hl161_1
                  have HR161_4 := Aside0.mk hi161_4
                  have HC161_4 := Aside0.mk hl161_4
                  clear hi161_4 hl161_4
                  have HR161_5 := Aside0.mk hi161_5
                  have HC161_5 := Aside0.mk hl161_5
                  clear hi161_5 hl161_5
                  replace p161 := eq_true p161
                  replace q161 := eq_true q161
                  have p162 : 0 ≤ (x5_2 : Int) := of_decide_eq_true (by first | (with_reducible assumption) | assumption)
                  have q162 : x5_2 < (l1_8.length : Int) := of_decide_eq_true (by first | (with_reducible assumption) | assumption)
                  obtain ⟨ad162, A162_1, c162_1, A162_4, c162_4, A162_5, c162_5, e162, hx162_0, hx162_1, hx162_2, hx162_3, hx162_4, hx162_5, hl162_1, hi162_1, hl162_4, hi162_4, hl162_5, hi162_5⟩ := at_T132 HR1_8.out x5_2 p162 q162
                  have hw162_5 := hx162_5
                  have hw162_4 := hx162_4
                  have hw162_3 := hx162_3
                  have hw162_2 := hx162_2
                  have hw162_1 := hx162_1
                  have hw162_0 := hx162_0
                  cases e162
                  replace hx162_0 := (HB.out.cell (World.block_lt_of_cell? w _ hx162_0)).trans hx162_0
                  replace hx162_1 := (HB.out.cell (World.block_lt_of_cell? w _ hx162_1)).trans hx162_1
                  replace hx162_2 := (HB.out.cell (World.block_lt_of_cell? w _ hx162_2)).trans hx162_2
                  replace hx162_3 := (HB.out.cell (World.block_lt_of_cell? w _ hx162_3)).trans hx162_3
                  replace hx162_4 := (HB.out.cell (World.block_lt_of_cell? w _ hx162_4)).trans hx162_4
                  replace hx162_5 := (HB.out.cell (World.block_lt_of_cell? w _ hx162_5)).trans hx162_5
                  have HR162_1 := Aside0.mk hi162_1
                  have HC162_1 := Aside0.mk hl162_1
                  clear hi162_1 hl162_1
                  have HR162_4 := Aside0.mk hi162_4
                  have HC162_4 := Aside0.mk hl162_4
                  clear hi162_4 hl162_4
                  have HR162_5 := Aside0.mk hi162_5
                  have HC162_5 := Aside0.mk hl162_5
                  clear hi162_5 hl162_5
                  replace p162 := eq_true p162
                  replace q162 := eq_true q162
                  refine start_ (n := 14) (S := fun w' => w'.cell? ⟨gb158, 0, none⟩ = some (.int .i64 a0_0) ∧ w'.cell? ⟨gb158, 1, none⟩ = some (.int .i64 a0_1) ∧ w'.cell? ⟨gb158, 2, none⟩ = some (.int .i64 a0_2) ∧ w'.cell? ⟨gb158, 3, none⟩ = some (.slice A0_3 l0_3.length c0_3) ∧ w'.cell? ⟨gb158, 4, none⟩ = some (.int .i64 a0_4) ∧ w'.cell? ⟨gb158, 5, none⟩ = some (.int .i64 a0_5) ∧ w'.cell? ⟨gb158, 6, none⟩ = some (.bool a0_6) ∧ w'.cell? ⟨gb158, 7, none⟩ = some (.int .i64 a0_7) ∧ w'.cell? ⟨gb158, 8, none⟩ = some (.slice (some ad161) l0_8.length c0_8) ∧ w'.cell? ⟨gb159, 0, none⟩ = some (.int .i64 a1_0) ∧ w'.cell? ⟨gb159, 1, none⟩ = some (.int .i64 a1_1) ∧ w'.cell? ⟨gb159, 2, none⟩ = some (.int .i64 a1_2) ∧ w'.cell? ⟨gb159, 3, none⟩ = some (.slice A1_3 l1_3.length c1_3) ∧ w'.cell? ⟨gb159, 4, none⟩ = some (.int .i64 a1_4) ∧ w'.cell? ⟨gb159, 5, none⟩ = some (.int .i64 a1_5) ∧ w'.cell? ⟨gb159, 6, none⟩ = some (.bool a1_6) ∧ w'.cell? ⟨gb159, 7, none⟩ = some (.int .i64 a1_7) ∧ w'.cell? ⟨gb159, 8, none⟩ = some (.slice (some ad162) l1_8.length c1_8) ∧ w'.cell? (ad161.add ((x5_2).toNat * 6)) = some (.int .i64 ((rd_T132 l0_8 x5_2).f0)) ∧ w'.cell? ⟨(ad161.add ((x5_2).toNat * 6)).block, (ad161.add ((x5_2).toNat * 6)).off + 1, none⟩ = some (.slice A161_1 ((rd_T132 l0_8 x5_2).f1).length c161_1) ∧ w'.cell? ⟨(ad161.add ((x5_2).toNat * 6)).block, (ad161.add ((x5_2).toNat * 6)).off + 2, none⟩ = some (.int .i64 ((rd_T132 l0_8 x5_2).f2)) ∧ w'.cell? ⟨(ad161.add ((x5_2).toNat * 6)).block, (ad161.add ((x5_2).toNat * 6)).off + 3, none⟩ = some (.int .i64 ((rd_T132 l0_8 x5_2).f3)) ∧ w'.cell? ⟨(ad161.add ((x5_2).toNat * 6)).block, (ad161.add ((x5_2).toNat * 6)).off + 4, none⟩ = some (.slice A161_4 ((rd_T132 l0_8 x5_2).f4).length c161_4) ∧ w'.cell? ⟨(ad161.add ((x5_2).toNat * 6)).block, (ad161.add ((x5_2).toNat * 6)).off + 5, none⟩ = some (.slice A161_5 ((rd_T132 l0_8 x5_2).f5).length c161_5) ∧ w'.cell? (ad162.add ((x5_2).toNat * 6)) = some (.int .i64 ((rd_T132 l1_8 x5_2).f0)) ∧ w'.cell? ⟨(ad162.add ((x5_2).toNat * 6)).block, (ad162.add ((x5_2).toNat * 6)).off + 1, none⟩ = some (.slice A162_1 ((rd_T132 l1_8 x5_2).f1).length c162_1) ∧ w'.cell? ⟨(ad162.add ((x5_2).toNat * 6)).block, (ad162.add ((x5_2).toNat * 6)).off + 2, none⟩ = some (.int .i64 ((rd_T132 l1_8 x5_2).f2)) ∧ w'.cell? ⟨(ad162.add ((x5_2).toNat * 6)).block, (ad162.add ((x5_2).toNat * 6)).off + 3, none⟩ = some (.int .i64 ((rd_T132 l1_8 x5_2).f3)) ∧ w'.cell? ⟨(ad162.add ((x5_2).toNat * 6)).block, (ad162.add ((x5_2).toNat * 6)).off + 4, none⟩ = some (.slice A162_4 ((rd_T132 l1_8 x5_2).f4).length c162_4) ∧ w'.cell? ⟨(ad162.add ((x5_2).toNat * 6)).block, (ad162.add ((x5_2).toNat * 6)).off + 5, none⟩ = some (.slice A162_5 ((rd_T132 l1_8 x5_2).f5).length c162_5)) (ds := []) #[false, false, false, false, false, false, false, false, false, false, false, false, false, false] (by kernel_rfl) rfl rfl ⟨(blk_cell BK158.out 0).trans rfl, (blk_cell BK158.out 1).trans rfl, (blk_cell BK158.out 2).trans rfl, (blk_cell BK158.out 3).trans rfl, (blk_cell BK158.out 4).trans rfl, (blk_cell BK158.out 5).trans rfl, (blk_cell BK158.out 6).trans rfl, (blk_cell BK158.out 7).trans rfl, (blk_cell BK158.out 8).trans rfl, (blk_cell BK159.out 0).trans rfl, (blk_cell BK159.out 1).trans rfl, (blk_cell BK159.out 2).trans rfl, (blk_cell BK159.out 3).trans rfl, (blk_cell BK159.out 4).trans rfl, (blk_cell BK159.out 5).trans rfl, (blk_cell BK159.out 6).trans rfl, (blk_cell BK159.out 7).trans rfl, (blk_cell BK159.out 8).trans rfl, ((HB.out.cell (World.block_lt_of_cell? w _ hw161_0)).trans hw161_0), ((HB.out.cell (World.block_lt_of_cell? w _ hw161_1)).trans hw161_1), ((HB.out.cell (World.block_lt_of_cell? w _ hw161_2)).trans hw161_2), ((HB.out.cell (World.block_lt_of_cell? w _ hw161_3)).trans hw161_3), ((HB.out.cell (World.block_lt_of_cell? w _ hw161_4)).trans hw161_4), ((HB.out.cell (World.block_lt_of_cell? w _ hw161_5)).trans hw161_5), ((HB.out.cell (World.block_lt_of_cell? w _ hw162_0)).trans hw162_0), ((HB.out.cell (World.block_lt_of_cell? w _ hw162_1)).trans hw162_1), ((HB.out.cell (World.block_lt_of_cell? w _ hw162_2)).trans hw162_2), ((HB.out.cell (World.block_lt_of_cell? w _ hw162_3)).trans hw162_3), ((HB.out.cell (World.block_lt_of_cell? w _ hw162_4)).trans hw162_4), ((HB.out.cell (World.block_lt_of_cell? w _ hw162_5)).trans hw162_5)⟩ (fun hHeld => ?_); refine with_tabW spec_SameDevice.tab6 spec_SameDevice.bits6 (fun HT_ HW_ => ?_)
                  generalize wr.drew = w33 at BK158 BK159 HB HR161_1 HR161_4 HR161_5 HR162_1 HR162_4 HR162_5 hx161_0 hx161_1 hx161_2 hx161_3 hx161_4 hx161_5 hx162_0 hx162_1 hx162_2 hx162_3 hx162_4 hx162_5 hHeld ⊢
                  refine pure_ (i := 0) (N := some 30) (v := ?_) (a' := ?_) #[true, false, false, false, false, false, false, false, false, false, false, false, false, false] rfl rfl (any_of HT_.out (by kernel_rfl)) (fun _ _ _ h => h) (Or.inl ⟨by rfl, ?_⟩) ?_ ?_
                  rotate_left
                  · intro w'
                    go_simp
                    with_reducible rfl
                  rotate_left
                  · simp only [Act.put, List.setIfInBounds_toArray, List.set_cons_zero, List.set_cons_succ, i64_w, i32_w]
                    rfl
                  refine pure_ (i := 2) (N := some 32) (v := ?_) (a' := ?_) #[true, false, true, false, false, false, false, false, false, false, false, false, false, false] rfl rfl (any_of HT_.out (by kernel_rfl)) (fun _ _ _ h => h) (Or.inl ⟨by rfl, ?_⟩) ?_ ?_
                  rotate_left
                  · intro w'
                    go_simp
                    with_reducible rfl
                  rotate_left
                  · simp only [Act.put, List.setIfInBounds_toArray, List.set_cons_zero, List.set_cons_succ, i64_w, i32_w]
                    rfl
                  refine pure_ (i := 5) (N := some 35) (v := ?_) (a' := ?_) #[true, false, true, false, false, true, false, false, false, false, false, false, false, false] rfl rfl (any_of HT_.out (by kernel_rfl)) (fun _ _ _ h => h) (Or.inl ⟨by rfl, ?_⟩) ?_ ?_
                  rotate_left
                  · intro w'
                    go_simp
                    with_reducible rfl
                  rotate_left
                  · simp only [Act.put, List.setIfInBounds_toArray, List.set_cons_zero, List.set_cons_succ, i64_w, i32_w]
                    rfl
                  refine pure_ (i := 7) (N := some 37) (v := ?_) (a' := ?_) #[true, false, true, false, false, true, false, true, false, false, false, false, false, false] rfl rfl (any_of HT_.out (by kernel_rfl)) (fun _ _ _ h => h) (Or.inl ⟨by rfl, ?_⟩) ?_ ?_
                  rotate_left
                  · intro w'
                    go_simp
                    with_reducible rfl
                  rotate_left
                  · simp only [Act.put, List.setIfInBounds_toArray, List.set_cons_zero, List.set_cons_succ, i64_w, i32_w]
                    rfl
                  refine take_ (i := 1) (N := some 31) (v := ?_) (a' := ?_) #[true, true, true, false, false, true, false, true, false, false, false, false, false, false] rfl rfl (take_ofW HT_.out HW_.out (by kernel_rfl)) (fun _ _ _ h => h) (Or.inl ⟨by rfl, ?_⟩) hHeld ?_ ?_
                  rotate_left
                  · rintro w' ⟨s0, s1, s2, s3, s4, s5, s6, s7, s8, s9, s10, s11, s12, s13, s14, s15, s16, s17, s18, s19, s20, s21, s22, s23, s24, s25, s26, s27, s28, s29⟩
                    go_simp
                    with_reducible rfl
                  rotate_left
                  · simp only [Act.put, List.setIfInBounds_toArray, List.set_cons_zero, List.set_cons_succ, i64_w, i32_w]
                    rfl
                  refine pure_ (i := 3) (N := some 33) (v := ?_) (a' := ?_) #[true, true, true, true, false, true, false, true, false, false, false, false, false, false] rfl rfl (any_of HT_.out (by kernel_rfl)) (fun _ _ _ h => h) (Or.inl ⟨by rfl, ?_⟩) ?_ ?_
                  rotate_left
                  · intro w'
                    go_simp
                    with_reducible rfl
                  rotate_left
                  · simp only [Act.put, List.setIfInBounds_toArray, List.set_cons_zero, List.set_cons_succ, i64_w, i32_w]
                    rfl
                  refine take_ (i := 4) (N := some 34) (v := ?_) (a' := ?_) #[true, true, true, true, true, true, false, true, false, false, false, false, false, false] rfl rfl (take_ofW HT_.out HW_.out (by kernel_rfl)) (fun _ _ _ h => h) (Or.inl ⟨by rfl, ?_⟩) hHeld ?_ ?_
                  rotate_left
                  · rintro w' ⟨s0, s1, s2, s3, s4, s5, s6, s7, s8, s9, s10, s11, s12, s13, s14, s15, s16, s17, s18, s19, s20, s21, s22, s23, s24, s25, s26, s27, s28, s29⟩
                    go_simp
                    with_reducible rfl
                  rotate_left
                  · simp only [Act.put, List.setIfInBounds_toArray, List.set_cons_zero, List.set_cons_succ, i64_w, i32_w]
                    rfl
                  refine take_ (i := 6) (N := some 36) (v := ?_) (a' := ?_) #[true, true, true, true, true, true, true, true, false, false, false, false, false, false] rfl rfl (take_ofW HT_.out HW_.out (by kernel_rfl)) (fun _ _ _ h => h) (Or.inl ⟨by rfl, ?_⟩) hHeld ?_ ?_
                  rotate_left
                  · rintro w' ⟨s0, s1, s2, s3, s4, s5, s6, s7, s8, s9, s10, s11, s12, s13, s14, s15, s16, s17, s18, s19, s20, s21, s22, s23, s24, s25, s26, s27, s28, s29⟩
                    go_simp
                    with_reducible rfl
                  rotate_left
                  · simp only [Act.put, List.setIfInBounds_toArray, List.set_cons_zero, List.set_cons_succ, i64_w, i32_w]
                    rfl
                  refine pure_ (i := 8) (N := some 38) (v := ?_) (a' := ?_) #[true, true, true, true, true, true, true, true, true, false, false, false, false, false] rfl rfl (any_of HT_.out (by kernel_rfl)) (fun _ _ _ h => h) (Or.inl ⟨by rfl, ?_⟩) ?_ ?_
                  rotate_left
                  · intro w'
                    go_simp
                    with_reducible rfl
                  rotate_left
                  · simp only [Act.put, List.setIfInBounds_toArray, List.set_cons_zero, List.set_cons_succ, i64_w, i32_w]
                    rfl
                  refine take_ (i := 9) (N := some 39) (v := ?_) (a' := ?_) #[true, true, true, true, true, true, true, true, true, true, false, false, false, false] rfl rfl (take_ofW HT_.out HW_.out (by kernel_rfl)) (fun _ _ _ h => h) (Or.inl ⟨by rfl, ?_⟩) hHeld ?_ ?_
                  rotate_left
                  · rintro w' ⟨s0, s1, s2, s3, s4, s5, s6, s7, s8, s9, s10, s11, s12, s13, s14, s15, s16, s17, s18, s19, s20, s21, s22, s23, s24, s25, s26, s27, s28, s29⟩
                    go_simp
                    with_reducible rfl
                  rotate_left
                  · simp only [Act.put, List.setIfInBounds_toArray, List.set_cons_zero, List.set_cons_succ, i64_w, i32_w]
                    rfl
                  refine join_ (σ := Nat × Nat) 2 #[true, true, true, true, true, true, true, true, true, true, true, true, false, false] (fun s_ => [(6, .pointer (some ⟨s_.1, 0, none⟩)), (7, .pointer (some ⟨s_.2, 0, none⟩))]) (fun s_ w' => (w'.cell? ⟨gb158, 0, none⟩ = some (.int .i64 a0_0) ∧ w'.cell? ⟨gb158, 1, none⟩ = some (.int .i64 a0_1) ∧ w'.cell? ⟨gb158, 2, none⟩ = some (.int .i64 a0_2) ∧ w'.cell? ⟨gb158, 3, none⟩ = some (.slice A0_3 l0_3.length c0_3) ∧ w'.cell? ⟨gb158, 4, none⟩ = some (.int .i64 a0_4) ∧ w'.cell? ⟨gb158, 5, none⟩ = some (.int .i64 a0_5) ∧ w'.cell? ⟨gb158, 6, none⟩ = some (.bool a0_6) ∧ w'.cell? ⟨gb158, 7, none⟩ = some (.int .i64 a0_7) ∧ w'.cell? ⟨gb158, 8, none⟩ = some (.slice (some ad161) l0_8.length c0_8) ∧ w'.cell? ⟨gb159, 0, none⟩ = some (.int .i64 a1_0) ∧ w'.cell? ⟨gb159, 1, none⟩ = some (.int .i64 a1_1) ∧ w'.cell? ⟨gb159, 2, none⟩ = some (.int .i64 a1_2) ∧ w'.cell? ⟨gb159, 3, none⟩ = some (.slice A1_3 l1_3.length c1_3) ∧ w'.cell? ⟨gb159, 4, none⟩ = some (.int .i64 a1_4) ∧ w'.cell? ⟨gb159, 5, none⟩ = some (.int .i64 a1_5) ∧ w'.cell? ⟨gb159, 6, none⟩ = some (.bool a1_6) ∧ w'.cell? ⟨gb159, 7, none⟩ = some (.int .i64 a1_7) ∧ w'.cell? ⟨gb159, 8, none⟩ = some (.slice (some ad162) l1_8.length c1_8) ∧ w'.cell? (ad161.add ((x5_2).toNat * 6)) = some (.int .i64 ((rd_T132 l0_8 x5_2).f0)) ∧ w'.cell? ⟨(ad161.add ((x5_2).toNat * 6)).block, (ad161.add ((x5_2).toNat * 6)).off + 1, none⟩ = some (.slice A161_1 ((rd_T132 l0_8 x5_2).f1).length c161_1) ∧ w'.cell? ⟨(ad161.add ((x5_2).toNat * 6)).block, (ad161.add ((x5_2).toNat * 6)).off + 2, none⟩ = some (.int .i64 ((rd_T132 l0_8 x5_2).f2)) ∧ w'.cell? ⟨(ad161.add ((x5_2).toNat * 6)).block, (ad161.add ((x5_2).toNat * 6)).off + 3, none⟩ = some (.int .i64 ((rd_T132 l0_8 x5_2).f3)) ∧ w'.cell? ⟨(ad161.add ((x5_2).toNat * 6)).block, (ad161.add ((x5_2).toNat * 6)).off + 4, none⟩ = some (.slice A161_4 ((rd_T132 l0_8 x5_2).f4).length c161_4) ∧ w'.cell? ⟨(ad161.add ((x5_2).toNat * 6)).block, (ad161.add ((x5_2).toNat * 6)).off + 5, none⟩ = some (.slice A161_5 ((rd_T132 l0_8 x5_2).f5).length c161_5) ∧ w'.cell? (ad162.add ((x5_2).toNat * 6)) = some (.int .i64 ((rd_T132 l1_8 x5_2).f0)) ∧ w'.cell? ⟨(ad162.add ((x5_2).toNat * 6)).block, (ad162.add ((x5_2).toNat * 6)).off + 1, none⟩ = some (.slice A162_1 ((rd_T132 l1_8 x5_2).f1).length c162_1) ∧ w'.cell? ⟨(ad162.add ((x5_2).toNat * 6)).block, (ad162.add ((x5_2).toNat * 6)).off + 2, none⟩ = some (.int .i64 ((rd_T132 l1_8 x5_2).f2)) ∧ w'.cell? ⟨(ad162.add ((x5_2).toNat * 6)).block, (ad162.add ((x5_2).toNat * 6)).off + 3, none⟩ = some (.int .i64 ((rd_T132 l1_8 x5_2).f3)) ∧ w'.cell? ⟨(ad162.add ((x5_2).toNat * 6)).block, (ad162.add ((x5_2).toNat * 6)).off + 4, none⟩ = some (.slice A162_4 ((rd_T132 l1_8 x5_2).f4).length c162_4) ∧ w'.cell? ⟨(ad162.add ((x5_2).toNat * 6)).block, (ad162.add ((x5_2).toNat * 6)).off + 5, none⟩ = some (.slice A162_5 ((rd_T132 l1_8 x5_2).f5).length c162_5)) ∧ (w'.heap[gb158]? = some (.cells #[.int .i64 a0_0, .int .i64 a0_1, .int .i64 a0_2, .slice A0_3 l0_3.length c0_3, .int .i64 a0_4, .int .i64 a0_5, .bool a0_6, .int .i64 a0_7, .slice (some ad161) l0_8.length c0_8] 75 (0, 0))) ∧ (w'.heap[gb159]? = some (.cells #[.int .i64 a1_0, .int .i64 a1_1, .int .i64 a1_2, .slice A1_3 l1_3.length c1_3, .int .i64 a1_4, .int .i64 a1_5, .bool a1_6, .int .i64 a1_7, .slice (some ad162) l1_8.length c1_8] 75 (0, 0))) ∧ (w'.heap[s_.1]? = some (.cells #[.int .i64 0, .slice none 0 0, .int .i64 0, .int .i64 0, .slice none 0 0, .slice none 0 0] 132 (0, 0))) ∧ (w'.heap[s_.2]? = some (.cells #[.int .i64 0, .slice none 0 0, .int .i64 0, .int .i64 0, .slice none 0 0, .slice none 0 0] 132 (0, 0))) ∧ (w.heap.size ≤ s_.1) ∧ (w.heap.size ≤ s_.1) ∧ (gb158 ≠ s_.1) ∧ (s_.1 ≠ gb158) ∧ (gb159 ≠ s_.1) ∧ (s_.1 ≠ gb159) ∧ (s_.2 ≠ s_.1) ∧ (s_.1 ≠ s_.2) ∧ (w.heap.size ≤ s_.2) ∧ (w.heap.size ≤ s_.2) ∧ (gb158 ≠ s_.2) ∧ (s_.2 ≠ gb158) ∧ (gb159 ≠ s_.2) ∧ (s_.2 ≠ gb159) ∧ (Below w.heap.size w w')) ?_ ?_
                  rotate_left
                  · intro hCont
                    refine two_ (i := 10) (j := 11) (Ni := some 6) (Nj := some 7) #[true, true, true, true, true, true, true, true, true, true, true, false, false, false] #[true, true, true, true, true, true, true, true, true, true, false, true, false, false] rfl rfl rfl rfl (two_of HT_.out (by kernel_rfl)) (by decide) (by decide) (fun K hK => ?_) (fun K hK => ?_)
                    · skip
                      refine box_step ?hg (N := 6) ?hd (cs := #[.int .i64 0, .slice none 0 0, .int .i64 0, .int .i64 0, .slice none 0 0, .slice none 0 0]) (t := 132) ?hr ?_; (case hd => rfl); (case hg => rfl); (case hr => first | (go_simp; done) | (go_simp; rfl))
                      intro gb163 hg w34 hbox hb
                      have n0_ := Aside0.mk (blk_below (g := gb158) (o := .cells #[.int .i64 a0_0, .int .i64 a0_1, .int .i64 a0_2, .slice A0_3 l0_3.length c0_3, .int .i64 a0_4, .int .i64 a0_5, .bool a0_6, .int .i64 a0_7, .slice (some ad161) l0_8.length c0_8] 75 (0, 0)) (by (with_reducible repeat (first | refine blk_drewN ?_ _ | refine blk_drew ?_ | refine blk_alloc ?_ _)); exact BK158.out) hb)
                      have n1_ := Aside0.mk (blk_below (g := gb159) (o := .cells #[.int .i64 a1_0, .int .i64 a1_1, .int .i64 a1_2, .slice A1_3 l1_3.length c1_3, .int .i64 a1_4, .int .i64 a1_5, .bool a1_6, .int .i64 a1_7, .slice (some ad162) l1_8.length c1_8] 75 (0, 0)) (by (with_reducible repeat (first | refine blk_drewN ?_ _ | refine blk_drew ?_ | refine blk_alloc ?_ _)); exact BK159.out) hb)
                      have n2_ := Aside0.mk (below_step (by repeat (first | (with_reducible first | exact HB.out | apply below_alloc | apply pw_below_drewN | apply below_drew1 | refine below_set ?_ GE158.out | refine below_set ?_ GE159.out) | exact HB.out)) hb)
                      have n3_ := Aside0.mk (hbox)
                      have n4_ := Aside0.mk ((by rw [hg]; exact (below_size (by repeat (first | (with_reducible first | exact HB.out | apply below_alloc | apply pw_below_drewN | apply below_drew1 | refine below_set ?_ GE158.out | refine below_set ?_ GE159.out) | exact HB.out))) : w.heap.size ≤ gb163))
                      have n5_ := Aside0.mk ((by rw [hg]; exact (below_size (by repeat (first | (with_reducible first | exact HB.out | apply below_alloc | apply pw_below_drewN | apply below_drew1 | refine below_set ?_ GE158.out | refine below_set ?_ GE159.out) | exact HB.out))) : w.heap.size ≤ gb163))
                      have n6_ := Aside0.mk ((by rw [hg]; exact Nat.ne_of_lt (blk_lt (g := gb158) (o := .cells #[.int .i64 a0_0, .int .i64 a0_1, .int .i64 a0_2, .slice A0_3 l0_3.length c0_3, .int .i64 a0_4, .int .i64 a0_5, .bool a0_6, .int .i64 a0_7, .slice (some ad161) l0_8.length c0_8] 75 (0, 0)) (by (with_reducible repeat (first | refine blk_drewN ?_ _ | refine blk_drew ?_ | refine blk_alloc ?_ _)); exact BK158.out)) : gb158 ≠ gb163))
                      have n7_ := Aside0.mk ((by rw [hg]; exact Nat.ne_of_gt (blk_lt (g := gb158) (o := .cells #[.int .i64 a0_0, .int .i64 a0_1, .int .i64 a0_2, .slice A0_3 l0_3.length c0_3, .int .i64 a0_4, .int .i64 a0_5, .bool a0_6, .int .i64 a0_7, .slice (some ad161) l0_8.length c0_8] 75 (0, 0)) (by (with_reducible repeat (first | refine blk_drewN ?_ _ | refine blk_drew ?_ | refine blk_alloc ?_ _)); exact BK158.out)) : gb163 ≠ gb158))
                      have n8_ := Aside0.mk ((by rw [hg]; exact Nat.ne_of_lt (blk_lt (g := gb159) (o := .cells #[.int .i64 a1_0, .int .i64 a1_1, .int .i64 a1_2, .slice A1_3 l1_3.length c1_3, .int .i64 a1_4, .int .i64 a1_5, .bool a1_6, .int .i64 a1_7, .slice (some ad162) l1_8.length c1_8] 75 (0, 0)) (by (with_reducible repeat (first | refine blk_drewN ?_ _ | refine blk_drew ?_ | refine blk_alloc ?_ _)); exact BK159.out)) : gb159 ≠ gb163))
                      have n9_ := Aside0.mk ((by rw [hg]; exact Nat.ne_of_gt (blk_lt (g := gb159) (o := .cells #[.int .i64 a1_0, .int .i64 a1_1, .int .i64 a1_2, .slice A1_3 l1_3.length c1_3, .int .i64 a1_4, .int .i64 a1_5, .bool a1_6, .int .i64 a1_7, .slice (some ad162) l1_8.length c1_8] 75 (0, 0)) (by (with_reducible repeat (first | refine blk_drewN ?_ _ | refine blk_drew ?_ | refine blk_alloc ?_ _)); exact BK159.out)) : gb163 ≠ gb159))
                      clear BK158
                      clear BK159
                      clear HB
                      have BK158 := n0_
                      have BK159 := n1_
                      have HB := n2_
                      have BK163 := n3_
                      have GW163 := n4_
                      have GE163 := n5_
                      have NB158_163 := n6_
                      have NB163_158 := n7_
                      have NB159_163 := n8_
                      have NB163_159 := n9_
                      clear n0_ n1_ n2_ n3_ n4_ n5_ n6_ n7_ n8_ n9_
                      clear hb hbox hg
                      refine hK.out _ _ ⟨(blk_cell BK158.out 0).trans rfl, (blk_cell BK158.out 1).trans rfl, (blk_cell BK158.out 2).trans rfl, (blk_cell BK158.out 3).trans rfl, (blk_cell BK158.out 4).trans rfl, (blk_cell BK158.out 5).trans rfl, (blk_cell BK158.out 6).trans rfl, (blk_cell BK158.out 7).trans rfl, (blk_cell BK158.out 8).trans rfl, (blk_cell BK159.out 0).trans rfl, (blk_cell BK159.out 1).trans rfl, (blk_cell BK159.out 2).trans rfl, (blk_cell BK159.out 3).trans rfl, (blk_cell BK159.out 4).trans rfl, (blk_cell BK159.out 5).trans rfl, (blk_cell BK159.out 6).trans rfl, (blk_cell BK159.out 7).trans rfl, (blk_cell BK159.out 8).trans rfl, ((HB.out.cell (World.block_lt_of_cell? w _ hw161_0)).trans hw161_0), ((HB.out.cell (World.block_lt_of_cell? w _ hw161_1)).trans hw161_1), ((HB.out.cell (World.block_lt_of_cell? w _ hw161_2)).trans hw161_2), ((HB.out.cell (World.block_lt_of_cell? w _ hw161_3)).trans hw161_3), ((HB.out.cell (World.block_lt_of_cell? w _ hw161_4)).trans hw161_4), ((HB.out.cell (World.block_lt_of_cell? w _ hw161_5)).trans hw161_5), ((HB.out.cell (World.block_lt_of_cell? w _ hw162_0)).trans hw162_0), ((HB.out.cell (World.block_lt_of_cell? w _ hw162_1)).trans hw162_1), ((HB.out.cell (World.block_lt_of_cell? w _ hw162_2)).trans hw162_2), ((HB.out.cell (World.block_lt_of_cell? w _ hw162_3)).trans hw162_3), ((HB.out.cell (World.block_lt_of_cell? w _ hw162_4)).trans hw162_4), ((HB.out.cell (World.block_lt_of_cell? w _ hw162_5)).trans hw162_5)⟩ (fun hHeld => ?_)
                      clear hK K
                      refine norm_ (a' := ?_) ?_ ?_
                      rotate_left
                      · show Act.put _ (some 6) _ = _
                        simp only [Act.put, List.setIfInBounds_toArray, List.set_cons_zero, List.set_cons_succ, i64_w, i32_w]
                        rfl
                      refine one_ (i := 11) (N := some 7) #[true, true, true, true, true, true, true, true, true, true, true, true, false, false] rfl rfl (one_of HT_.out (by kernel_rfl)) (by decide) (fun K hK => ?_)
                      refine box_step ?hg (N := 7) ?hd (cs := #[.int .i64 0, .slice none 0 0, .int .i64 0, .int .i64 0, .slice none 0 0, .slice none 0 0]) (t := 132) ?hr ?_; (case hd => rfl); (case hg => rfl); (case hr => first | (go_simp; done) | (go_simp; rfl))
                      intro gb164 hg w35 hbox hb
                      have n0_ := Aside0.mk (blk_below (g := gb158) (o := .cells #[.int .i64 a0_0, .int .i64 a0_1, .int .i64 a0_2, .slice A0_3 l0_3.length c0_3, .int .i64 a0_4, .int .i64 a0_5, .bool a0_6, .int .i64 a0_7, .slice (some ad161) l0_8.length c0_8] 75 (0, 0)) (by (with_reducible repeat (first | refine blk_drewN ?_ _ | refine blk_drew ?_ | refine blk_alloc ?_ _)); exact BK158.out) hb)
                      have n1_ := Aside0.mk (blk_below (g := gb159) (o := .cells #[.int .i64 a1_0, .int .i64 a1_1, .int .i64 a1_2, .slice A1_3 l1_3.length c1_3, .int .i64 a1_4, .int .i64 a1_5, .bool a1_6, .int .i64 a1_7, .slice (some ad162) l1_8.length c1_8] 75 (0, 0)) (by (with_reducible repeat (first | refine blk_drewN ?_ _ | refine blk_drew ?_ | refine blk_alloc ?_ _)); exact BK159.out) hb)
                      have n2_ := Aside0.mk (blk_below (g := gb163) (o := .cells #[.int .i64 0, .slice none 0 0, .int .i64 0, .int .i64 0, .slice none 0 0, .slice none 0 0] 132 (0, 0)) (by (with_reducible repeat (first | refine blk_drewN ?_ _ | refine blk_drew ?_ | refine blk_alloc ?_ _)); exact BK163.out) hb)
                      have n3_ := Aside0.mk (below_step (by repeat (first | (with_reducible first | exact HB.out | apply below_alloc | apply pw_below_drewN | apply below_drew1 | refine below_set ?_ GE158.out | refine below_set ?_ GE159.out | refine below_set ?_ GE163.out) | exact HB.out)) hb)
                      have n4_ := Aside0.mk (hbox)
                      have n5_ := Aside0.mk ((by rw [hg]; exact (below_size (by repeat (first | (with_reducible first | exact HB.out | apply below_alloc | apply pw_below_drewN | apply below_drew1 | refine below_set ?_ GE158.out | refine below_set ?_ GE159.out | refine below_set ?_ GE163.out) | exact HB.out))) : w.heap.size ≤ gb164))
                      have n6_ := Aside0.mk ((by rw [hg]; exact (below_size (by repeat (first | (with_reducible first | exact HB.out | apply below_alloc | apply pw_below_drewN | apply below_drew1 | refine below_set ?_ GE158.out | refine below_set ?_ GE159.out | refine below_set ?_ GE163.out) | exact HB.out))) : w.heap.size ≤ gb164))
                      have n7_ := Aside0.mk ((by rw [hg]; exact Nat.ne_of_lt (blk_lt (g := gb158) (o := .cells #[.int .i64 a0_0, .int .i64 a0_1, .int .i64 a0_2, .slice A0_3 l0_3.length c0_3, .int .i64 a0_4, .int .i64 a0_5, .bool a0_6, .int .i64 a0_7, .slice (some ad161) l0_8.length c0_8] 75 (0, 0)) (by (with_reducible repeat (first | refine blk_drewN ?_ _ | refine blk_drew ?_ | refine blk_alloc ?_ _)); exact BK158.out)) : gb158 ≠ gb164))
                      have n8_ := Aside0.mk ((by rw [hg]; exact Nat.ne_of_gt (blk_lt (g := gb158) (o := .cells #[.int .i64 a0_0, .int .i64 a0_1, .int .i64 a0_2, .slice A0_3 l0_3.length c0_3, .int .i64 a0_4, .int .i64 a0_5, .bool a0_6, .int .i64 a0_7, .slice (some ad161) l0_8.length c0_8] 75 (0, 0)) (by (with_reducible repeat (first | refine blk_drewN ?_ _ | refine blk_drew ?_ | refine blk_alloc ?_ _)); exact BK158.out)) : gb164 ≠ gb158))
                      have n9_ := Aside0.mk ((by rw [hg]; exact Nat.ne_of_lt (blk_lt (g := gb159) (o := .cells #[.int .i64 a1_0, .int .i64 a1_1, .int .i64 a1_2, .slice A1_3 l1_3.length c1_3, .int .i64 a1_4, .int .i64 a1_5, .bool a1_6, .int .i64 a1_7, .slice (some ad162) l1_8.length c1_8] 75 (0, 0)) (by (with_reducible repeat (first | refine blk_drewN ?_ _ | refine blk_drew ?_ | refine blk_alloc ?_ _)); exact BK159.out)) : gb159 ≠ gb164))
                      have n10_ := Aside0.mk ((by rw [hg]; exact Nat.ne_of_gt (blk_lt (g := gb159) (o := .cells #[.int .i64 a1_0, .int .i64 a1_1, .int .i64 a1_2, .slice A1_3 l1_3.length c1_3, .int .i64 a1_4, .int .i64 a1_5, .bool a1_6, .int .i64 a1_7, .slice (some ad162) l1_8.length c1_8] 75 (0, 0)) (by (with_reducible repeat (first | refine blk_drewN ?_ _ | refine blk_drew ?_ | refine blk_alloc ?_ _)); exact BK159.out)) : gb164 ≠ gb159))
                      have n11_ := Aside0.mk ((by rw [hg]; exact Nat.ne_of_lt (blk_lt (g := gb163) (o := .cells #[.int .i64 0, .slice none 0 0, .int .i64 0, .int .i64 0, .slice none 0 0, .slice none 0 0] 132 (0, 0)) (by (with_reducible repeat (first | refine blk_drewN ?_ _ | refine blk_drew ?_ | refine blk_alloc ?_ _)); exact BK163.out)) : gb163 ≠ gb164))
                      have n12_ := Aside0.mk ((by rw [hg]; exact Nat.ne_of_gt (blk_lt (g := gb163) (o := .cells #[.int .i64 0, .slice none 0 0, .int .i64 0, .int .i64 0, .slice none 0 0, .slice none 0 0] 132 (0, 0)) (by (with_reducible repeat (first | refine blk_drewN ?_ _ | refine blk_drew ?_ | refine blk_alloc ?_ _)); exact BK163.out)) : gb164 ≠ gb163))
                      clear BK158
                      clear BK159
                      clear BK163
                      clear HB
                      have BK158 := n0_
                      have BK159 := n1_
                      have BK163 := n2_
                      have HB := n3_
                      have BK164 := n4_
                      have GW164 := n5_
                      have GE164 := n6_
                      have NB158_164 := n7_
                      have NB164_158 := n8_
                      have NB159_164 := n9_
                      have NB164_159 := n10_
                      have NB163_164 := n11_
                      have NB164_163 := n12_
                      clear n0_ n1_ n2_ n3_ n4_ n5_ n6_ n7_ n8_ n9_ n10_ n11_ n12_
                      clear hb hbox hg
                      refine hK.out _ _ ⟨(blk_cell BK158.out 0).trans rfl, (blk_cell BK158.out 1).trans rfl, (blk_cell BK158.out 2).trans rfl, (blk_cell BK158.out 3).trans rfl, (blk_cell BK158.out 4).trans rfl, (blk_cell BK158.out 5).trans rfl, (blk_cell BK158.out 6).trans rfl, (blk_cell BK158.out 7).trans rfl, (blk_cell BK158.out 8).trans rfl, (blk_cell BK159.out 0).trans rfl, (blk_cell BK159.out 1).trans rfl, (blk_cell BK159.out 2).trans rfl, (blk_cell BK159.out 3).trans rfl, (blk_cell BK159.out 4).trans rfl, (blk_cell BK159.out 5).trans rfl, (blk_cell BK159.out 6).trans rfl, (blk_cell BK159.out 7).trans rfl, (blk_cell BK159.out 8).trans rfl, ((HB.out.cell (World.block_lt_of_cell? w _ hw161_0)).trans hw161_0), ((HB.out.cell (World.block_lt_of_cell? w _ hw161_1)).trans hw161_1), ((HB.out.cell (World.block_lt_of_cell? w _ hw161_2)).trans hw161_2), ((HB.out.cell (World.block_lt_of_cell? w _ hw161_3)).trans hw161_3), ((HB.out.cell (World.block_lt_of_cell? w _ hw161_4)).trans hw161_4), ((HB.out.cell (World.block_lt_of_cell? w _ hw161_5)).trans hw161_5), ((HB.out.cell (World.block_lt_of_cell? w _ hw162_0)).trans hw162_0), ((HB.out.cell (World.block_lt_of_cell? w _ hw162_1)).trans hw162_1), ((HB.out.cell (World.block_lt_of_cell? w _ hw162_2)).trans hw162_2), ((HB.out.cell (World.block_lt_of_cell? w _ hw162_3)).trans hw162_3), ((HB.out.cell (World.block_lt_of_cell? w _ hw162_4)).trans hw162_4), ((HB.out.cell (World.block_lt_of_cell? w _ hw162_5)).trans hw162_5)⟩ (fun hHeld => ?_)
                      clear hK K
                      refine norm_ (a' := ?_) ?_ ?_
                      rotate_left
                      · show Act.put _ (some 7) _ = _
                        simp only [Act.put, List.setIfInBounds_toArray, List.set_cons_zero, List.set_cons_succ, i64_w, i32_w]
                        rfl
                      exact norm_ (by simp only [putAll, Act.put, List.setIfInBounds_toArray, List.set_cons_zero, List.set_cons_succ]) (hCont (gb163, gb164) _ ⟨hHeld, (by (with_reducible repeat (first | refine blk_drewN ?_ _ | refine blk_drew ?_ | refine blk_alloc ?_ _)); exact BK158.out), (by (with_reducible repeat (first | refine blk_drewN ?_ _ | refine blk_drew ?_ | refine blk_alloc ?_ _)); exact BK159.out), (by (with_reducible repeat (first | refine blk_drewN ?_ _ | refine blk_drew ?_ | refine blk_alloc ?_ _)); exact BK163.out), (by (with_reducible repeat (first | refine blk_drewN ?_ _ | refine blk_drew ?_ | refine blk_alloc ?_ _)); exact BK164.out), GW163.out, GE163.out, NB158_163.out, NB163_158.out, NB159_163.out, NB163_159.out, NB164_163.out, NB163_164.out, GW164.out, GE164.out, NB158_164.out, NB164_158.out, NB159_164.out, NB164_159.out, (by repeat (first | (with_reducible first | exact HB.out | apply below_alloc | apply pw_below_drewN | apply below_drew1 | refine below_set ?_ GE158.out | refine below_set ?_ GE159.out | refine below_set ?_ GE163.out | refine below_set ?_ GE164.out) | exact HB.out))⟩)
                    · skip
                      refine box_step ?hg (N := 7) ?hd (cs := #[.int .i64 0, .slice none 0 0, .int .i64 0, .int .i64 0, .slice none 0 0, .slice none 0 0]) (t := 132) ?hr ?_; (case hd => rfl); (case hg => rfl); (case hr => first | (go_simp; done) | (go_simp; rfl))
                      intro gb164 hg w34 hbox hb
                      have n0_ := Aside0.mk (blk_below (g := gb158) (o := .cells #[.int .i64 a0_0, .int .i64 a0_1, .int .i64 a0_2, .slice A0_3 l0_3.length c0_3, .int .i64 a0_4, .int .i64 a0_5, .bool a0_6, .int .i64 a0_7, .slice (some ad161) l0_8.length c0_8] 75 (0, 0)) (by (with_reducible repeat (first | refine blk_drewN ?_ _ | refine blk_drew ?_ | refine blk_alloc ?_ _)); exact BK158.out) hb)
                      have n1_ := Aside0.mk (blk_below (g := gb159) (o := .cells #[.int .i64 a1_0, .int .i64 a1_1, .int .i64 a1_2, .slice A1_3 l1_3.length c1_3, .int .i64 a1_4, .int .i64 a1_5, .bool a1_6, .int .i64 a1_7, .slice (some ad162) l1_8.length c1_8] 75 (0, 0)) (by (with_reducible repeat (first | refine blk_drewN ?_ _ | refine blk_drew ?_ | refine blk_alloc ?_ _)); exact BK159.out) hb)
                      have n2_ := Aside0.mk (below_step (by repeat (first | (with_reducible first | exact HB.out | apply below_alloc | apply pw_below_drewN | apply below_drew1 | refine below_set ?_ GE158.out | refine below_set ?_ GE159.out) | exact HB.out)) hb)
                      have n3_ := Aside0.mk (hbox)
                      have n4_ := Aside0.mk ((by rw [hg]; exact (below_size (by repeat (first | (with_reducible first | exact HB.out | apply below_alloc | apply pw_below_drewN | apply below_drew1 | refine below_set ?_ GE158.out | refine below_set ?_ GE159.out) | exact HB.out))) : w.heap.size ≤ gb164))
                      have n5_ := Aside0.mk ((by rw [hg]; exact (below_size (by repeat (first | (with_reducible first | exact HB.out | apply below_alloc | apply pw_below_drewN | apply below_drew1 | refine below_set ?_ GE158.out | refine below_set ?_ GE159.out) | exact HB.out))) : w.heap.size ≤ gb164))
                      have n6_ := Aside0.mk ((by rw [hg]; exact Nat.ne_of_lt (blk_lt (g := gb158) (o := .cells #[.int .i64 a0_0, .int .i64 a0_1, .int .i64 a0_2, .slice A0_3 l0_3.length c0_3, .int .i64 a0_4, .int .i64 a0_5, .bool a0_6, .int .i64 a0_7, .slice (some ad161) l0_8.length c0_8] 75 (0, 0)) (by (with_reducible repeat (first | refine blk_drewN ?_ _ | refine blk_drew ?_ | refine blk_alloc ?_ _)); exact BK158.out)) : gb158 ≠ gb164))
                      have n7_ := Aside0.mk ((by rw [hg]; exact Nat.ne_of_gt (blk_lt (g := gb158) (o := .cells #[.int .i64 a0_0, .int .i64 a0_1, .int .i64 a0_2, .slice A0_3 l0_3.length c0_3, .int .i64 a0_4, .int .i64 a0_5, .bool a0_6, .int .i64 a0_7, .slice (some ad161) l0_8.length c0_8] 75 (0, 0)) (by (with_reducible repeat (first | refine blk_drewN ?_ _ | refine blk_drew ?_ | refine blk_alloc ?_ _)); exact BK158.out)) : gb164 ≠ gb158))
                      have n8_ := Aside0.mk ((by rw [hg]; exact Nat.ne_of_lt (blk_lt (g := gb159) (o := .cells #[.int .i64 a1_0, .int .i64 a1_1, .int .i64 a1_2, .slice A1_3 l1_3.length c1_3, .int .i64 a1_4, .int .i64 a1_5, .bool a1_6, .int .i64 a1_7, .slice (some ad162) l1_8.length c1_8] 75 (0, 0)) (by (with_reducible repeat (first | refine blk_drewN ?_ _ | refine blk_drew ?_ | refine blk_alloc ?_ _)); exact BK159.out)) : gb159 ≠ gb164))
                      have n9_ := Aside0.mk ((by rw [hg]; exact Nat.ne_of_gt (blk_lt (g := gb159) (o := .cells #[.int .i64 a1_0, .int .i64 a1_1, .int .i64 a1_2, .slice A1_3 l1_3.length c1_3, .int .i64 a1_4, .int .i64 a1_5, .bool a1_6, .int .i64 a1_7, .slice (some ad162) l1_8.length c1_8] 75 (0, 0)) (by (with_reducible repeat (first | refine blk_drewN ?_ _ | refine blk_drew ?_ | refine blk_alloc ?_ _)); exact BK159.out)) : gb164 ≠ gb159))
                      clear BK158
                      clear BK159
                      clear HB
                      have BK158 := n0_
                      have BK159 := n1_
                      have HB := n2_
                      have BK164 := n3_
                      have GW164 := n4_
                      have GE164 := n5_
                      have NB158_164 := n6_
                      have NB164_158 := n7_
                      have NB159_164 := n8_
                      have NB164_159 := n9_
                      clear n0_ n1_ n2_ n3_ n4_ n5_ n6_ n7_ n8_ n9_
                      clear hb hbox hg
                      refine hK.out _ _ ⟨(blk_cell BK158.out 0).trans rfl, (blk_cell BK158.out 1).trans rfl, (blk_cell BK158.out 2).trans rfl, (blk_cell BK158.out 3).trans rfl, (blk_cell BK158.out 4).trans rfl, (blk_cell BK158.out 5).trans rfl, (blk_cell BK158.out 6).trans rfl, (blk_cell BK158.out 7).trans rfl, (blk_cell BK158.out 8).trans rfl, (blk_cell BK159.out 0).trans rfl, (blk_cell BK159.out 1).trans rfl, (blk_cell BK159.out 2).trans rfl, (blk_cell BK159.out 3).trans rfl, (blk_cell BK159.out 4).trans rfl, (blk_cell BK159.out 5).trans rfl, (blk_cell BK159.out 6).trans rfl, (blk_cell BK159.out 7).trans rfl, (blk_cell BK159.out 8).trans rfl, ((HB.out.cell (World.block_lt_of_cell? w _ hw161_0)).trans hw161_0), ((HB.out.cell (World.block_lt_of_cell? w _ hw161_1)).trans hw161_1), ((HB.out.cell (World.block_lt_of_cell? w _ hw161_2)).trans hw161_2), ((HB.out.cell (World.block_lt_of_cell? w _ hw161_3)).trans hw161_3), ((HB.out.cell (World.block_lt_of_cell? w _ hw161_4)).trans hw161_4), ((HB.out.cell (World.block_lt_of_cell? w _ hw161_5)).trans hw161_5), ((HB.out.cell (World.block_lt_of_cell? w _ hw162_0)).trans hw162_0), ((HB.out.cell (World.block_lt_of_cell? w _ hw162_1)).trans hw162_1), ((HB.out.cell (World.block_lt_of_cell? w _ hw162_2)).trans hw162_2), ((HB.out.cell (World.block_lt_of_cell? w _ hw162_3)).trans hw162_3), ((HB.out.cell (World.block_lt_of_cell? w _ hw162_4)).trans hw162_4), ((HB.out.cell (World.block_lt_of_cell? w _ hw162_5)).trans hw162_5)⟩ (fun hHeld => ?_)
                      clear hK K
                      refine norm_ (a' := ?_) ?_ ?_
                      rotate_left
                      · show Act.put _ (some 7) _ = _
                        simp only [Act.put, List.setIfInBounds_toArray, List.set_cons_zero, List.set_cons_succ, i64_w, i32_w]
                        rfl
                      refine one_ (i := 10) (N := some 6) #[true, true, true, true, true, true, true, true, true, true, true, true, false, false] rfl rfl (one_of HT_.out (by kernel_rfl)) (by decide) (fun K hK => ?_)
                      refine box_step ?hg (N := 6) ?hd (cs := #[.int .i64 0, .slice none 0 0, .int .i64 0, .int .i64 0, .slice none 0 0, .slice none 0 0]) (t := 132) ?hr ?_; (case hd => rfl); (case hg => rfl); (case hr => first | (go_simp; done) | (go_simp; rfl))
                      intro gb163 hg w35 hbox hb
                      have n0_ := Aside0.mk (blk_below (g := gb158) (o := .cells #[.int .i64 a0_0, .int .i64 a0_1, .int .i64 a0_2, .slice A0_3 l0_3.length c0_3, .int .i64 a0_4, .int .i64 a0_5, .bool a0_6, .int .i64 a0_7, .slice (some ad161) l0_8.length c0_8] 75 (0, 0)) (by (with_reducible repeat (first | refine blk_drewN ?_ _ | refine blk_drew ?_ | refine blk_alloc ?_ _)); exact BK158.out) hb)
                      have n1_ := Aside0.mk (blk_below (g := gb159) (o := .cells #[.int .i64 a1_0, .int .i64 a1_1, .int .i64 a1_2, .slice A1_3 l1_3.length c1_3, .int .i64 a1_4, .int .i64 a1_5, .bool a1_6, .int .i64 a1_7, .slice (some ad162) l1_8.length c1_8] 75 (0, 0)) (by (with_reducible repeat (first | refine blk_drewN ?_ _ | refine blk_drew ?_ | refine blk_alloc ?_ _)); exact BK159.out) hb)
                      have n2_ := Aside0.mk (blk_below (g := gb164) (o := .cells #[.int .i64 0, .slice none 0 0, .int .i64 0, .int .i64 0, .slice none 0 0, .slice none 0 0] 132 (0, 0)) (by (with_reducible repeat (first | refine blk_drewN ?_ _ | refine blk_drew ?_ | refine blk_alloc ?_ _)); exact BK164.out) hb)
                      have n3_ := Aside0.mk (below_step (by repeat (first | (with_reducible first | exact HB.out | apply below_alloc | apply pw_below_drewN | apply below_drew1 | refine below_set ?_ GE158.out | refine below_set ?_ GE159.out | refine below_set ?_ GE164.out) | exact HB.out)) hb)
                      have n4_ := Aside0.mk (hbox)
                      have n5_ := Aside0.mk ((by rw [hg]; exact (below_size (by repeat (first | (with_reducible first | exact HB.out | apply below_alloc | apply pw_below_drewN | apply below_drew1 | refine below_set ?_ GE158.out | refine below_set ?_ GE159.out | refine below_set ?_ GE164.out) | exact HB.out))) : w.heap.size ≤ gb163))
                      have n6_ := Aside0.mk ((by rw [hg]; exact (below_size (by repeat (first | (with_reducible first | exact HB.out | apply below_alloc | apply pw_below_drewN | apply below_drew1 | refine below_set ?_ GE158.out | refine below_set ?_ GE159.out | refine below_set ?_ GE164.out) | exact HB.out))) : w.heap.size ≤ gb163))
                      have n7_ := Aside0.mk ((by rw [hg]; exact Nat.ne_of_lt (blk_lt (g := gb158) (o := .cells #[.int .i64 a0_0, .int .i64 a0_1, .int .i64 a0_2, .slice A0_3 l0_3.length c0_3, .int .i64 a0_4, .int .i64 a0_5, .bool a0_6, .int .i64 a0_7, .slice (some ad161) l0_8.length c0_8] 75 (0, 0)) (by (with_reducible repeat (first | refine blk_drewN ?_ _ | refine blk_drew ?_ | refine blk_alloc ?_ _)); exact BK158.out)) : gb158 ≠ gb163))
                      have n8_ := Aside0.mk ((by rw [hg]; exact Nat.ne_of_gt (blk_lt (g := gb158) (o := .cells #[.int .i64 a0_0, .int .i64 a0_1, .int .i64 a0_2, .slice A0_3 l0_3.length c0_3, .int .i64 a0_4, .int .i64 a0_5, .bool a0_6, .int .i64 a0_7, .slice (some ad161) l0_8.length c0_8] 75 (0, 0)) (by (with_reducible repeat (first | refine blk_drewN ?_ _ | refine blk_drew ?_ | refine blk_alloc ?_ _)); exact BK158.out)) : gb163 ≠ gb158))
                      have n9_ := Aside0.mk ((by rw [hg]; exact Nat.ne_of_lt (blk_lt (g := gb159) (o := .cells #[.int .i64 a1_0, .int .i64 a1_1, .int .i64 a1_2, .slice A1_3 l1_3.length c1_3, .int .i64 a1_4, .int .i64 a1_5, .bool a1_6, .int .i64 a1_7, .slice (some ad162) l1_8.length c1_8] 75 (0, 0)) (by (with_reducible repeat (first | refine blk_drewN ?_ _ | refine blk_drew ?_ | refine blk_alloc ?_ _)); exact BK159.out)) : gb159 ≠ gb163))
                      have n10_ := Aside0.mk ((by rw [hg]; exact Nat.ne_of_gt (blk_lt (g := gb159) (o := .cells #[.int .i64 a1_0, .int .i64 a1_1, .int .i64 a1_2, .slice A1_3 l1_3.length c1_3, .int .i64 a1_4, .int .i64 a1_5, .bool a1_6, .int .i64 a1_7, .slice (some ad162) l1_8.length c1_8] 75 (0, 0)) (by (with_reducible repeat (first | refine blk_drewN ?_ _ | refine blk_drew ?_ | refine blk_alloc ?_ _)); exact BK159.out)) : gb163 ≠ gb159))
                      have n11_ := Aside0.mk ((by rw [hg]; exact Nat.ne_of_lt (blk_lt (g := gb164) (o := .cells #[.int .i64 0, .slice none 0 0, .int .i64 0, .int .i64 0, .slice none 0 0, .slice none 0 0] 132 (0, 0)) (by (with_reducible repeat (first | refine blk_drewN ?_ _ | refine blk_drew ?_ | refine blk_alloc ?_ _)); exact BK164.out)) : gb164 ≠ gb163))
                      have n12_ := Aside0.mk ((by rw [hg]; exact Nat.ne_of_gt (blk_lt (g := gb164) (o := .cells #[.int .i64 0, .slice none 0 0, .int .i64 0, .int .i64 0, .slice none 0 0, .slice none 0 0] 132 (0, 0)) (by (with_reducible repeat (first | refine blk_drewN ?_ _ | refine blk_drew ?_ | refine blk_alloc ?_ _)); exact BK164.out)) : gb163 ≠ gb164))
                      clear BK158
                      clear BK159
                      clear BK164
                      clear HB
                      have BK158 := n0_
                      have BK159 := n1_
                      have BK164 := n2_
                      have HB := n3_
                      have BK163 := n4_
                      have GW163 := n5_
                      have GE163 := n6_
                      have NB158_163 := n7_
                      have NB163_158 := n8_
                      have NB159_163 := n9_
                      have NB163_159 := n10_
                      have NB164_163 := n11_
                      have NB163_164 := n12_
                      clear n0_ n1_ n2_ n3_ n4_ n5_ n6_ n7_ n8_ n9_ n10_ n11_ n12_
                      clear hb hbox hg
                      refine hK.out _ _ ⟨(blk_cell BK158.out 0).trans rfl, (blk_cell BK158.out 1).trans rfl, (blk_cell BK158.out 2).trans rfl, (blk_cell BK158.out 3).trans rfl, (blk_cell BK158.out 4).trans rfl, (blk_cell BK158.out 5).trans rfl, (blk_cell BK158.out 6).trans rfl, (blk_cell BK158.out 7).trans rfl, (blk_cell BK158.out 8).trans rfl, (blk_cell BK159.out 0).trans rfl, (blk_cell BK159.out 1).trans rfl, (blk_cell BK159.out 2).trans rfl, (blk_cell BK159.out 3).trans rfl, (blk_cell BK159.out 4).trans rfl, (blk_cell BK159.out 5).trans rfl, (blk_cell BK159.out 6).trans rfl, (blk_cell BK159.out 7).trans rfl, (blk_cell BK159.out 8).trans rfl, ((HB.out.cell (World.block_lt_of_cell? w _ hw161_0)).trans hw161_0), ((HB.out.cell (World.block_lt_of_cell? w _ hw161_1)).trans hw161_1), ((HB.out.cell (World.block_lt_of_cell? w _ hw161_2)).trans hw161_2), ((HB.out.cell (World.block_lt_of_cell? w _ hw161_3)).trans hw161_3), ((HB.out.cell (World.block_lt_of_cell? w _ hw161_4)).trans hw161_4), ((HB.out.cell (World.block_lt_of_cell? w _ hw161_5)).trans hw161_5), ((HB.out.cell (World.block_lt_of_cell? w _ hw162_0)).trans hw162_0), ((HB.out.cell (World.block_lt_of_cell? w _ hw162_1)).trans hw162_1), ((HB.out.cell (World.block_lt_of_cell? w _ hw162_2)).trans hw162_2), ((HB.out.cell (World.block_lt_of_cell? w _ hw162_3)).trans hw162_3), ((HB.out.cell (World.block_lt_of_cell? w _ hw162_4)).trans hw162_4), ((HB.out.cell (World.block_lt_of_cell? w _ hw162_5)).trans hw162_5)⟩ (fun hHeld => ?_)
                      clear hK K
                      refine norm_ (a' := ?_) ?_ ?_
                      rotate_left
                      · show Act.put _ (some 6) _ = _
                        simp only [Act.put, List.setIfInBounds_toArray, List.set_cons_zero, List.set_cons_succ, i64_w, i32_w]
                        rfl
                      exact norm_ (by simp only [putAll, Act.put, List.setIfInBounds_toArray, List.set_cons_zero, List.set_cons_succ]) (hCont (gb163, gb164) _ ⟨hHeld, (by (with_reducible repeat (first | refine blk_drewN ?_ _ | refine blk_drew ?_ | refine blk_alloc ?_ _)); exact BK158.out), (by (with_reducible repeat (first | refine blk_drewN ?_ _ | refine blk_drew ?_ | refine blk_alloc ?_ _)); exact BK159.out), (by (with_reducible repeat (first | refine blk_drewN ?_ _ | refine blk_drew ?_ | refine blk_alloc ?_ _)); exact BK163.out), (by (with_reducible repeat (first | refine blk_drewN ?_ _ | refine blk_drew ?_ | refine blk_alloc ?_ _)); exact BK164.out), GW163.out, GE163.out, NB158_163.out, NB163_158.out, NB159_163.out, NB163_159.out, NB164_163.out, NB163_164.out, GW164.out, GE164.out, NB158_164.out, NB164_158.out, NB159_164.out, NB164_159.out, (by repeat (first | (with_reducible first | exact HB.out | apply below_alloc | apply pw_below_drewN | apply below_drew1 | refine below_set ?_ GE158.out | refine below_set ?_ GE159.out | refine below_set ?_ GE164.out | refine below_set ?_ GE163.out) | exact HB.out))⟩)
                  rintro ⟨gb163, gb164⟩ w36 ⟨hS_, h0_, h1_, h2_, h3_, h4_, h5_, h6_, h7_, h8_, h9_, h10_, h11_, h12_, h13_, h14_, h15_, h16_, h17_, h18_⟩
                  have n0_ : Aside0 (w36.heap[gb158]? = some (.cells #[.int .i64 a0_0, .int .i64 a0_1, .int .i64 a0_2, .slice A0_3 l0_3.length c0_3, .int .i64 a0_4, .int .i64 a0_5, .bool a0_6, .int .i64 a0_7, .slice (some ad161) l0_8.length c0_8] 75 (0, 0))) := ⟨h0_⟩
                  have n1_ : Aside0 (w36.heap[gb159]? = some (.cells #[.int .i64 a1_0, .int .i64 a1_1, .int .i64 a1_2, .slice A1_3 l1_3.length c1_3, .int .i64 a1_4, .int .i64 a1_5, .bool a1_6, .int .i64 a1_7, .slice (some ad162) l1_8.length c1_8] 75 (0, 0))) := ⟨h1_⟩
                  have n2_ : Aside0 (w36.heap[gb163]? = some (.cells #[.int .i64 0, .slice none 0 0, .int .i64 0, .int .i64 0, .slice none 0 0, .slice none 0 0] 132 (0, 0))) := ⟨h2_⟩
                  have n3_ : Aside0 (w36.heap[gb164]? = some (.cells #[.int .i64 0, .slice none 0 0, .int .i64 0, .int .i64 0, .slice none 0 0, .slice none 0 0] 132 (0, 0))) := ⟨h3_⟩
                  have n4_ : Aside0 (w.heap.size ≤ gb163) := ⟨h4_⟩
                  have n5_ : Aside0 (w.heap.size ≤ gb163) := ⟨h5_⟩
                  have n6_ : Aside0 (gb158 ≠ gb163) := ⟨h6_⟩
                  have n7_ : Aside0 (gb163 ≠ gb158) := ⟨h7_⟩
                  have n8_ : Aside0 (gb159 ≠ gb163) := ⟨h8_⟩
                  have n9_ : Aside0 (gb163 ≠ gb159) := ⟨h9_⟩
                  have n10_ : Aside0 (gb164 ≠ gb163) := ⟨h10_⟩
                  have n11_ : Aside0 (gb163 ≠ gb164) := ⟨h11_⟩
                  have n12_ : Aside0 (w.heap.size ≤ gb164) := ⟨h12_⟩
                  have n13_ : Aside0 (w.heap.size ≤ gb164) := ⟨h13_⟩
                  have n14_ : Aside0 (gb158 ≠ gb164) := ⟨h14_⟩
                  have n15_ : Aside0 (gb164 ≠ gb158) := ⟨h15_⟩
                  have n16_ : Aside0 (gb159 ≠ gb164) := ⟨h16_⟩
                  have n17_ : Aside0 (gb164 ≠ gb159) := ⟨h17_⟩
                  have n18_ : Aside0 (Below w.heap.size w w36) := ⟨h18_⟩
                  clear BK158
                  clear BK159
                  clear HB
                  clear h0_ h1_ h2_ h3_ h4_ h5_ h6_ h7_ h8_ h9_ h10_ h11_ h12_ h13_ h14_ h15_ h16_ h17_ h18_
                  have BK158 := n0_
                  have BK159 := n1_
                  have BK163 := n2_
                  have BK164 := n3_
                  have GW163 := n4_
                  have GE163 := n5_
                  have NB158_163 := n6_
                  have NB163_158 := n7_
                  have NB159_163 := n8_
                  have NB163_159 := n9_
                  have NB164_163 := n10_
                  have NB163_164 := n11_
                  have GW164 := n12_
                  have GE164 := n13_
                  have NB158_164 := n14_
                  have NB164_158 := n15_
                  have NB159_164 := n16_
                  have NB164_159 := n17_
                  have HB := n18_
                  clear n0_ n1_ n2_ n3_ n4_ n5_ n6_ n7_ n8_ n9_ n10_ n11_ n12_ n13_ n14_ n15_ n16_ n17_ n18_
                  have hHeld : w36.cell? ⟨gb158, 0, none⟩ = some (.int .i64 a0_0) ∧ w36.cell? ⟨gb158, 1, none⟩ = some (.int .i64 a0_1) ∧ w36.cell? ⟨gb158, 2, none⟩ = some (.int .i64 a0_2) ∧ w36.cell? ⟨gb158, 3, none⟩ = some (.slice A0_3 l0_3.length c0_3) ∧ w36.cell? ⟨gb158, 4, none⟩ = some (.int .i64 a0_4) ∧ w36.cell? ⟨gb158, 5, none⟩ = some (.int .i64 a0_5) ∧ w36.cell? ⟨gb158, 6, none⟩ = some (.bool a0_6) ∧ w36.cell? ⟨gb158, 7, none⟩ = some (.int .i64 a0_7) ∧ w36.cell? ⟨gb158, 8, none⟩ = some (.slice (some ad161) l0_8.length c0_8) ∧ w36.cell? ⟨gb159, 0, none⟩ = some (.int .i64 a1_0) ∧ w36.cell? ⟨gb159, 1, none⟩ = some (.int .i64 a1_1) ∧ w36.cell? ⟨gb159, 2, none⟩ = some (.int .i64 a1_2) ∧ w36.cell? ⟨gb159, 3, none⟩ = some (.slice A1_3 l1_3.length c1_3) ∧ w36.cell? ⟨gb159, 4, none⟩ = some (.int .i64 a1_4) ∧ w36.cell? ⟨gb159, 5, none⟩ = some (.int .i64 a1_5) ∧ w36.cell? ⟨gb159, 6, none⟩ = some (.bool a1_6) ∧ w36.cell? ⟨gb159, 7, none⟩ = some (.int .i64 a1_7) ∧ w36.cell? ⟨gb159, 8, none⟩ = some (.slice (some ad162) l1_8.length c1_8) ∧ w36.cell? (ad161.add ((x5_2).toNat * 6)) = some (.int .i64 ((rd_T132 l0_8 x5_2).f0)) ∧ w36.cell? ⟨(ad161.add ((x5_2).toNat * 6)).block, (ad161.add ((x5_2).toNat * 6)).off + 1, none⟩ = some (.slice A161_1 ((rd_T132 l0_8 x5_2).f1).length c161_1) ∧ w36.cell? ⟨(ad161.add ((x5_2).toNat * 6)).block, (ad161.add ((x5_2).toNat * 6)).off + 2, none⟩ = some (.int .i64 ((rd_T132 l0_8 x5_2).f2)) ∧ w36.cell? ⟨(ad161.add ((x5_2).toNat * 6)).block, (ad161.add ((x5_2).toNat * 6)).off + 3, none⟩ = some (.int .i64 ((rd_T132 l0_8 x5_2).f3)) ∧ w36.cell? ⟨(ad161.add ((x5_2).toNat * 6)).block, (ad161.add ((x5_2).toNat * 6)).off + 4, none⟩ = some (.slice A161_4 ((rd_T132 l0_8 x5_2).f4).length c161_4) ∧ w36.cell? ⟨(ad161.add ((x5_2).toNat * 6)).block, (ad161.add ((x5_2).toNat * 6)).off + 5, none⟩ = some (.slice A161_5 ((rd_T132 l0_8 x5_2).f5).length c161_5) ∧ w36.cell? (ad162.add ((x5_2).toNat * 6)) = some (.int .i64 ((rd_T132 l1_8 x5_2).f0)) ∧ w36.cell? ⟨(ad162.add ((x5_2).toNat * 6)).block, (ad162.add ((x5_2).toNat * 6)).off + 1, none⟩ = some (.slice A162_1 ((rd_T132 l1_8 x5_2).f1).length c162_1) ∧ w36.cell? ⟨(ad162.add ((x5_2).toNat * 6)).block, (ad162.add ((x5_2).toNat * 6)).off + 2, none⟩ = some (.int .i64 ((rd_T132 l1_8 x5_2).f2)) ∧ w36.cell? ⟨(ad162.add ((x5_2).toNat * 6)).block, (ad162.add ((x5_2).toNat * 6)).off + 3, none⟩ = some (.int .i64 ((rd_T132 l1_8 x5_2).f3)) ∧ w36.cell? ⟨(ad162.add ((x5_2).toNat * 6)).block, (ad162.add ((x5_2).toNat * 6)).off + 4, none⟩ = some (.slice A162_4 ((rd_T132 l1_8 x5_2).f4).length c162_4) ∧ w36.cell? ⟨(ad162.add ((x5_2).toNat * 6)).block, (ad162.add ((x5_2).toNat * 6)).off + 5, none⟩ = some (.slice A162_5 ((rd_T132 l1_8 x5_2).f5).length c162_5) := hS_
                  refine norm_ (a' := ?_) ?_ ?_
                  rotate_left
                  · simp only [putAll, Act.put, List.setIfInBounds_toArray, List.set_cons_zero, List.set_cons_succ]
                    rfl
                  refine one_ (i := 12) (N := none) #[true, true, true, true, true, true, true, true, true, true, true, true, true, false] rfl rfl (one_of HT_.out (by kernel_rfl)) (by decide) (fun K hK => ?_)
                  have hs37 : w36.cell? ⟨gb163, 0, none⟩ = some (.int .i64 0) := (blk_cell BK163.out 0).trans rfl
                  have hfs37 := blk_frozen BK163.out 0
                  have hns37_0 := NB158_163.out
                  have hns37_1 := NB159_163.out
                  have hns37_3 := NB164_163.out
                  have hms37_0 := NB163_158.out
                  have hms37_1 := NB163_159.out
                  have hms37_3 := NB163_164.out
                  have hs38 : w36.cell? ⟨gb163, 1, none⟩ = some (.slice none 0 0) := (blk_cell BK163.out 1).trans rfl
                  have hfs38 := blk_frozen BK163.out 1
                  have hns38_0 := NB158_163.out
                  have hns38_1 := NB159_163.out
                  have hns38_3 := NB164_163.out
                  have hms38_0 := NB163_158.out
                  have hms38_1 := NB163_159.out
                  have hms38_3 := NB163_164.out
                  have hs39 : w36.cell? ⟨gb163, 2, none⟩ = some (.int .i64 0) := (blk_cell BK163.out 2).trans rfl
                  have hfs39 := blk_frozen BK163.out 2
                  have hns39_0 := NB158_163.out
                  have hns39_1 := NB159_163.out
                  have hns39_3 := NB164_163.out
                  have hms39_0 := NB163_158.out
                  have hms39_1 := NB163_159.out
                  have hms39_3 := NB163_164.out
                  have hs40 : w36.cell? ⟨gb163, 3, none⟩ = some (.int .i64 0) := (blk_cell BK163.out 3).trans rfl
                  have hfs40 := blk_frozen BK163.out 3
                  have hns40_0 := NB158_163.out
                  have hns40_1 := NB159_163.out
                  have hns40_3 := NB164_163.out
                  have hms40_0 := NB163_158.out
                  have hms40_1 := NB163_159.out
                  have hms40_3 := NB163_164.out
                  have hs41 : w36.cell? ⟨gb163, 4, none⟩ = some (.slice none 0 0) := (blk_cell BK163.out 4).trans rfl
                  have hfs41 := blk_frozen BK163.out 4
                  have hns41_0 := NB158_163.out
                  have hns41_1 := NB159_163.out
                  have hns41_3 := NB164_163.out
                  have hms41_0 := NB163_158.out
                  have hms41_1 := NB163_159.out
                  have hms41_3 := NB163_164.out
                  have hs42 : w36.cell? ⟨gb163, 5, none⟩ = some (.slice none 0 0) := (blk_cell BK163.out 5).trans rfl
                  have hfs42 := blk_frozen BK163.out 5
                  have hns42_0 := NB158_163.out
                  have hns42_1 := NB159_163.out
                  have hns42_3 := NB164_163.out
                  have hms42_0 := NB163_158.out
                  have hms42_1 := NB163_159.out
                  have hms42_3 := NB163_164.out
                  refine skip_ (w1 := ((((((w36.setCell ⟨gb163, 0, none⟩ (.int .i64 ((rd_T132 l0_8 x5_2).f0))).setCell ⟨gb163, 1, none⟩ (.slice A161_1 ((rd_T132 l0_8 x5_2).f1).length c161_1)).setCell ⟨gb163, 2, none⟩ (.int .i64 ((rd_T132 l0_8 x5_2).f2))).setCell ⟨gb163, 3, none⟩ (.int .i64 ((rd_T132 l0_8 x5_2).f3))).setCell ⟨gb163, 4, none⟩ (.slice A161_4 ((rd_T132 l0_8 x5_2).f4).length c161_4)).setCell ⟨gb163, 5, none⟩ (.slice A161_5 ((rd_T132 l0_8 x5_2).f5).length c161_5))) (by rfl) rfl ?_ ?_
                  · go_simp
                    try rfl
                  have m0 : Aside0 (((((((w36.setCell ⟨gb163, 0, none⟩ (.int .i64 ((rd_T132 l0_8 x5_2).f0))).setCell ⟨gb163, 1, none⟩ (.slice A161_1 ((rd_T132 l0_8 x5_2).f1).length c161_1)).setCell ⟨gb163, 2, none⟩ (.int .i64 ((rd_T132 l0_8 x5_2).f2))).setCell ⟨gb163, 3, none⟩ (.int .i64 ((rd_T132 l0_8 x5_2).f3))).setCell ⟨gb163, 4, none⟩ (.slice A161_4 ((rd_T132 l0_8 x5_2).f4).length c161_4)).setCell ⟨gb163, 5, none⟩ (.slice A161_5 ((rd_T132 l0_8 x5_2).f5).length c161_5)).heap[gb163]? = some (.cells #[.int .i64 ((rd_T132 l0_8 x5_2).f0), .slice A161_1 ((rd_T132 l0_8 x5_2).f1).length c161_1, .int .i64 ((rd_T132 l0_8 x5_2).f2), .int .i64 ((rd_T132 l0_8 x5_2).f3), .slice A161_4 ((rd_T132 l0_8 x5_2).f4).length c161_4, .slice A161_5 ((rd_T132 l0_8 x5_2).f5).length c161_5] 132 (0, 0))) := ⟨put6 BK163.out (.int .i64 ((rd_T132 l0_8 x5_2).f0)) (.slice A161_1 ((rd_T132 l0_8 x5_2).f1).length c161_1) (.int .i64 ((rd_T132 l0_8 x5_2).f2)) (.int .i64 ((rd_T132 l0_8 x5_2).f3)) (.slice A161_4 ((rd_T132 l0_8 x5_2).f4).length c161_4) (.slice A161_5 ((rd_T132 l0_8 x5_2).f5).length c161_5)⟩
                  have m1 : Aside0 (((((((w36.setCell ⟨gb163, 0, none⟩ (.int .i64 ((rd_T132 l0_8 x5_2).f0))).setCell ⟨gb163, 1, none⟩ (.slice A161_1 ((rd_T132 l0_8 x5_2).f1).length c161_1)).setCell ⟨gb163, 2, none⟩ (.int .i64 ((rd_T132 l0_8 x5_2).f2))).setCell ⟨gb163, 3, none⟩ (.int .i64 ((rd_T132 l0_8 x5_2).f3))).setCell ⟨gb163, 4, none⟩ (.slice A161_4 ((rd_T132 l0_8 x5_2).f4).length c161_4)).setCell ⟨gb163, 5, none⟩ (.slice A161_5 ((rd_T132 l0_8 x5_2).f5).length c161_5)).heap[gb158]? = some (.cells #[.int .i64 a0_0, .int .i64 a0_1, .int .i64 a0_2, .slice A0_3 l0_3.length c0_3, .int .i64 a0_4, .int .i64 a0_5, .bool a0_6, .int .i64 a0_7, .slice (some ad161) l0_8.length c0_8] 75 (0, 0))) := ⟨far6 BK158.out NB158_163.out (.int .i64 ((rd_T132 l0_8 x5_2).f0)) (.slice A161_1 ((rd_T132 l0_8 x5_2).f1).length c161_1) (.int .i64 ((rd_T132 l0_8 x5_2).f2)) (.int .i64 ((rd_T132 l0_8 x5_2).f3)) (.slice A161_4 ((rd_T132 l0_8 x5_2).f4).length c161_4) (.slice A161_5 ((rd_T132 l0_8 x5_2).f5).length c161_5)⟩
                  have m2 : Aside0 (((((((w36.setCell ⟨gb163, 0, none⟩ (.int .i64 ((rd_T132 l0_8 x5_2).f0))).setCell ⟨gb163, 1, none⟩ (.slice A161_1 ((rd_T132 l0_8 x5_2).f1).length c161_1)).setCell ⟨gb163, 2, none⟩ (.int .i64 ((rd_T132 l0_8 x5_2).f2))).setCell ⟨gb163, 3, none⟩ (.int .i64 ((rd_T132 l0_8 x5_2).f3))).setCell ⟨gb163, 4, none⟩ (.slice A161_4 ((rd_T132 l0_8 x5_2).f4).length c161_4)).setCell ⟨gb163, 5, none⟩ (.slice A161_5 ((rd_T132 l0_8 x5_2).f5).length c161_5)).heap[gb159]? = some (.cells #[.int .i64 a1_0, .int .i64 a1_1, .int .i64 a1_2, .slice A1_3 l1_3.length c1_3, .int .i64 a1_4, .int .i64 a1_5, .bool a1_6, .int .i64 a1_7, .slice (some ad162) l1_8.length c1_8] 75 (0, 0))) := ⟨far6 BK159.out NB159_163.out (.int .i64 ((rd_T132 l0_8 x5_2).f0)) (.slice A161_1 ((rd_T132 l0_8 x5_2).f1).length c161_1) (.int .i64 ((rd_T132 l0_8 x5_2).f2)) (.int .i64 ((rd_T132 l0_8 x5_2).f3)) (.slice A161_4 ((rd_T132 l0_8 x5_2).f4).length c161_4) (.slice A161_5 ((rd_T132 l0_8 x5_2).f5).length c161_5)⟩
                  have m3 : Aside0 (((((((w36.setCell ⟨gb163, 0, none⟩ (.int .i64 ((rd_T132 l0_8 x5_2).f0))).setCell ⟨gb163, 1, none⟩ (.slice A161_1 ((rd_T132 l0_8 x5_2).f1).length c161_1)).setCell ⟨gb163, 2, none⟩ (.int .i64 ((rd_T132 l0_8 x5_2).f2))).setCell ⟨gb163, 3, none⟩ (.int .i64 ((rd_T132 l0_8 x5_2).f3))).setCell ⟨gb163, 4, none⟩ (.slice A161_4 ((rd_T132 l0_8 x5_2).f4).length c161_4)).setCell ⟨gb163, 5, none⟩ (.slice A161_5 ((rd_T132 l0_8 x5_2).f5).length c161_5)).heap[gb164]? = some (.cells #[.int .i64 0, .slice none 0 0, .int .i64 0, .int .i64 0, .slice none 0 0, .slice none 0 0] 132 (0, 0))) := ⟨far6 BK164.out NB164_163.out (.int .i64 ((rd_T132 l0_8 x5_2).f0)) (.slice A161_1 ((rd_T132 l0_8 x5_2).f1).length c161_1) (.int .i64 ((rd_T132 l0_8 x5_2).f2)) (.int .i64 ((rd_T132 l0_8 x5_2).f3)) (.slice A161_4 ((rd_T132 l0_8 x5_2).f4).length c161_4) (.slice A161_5 ((rd_T132 l0_8 x5_2).f5).length c161_5)⟩
                  have m4 : Aside0 (Below w.heap.size w ((((((w36.setCell ⟨gb163, 0, none⟩ (.int .i64 ((rd_T132 l0_8 x5_2).f0))).setCell ⟨gb163, 1, none⟩ (.slice A161_1 ((rd_T132 l0_8 x5_2).f1).length c161_1)).setCell ⟨gb163, 2, none⟩ (.int .i64 ((rd_T132 l0_8 x5_2).f2))).setCell ⟨gb163, 3, none⟩ (.int .i64 ((rd_T132 l0_8 x5_2).f3))).setCell ⟨gb163, 4, none⟩ (.slice A161_4 ((rd_T132 l0_8 x5_2).f4).length c161_4)).setCell ⟨gb163, 5, none⟩ (.slice A161_5 ((rd_T132 l0_8 x5_2).f5).length c161_5))) := ⟨set6 HB.out GE163.out (.int .i64 ((rd_T132 l0_8 x5_2).f0)) (.slice A161_1 ((rd_T132 l0_8 x5_2).f1).length c161_1) (.int .i64 ((rd_T132 l0_8 x5_2).f2)) (.int .i64 ((rd_T132 l0_8 x5_2).f3)) (.slice A161_4 ((rd_T132 l0_8 x5_2).f4).length c161_4) (.slice A161_5 ((rd_T132 l0_8 x5_2).f5).length c161_5)⟩
                  generalize ((((((w36.setCell ⟨gb163, 0, none⟩ (.int .i64 ((rd_T132 l0_8 x5_2).f0))).setCell ⟨gb163, 1, none⟩ (.slice A161_1 ((rd_T132 l0_8 x5_2).f1).length c161_1)).setCell ⟨gb163, 2, none⟩ (.int .i64 ((rd_T132 l0_8 x5_2).f2))).setCell ⟨gb163, 3, none⟩ (.int .i64 ((rd_T132 l0_8 x5_2).f3))).setCell ⟨gb163, 4, none⟩ (.slice A161_4 ((rd_T132 l0_8 x5_2).f4).length c161_4)).setCell ⟨gb163, 5, none⟩ (.slice A161_5 ((rd_T132 l0_8 x5_2).f5).length c161_5)) = wz0 at m0 m1 m2 m3 m4 ⊢
                  clear BK158 BK159 BK163 BK164 HB
                  have BK163 := m0
                  have BK158 := m1
                  have BK159 := m2
                  have BK164 := m3
                  have HB := m4
                  clear m0 m1 m2 m3 m4 hHeld
                  refine hK.out _ _ ⟨(blk_cell BK158.out 0).trans rfl, (blk_cell BK158.out 1).trans rfl, (blk_cell BK158.out 2).trans rfl, (blk_cell BK158.out 3).trans rfl, (blk_cell BK158.out 4).trans rfl, (blk_cell BK158.out 5).trans rfl, (blk_cell BK158.out 6).trans rfl, (blk_cell BK158.out 7).trans rfl, (blk_cell BK158.out 8).trans rfl, (blk_cell BK159.out 0).trans rfl, (blk_cell BK159.out 1).trans rfl, (blk_cell BK159.out 2).trans rfl, (blk_cell BK159.out 3).trans rfl, (blk_cell BK159.out 4).trans rfl, (blk_cell BK159.out 5).trans rfl, (blk_cell BK159.out 6).trans rfl, (blk_cell BK159.out 7).trans rfl, (blk_cell BK159.out 8).trans rfl, ((HB.out.cell (World.block_lt_of_cell? w _ hw161_0)).trans hw161_0), ((HB.out.cell (World.block_lt_of_cell? w _ hw161_1)).trans hw161_1), ((HB.out.cell (World.block_lt_of_cell? w _ hw161_2)).trans hw161_2), ((HB.out.cell (World.block_lt_of_cell? w _ hw161_3)).trans hw161_3), ((HB.out.cell (World.block_lt_of_cell? w _ hw161_4)).trans hw161_4), ((HB.out.cell (World.block_lt_of_cell? w _ hw161_5)).trans hw161_5), ((HB.out.cell (World.block_lt_of_cell? w _ hw162_0)).trans hw162_0), ((HB.out.cell (World.block_lt_of_cell? w _ hw162_1)).trans hw162_1), ((HB.out.cell (World.block_lt_of_cell? w _ hw162_2)).trans hw162_2), ((HB.out.cell (World.block_lt_of_cell? w _ hw162_3)).trans hw162_3), ((HB.out.cell (World.block_lt_of_cell? w _ hw162_4)).trans hw162_4), ((HB.out.cell (World.block_lt_of_cell? w _ hw162_5)).trans hw162_5)⟩ (fun hHeld => ?_)
                  clear hK K
                  refine one_ (i := 13) (N := none) #[true, true, true, true, true, true, true, true, true, true, true, true, true, true] rfl rfl (one_of HT_.out (by kernel_rfl)) (by decide) (fun K hK => ?_)
                  have hs43 : wz0.cell? ⟨gb164, 0, none⟩ = some (.int .i64 0) := (blk_cell BK164.out 0).trans rfl
                  have hfs43 := blk_frozen BK164.out 0
                  have hns43_0 := NB158_164.out
                  have hns43_1 := NB159_164.out
                  have hns43_2 := NB163_164.out
                  have hms43_0 := NB164_158.out
                  have hms43_1 := NB164_159.out
                  have hms43_2 := NB164_163.out
                  have hs44 : wz0.cell? ⟨gb164, 1, none⟩ = some (.slice none 0 0) := (blk_cell BK164.out 1).trans rfl
                  have hfs44 := blk_frozen BK164.out 1
                  have hns44_0 := NB158_164.out
                  have hns44_1 := NB159_164.out
                  have hns44_2 := NB163_164.out
                  have hms44_0 := NB164_158.out
                  have hms44_1 := NB164_159.out
                  have hms44_2 := NB164_163.out
                  have hs45 : wz0.cell? ⟨gb164, 2, none⟩ = some (.int .i64 0) := (blk_cell BK164.out 2).trans rfl
                  have hfs45 := blk_frozen BK164.out 2
                  have hns45_0 := NB158_164.out
                  have hns45_1 := NB159_164.out
                  have hns45_2 := NB163_164.out
                  have hms45_0 := NB164_158.out
                  have hms45_1 := NB164_159.out
                  have hms45_2 := NB164_163.out
                  have hs46 : wz0.cell? ⟨gb164, 3, none⟩ = some (.int .i64 0) := (blk_cell BK164.out 3).trans rfl
                  have hfs46 := blk_frozen BK164.out 3
                  have hns46_0 := NB158_164.out
                  have hns46_1 := NB159_164.out
                  have hns46_2 := NB163_164.out
                  have hms46_0 := NB164_158.out
                  have hms46_1 := NB164_159.out
                  have hms46_2 := NB164_163.out
                  have hs47 : wz0.cell? ⟨gb164, 4, none⟩ = some (.slice none 0 0) := (blk_cell BK164.out 4).trans rfl
                  have hfs47 := blk_frozen BK164.out 4
                  have hns47_0 := NB158_164.out
                  have hns47_1 := NB159_164.out
                  have hns47_2 := NB163_164.out
                  have hms47_0 := NB164_158.out
                  have hms47_1 := NB164_159.out
                  have hms47_2 := NB164_163.out
                  have hs48 : wz0.cell? ⟨gb164, 5, none⟩ = some (.slice none 0 0) := (blk_cell BK164.out 5).trans rfl
                  have hfs48 := blk_frozen BK164.out 5
                  have hns48_0 := NB158_164.out
                  have hns48_1 := NB159_164.out
                  have hns48_2 := NB163_164.out
                  have hms48_0 := NB164_158.out
                  have hms48_1 := NB164_159.out
                  have hms48_2 := NB164_163.out
                  refine skip_ (w1 := ((((((wz0.setCell ⟨gb164, 0, none⟩ (.int .i64 ((rd_T132 l1_8 x5_2).f0))).setCell ⟨gb164, 1, none⟩ (.slice A162_1 ((rd_T132 l1_8 x5_2).f1).length c162_1)).setCell ⟨gb164, 2, none⟩ (.int .i64 ((rd_T132 l1_8 x5_2).f2))).setCell ⟨gb164, 3, none⟩ (.int .i64 ((rd_T132 l1_8 x5_2).f3))).setCell ⟨gb164, 4, none⟩ (.slice A162_4 ((rd_T132 l1_8 x5_2).f4).length c162_4)).setCell ⟨gb164, 5, none⟩ (.slice A162_5 ((rd_T132 l1_8 x5_2).f5).length c162_5))) (by rfl) rfl ?_ ?_
                  · go_simp
                    try rfl
                  have m0 : Aside0 (((((((wz0.setCell ⟨gb164, 0, none⟩ (.int .i64 ((rd_T132 l1_8 x5_2).f0))).setCell ⟨gb164, 1, none⟩ (.slice A162_1 ((rd_T132 l1_8 x5_2).f1).length c162_1)).setCell ⟨gb164, 2, none⟩ (.int .i64 ((rd_T132 l1_8 x5_2).f2))).setCell ⟨gb164, 3, none⟩ (.int .i64 ((rd_T132 l1_8 x5_2).f3))).setCell ⟨gb164, 4, none⟩ (.slice A162_4 ((rd_T132 l1_8 x5_2).f4).length c162_4)).setCell ⟨gb164, 5, none⟩ (.slice A162_5 ((rd_T132 l1_8 x5_2).f5).length c162_5)).heap[gb164]? = some (.cells #[.int .i64 ((rd_T132 l1_8 x5_2).f0), .slice A162_1 ((rd_T132 l1_8 x5_2).f1).length c162_1, .int .i64 ((rd_T132 l1_8 x5_2).f2), .int .i64 ((rd_T132 l1_8 x5_2).f3), .slice A162_4 ((rd_T132 l1_8 x5_2).f4).length c162_4, .slice A162_5 ((rd_T132 l1_8 x5_2).f5).length c162_5] 132 (0, 0))) := ⟨put6 BK164.out (.int .i64 ((rd_T132 l1_8 x5_2).f0)) (.slice A162_1 ((rd_T132 l1_8 x5_2).f1).length c162_1) (.int .i64 ((rd_T132 l1_8 x5_2).f2)) (.int .i64 ((rd_T132 l1_8 x5_2).f3)) (.slice A162_4 ((rd_T132 l1_8 x5_2).f4).length c162_4) (.slice A162_5 ((rd_T132 l1_8 x5_2).f5).length c162_5)⟩
                  have m1 : Aside0 (((((((wz0.setCell ⟨gb164, 0, none⟩ (.int .i64 ((rd_T132 l1_8 x5_2).f0))).setCell ⟨gb164, 1, none⟩ (.slice A162_1 ((rd_T132 l1_8 x5_2).f1).length c162_1)).setCell ⟨gb164, 2, none⟩ (.int .i64 ((rd_T132 l1_8 x5_2).f2))).setCell ⟨gb164, 3, none⟩ (.int .i64 ((rd_T132 l1_8 x5_2).f3))).setCell ⟨gb164, 4, none⟩ (.slice A162_4 ((rd_T132 l1_8 x5_2).f4).length c162_4)).setCell ⟨gb164, 5, none⟩ (.slice A162_5 ((rd_T132 l1_8 x5_2).f5).length c162_5)).heap[gb158]? = some (.cells #[.int .i64 a0_0, .int .i64 a0_1, .int .i64 a0_2, .slice A0_3 l0_3.length c0_3, .int .i64 a0_4, .int .i64 a0_5, .bool a0_6, .int .i64 a0_7, .slice (some ad161) l0_8.length c0_8] 75 (0, 0))) := ⟨far6 BK158.out NB158_164.out (.int .i64 ((rd_T132 l1_8 x5_2).f0)) (.slice A162_1 ((rd_T132 l1_8 x5_2).f1).length c162_1) (.int .i64 ((rd_T132 l1_8 x5_2).f2)) (.int .i64 ((rd_T132 l1_8 x5_2).f3)) (.slice A162_4 ((rd_T132 l1_8 x5_2).f4).length c162_4) (.slice A162_5 ((rd_T132 l1_8 x5_2).f5).length c162_5)⟩
                  have m2 : Aside0 (((((((wz0.setCell ⟨gb164, 0, none⟩ (.int .i64 ((rd_T132 l1_8 x5_2).f0))).setCell ⟨gb164, 1, none⟩ (.slice A162_1 ((rd_T132 l1_8 x5_2).f1).length c162_1)).setCell ⟨gb164, 2, none⟩ (.int .i64 ((rd_T132 l1_8 x5_2).f2))).setCell ⟨gb164, 3, none⟩ (.int .i64 ((rd_T132 l1_8 x5_2).f3))).setCell ⟨gb164, 4, none⟩ (.slice A162_4 ((rd_T132 l1_8 x5_2).f4).length c162_4)).setCell ⟨gb164, 5, none⟩ (.slice A162_5 ((rd_T132 l1_8 x5_2).f5).length c162_5)).heap[gb159]? = some (.cells #[.int .i64 a1_0, .int .i64 a1_1, .int .i64 a1_2, .slice A1_3 l1_3.length c1_3, .int .i64 a1_4, .int .i64 a1_5, .bool a1_6, .int .i64 a1_7, .slice (some ad162) l1_8.length c1_8] 75 (0, 0))) := ⟨far6 BK159.out NB159_164.out (.int .i64 ((rd_T132 l1_8 x5_2).f0)) (.slice A162_1 ((rd_T132 l1_8 x5_2).f1).length c162_1) (.int .i64 ((rd_T132 l1_8 x5_2).f2)) (.int .i64 ((rd_T132 l1_8 x5_2).f3)) (.slice A162_4 ((rd_T132 l1_8 x5_2).f4).length c162_4) (.slice A162_5 ((rd_T132 l1_8 x5_2).f5).length c162_5)⟩
                  have m3 : Aside0 (((((((wz0.setCell ⟨gb164, 0, none⟩ (.int .i64 ((rd_T132 l1_8 x5_2).f0))).setCell ⟨gb164, 1, none⟩ (.slice A162_1 ((rd_T132 l1_8 x5_2).f1).length c162_1)).setCell ⟨gb164, 2, none⟩ (.int .i64 ((rd_T132 l1_8 x5_2).f2))).setCell ⟨gb164, 3, none⟩ (.int .i64 ((rd_T132 l1_8 x5_2).f3))).setCell ⟨gb164, 4, none⟩ (.slice A162_4 ((rd_T132 l1_8 x5_2).f4).length c162_4)).setCell ⟨gb164, 5, none⟩ (.slice A162_5 ((rd_T132 l1_8 x5_2).f5).length c162_5)).heap[gb163]? = some (.cells #[.int .i64 ((rd_T132 l0_8 x5_2).f0), .slice A161_1 ((rd_T132 l0_8 x5_2).f1).length c161_1, .int .i64 ((rd_T132 l0_8 x5_2).f2), .int .i64 ((rd_T132 l0_8 x5_2).f3), .slice A161_4 ((rd_T132 l0_8 x5_2).f4).length c161_4, .slice A161_5 ((rd_T132 l0_8 x5_2).f5).length c161_5] 132 (0, 0))) := ⟨far6 BK163.out NB163_164.out (.int .i64 ((rd_T132 l1_8 x5_2).f0)) (.slice A162_1 ((rd_T132 l1_8 x5_2).f1).length c162_1) (.int .i64 ((rd_T132 l1_8 x5_2).f2)) (.int .i64 ((rd_T132 l1_8 x5_2).f3)) (.slice A162_4 ((rd_T132 l1_8 x5_2).f4).length c162_4) (.slice A162_5 ((rd_T132 l1_8 x5_2).f5).length c162_5)⟩
                  have m4 : Aside0 (Below w.heap.size w ((((((wz0.setCell ⟨gb164, 0, none⟩ (.int .i64 ((rd_T132 l1_8 x5_2).f0))).setCell ⟨gb164, 1, none⟩ (.slice A162_1 ((rd_T132 l1_8 x5_2).f1).length c162_1)).setCell ⟨gb164, 2, none⟩ (.int .i64 ((rd_T132 l1_8 x5_2).f2))).setCell ⟨gb164, 3, none⟩ (.int .i64 ((rd_T132 l1_8 x5_2).f3))).setCell ⟨gb164, 4, none⟩ (.slice A162_4 ((rd_T132 l1_8 x5_2).f4).length c162_4)).setCell ⟨gb164, 5, none⟩ (.slice A162_5 ((rd_T132 l1_8 x5_2).f5).length c162_5))) := ⟨set6 HB.out GE164.out (.int .i64 ((rd_T132 l1_8 x5_2).f0)) (.slice A162_1 ((rd_T132 l1_8 x5_2).f1).length c162_1) (.int .i64 ((rd_T132 l1_8 x5_2).f2)) (.int .i64 ((rd_T132 l1_8 x5_2).f3)) (.slice A162_4 ((rd_T132 l1_8 x5_2).f4).length c162_4) (.slice A162_5 ((rd_T132 l1_8 x5_2).f5).length c162_5)⟩
                  generalize ((((((wz0.setCell ⟨gb164, 0, none⟩ (.int .i64 ((rd_T132 l1_8 x5_2).f0))).setCell ⟨gb164, 1, none⟩ (.slice A162_1 ((rd_T132 l1_8 x5_2).f1).length c162_1)).setCell ⟨gb164, 2, none⟩ (.int .i64 ((rd_T132 l1_8 x5_2).f2))).setCell ⟨gb164, 3, none⟩ (.int .i64 ((rd_T132 l1_8 x5_2).f3))).setCell ⟨gb164, 4, none⟩ (.slice A162_4 ((rd_T132 l1_8 x5_2).f4).length c162_4)).setCell ⟨gb164, 5, none⟩ (.slice A162_5 ((rd_T132 l1_8 x5_2).f5).length c162_5)) = wz1 at m0 m1 m2 m3 m4 ⊢
                  clear BK158 BK159 BK163 BK164 HB
                  have BK164 := m0
                  have BK158 := m1
                  have BK159 := m2
                  have BK163 := m3
                  have HB := m4
                  clear m0 m1 m2 m3 m4 hHeld
                  refine hK.out _ _ ⟨(blk_cell BK158.out 0).trans rfl, (blk_cell BK158.out 1).trans rfl, (blk_cell BK158.out 2).trans rfl, (blk_cell BK158.out 3).trans rfl, (blk_cell BK158.out 4).trans rfl, (blk_cell BK158.out 5).trans rfl, (blk_cell BK158.out 6).trans rfl, (blk_cell BK158.out 7).trans rfl, (blk_cell BK158.out 8).trans rfl, (blk_cell BK159.out 0).trans rfl, (blk_cell BK159.out 1).trans rfl, (blk_cell BK159.out 2).trans rfl, (blk_cell BK159.out 3).trans rfl, (blk_cell BK159.out 4).trans rfl, (blk_cell BK159.out 5).trans rfl, (blk_cell BK159.out 6).trans rfl, (blk_cell BK159.out 7).trans rfl, (blk_cell BK159.out 8).trans rfl, ((HB.out.cell (World.block_lt_of_cell? w _ hw161_0)).trans hw161_0), ((HB.out.cell (World.block_lt_of_cell? w _ hw161_1)).trans hw161_1), ((HB.out.cell (World.block_lt_of_cell? w _ hw161_2)).trans hw161_2), ((HB.out.cell (World.block_lt_of_cell? w _ hw161_3)).trans hw161_3), ((HB.out.cell (World.block_lt_of_cell? w _ hw161_4)).trans hw161_4), ((HB.out.cell (World.block_lt_of_cell? w _ hw161_5)).trans hw161_5), ((HB.out.cell (World.block_lt_of_cell? w _ hw162_0)).trans hw162_0), ((HB.out.cell (World.block_lt_of_cell? w _ hw162_1)).trans hw162_1), ((HB.out.cell (World.block_lt_of_cell? w _ hw162_2)).trans hw162_2), ((HB.out.cell (World.block_lt_of_cell? w _ hw162_3)).trans hw162_3), ((HB.out.cell (World.block_lt_of_cell? w _ hw162_4)).trans hw162_4), ((HB.out.cell (World.block_lt_of_cell? w _ hw162_5)).trans hw162_5)⟩ (fun hHeld => ?_)
                  clear hK K
                  refine done_ (done_of HT_.out (by kernel_rfl)) ?_
                  have hz163_0 : wz1.cell? ⟨gb163, 0, none⟩ = some (.int .i64 ((rd_T132 l0_8 x5_2).f0)) := (blk_cell BK163.out 0).trans rfl
                  have hz163_1 : wz1.cell? ⟨gb163, 1, none⟩ = some (.slice A161_1 ((rd_T132 l0_8 x5_2).f1).length c161_1) := (blk_cell BK163.out 1).trans rfl
                  have hz163_2 : wz1.cell? ⟨gb163, 2, none⟩ = some (.int .i64 ((rd_T132 l0_8 x5_2).f2)) := (blk_cell BK163.out 2).trans rfl
                  have hz163_3 : wz1.cell? ⟨gb163, 3, none⟩ = some (.int .i64 ((rd_T132 l0_8 x5_2).f3)) := (blk_cell BK163.out 3).trans rfl
                  have hz163_4 : wz1.cell? ⟨gb163, 4, none⟩ = some (.slice A161_4 ((rd_T132 l0_8 x5_2).f4).length c161_4) := (blk_cell BK163.out 4).trans rfl
                  have hz163_5 : wz1.cell? ⟨gb163, 5, none⟩ = some (.slice A161_5 ((rd_T132 l0_8 x5_2).f5).length c161_5) := (blk_cell BK163.out 5).trans rfl
                  have hz164_0 : wz1.cell? ⟨gb164, 0, none⟩ = some (.int .i64 ((rd_T132 l1_8 x5_2).f0)) := (blk_cell BK164.out 0).trans rfl
                  have hz164_1 : wz1.cell? ⟨gb164, 1, none⟩ = some (.slice A162_1 ((rd_T132 l1_8 x5_2).f1).length c162_1) := (blk_cell BK164.out 1).trans rfl
                  have hz164_2 : wz1.cell? ⟨gb164, 2, none⟩ = some (.int .i64 ((rd_T132 l1_8 x5_2).f2)) := (blk_cell BK164.out 2).trans rfl
                  have hz164_3 : wz1.cell? ⟨gb164, 3, none⟩ = some (.int .i64 ((rd_T132 l1_8 x5_2).f3)) := (blk_cell BK164.out 3).trans rfl
                  have hz164_4 : wz1.cell? ⟨gb164, 4, none⟩ = some (.slice A162_4 ((rd_T132 l1_8 x5_2).f4).length c162_4) := (blk_cell BK164.out 4).trans rfl
                  have hz164_5 : wz1.cell? ⟨gb164, 5, none⟩ = some (.slice A162_5 ((rd_T132 l1_8 x5_2).f5).length c162_5) := (blk_cell BK164.out 5).trans rfl
                  try clear hx161_0 hx161_1 hx161_2 hx161_3 hx161_4 hx161_5 hx162_0 hx162_1 hx162_2 hx162_3 hx162_4 hx162_5 hHeld
                  by_cases c22 : ((rd_T132 l0_8 x5_2).f0) = ((rd_T132 l1_8 x5_2).f0)
                  · rw [if_pos c22] at H
                    have c22b0 : (((rd_T132 l0_8 x5_2).f0) == ((rd_T132 l1_8 x5_2).f0)) = true := beq_iff_eq.mpr c22
                    have c22b1 : (((rd_T132 l0_8 x5_2).f0) != ((rd_T132 l1_8 x5_2).f0)) = false := bne_eq_false_iff_eq.mpr c22
                    clear c22
                    by_cases c23 : ((rd_T132 l0_8 x5_2).f2) = ((rd_T132 l1_8 x5_2).f2)
                    · rw [if_pos c23] at H
                      have c23b0 : (((rd_T132 l0_8 x5_2).f2) == ((rd_T132 l1_8 x5_2).f2)) = true := beq_iff_eq.mpr c23
                      have c23b1 : (((rd_T132 l0_8 x5_2).f2) != ((rd_T132 l1_8 x5_2).f2)) = false := bne_eq_false_iff_eq.mpr c23
                      clear c23
                      by_cases c24 : ((rd_T132 l0_8 x5_2).f3) = ((rd_T132 l1_8 x5_2).f3)
                      · rw [if_pos c24] at H
                        have c24b0 : (((rd_T132 l0_8 x5_2).f3) == ((rd_T132 l1_8 x5_2).f3)) = true := beq_iff_eq.mpr c24
                        have c24b1 : (((rd_T132 l0_8 x5_2).f3) != ((rd_T132 l1_8 x5_2).f3)) = false := bne_eq_false_iff_eq.mpr c24
                        clear c24
                        replace H := Option.bind_eq_some_iff.mp H
                        obtain ⟨t165, A250, H⟩ := H
                        replace H : (if t165 = true then ((spec_l16SameInts.f k2 ((rd_T132 l0_8 x5_2).f4) ((rd_T132 l1_8 x5_2).f4)).bind fun t166 => (if t166 = true then ((spec_l16SameTexts.f k2 ((rd_T132 l0_8 x5_2).f5) ((rd_T132 l1_8 x5_2).f5)).bind fun t167 => (if t167 = true then (spec_SameDevice.l0 k2 (wrap64 (x5_2 + 1)) a0_0 a0_1 a0_2 l0_3 a0_4 a0_5 a0_6 a0_7 l0_8 a1_0 a1_1 a1_2 l1_3 a1_4 a1_5 a1_6 a1_7 l1_8) else (some false))) else (some false))) else (some false)) = some r := H
                        have A25 := Aside0.mk A250
                        clear A250
                        by_cases c26 : t165 = true
                        · subst c26
                          have H1 : ((spec_l16SameInts.f k2 ((rd_T132 l0_8 x5_2).f4) ((rd_T132 l1_8 x5_2).f4)).bind fun t166 => (if t166 = true then ((spec_l16SameTexts.f k2 ((rd_T132 l0_8 x5_2).f5) ((rd_T132 l1_8 x5_2).f5)).bind fun t167 => (if t167 = true then (spec_SameDevice.l0 k2 (wrap64 (x5_2 + 1)) a0_0 a0_1 a0_2 l0_3 a0_4 a0_5 a0_6 a0_7 l0_8 a1_0 a1_1 a1_2 l1_3 a1_4 a1_5 a1_6 a1_7 l1_8) else (some false))) else (some false))) = some r := by rw [if_pos rfl] at H; exact H
                          clear H
                          have H := H1
                          clear H1
                          replace H := Option.bind_eq_some_iff.mp H
                          obtain ⟨t166, A270, H⟩ := H
                          replace H : (if t166 = true then ((spec_l16SameTexts.f k2 ((rd_T132 l0_8 x5_2).f5) ((rd_T132 l1_8 x5_2).f5)).bind fun t167 => (if t167 = true then (spec_SameDevice.l0 k2 (wrap64 (x5_2 + 1)) a0_0 a0_1 a0_2 l0_3 a0_4 a0_5 a0_6 a0_7 l0_8 a1_0 a1_1 a1_2 l1_3 a1_4 a1_5 a1_6 a1_7 l1_8) else (some false))) else (some false)) = some r := H
                          have A27 := Aside0.mk A270
                          clear A270
                          by_cases c28 : t166 = true
                          · subst c28
                            have H1 : ((spec_l16SameTexts.f k2 ((rd_T132 l0_8 x5_2).f5) ((rd_T132 l1_8 x5_2).f5)).bind fun t167 => (if t167 = true then (spec_SameDevice.l0 k2 (wrap64 (x5_2 + 1)) a0_0 a0_1 a0_2 l0_3 a0_4 a0_5 a0_6 a0_7 l0_8 a1_0 a1_1 a1_2 l1_3 a1_4 a1_5 a1_6 a1_7 l1_8) else (some false))) = some r := by rw [if_pos rfl] at H; exact H
                            clear H
                            have H := H1
                            clear H1
                            replace H := Option.bind_eq_some_iff.mp H
                            obtain ⟨t167, A290, H⟩ := H
                            replace H : (if t167 = true then (spec_SameDevice.l0 k2 (wrap64 (x5_2 + 1)) a0_0 a0_1 a0_2 l0_3 a0_4 a0_5 a0_6 a0_7 l0_8 a1_0 a1_1 a1_2 l1_3 a1_4 a1_5 a1_6 a1_7 l1_8) else (some false)) = some r := H
                            have A29 := Aside0.mk A290
                            clear A290
                            by_cases c30 : t167 = true
                            · subst c30
                              have H1 : (spec_SameDevice.l0 k2 (wrap64 (x5_2 + 1)) a0_0 a0_1 a0_2 l0_3 a0_4 a0_5 a0_6 a0_7 l0_8 a1_0 a1_1 a1_2 l1_3 a1_4 a1_5 a1_6 a1_7 l1_8) = some r := by rw [if_pos rfl] at H; exact H
                              clear H
                              have H := H1
                              clear H1
                              have H' := Aside0.mk H
                              try simp only [Act.put, List.setIfInBounds_toArray, List.set_cons_zero, List.set_cons_succ]
                              go_wp2_with (first | (go_at_call 105; (with_reducible refine (spec_l16SameInts.calls k2 _ _ ((rd_T132 l0_8 x5_2).f1) _ _ ((rd_T132 l1_8 x5_2).f1) _ _ ?side1 ?side2 ?side3 ?side4 A25.out).mono ?_); (case side1 => exact Kd.C_below HR161_1.out (by repeat (first | (with_reducible first | exact HB.out | apply below_alloc | apply pw_below_drewN | apply below_drew1) | exact HB.out))); (case side2 => exact HC161_1.out); (case side3 => exact Kd.C_below HR162_1.out (by repeat (first | (with_reducible first | exact HB.out | apply below_alloc | apply pw_below_drewN | apply below_drew1) | exact HB.out))); (case side4 => exact HC162_1.out); rintro e w' ⟨rfl, ⟨nd, rfl⟩⟩) | (go_at_call 105; (with_reducible refine (spec_l16SameInts.calls k2 _ _ ((rd_T132 l0_8 x5_2).f4) _ _ ((rd_T132 l1_8 x5_2).f4) _ _ ?side1 ?side2 ?side3 ?side4 A27.out).mono ?_); (case side1 => exact Kd.C_below HR161_4.out (by repeat (first | (with_reducible first | exact HB.out | apply below_alloc | apply pw_below_drewN | apply below_drew1) | exact HB.out))); (case side2 => exact HC161_4.out); (case side3 => exact Kd.C_below HR162_4.out (by repeat (first | (with_reducible first | exact HB.out | apply below_alloc | apply pw_below_drewN | apply below_drew1) | exact HB.out))); (case side4 => exact HC162_4.out); rintro e w' ⟨rfl, ⟨nd, rfl⟩⟩) | (go_at_call 106; (with_reducible refine (spec_l16SameTexts.calls k2 _ _ ((rd_T132 l0_8 x5_2).f5) _ _ ((rd_T132 l1_8 x5_2).f5) _ _ ?side1 ?side2 ?side3 ?side4 A29.out).mono ?_); (case side1 => exact Kd.C_below HR161_5.out (by repeat (first | (with_reducible first | exact HB.out | apply below_alloc | apply pw_below_drewN | apply below_drew1) | exact HB.out))); (case side2 => exact HC161_5.out); (case side3 => exact Kd.C_below HR162_5.out (by repeat (first | (with_reducible first | exact HB.out | apply below_alloc | apply pw_below_drewN | apply below_drew1) | exact HB.out))); (case side4 => exact HC162_5.out); rintro e w' ⟨rfl, ⟨nd, rfl⟩⟩))
                              go_roundg k2
                              case measure => have := HJ2.out; have := HK2.out; omega
                              case rel => exact ⟨(wrap64 (x5_2 + 1)), (by first | rfl | (simp; done) | (simp [*]; done)), H', ⟨by have := HJ2.out; have := HK2.out; omega⟩, ⟨by (with_reducible repeat (first | refine blk_drewN ?_ _ | refine blk_drew ?_ | refine blk_alloc ?_ _)); exact BK158.out⟩, ⟨by (with_reducible repeat (first | refine blk_drewN ?_ _ | refine blk_drew ?_ | refine blk_alloc ?_ _)); exact BK159.out⟩, ⟨by repeat (first | (with_reducible first | exact HB.out | apply below_alloc | apply pw_below_drewN | apply below_drew1) | exact HB.out)⟩⟩
                            · replace c30 := Bool.eq_false_iff.mpr c30
                              subst c30
                              have H1 : (some false) = some r := by rw [if_neg (show ¬ (false = true) by decide)] at H; exact H
                              clear H
                              have H := H1
                              clear H1
                              obtain rfl := Option.some.inj H
                              try simp only [Act.put, List.setIfInBounds_toArray, List.set_cons_zero, List.set_cons_succ]
                              go_wp2_with (first | (go_at_call 105; (with_reducible refine (spec_l16SameInts.calls k2 _ _ ((rd_T132 l0_8 x5_2).f1) _ _ ((rd_T132 l1_8 x5_2).f1) _ _ ?side1 ?side2 ?side3 ?side4 A25.out).mono ?_); (case side1 => exact Kd.C_below HR161_1.out (by repeat (first | (with_reducible first | exact HB.out | apply below_alloc | apply pw_below_drewN | apply below_drew1) | exact HB.out))); (case side2 => exact HC161_1.out); (case side3 => exact Kd.C_below HR162_1.out (by repeat (first | (with_reducible first | exact HB.out | apply below_alloc | apply pw_below_drewN | apply below_drew1) | exact HB.out))); (case side4 => exact HC162_1.out); rintro e w' ⟨rfl, ⟨nd, rfl⟩⟩) | (go_at_call 105; (with_reducible refine (spec_l16SameInts.calls k2 _ _ ((rd_T132 l0_8 x5_2).f4) _ _ ((rd_T132 l1_8 x5_2).f4) _ _ ?side1 ?side2 ?side3 ?side4 A27.out).mono ?_); (case side1 => exact Kd.C_below HR161_4.out (by repeat (first | (with_reducible first | exact HB.out | apply below_alloc | apply pw_below_drewN | apply below_drew1) | exact HB.out))); (case side2 => exact HC161_4.out); (case side3 => exact Kd.C_below HR162_4.out (by repeat (first | (with_reducible first | exact HB.out | apply below_alloc | apply pw_below_drewN | apply below_drew1) | exact HB.out))); (case side4 => exact HC162_4.out); rintro e w' ⟨rfl, ⟨nd, rfl⟩⟩) | (go_at_call 106; (with_reducible refine (spec_l16SameTexts.calls k2 _ _ ((rd_T132 l0_8 x5_2).f5) _ _ ((rd_T132 l1_8 x5_2).f5) _ _ ?side1 ?side2 ?side3 ?side4 A29.out).mono ?_); (case side1 => exact Kd.C_below HR161_5.out (by repeat (first | (with_reducible first | exact HB.out | apply below_alloc | apply pw_below_drewN | apply below_drew1) | exact HB.out))); (case side2 => exact HC161_5.out); (case side3 => exact Kd.C_below HR162_5.out (by repeat (first | (with_reducible first | exact HB.out | apply below_alloc | apply pw_below_drewN | apply below_drew1) | exact HB.out))); (case side4 => exact HC162_5.out); rintro e w' ⟨rfl, ⟨nd, rfl⟩⟩))
                              go_ret
                              exact ⟨by first | rfl | (simp [errW_none, errW_some] <;> rfl) | (simp [*, errW_none, errW_some] <;> rfl), by repeat (first | (with_reducible first | exact HB.out | apply below_alloc | apply pw_below_drewN | apply below_drew1) | exact HB.out)⟩
                          · replace c28 := Bool.eq_false_iff.mpr c28
                            subst c28
                            have H1 : (some false) = some r := by rw [if_neg (show ¬ (false = true) by decide)] at H; exact H
                            clear H
                            have H := H1
                            clear H1
                            obtain rfl := Option.some.inj H
                            try simp only [Act.put, List.setIfInBounds_toArray, List.set_cons_zero, List.set_cons_succ]
                            go_wp2_with (first | (go_at_call 105; (with_reducible refine (spec_l16SameInts.calls k2 _ _ ((rd_T132 l0_8 x5_2).f1) _ _ ((rd_T132 l1_8 x5_2).f1) _ _ ?side1 ?side2 ?side3 ?side4 A25.out).mono ?_); (case side1 => exact Kd.C_below HR161_1.out (by repeat (first | (with_reducible first | exact HB.out | apply below_alloc | apply pw_below_drewN | apply below_drew1) | exact HB.out))); (case side2 => exact HC161_1.out); (case side3 => exact Kd.C_below HR162_1.out (by repeat (first | (with_reducible first | exact HB.out | apply below_alloc | apply pw_below_drewN | apply below_drew1) | exact HB.out))); (case side4 => exact HC162_1.out); rintro e w' ⟨rfl, ⟨nd, rfl⟩⟩) | (go_at_call 105; (with_reducible refine (spec_l16SameInts.calls k2 _ _ ((rd_T132 l0_8 x5_2).f4) _ _ ((rd_T132 l1_8 x5_2).f4) _ _ ?side1 ?side2 ?side3 ?side4 A27.out).mono ?_); (case side1 => exact Kd.C_below HR161_4.out (by repeat (first | (with_reducible first | exact HB.out | apply below_alloc | apply pw_below_drewN | apply below_drew1) | exact HB.out))); (case side2 => exact HC161_4.out); (case side3 => exact Kd.C_below HR162_4.out (by repeat (first | (with_reducible first | exact HB.out | apply below_alloc | apply pw_below_drewN | apply below_drew1) | exact HB.out))); (case side4 => exact HC162_4.out); rintro e w' ⟨rfl, ⟨nd, rfl⟩⟩) | (go_at_call 106; (with_reducible refine (spec_l16SameTexts.calls k2 _ _ ((rd_T132 l0_8 x5_2).f5) _ _ ((rd_T132 l1_8 x5_2).f5) _ _ ?side1 ?side2 ?side3 ?side4 A29.out).mono ?_); (case side1 => exact Kd.C_below HR161_5.out (by repeat (first | (with_reducible first | exact HB.out | apply below_alloc | apply pw_below_drewN | apply below_drew1) | exact HB.out))); (case side2 => exact HC161_5.out); (case side3 => exact Kd.C_below HR162_5.out (by repeat (first | (with_reducible first | exact HB.out | apply below_alloc | apply pw_below_drewN | apply below_drew1) | exact HB.out))); (case side4 => exact HC162_5.out); rintro e w' ⟨rfl, ⟨nd, rfl⟩⟩))
                            go_ret
                            exact ⟨by first | rfl | (simp [errW_none, errW_some] <;> rfl) | (simp [*, errW_none, errW_some] <;> rfl), by repeat (first | (with_reducible first | exact HB.out | apply below_alloc | apply pw_below_drewN | apply below_drew1) | exact HB.out)⟩
                        · replace c26 := Bool.eq_false_iff.mpr c26
                          subst c26
                          have H1 : (some false) = some r := by rw [if_neg (show ¬ (false = true) by decide)] at H; exact H
                          clear H
                          have H := H1
                          clear H1
                          obtain rfl := Option.some.inj H
                          try simp only [Act.put, List.setIfInBounds_toArray, List.set_cons_zero, List.set_cons_succ]
                          go_wp2_with (first | (go_at_call 105; (with_reducible refine (spec_l16SameInts.calls k2 _ _ ((rd_T132 l0_8 x5_2).f1) _ _ ((rd_T132 l1_8 x5_2).f1) _ _ ?side1 ?side2 ?side3 ?side4 A25.out).mono ?_); (case side1 => exact Kd.C_below HR161_1.out (by repeat (first | (with_reducible first | exact HB.out | apply below_alloc | apply pw_below_drewN | apply below_drew1) | exact HB.out))); (case side2 => exact HC161_1.out); (case side3 => exact Kd.C_below HR162_1.out (by repeat (first | (with_reducible first | exact HB.out | apply below_alloc | apply pw_below_drewN | apply below_drew1) | exact HB.out))); (case side4 => exact HC162_1.out); rintro e w' ⟨rfl, ⟨nd, rfl⟩⟩) | (go_at_call 105; (with_reducible refine (spec_l16SameInts.calls k2 _ _ ((rd_T132 l0_8 x5_2).f4) _ _ ((rd_T132 l1_8 x5_2).f4) _ _ ?side1 ?side2 ?side3 ?side4 A27.out).mono ?_); (case side1 => exact Kd.C_below HR161_4.out (by repeat (first | (with_reducible first | exact HB.out | apply below_alloc | apply pw_below_drewN | apply below_drew1) | exact HB.out))); (case side2 => exact HC161_4.out); (case side3 => exact Kd.C_below HR162_4.out (by repeat (first | (with_reducible first | exact HB.out | apply below_alloc | apply pw_below_drewN | apply below_drew1) | exact HB.out))); (case side4 => exact HC162_4.out); rintro e w' ⟨rfl, ⟨nd, rfl⟩⟩) | (go_at_call 106; (with_reducible refine (spec_l16SameTexts.calls k2 _ _ ((rd_T132 l0_8 x5_2).f5) _ _ ((rd_T132 l1_8 x5_2).f5) _ _ ?side1 ?side2 ?side3 ?side4 A29.out).mono ?_); (case side1 => exact Kd.C_below HR161_5.out (by repeat (first | (with_reducible first | exact HB.out | apply below_alloc | apply pw_below_drewN | apply below_drew1) | exact HB.out))); (case side2 => exact HC161_5.out); (case side3 => exact Kd.C_below HR162_5.out (by repeat (first | (with_reducible first | exact HB.out | apply below_alloc | apply pw_below_drewN | apply below_drew1) | exact HB.out))); (case side4 => exact HC162_5.out); rintro e w' ⟨rfl, ⟨nd, rfl⟩⟩))
                          go_ret
                          exact ⟨by first | rfl | (simp [errW_none, errW_some] <;> rfl) | (simp [*, errW_none, errW_some] <;> rfl), by repeat (first | (with_reducible first | exact HB.out | apply below_alloc | apply pw_below_drewN | apply below_drew1) | exact HB.out)⟩
                      · rw [if_neg c24] at H
                        have c24b0 : (((rd_T132 l0_8 x5_2).f3) == ((rd_T132 l1_8 x5_2).f3)) = false := beq_eq_false_iff_ne.mpr c24
                        have c24b1 : (((rd_T132 l0_8 x5_2).f3) != ((rd_T132 l1_8 x5_2).f3)) = true := bne_iff_ne.mpr c24
                        obtain rfl := Option.some.inj H
                        try simp only [Act.put, List.setIfInBounds_toArray, List.set_cons_zero, List.set_cons_succ]
                        go_wp2_with (first | (go_at_call 105; (with_reducible refine (spec_l16SameInts.calls k2 _ _ ((rd_T132 l0_8 x5_2).f1) _ _ ((rd_T132 l1_8 x5_2).f1) _ _ ?side1 ?side2 ?side3 ?side4 A25.out).mono ?_); (case side1 => exact Kd.C_below HR161_1.out (by repeat (first | (with_reducible first | exact HB.out | apply below_alloc | apply pw_below_drewN | apply below_drew1) | exact HB.out))); (case side2 => exact HC161_1.out); (case side3 => exact Kd.C_below HR162_1.out (by repeat (first | (with_reducible first | exact HB.out | apply below_alloc | apply pw_below_drewN | apply below_drew1) | exact HB.out))); (case side4 => exact HC162_1.out); rintro e w' ⟨rfl, ⟨nd, rfl⟩⟩) | (go_at_call 105; (with_reducible refine (spec_l16SameInts.calls k2 _ _ ((rd_T132 l0_8 x5_2).f4) _ _ ((rd_T132 l1_8 x5_2).f4) _ _ ?side1 ?side2 ?side3 ?side4 A27.out).mono ?_); (case side1 => exact Kd.C_below HR161_4.out (by repeat (first | (with_reducible first | exact HB.out | apply below_alloc | apply pw_below_drewN | apply below_drew1) | exact HB.out))); (case side2 => exact HC161_4.out); (case side3 => exact Kd.C_below HR162_4.out (by repeat (first | (with_reducible first | exact HB.out | apply below_alloc | apply pw_below_drewN | apply below_drew1) | exact HB.out))); (case side4 => exact HC162_4.out); rintro e w' ⟨rfl, ⟨nd, rfl⟩⟩) | (go_at_call 106; (with_reducible refine (spec_l16SameTexts.calls k2 _ _ ((rd_T132 l0_8 x5_2).f5) _ _ ((rd_T132 l1_8 x5_2).f5) _ _ ?side1 ?side2 ?side3 ?side4 A29.out).mono ?_); (case side1 => exact Kd.C_below HR161_5.out (by repeat (first | (with_reducible first | exact HB.out | apply below_alloc | apply pw_below_drewN | apply below_drew1) | exact HB.out))); (case side2 => exact HC161_5.out); (case side3 => exact Kd.C_below HR162_5.out (by repeat (first | (with_reducible first | exact HB.out | apply below_alloc | apply pw_below_drewN | apply below_drew1) | exact HB.out))); (case side4 => exact HC162_5.out); rintro e w' ⟨rfl, ⟨nd, rfl⟩⟩))
                        go_ret
                        exact ⟨by first | rfl | (simp [errW_none, errW_some] <;> rfl) | (simp [*, errW_none, errW_some] <;> rfl), by repeat (first | (with_reducible first | exact HB.out | apply below_alloc | apply pw_below_drewN | apply below_drew1) | exact HB.out)⟩
                    · rw [if_neg c23] at H
                      have c23b0 : (((rd_T132 l0_8 x5_2).f2) == ((rd_T132 l1_8 x5_2).f2)) = false := beq_eq_false_iff_ne.mpr c23
                      have c23b1 : (((rd_T132 l0_8 x5_2).f2) != ((rd_T132 l1_8 x5_2).f2)) = true := bne_iff_ne.mpr c23
                      obtain rfl := Option.some.inj H
                      try simp only [Act.put, List.setIfInBounds_toArray, List.set_cons_zero, List.set_cons_succ]
                      go_wp2_with (first | (go_at_call 105; (with_reducible refine (spec_l16SameInts.calls k2 _ _ ((rd_T132 l0_8 x5_2).f1) _ _ ((rd_T132 l1_8 x5_2).f1) _ _ ?side1 ?side2 ?side3 ?side4 A25.out).mono ?_); (case side1 => exact Kd.C_below HR161_1.out (by repeat (first | (with_reducible first | exact HB.out | apply below_alloc | apply pw_below_drewN | apply below_drew1) | exact HB.out))); (case side2 => exact HC161_1.out); (case side3 => exact Kd.C_below HR162_1.out (by repeat (first | (with_reducible first | exact HB.out | apply below_alloc | apply pw_below_drewN | apply below_drew1) | exact HB.out))); (case side4 => exact HC162_1.out); rintro e w' ⟨rfl, ⟨nd, rfl⟩⟩) | (go_at_call 105; (with_reducible refine (spec_l16SameInts.calls k2 _ _ ((rd_T132 l0_8 x5_2).f4) _ _ ((rd_T132 l1_8 x5_2).f4) _ _ ?side1 ?side2 ?side3 ?side4 A27.out).mono ?_); (case side1 => exact Kd.C_below HR161_4.out (by repeat (first | (with_reducible first | exact HB.out | apply below_alloc | apply pw_below_drewN | apply below_drew1) | exact HB.out))); (case side2 => exact HC161_4.out); (case side3 => exact Kd.C_below HR162_4.out (by repeat (first | (with_reducible first | exact HB.out | apply below_alloc | apply pw_below_drewN | apply below_drew1) | exact HB.out))); (case side4 => exact HC162_4.out); rintro e w' ⟨rfl, ⟨nd, rfl⟩⟩) | (go_at_call 106; (with_reducible refine (spec_l16SameTexts.calls k2 _ _ ((rd_T132 l0_8 x5_2).f5) _ _ ((rd_T132 l1_8 x5_2).f5) _ _ ?side1 ?side2 ?side3 ?side4 A29.out).mono ?_); (case side1 => exact Kd.C_below HR161_5.out (by repeat (first | (with_reducible first | exact HB.out | apply below_alloc | apply pw_below_drewN | apply below_drew1) | exact HB.out))); (case side2 => exact HC161_5.out); (case side3 => exact Kd.C_below HR162_5.out (by repeat (first | (with_reducible first | exact HB.out | apply below_alloc | apply pw_below_drewN | apply below_drew1) | exact HB.out))); (case side4 => exact HC162_5.out); rintro e w' ⟨rfl, ⟨nd, rfl⟩⟩))
                      go_ret
                      exact ⟨by first | rfl | (simp [errW_none, errW_some] <;> rfl) | (simp [*, errW_none, errW_some] <;> rfl), by repeat (first | (with_reducible first | exact HB.out | apply below_alloc | apply pw_below_drewN | apply below_drew1) | exact HB.out)⟩
                  · rw [if_neg c22] at H
                    have c22b0 : (((rd_T132 l0_8 x5_2).f0) == ((rd_T132 l1_8 x5_2).f0)) = false := beq_eq_false_iff_ne.mpr c22
                    have c22b1 : (((rd_T132 l0_8 x5_2).f0) != ((rd_T132 l1_8 x5_2).f0)) = true := bne_iff_ne.mpr c22
                    obtain rfl := Option.some.inj H
                    try simp only [Act.put, List.setIfInBounds_toArray, List.set_cons_zero, List.set_cons_succ]
                    go_wp2_with (first | (go_at_call 105; (with_reducible refine (spec_l16SameInts.calls k2 _ _ ((rd_T132 l0_8 x5_2).f1) _ _ ((rd_T132 l1_8 x5_2).f1) _ _ ?side1 ?side2 ?side3 ?side4 A25.out).mono ?_); (case side1 => exact Kd.C_below HR161_1.out (by repeat (first | (with_reducible first | exact HB.out | apply below_alloc | apply pw_below_drewN | apply below_drew1) | exact HB.out))); (case side2 => exact HC161_1.out); (case side3 => exact Kd.C_below HR162_1.out (by repeat (first | (with_reducible first | exact HB.out | apply below_alloc | apply pw_below_drewN | apply below_drew1) | exact HB.out))); (case side4 => exact HC162_1.out); rintro e w' ⟨rfl, ⟨nd, rfl⟩⟩) | (go_at_call 105; (with_reducible refine (spec_l16SameInts.calls k2 _ _ ((rd_T132 l0_8 x5_2).f4) _ _ ((rd_T132 l1_8 x5_2).f4) _ _ ?side1 ?side2 ?side3 ?side4 A27.out).mono ?_); (case side1 => exact Kd.C_below HR161_4.out (by repeat (first | (with_reducible first | exact HB.out | apply below_alloc | apply pw_below_drewN | apply below_drew1) | exact HB.out))); (case side2 => exact HC161_4.out); (case side3 => exact Kd.C_below HR162_4.out (by repeat (first | (with_reducible first | exact HB.out | apply below_alloc | apply pw_below_drewN | apply below_drew1) | exact HB.out))); (case side4 => exact HC162_4.out); rintro e w' ⟨rfl, ⟨nd, rfl⟩⟩) | (go_at_call 106; (with_reducible refine (spec_l16SameTexts.calls k2 _ _ ((rd_T132 l0_8 x5_2).f5) _ _ ((rd_T132 l1_8 x5_2).f5) _ _ ?side1 ?side2 ?side3 ?side4 A29.out).mono ?_); (case side1 => exact Kd.C_below HR161_5.out (by repeat (first | (with_reducible first | exact HB.out | apply below_alloc | apply pw_below_drewN | apply below_drew1) | exact HB.out))); (case side2 => exact HC161_5.out); (case side3 => exact Kd.C_below HR162_5.out (by repeat (first | (with_reducible first | exact HB.out | apply below_alloc | apply pw_below_drewN | apply below_drew1) | exact HB.out))); (case side4 => exact HC162_5.out); rintro e w' ⟨rfl, ⟨nd, rfl⟩⟩))
                    go_ret
                    exact ⟨by first | rfl | (simp [errW_none, errW_some] <;> rfl) | (simp [*, errW_none, errW_some] <;> rfl), by repeat (first | (with_reducible first | exact HB.out | apply below_alloc | apply pw_below_drewN | apply below_drew1) | exact HB.out)⟩
                · rw [if_neg c21] at H
                  exact absurd H (by simp)
              · rw [if_neg c20] at H
                exact absurd H (by simp)
            · rw [if_neg c19] at H
              have c19b0 : decide (x5_2 < (l0_8.length : Int)) = false := decide_eq_false c19
              clear c19
              obtain rfl := Option.some.inj H
              have hnb206 := NB158_159.out
              have hnc206 := NB159_158.out
              have hcz207_0 : wr.cell? ⟨gb158, 0, none⟩ = some (.int .i64 a0_0) := (blk_cell BK158.out 0).trans rfl
              have hcz207_1 : wr.cell? ⟨gb158, 1, none⟩ = some (.int .i64 a0_1) := (blk_cell BK158.out 1).trans rfl
              have hcz207_2 : wr.cell? ⟨gb158, 2, none⟩ = some (.int .i64 a0_2) := (blk_cell BK158.out 2).trans rfl
              have hcz207_3 : wr.cell? ⟨gb158, 3, none⟩ = some (.slice A0_3 l0_3.length c0_3) := (blk_cell BK158.out 3).trans rfl
              have hcz207_4 : wr.cell? ⟨gb158, 4, none⟩ = some (.int .i64 a0_4) := (blk_cell BK158.out 4).trans rfl
              have hcz207_5 : wr.cell? ⟨gb158, 5, none⟩ = some (.int .i64 a0_5) := (blk_cell BK158.out 5).trans rfl
              have hcz207_6 : wr.cell? ⟨gb158, 6, none⟩ = some (.bool a0_6) := (blk_cell BK158.out 6).trans rfl
              have hcz207_7 : wr.cell? ⟨gb158, 7, none⟩ = some (.int .i64 a0_7) := (blk_cell BK158.out 7).trans rfl
              have hcz207_8 : wr.cell? ⟨gb158, 8, none⟩ = some (.slice A0_8 l0_8.length c0_8) := (blk_cell BK158.out 8).trans rfl
              have hfz207_0 := blk_frozen BK158.out 0
              have hfz207_1 := blk_frozen BK158.out 1
              have hfz207_2 := blk_frozen BK158.out 2
              have hfz207_3 := blk_frozen BK158.out 3
              have hfz207_4 := blk_frozen BK158.out 4
              have hfz207_5 := blk_frozen BK158.out 5
              have hfz207_6 := blk_frozen BK158.out 6
              have hfz207_7 := blk_frozen BK158.out 7
              have hfz207_8 := blk_frozen BK158.out 8
              go_wp2
              go_ret
              exact ⟨by first | rfl | (simp [errW_none, errW_some] <;> rfl) | (simp [*, errW_none, errW_some] <;> rfl), by repeat (first | (with_reducible first | exact HB.out | apply below_alloc | apply pw_below_drewN | apply below_drew1 | refine below_set ?_ GE158.out | refine below_set ?_ GE159.out) | exact HB.out)⟩

end Go.Proofs.Ytaecdlhomihejaa.Q
