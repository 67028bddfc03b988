/- The program's SameFlash: slices.EqualFunc over blocks, and the contract. Conditions: those before each theorem. -/
import Derived.Test.YtaecdlhomihejaaEqStr
import Derived.Test.YtaecdlhomihejaaQ8
import Derived.Shelf.Abstract
namespace Go.Proofs.Ytaecdlhomihejaa.Q
open Go.RowKit Go.Proofs.YtaecdlhomihejaaW.PrintWords Go.Proofs.YtaecdlhomihejaaW.PrintMore Go.Proofs.YtaecdlhomihejaaW.PrintLast
set_option linter.unusedVariables false
def sameB (x y : S120) : Bool := decide (x.f0 = y.f0) && (decide (x.f1 = y.f1) && (x.f2 == y.f2 && decide (x.f3 = y.f3)))
theorem sameB_ev (x y : S120) (hb : x.f3.length ≤ 9223372036854775807) : Ev (fun k => impl_sameBlock.f k x.f0 x.f1 x.f2 x.f3 y.f0 y.f1 y.f2 y.f3) (sameB x y) := by
  unfold impl_sameBlock.f sameB
  by_cases h0 : x.f0 = y.f0
  · rw [decide_eq_true h0, Bool.true_and]
    refine Ev.if_pos h0 ?_
    by_cases h1 : x.f1 = y.f1
    · rw [decide_eq_true h1, Bool.true_and]
      refine Ev.if_pos h1 ?_
      by_cases h2 : (x.f2 == y.f2) = true
      · rw [show (x.f2 == y.f2 && decide (x.f3 = y.f3)) = decide (x.f3 = y.f3) from by rw [h2, Bool.true_and]]
        exact Ev.if_pos h2 (Ev.bind (equalStr_ev x.f3 y.f3 hb) (Ev.now _))
      · rw [show (x.f2 == y.f2 && decide (x.f3 = y.f3)) = false from by rw [Bool.eq_false_iff.2 h2, Bool.false_and]]
        exact Ev.if_neg h2 (Ev.now _)
    · rw [decide_eq_false h1, Bool.false_and]
      exact Ev.if_neg h1 (Ev.now _)
  · rw [decide_eq_false h0, Bool.false_and]
    exact Ev.if_neg h0 (Ev.now _)
set_option maxHeartbeats 4000000 in
set_option maxRecDepth 100000 in
theorem eqB_calls (A : Option Addr) (c : Nat) (xs : List S120) (A' : Option Addr) (c' : Nat) (ys : List S120) (w : World) (hr : Kd.C k120 w A xs.length xs) (hc : xs.length ≤ c) (hr' : Kd.C k120 w A' ys.length ys) (hc' : ys.length ≤ c') :
    Calls Try.prog 168 #[.slice A xs.length c, .slice A' ys.length c', .func (.func 169) #[] #[]] w fun e w' => e = .returned (.bool (eqAll sameB xs ys)) ∧ Below w.heap.size w w' := by
  have hbig := hr.2.1
  have hu := Try.underlying120
  have eg : ∀ args w, (callFunc 169 args).run Try.prog w = .ok (.enter 169 args) w := enters_of Try.func169 (by kernel_rfl) rfl
  by_cases hl : xs.length = ys.length
  · rw [hl]
    go_enter Try.func168, Try.ntmps168
    go_wp2
    go_loopg [17] ys.length (fun gg s17 wr => ∃ kk : Nat, kk ≤ ys.length ∧ ys.length - kk ≤ gg ∧ s17 = .int .i64 kk ∧ Aside0 (Below w.heap.size w wr) ∧ Aside0 (eqAll sameB (xs.drop kk) (ys.drop kk) = eqAll sameB xs ys))
    case atStart => exact ⟨0, Nat.zero_le _, by omega, rfl, ⟨Below.refl _ w⟩, ⟨rfl⟩⟩
    case round =>
      obtain ⟨kk, hkk, hg, rfl, BW, HE⟩ := hrel
      by_cases hlt : kk < ys.length
      · obtain ⟨ad, A3, c3, hA, e0, e1, e2, e3, hl3, hC3⟩ := at_T120 (Kd.C_below hr BW.out) (kk : Int) (by omega) (by omega)
        obtain ⟨ad2, A4, c4, hA2, d0, d1, d2, d3, hl4, hC4⟩ := at_T120 (Kd.C_below hr' BW.out) (kk : Int) (by omega) (by omega)
        subst hA hA2
        rw [Int.toNat_natCast, show rd_T120 xs (kk : Int) = xs[kk] from by simp [rd_T120, hl, hlt]] at e0 e1 e2 e3
        rw [show rd_T120 xs (kk : Int) = xs[kk] from by simp [rd_T120, hl, hlt]] at hl3 hC3
        rw [Int.toNat_natCast, show rd_T120 ys (kk : Int) = ys[kk] from by simp [rd_T120, hlt]] at d0 d1 d2 d3
        rw [show rd_T120 ys (kk : Int) = ys[kk] from by simp [rd_T120, hlt]] at hl4 hC4
        have hlti : (kk : Int) < (ys.length : Int) := by omega
        have hltx : (kk : Int) < (xs.length : Int) := by omega
        have hD := eqAll_drop sameB xs ys kk (by omega) hlt
        rw [HE.out] at hD
        have HD := Aside0.mk hD
        clear hD
        have hbig3 := hC3.2.1
        have hcall : Aside0 (∀ W, Below wr.heap.size wr W → Calls Try.prog 169 #[.agg #[.int .i64 xs[kk].f0, .int .i64 xs[kk].f1, .bool xs[kk].f2, .slice A3 xs[kk].f3.length c3], .agg #[.int .i64 ys[kk].f0, .int .i64 ys[kk].f1, .bool ys[kk].f2, .slice A4 ys[kk].f3.length c4]] W fun e w' => e = .returned (.bool (sameB xs[kk] ys[kk])) ∧ Below W.heap.size W w') := by
          obtain ⟨K, hK⟩ := sameB_ev xs[kk] ys[kk] hbig3
          exact ⟨fun W hW => impl_sameBlock.calls K xs[kk].f0 xs[kk].f1 xs[kk].f2 A3 c3 xs[kk].f3 ys[kk].f0 ys[kk].f1 ys[kk].f2 A4 c4 ys[kk].f3 _ W (Kd.C_below hC3 hW) hl3 (Kd.C_below hC4 hW) hl4 (hK K (Nat.le_refl _))⟩
        have HR := Aside0.mk hr
        have HR' := Aside0.mk hr'
        clear hr hr' hl3 hC3 hl4 hC4 hbig3
        have o0 := fun o => ((below_alloc (Below.refl wr.heap.size wr) o).cell (World.block_lt_of_cell? _ _ d0)).trans d0
        have o1 := fun o => ((below_alloc (Below.refl wr.heap.size wr) o).cell (World.block_lt_of_cell? _ _ d1)).trans d1
        have o2 := fun o => ((below_alloc (Below.refl wr.heap.size wr) o).cell (World.block_lt_of_cell? _ _ d2)).trans d2
        have o3 := fun o => ((below_alloc (Below.refl wr.heap.size wr) o).cell (World.block_lt_of_cell? _ _ d3)).trans d3
        clear d0 d1 d2 d3
        generalize xs[kk] = x at e0 e1 e2 e3 hcall HD
        generalize ys[kk] = y at o0 o1 o2 o3 hcall HD
        cases hq : sameB x y with
        | true =>
          rw [hq] at hcall HD
          clear hq
          go_wp2_with (go_at_fn 169; refine (hcall.out _ ?hbw).mono ?_; (case hbw => repeat (first | exact Below.refl _ _ | apply below_alloc | apply pw_below_drewN | apply below_drew1)); rintro e w' ⟨rfl, hb'⟩)
          go_roundg (ys.length - (kk + 1))
          case measure => omega
          case rel => exact ⟨kk + 1, by omega, by omega, by go_num, ⟨by repeat (first | exact BW.out | refine below_step ?_ hb' | apply below_alloc)⟩, ⟨by rw [HD.out, Bool.true_and]⟩⟩
        | false =>
          rw [hq] at hcall HD
          clear hq
          go_wp2_with (go_at_fn 169; refine (hcall.out _ ?hbw).mono ?_; (case hbw => repeat (first | exact Below.refl _ _ | apply below_alloc | apply pw_below_drewN | apply below_drew1)); rintro e w' ⟨rfl, hb'⟩)
          go_ret
          exact ⟨by rw [HD.out, Bool.false_and]; rfl, by repeat (first | exact BW.out | refine below_step ?_ hb' | apply below_alloc)⟩
      · have hlti : ¬ (kk : Int) < (ys.length : Int) := by omega
        have hk : kk = ys.length := by omega
        have HM : Aside0 (eqAll sameB xs ys = true) := ⟨by rw [← HE.out, List.drop_of_length_le (by omega), List.drop_of_length_le (by omega)]; rfl⟩
        clear hk
        go_wp2
        go_ret
        exact ⟨by rw [HM.out]; rfl, BW.out⟩
  · have hlb : ((xs.length : Int) != (ys.length : Int)) = true := by simp; omega
    have hle : ¬ (xs.length : Int) = (ys.length : Int) := by omega
    have HM := Aside0.mk (eqAll_len (p := sameB) hl)
    go_enter Try.func168, Try.ntmps168
    go_wp2
    go_ret
    exact ⟨by rw [HM.out]; rfl, Below.refl _ _⟩
def sameFl (a0_0 a0_1 a0_2 : Int) (l0_3 : List S120) (a0_4 a0_5 : Int) (a0_6 : Bool) (a0_7 : Int) (a1_0 a1_1 a1_2 : Int) (l1_3 : List S120) (a1_4 a1_5 : Int) (a1_6 : Bool) (a1_7 : Int) : Bool :=
  decide (a0_0 = a1_0 ∧ a0_1 = a1_1 ∧ a0_2 = a1_2) && (eqAll sameB l0_3 l1_3 && (decide (a0_4 = a1_4) && (decide (a0_5 = a1_5) && (decide (a0_6 = a1_6) && decide (a0_7 = a1_7)))))
def impl_SameFlash.f (a0_0 a0_1 a0_2 : Int) (l0_3 : List S120) (a0_4 a0_5 : Int) (a0_6 : Bool) (a0_7 : Int) (a1_0 a1_1 a1_2 : Int) (l1_3 : List S120) (a1_4 a1_5 : Int) (a1_6 : Bool) (a1_7 : Int) : Option Bool :=
  some (sameFl a0_0 a0_1 a0_2 l0_3 a0_4 a0_5 a0_6 a0_7 a1_0 a1_1 a1_2 l1_3 a1_4 a1_5 a1_6 a1_7)
set_option linter.unusedSimpArgs false in
set_option maxHeartbeats 8000000 in
set_option maxRecDepth 100000 in
theorem impl_SameFlash.calls (a0_0 a0_1 a0_2 : Int) (A0_3 : Option Addr) (c0_3 : Nat) (l0_3 : List S120) (a0_4 a0_5 : Int) (a0_6 : Bool) (a0_7 : Int) (a1_0 a1_1 a1_2 : Int) (A1_3 : Option Addr) (c1_3 : Nat) (l1_3 : List S120) (a1_4 a1_5 : Int) (a1_6 : Bool) (a1_7 : Int) (r : Bool) (w : World) (hr0_3 : Kd.C k120 w A0_3 l0_3.length l0_3) (hc0_3 : l0_3.length ≤ c0_3) (hr1_3 : Kd.C k120 w A1_3 l1_3.length l1_3) (hc1_3 : l1_3.length ≤ c1_3) (h : impl_SameFlash.f a0_0 a0_1 a0_2 l0_3 a0_4 a0_5 a0_6 a0_7 a1_0 a1_1 a1_2 l1_3 a1_4 a1_5 a1_6 a1_7 = some r) :
    Calls Try.prog 108 #[.agg #[.int .i64 a0_0, .int .i64 a0_1, .int .i64 a0_2, .slice A0_3 l0_3.length c0_3, .int .i64 a0_4, .int .i64 a0_5, .bool a0_6, .int .i64 a0_7], .agg #[.int .i64 a1_0, .int .i64 a1_1, .int .i64 a1_2, .slice A1_3 l1_3.length c1_3, .int .i64 a1_4, .int .i64 a1_5, .bool a1_6, .int .i64 a1_7]] w fun e w' => e = .returned (.bool r) ∧ Below w.heap.size w w' := by
  obtain rfl := Option.some.inj h
  clear h
  have hu2 := Try.underlying37
  have hu3 := Try.underlying40
  have HEQ : Aside0 (∀ W, Below w.heap.size w W → Calls Try.prog 168 #[.slice A0_3 l0_3.length c0_3, .slice A1_3 l1_3.length c1_3, .func (.func 169) #[] #[]] W fun e w' => e = .returned (.bool (eqAll sameB l0_3 l1_3)) ∧ Below W.heap.size W w') := ⟨fun W hW => eqB_calls A0_3 c0_3 l0_3 A1_3 c1_3 l1_3 W (Kd.C_below hr0_3 hW) hc0_3 (Kd.C_below hr1_3 hW) hc1_3⟩
  clear hr0_3 hc0_3 hr1_3 hc1_3
  unfold sameFl
  by_cases hg : a0_0 = a1_0 ∧ a0_1 = a1_1 ∧ a0_2 = a1_2
  · obtain ⟨rfl, rfl, rfl⟩ := hg
    rw [decide_eq_true (⟨rfl, rfl, rfl⟩ : a0_0 = a0_0 ∧ a0_1 = a0_1 ∧ a0_2 = a0_2), Bool.true_and]
    cases hE : eqAll sameB l0_3 l1_3 with
    | false =>
      rw [hE] at HEQ
      clear hE
      go_enter Try.func108, Try.ntmps108
      go_wp2_with (go_at_call 168; refine (HEQ.out _ ?hbw).mono ?_; (case hbw => repeat (first | exact Below.refl _ _ | apply below_alloc | apply pw_below_drewN | apply below_drew1)); rintro e w1 ⟨rfl, hb1⟩)
      go_ret
      exact ⟨rfl, by repeat (first | exact Below.refl _ _ | refine below_step ?_ hb1 | apply below_alloc)⟩
    | true =>
      rw [hE] at HEQ
      clear hE
      have HX := Aside0.mk (blk_alloc (blk_new w (.cells #[.int .i64 a0_0, .int .i64 a0_1, .int .i64 a0_2, .slice A0_3 l0_3.length c0_3, .int .i64 a0_4, .int .i64 a0_5, .bool a0_6, .int .i64 a0_7] 40)) (.cells #[.int .i64 a0_0, .int .i64 a0_1, .int .i64 a0_2, .slice A1_3 l1_3.length c1_3, .int .i64 a1_4, .int .i64 a1_5, .bool a1_6, .int .i64 a1_7] 40))
      have HY : Aside0 (((w.alloc (.cells #[.int .i64 a0_0, .int .i64 a0_1, .int .i64 a0_2, .slice A0_3 l0_3.length c0_3, .int .i64 a0_4, .int .i64 a0_5, .bool a0_6, .int .i64 a0_7] 40)).alloc (.cells #[.int .i64 a0_0, .int .i64 a0_1, .int .i64 a0_2, .slice A1_3 l1_3.length c1_3, .int .i64 a1_4, .int .i64 a1_5, .bool a1_6, .int .i64 a1_7] 40)).heap[w.heap.size + 1]? = some (.cells #[.int .i64 a0_0, .int .i64 a0_1, .int .i64 a0_2, .slice A1_3 l1_3.length c1_3, .int .i64 a1_4, .int .i64 a1_5, .bool a1_6, .int .i64 a1_7] 40)) := ⟨by have := blk_new (w.alloc (.cells #[.int .i64 a0_0, .int .i64 a0_1, .int .i64 a0_2, .slice A0_3 l0_3.length c0_3, .int .i64 a0_4, .int .i64 a0_5, .bool a0_6, .int .i64 a0_7] 40)) (.cells #[.int .i64 a0_0, .int .i64 a0_1, .int .i64 a0_2, .slice A1_3 l1_3.length c1_3, .int .i64 a1_4, .int .i64 a1_5, .bool a1_6, .int .i64 a1_7] 40); rwa [World.size_alloc] at this⟩
      go_enter Try.func108, Try.ntmps108
      go_wp2_with (go_at_call 168; refine (HEQ.out _ ?hbw).mono ?_; (case hbw => repeat (first | exact Below.refl _ _ | apply below_alloc | apply pw_below_drewN | apply below_drew1)); rintro e w1 ⟨rfl, hb1⟩; have b1 := blk_below HX.out hb1; have b2 := blk_below HY.out hb1; have q4 := (blk_cell b1 4).trans rfl; have p4 := (blk_cell b2 4).trans rfl; have q5 := (blk_cell b1 5).trans rfl; have p5 := (blk_cell b2 5).trans rfl; have q6 := (blk_cell b1 6).trans rfl; have p6 := (blk_cell b2 6).trans rfl; have q7 := (blk_cell b1 7).trans rfl; have p7 := (blk_cell b2 7).trans rfl; clear b1 b2)
      all_goals (go_ret)
      all_goals exact ⟨by first | rfl | (simp [*] <;> rfl) | (simp [*]; done), by repeat (first | exact Below.refl _ _ | refine below_step ?_ hb1 | apply below_alloc)⟩
  · rw [decide_eq_false hg, Bool.false_and]
    go_enter Try.func108, Try.ntmps108
    go_wp2_with (go_at_call 168; refine (HEQ.out _ ?hbw).mono ?_; (case hbw => repeat (first | exact Below.refl _ _ | apply below_alloc | apply pw_below_drewN | apply below_drew1)); rintro e w1 ⟨rfl, hb1⟩)
    all_goals first | (exfalso; simp_all; done) | (go_ret; exact ⟨by first | rfl | (simp [*] <;> rfl) | (simp [*]; done), by repeat (first | exact Below.refl _ _ | apply below_alloc)⟩)
end Go.Proofs.Ytaecdlhomihejaa.Q
