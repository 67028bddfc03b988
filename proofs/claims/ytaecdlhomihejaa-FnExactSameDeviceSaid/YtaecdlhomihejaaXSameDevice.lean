/- The program's SameDevice: slices.EqualFunc over zones, and the contract. Conditions: those before each theorem. -/
import Derived.Test.YtaecdlhomihejaaSameZ
import Derived.Test.YtaecdlhomihejaaXSameFlash
import Derived.Shelf.Abstract
namespace Go.Proofs.Ytaecdlhomihejaa.Q
open Go.RowKit Go.Proofs.YtaecdlhomihejaaW.PrintWords Go.Proofs.YtaecdlhomihejaaW.PrintMore Go.Proofs.YtaecdlhomihejaaW.PrintLast
set_option linter.unusedVariables false
set_option maxHeartbeats 4000000 in
set_option maxRecDepth 100000 in
theorem eqZ_calls (A : Option Addr) (c : Nat) (xs : List S132) (A' : Option Addr) (c' : Nat) (ys : List S132) (w : World) (hr : Kd.C k132 w A xs.length xs) (hc : xs.length ≤ c) (hr' : Kd.C k132 w A' ys.length ys) (hc' : ys.length ≤ c') :
    Calls Try.prog 109 #[.slice A xs.length c, .slice A' ys.length c', .func (.func 110) #[] #[]] w fun e w' => e = .returned (.bool (eqAll sameZ xs ys)) ∧ Below w.heap.size w w' := by
  have hbig := hr.2.1
  have hu := Try.underlying132
  have eg : ∀ args w, (callFunc 110 args).run Try.prog w = .ok (.enter 110 args) w := enters_of Try.func110 (by kernel_rfl) rfl
  by_cases hl : xs.length = ys.length
  · rw [hl]
    go_enter Try.func109, Try.ntmps109
    go_wp2
    go_loopg [17] ys.length (fun gg s17 wr => ∃ kk : Nat, kk ≤ ys.length ∧ ys.length - kk ≤ gg ∧ s17 = .int .i64 kk ∧ Aside0 (Below w.heap.size w wr) ∧ Aside0 (eqAll sameZ (xs.drop kk) (ys.drop kk) = eqAll sameZ xs ys))
    case atStart => exact ⟨0, Nat.zero_le _, by omega, rfl, ⟨Below.refl _ w⟩, ⟨rfl⟩⟩
    case round =>
      obtain ⟨kk, hkk, hg, rfl, BW, HE⟩ := hrel
      by_cases hlt : kk < ys.length
      · obtain ⟨ad, A1, c1, A4, c4, A5, c5, hA, e0, e1, e2, e3, e4, e5, hl1, hC1, hl4, hC4, hl5, hC5⟩ := at_T132 (Kd.C_below hr BW.out) (kk : Int) (by omega) (by omega)
        obtain ⟨ad2, B1, b1, B4, b4, B5, b5, hA2, d0, d1, d2, d3, d4, d5, gl1, gC1, gl4, gC4, gl5, gC5⟩ := at_T132 (Kd.C_below hr' BW.out) (kk : Int) (by omega) (by omega)
        subst hA hA2
        rw [Int.toNat_natCast, show rd_T132 xs (kk : Int) = xs[kk] from by simp [rd_T132, hl, hlt]] at e0 e1 e2 e3 e4 e5
        rw [show rd_T132 xs (kk : Int) = xs[kk] from by simp [rd_T132, hl, hlt]] at hl1 hC1 hl4 hC4 hl5 hC5
        rw [Int.toNat_natCast, show rd_T132 ys (kk : Int) = ys[kk] from by simp [rd_T132, hlt]] at d0 d1 d2 d3 d4 d5
        rw [show rd_T132 ys (kk : Int) = ys[kk] from by simp [rd_T132, hlt]] at gl1 gC1 gl4 gC4 gl5 gC5
        have hlti : (kk : Int) < (ys.length : Int) := by omega
        have hltx : (kk : Int) < (xs.length : Int) := by omega
        have hD := eqAll_drop sameZ xs ys kk (by omega) hlt
        rw [HE.out] at hD
        have HD := Aside0.mk hD
        clear hD
        have hb1 := hC1.2.1
        have hb4 := hC4.2.1
        have hb5 := hC5.2.1
        have hs1 : xs[kk].f1.length ≤ 9223372036854775807 := by omega
        have hs4 : xs[kk].f4.length ≤ 9223372036854775807 := by omega
        have hs5 : xs[kk].f5.length ≤ 9223372036854775807 := by omega
        have hcall : Aside0 (∀ W, Below wr.heap.size wr W → Calls Try.prog 110 #[.agg #[.int .i64 xs[kk].f0, .slice A1 xs[kk].f1.length c1, .int .i64 xs[kk].f2, .int .i64 xs[kk].f3, .slice A4 xs[kk].f4.length c4, .slice A5 xs[kk].f5.length c5], .agg #[.int .i64 ys[kk].f0, .slice B1 ys[kk].f1.length b1, .int .i64 ys[kk].f2, .int .i64 ys[kk].f3, .slice B4 ys[kk].f4.length b4, .slice B5 ys[kk].f5.length b5]] W fun e w' => e = .returned (.bool (sameZ xs[kk] ys[kk])) ∧ Below W.heap.size W w') := by
          obtain ⟨K, hK⟩ := sameZ_ev xs[kk] ys[kk] hs1 hs4 hs5
          exact ⟨fun W hW => impl_sameZone.calls K xs[kk].f0 A1 c1 xs[kk].f1 xs[kk].f2 xs[kk].f3 A4 c4 xs[kk].f4 A5 c5 xs[kk].f5 ys[kk].f0 B1 b1 ys[kk].f1 ys[kk].f2 ys[kk].f3 B4 b4 ys[kk].f4 B5 b5 ys[kk].f5 _ W (Kd.C_below hC1 hW) hl1 (Kd.C_below hC4 hW) hl4 (Kd.C_below hC5 hW) hl5 (Kd.C_below gC1 hW) gl1 (Kd.C_below gC4 hW) gl4 (Kd.C_below gC5 hW) gl5 (hK K (Nat.le_refl _))⟩
        have HR := Aside0.mk hr
        have HR' := Aside0.mk hr'
        clear hr hr' hl1 hC1 hl4 hC4 hl5 hC5 gl1 gC1 gl4 gC4 gl5 gC5 hb1 hb4 hb5 hs1 hs4 hs5
        have o0 := fun o => ((below_alloc (Below.refl wr.heap.size wr) o).cell (World.block_lt_of_cell? _ _ d0)).trans d0
        have o1 := fun o => ((below_alloc (Below.refl wr.heap.size wr) o).cell (World.block_lt_of_cell? _ _ d1)).trans d1
        have o2 := fun o => ((below_alloc (Below.refl wr.heap.size wr) o).cell (World.block_lt_of_cell? _ _ d2)).trans d2
        have o3 := fun o => ((below_alloc (Below.refl wr.heap.size wr) o).cell (World.block_lt_of_cell? _ _ d3)).trans d3
        have o4 := fun o => ((below_alloc (Below.refl wr.heap.size wr) o).cell (World.block_lt_of_cell? _ _ d4)).trans d4
        have o5 := fun o => ((below_alloc (Below.refl wr.heap.size wr) o).cell (World.block_lt_of_cell? _ _ d5)).trans d5
        clear d0 d1 d2 d3 d4 d5
        generalize xs[kk] = x at e0 e1 e2 e3 e4 e5 hcall HD
        generalize ys[kk] = y at o0 o1 o2 o3 o4 o5 hcall HD
        cases hq : sameZ x y with
        | true =>
          rw [hq] at hcall HD
          clear hq
          go_wp2_with (go_at_fn 110; refine (hcall.out _ ?hbw).mono ?_; (case hbw => repeat (first | exact Below.refl _ _ | apply below_alloc | apply pw_below_drewN | apply below_drew1)); rintro e w' ⟨rfl, hb'⟩)
          go_roundg (ys.length - (kk + 1))
          case measure => omega
          case rel => exact ⟨kk + 1, by omega, by omega, by go_num, ⟨by repeat (first | exact BW.out | refine below_step ?_ hb' | apply below_alloc)⟩, ⟨by rw [HD.out, Bool.true_and]⟩⟩
        | false =>
          rw [hq] at hcall HD
          clear hq
          go_wp2_with (go_at_fn 110; refine (hcall.out _ ?hbw).mono ?_; (case hbw => repeat (first | exact Below.refl _ _ | apply below_alloc | apply pw_below_drewN | apply below_drew1)); rintro e w' ⟨rfl, hb'⟩)
          go_ret
          exact ⟨by rw [HD.out, Bool.false_and]; rfl, by repeat (first | exact BW.out | refine below_step ?_ hb' | apply below_alloc)⟩
      · have hlti : ¬ (kk : Int) < (ys.length : Int) := by omega
        have hk : kk = ys.length := by omega
        have HM : Aside0 (eqAll sameZ xs ys = true) := ⟨by rw [← HE.out, List.drop_of_length_le (by omega), List.drop_of_length_le (by omega)]; rfl⟩
        clear hk
        go_wp2
        go_ret
        exact ⟨by rw [HM.out]; rfl, BW.out⟩
  · have hlb : ((xs.length : Int) != (ys.length : Int)) = true := by simp; omega
    have hle : ¬ (xs.length : Int) = (ys.length : Int) := by omega
    have HM := Aside0.mk (eqAll_len (p := sameZ) hl)
    go_enter Try.func109, Try.ntmps109
    go_wp2
    go_ret
    exact ⟨by rw [HM.out]; rfl, Below.refl _ _⟩
def impl_SameDevice.f (a0_0 a0_1 a0_2 : Int) (l0_3 : List S120) (a0_4 a0_5 : Int) (a0_6 : Bool) (a0_7 : Int) (l0_8 : List S132) (a1_0 a1_1 a1_2 : Int) (l1_3 : List S120) (a1_4 a1_5 : Int) (a1_6 : Bool) (a1_7 : Int) (l1_8 : List S132) : Option Bool :=
  some (sameFl a0_0 a0_1 a0_2 l0_3 a0_4 a0_5 a0_6 a0_7 a1_0 a1_1 a1_2 l1_3 a1_4 a1_5 a1_6 a1_7 && eqAll sameZ l0_8 l1_8)
set_option linter.unusedSimpArgs false in
set_option maxHeartbeats 8000000 in
set_option maxRecDepth 100000 in
theorem impl_SameDevice.calls (a0_0 a0_1 a0_2 : Int) (A0_3 : Option Addr) (c0_3 : Nat) (l0_3 : List (S120)) (a0_4 a0_5 : Int) (a0_6 : Bool) (a0_7 : Int) (A0_8 : Option Addr) (c0_8 : Nat) (l0_8 : List (S132)) (a1_0 a1_1 a1_2 : Int) (A1_3 : Option Addr) (c1_3 : Nat) (l1_3 : List (S120)) (a1_4 a1_5 : Int) (a1_6 : Bool) (a1_7 : Int) (A1_8 : Option Addr) (c1_8 : Nat) (l1_8 : List (S132)) (r : Bool) (w : World) (hr0_3 : Kd.C k120 w A0_3 l0_3.length l0_3) (hc0_3 : l0_3.length ≤ c0_3) (hr0_8 : Kd.C k132 w A0_8 l0_8.length l0_8) (hc0_8 : l0_8.length ≤ c0_8) (hr1_3 : Kd.C k120 w A1_3 l1_3.length l1_3) (hc1_3 : l1_3.length ≤ c1_3) (hr1_8 : Kd.C k132 w A1_8 l1_8.length l1_8) (hc1_8 : l1_8.length ≤ c1_8) (h : impl_SameDevice.f a0_0 a0_1 a0_2 l0_3 a0_4 a0_5 a0_6 a0_7 l0_8 a1_0 a1_1 a1_2 l1_3 a1_4 a1_5 a1_6 a1_7 l1_8 = some r) :
    Calls Try.prog 47 #[.agg #[.int .i64 a0_0, .int .i64 a0_1, .int .i64 a0_2, .slice A0_3 l0_3.length c0_3, .int .i64 a0_4, .int .i64 a0_5, .bool a0_6, .int .i64 a0_7, .slice A0_8 l0_8.length c0_8], .agg #[.int .i64 a1_0, .int .i64 a1_1, .int .i64 a1_2, .slice A1_3 l1_3.length c1_3, .int .i64 a1_4, .int .i64 a1_5, .bool a1_6, .int .i64 a1_7, .slice A1_8 l1_8.length c1_8]] w fun e w' => e = .returned (.bool r) ∧ Below w.heap.size w w' := by
  obtain rfl := Option.some.inj h
  clear h
  have hu2 := Try.underlying75
  have HF : Aside0 (∀ W, Below w.heap.size w W → Calls Try.prog 108 #[.agg #[.int .i64 a0_0, .int .i64 a0_1, .int .i64 a0_2, .slice A0_3 l0_3.length c0_3, .int .i64 a0_4, .int .i64 a0_5, .bool a0_6, .int .i64 a0_7], .agg #[.int .i64 a1_0, .int .i64 a1_1, .int .i64 a1_2, .slice A1_3 l1_3.length c1_3, .int .i64 a1_4, .int .i64 a1_5, .bool a1_6, .int .i64 a1_7]] W fun e w' => e = .returned (.bool (sameFl a0_0 a0_1 a0_2 l0_3 a0_4 a0_5 a0_6 a0_7 a1_0 a1_1 a1_2 l1_3 a1_4 a1_5 a1_6 a1_7)) ∧ Below W.heap.size W w') := ⟨fun W hW => impl_SameFlash.calls a0_0 a0_1 a0_2 A0_3 c0_3 l0_3 a0_4 a0_5 a0_6 a0_7 a1_0 a1_1 a1_2 A1_3 c1_3 l1_3 a1_4 a1_5 a1_6 a1_7 _ W (Kd.C_below hr0_3 hW) hc0_3 (Kd.C_below hr1_3 hW) hc1_3 rfl⟩
  have HE : Aside0 (∀ W, Below w.heap.size w W → Calls Try.prog 109 #[.slice A0_8 l0_8.length c0_8, .slice A1_8 l1_8.length c1_8, .func (.func 110) #[] #[]] W fun e w' => e = .returned (.bool (eqAll sameZ l0_8 l1_8)) ∧ Below W.heap.size W w') := ⟨fun W hW => eqZ_calls A0_8 c0_8 l0_8 A1_8 c1_8 l1_8 W (Kd.C_below hr0_8 hW) hc0_8 (Kd.C_below hr1_8 hW) hc1_8⟩
  clear hr0_3 hc0_3 hr1_3 hc1_3 hr0_8 hc0_8 hr1_8 hc1_8
  generalize sameFl a0_0 a0_1 a0_2 l0_3 a0_4 a0_5 a0_6 a0_7 a1_0 a1_1 a1_2 l1_3 a1_4 a1_5 a1_6 a1_7 = u at HF ⊢
  generalize eqAll sameZ l0_8 l1_8 = v at HE ⊢
  have HX := Aside0.mk (blk_alloc (blk_new w (.cells #[.int .i64 a0_0, .int .i64 a0_1, .int .i64 a0_2, .slice A0_3 l0_3.length c0_3, .int .i64 a0_4, .int .i64 a0_5, .bool a0_6, .int .i64 a0_7, .slice A0_8 l0_8.length c0_8] 75)) (.cells #[.int .i64 a1_0, .int .i64 a1_1, .int .i64 a1_2, .slice A1_3 l1_3.length c1_3, .int .i64 a1_4, .int .i64 a1_5, .bool a1_6, .int .i64 a1_7, .slice A1_8 l1_8.length c1_8] 75))
  have HY : Aside0 (((w.alloc (.cells #[.int .i64 a0_0, .int .i64 a0_1, .int .i64 a0_2, .slice A0_3 l0_3.length c0_3, .int .i64 a0_4, .int .i64 a0_5, .bool a0_6, .int .i64 a0_7, .slice A0_8 l0_8.length c0_8] 75)).alloc (.cells #[.int .i64 a1_0, .int .i64 a1_1, .int .i64 a1_2, .slice A1_3 l1_3.length c1_3, .int .i64 a1_4, .int .i64 a1_5, .bool a1_6, .int .i64 a1_7, .slice A1_8 l1_8.length c1_8] 75)).heap[w.heap.size + 1]? = some (.cells #[.int .i64 a1_0, .int .i64 a1_1, .int .i64 a1_2, .slice A1_3 l1_3.length c1_3, .int .i64 a1_4, .int .i64 a1_5, .bool a1_6, .int .i64 a1_7, .slice A1_8 l1_8.length c1_8] 75)) := ⟨by have := blk_new (w.alloc (.cells #[.int .i64 a0_0, .int .i64 a0_1, .int .i64 a0_2, .slice A0_3 l0_3.length c0_3, .int .i64 a0_4, .int .i64 a0_5, .bool a0_6, .int .i64 a0_7, .slice A0_8 l0_8.length c0_8] 75)) (.cells #[.int .i64 a1_0, .int .i64 a1_1, .int .i64 a1_2, .slice A1_3 l1_3.length c1_3, .int .i64 a1_4, .int .i64 a1_5, .bool a1_6, .int .i64 a1_7, .slice A1_8 l1_8.length c1_8] 75); rwa [World.size_alloc] at this⟩
  cases u with
  | false =>
    go_enter Try.func47, Try.ntmps47
    go_wp2_with (go_at_call 108; refine (HF.out _ ?hbw).mono ?_; (case hbw => repeat (first | exact Below.refl _ _ | apply below_alloc | apply pw_below_drewN | apply below_drew1)); rintro e w1 ⟨rfl, hb1⟩; (try simp only [Act.put, List.setIfInBounds_toArray, List.set_cons_zero, List.set_cons_succ]))
    go_ret
    exact ⟨rfl, by repeat (first | exact Below.refl _ _ | refine below_step ?_ hb1 | apply below_alloc)⟩
  | true =>
    go_enter Try.func47, Try.ntmps47
    go_wp2_with (first | (go_at_call 108; refine (HF.out _ ?hbw).mono ?_; (case hbw => repeat (first | exact Below.refl _ _ | apply below_alloc | apply pw_below_drewN | apply below_drew1)); rintro e w1 ⟨rfl, hb1⟩; have b1 := blk_below HX.out hb1; have b2 := blk_below HY.out hb1; have q8 := (blk_cell b1 8).trans rfl; have p8 := (blk_cell b2 8).trans rfl; have HB1 : Aside0 (Below w.heap.size w w1) := ⟨by repeat (first | exact Below.refl _ _ | refine below_step ?_ hb1 | apply below_alloc)⟩; clear b1 b2 HX HY hb1; (try simp only [Act.put, List.setIfInBounds_toArray, List.set_cons_zero, List.set_cons_succ])) | (go_at_call 109; refine (HE.out _ HB1.out).mono ?_; rintro e w2 ⟨rfl, hb2⟩; (try simp only [Act.put, List.setIfInBounds_toArray, List.set_cons_zero, List.set_cons_succ])))
    go_ret
    exact ⟨by first | rfl | (cases v <;> rfl), below_step HB1.out hb2⟩
end Go.Proofs.Ytaecdlhomihejaa.Q
