/- The contract of the program's SavedBytes. Conditions: those before each theorem. -/
import Derived.Test.YtogndjjoeahccaaQ15
import Derived.Test.YtogndjjoeahccaaQ8
import Derived.Test.YtogndjjoeahccaaSharedN
import Derived.Test.YtogndjjoeahccaaEncB
namespace Go.Proofs.Ytogndjjoeahccaa.Q
open Go.RowKit Go.Proofs.YtogndjjoeahccaaW.PrintWords Go.Proofs.YtogndjjoeahccaaW.PrintMore Go.Proofs.YtogndjjoeahccaaW.PrintLast
set_option linter.unusedVariables false
def svN (l : List S49) : Nat → Nat
  | 0 => 0
  | i + 1 => svN l i + nSh l i
theorem svN_le (l : List S49) (h : ∀ j, shortE (rd_T49 l j) = true) : ∀ i, svN l i ≤ i * 1048576
  | 0 => by simp [svN]
  | i + 1 => by
    have h1 := svN_le l h i
    have h2 := nSh_le l i h
    have h3 := (of_decide_eq_true (h (i : Int))).1
    unfold svN
    omega
def impl_SavedBytes.f (k : Nat) (a0 : ByteArray) : Option (Int × Int) := (impl_decodeBlock.f k a0).bind fun t => if t.2 = true then (if t.1.length ≤ 1000 then (if (t.1.all shortE) = true then some ((svN t.1 t.1.length : Int), 0) else none) else none) else some (0, 6)
set_option linter.unusedSimpArgs false in
set_option maxHeartbeats 4000000 in
set_option maxRecDepth 100000 in
theorem impl_SavedBytes.calls (k : Nat) (a0 : ByteArray) (r1 r2 : Int) (w : World) (h : impl_SavedBytes.f k a0 = some (r1, r2)) :
    Calls Try.prog 20 #[.string a0] w fun e w' => e = .returned (.tuple #[.int .i64 r1, .int .i64 r2]) ∧ Below w.heap.size w w' := by
  obtain ⟨⟨l, b⟩, h1, h2⟩ := Option.bind_eq_some_iff.1 h
  have hdc := impl_decodeBlock.calls k a0 l b w h1
  cases b with
  | false =>
    replace h2 : some ((0 : Int), (6 : Int)) = some (r1, r2) := h2
    obtain ⟨rfl, rfl⟩ := Prod.mk.inj (Option.some.inj h2)
    clear h2 h1 h
    go_enter Try.func20, Try.ntmps20
    go_wp2_with (go_at_call 50; refine hdc.mono ?_; rintro e w1 ⟨v, rfl, hv, hb1⟩; obtain ⟨A, cc, rfl⟩ := Kd.R_slice hv; have HB1 := Aside0.mk hb1; clear hv hb1 hdc)
    go_ret2
    exact ⟨rfl, HB1.out⟩
  | true =>
    replace h2 : (if l.length ≤ 1000 then (if (l.all shortE) = true then some ((svN l l.length : Int), (0 : Int)) else none) else none) = some (r1, r2) := h2
    by_cases hl : l.length ≤ 1000
    · rw [if_pos hl] at h2
      by_cases ha : (l.all shortE) = true
      · rw [if_pos ha] at h2
        obtain ⟨rfl, rfl⟩ := Prod.mk.inj (Option.some.inj h2)
        have HA := Aside0.mk (short_all l ha)
        clear h2 h1 h ha
        go_enter Try.func20, Try.ntmps20
        go_wp2_with (go_at_call 50; refine hdc.mono ?_; rintro e w0 ⟨v, rfl, hv, hb1⟩; obtain ⟨A0, cc, rfl⟩ := Kd.R_slice hv; obtain ⟨hnn, hcap, hC⟩ := Kd.R_reads' hv; have HR := Aside0.mk hC; have HB0 := Aside0.mk hb1; clear hv hb1 hdc hC hnn)
        go_loopg [6, 7, 8, 18] l.length (fun gg s6 _ _ s18 wr => ∃ kk : Nat, s6 = .int .i64 ((svN l kk : Nat) : Int) ∧ s18 = .int .i64 (kk : Int) ∧ kk ≤ l.length ∧ l.length - kk ≤ gg ∧ Aside0 (Below w0.heap.size w0 wr))
        case atStart => exact ⟨0, rfl, rfl, Nat.zero_le _, by omega, ⟨Below.refl _ _⟩⟩
        case round =>
          obtain ⟨kk, rfl, rfl, hkk, hg, HB⟩ := hrel
          by_cases hlt : kk < l.length
          · have hlti : (kk : Int) < (l.length : Int) := by omega
            obtain ⟨ad, hA, e0, e1, e2, e3, e4⟩ := at_T49 (Kd.C_below HR.out HB.out) (kk : Int) (by omega) (by omega)
            subst hA
            rw [Int.toNat_natCast] at e0 e1 e2 e3 e4
            have HNS := Aside0.mk (nSh_le l kk HA.out)
            have HSV := Aside0.mk (svN_le l HA.out kk)
            have HSX := Aside0.mk (of_decide_eq_true (HA.out (kk : Int)))
            have HRD : Aside0 (rd_T49 l (kk : Int) = rd_T49 l (kk : Int)) := ⟨rfl⟩
            generalize hx : rd_T49 l (kk : Int) = x at e0 e1 e2 e3 e4 HNS HSX
            have HX_ := Aside0.mk hx
            clear hx HRD
            have HBN : Aside0 ((wr.alloc (.cells #[.string x.f0, .int .i64 x.f1, .int .i64 x.f2, .string x.f3, .string x.f4] 49)).heap[wr.heap.size]? = some (.cells #[.string x.f0, .int .i64 x.f1, .int .i64 x.f2, .string x.f3, .string x.f4] 49 (0, 0))) := ⟨blk_new wr _⟩
            have HB5 : Aside0 (Below wr.heap.size wr (wr.alloc (.cells #[.string x.f0, .int .i64 x.f1, .int .i64 x.f2, .string x.f3, .string x.f4] 49))) := ⟨(Below.refl _ wr).alloc (Nat.le_refl _) _⟩
            have HBW5 := Aside0.mk (HB.out.trans (HB5.out.mono HB.out.size))
            by_cases c4 : kk % 4 = 0
            · have h18 : (((kk : Int) % 4) == 0) = true := beq_iff_eq.2 (by omega)
              have hne : (((kk : Int) % 4) != 0) = false := by rw [bne, h18]; rfl
              have HN0 : Aside0 (svN l (kk + 1) = svN l kk) := ⟨by show svN l kk + nSh l kk = _; rw [show nSh l kk = 0 from if_pos c4, Nat.add_zero]⟩
              clear c4
              go_wp2
              go_roundg (l.length - (kk + 1))
              case measure => omega
              case rel =>
                exact ⟨kk + 1, by rw [HN0.out], by go_num, by omega, Nat.le_refl _, HBW5⟩
            · have h18 : (((kk : Int) % 4) == 0) = false := beq_eq_false_iff_ne.2 (by omega)
              have hne : (((kk : Int) % 4) != 0) = true := by rw [bne, h18]; rfl
              obtain ⟨kp, hkp⟩ : ∃ kp : Nat, (kk : Int) - 1 = (kp : Int) := ⟨kk - 1, by omega⟩
              have hi0 : (0 : Int) ≤ (kp : Int) := by omega
              have hi1 : (kp : Int) < (l.length : Int) := by omega
              have HNS2 : Aside0 (nSh l kk = sharedN (rd_T49 l (kp : Int)).f0 x.f0) := ⟨by
                have e1 : (kk - 1 : Nat) = kp := by omega
                have e2 : nSh l kk = sharedN (rd_T49 l ((kk - 1 : Nat) : Int)).f0 (rd_T49 l (kk : Int)).f0 := if_neg c4
                rw [e2, e1, HX_.out]⟩
              have HPY := Aside0.mk (of_decide_eq_true (HA.out (kp : Int)))
              obtain ⟨ad2, hA2, p0, _, _, _, _⟩ := at_T49 (Kd.C_below HR.out HB.out) (kp : Int) (by omega) (by omega)
              obtain rfl := Option.some.inj hA2
              rw [Int.toNat_natCast] at p0
              have hw1 : IntKind.i64.wrap ((kp : Int)) = (kp : Int) := wraps_i64 _ (by omega) (by omega)
              have hw2 : wrap64 ((kp : Int)) = (kp : Int) := wrap64_id (by omega) (by omega)
              replace p0 := pw_cell_below HB5.out p0
              generalize (rd_T49 l (kp : Int)).f0 = py at p0 HNS2 HPY
              have HSH : Aside0 (∀ W, Calls Try.prog 51 #[.string py, .string x.f0] W fun e w' => e = .returned (.int .i64 ((sharedN py x.f0 : Nat) : Int)) ∧ Below W.heap.size W w') := ⟨fun W => by
                obtain ⟨K, hK⟩ := implShared_ev py x.f0 (by have := HPY.out; omega)
                exact (impl_SharedPrefix.calls K py x.f0 _ W (hK K (Nat.le_refl _))).mono fun e w' ⟨he, hd⟩ => ⟨he, hd.below⟩⟩
              have HKP := Aside0.mk hkp
              have b0 : (wr.alloc (.cells #[.string x.f0, .int .i64 x.f1, .int .i64 x.f2, .string x.f3, .string x.f4] 49)).cell? ⟨wr.heap.size, 0, none⟩ = some (.string x.f0) := (blk_cell HBN.out 0).trans rfl
              have HSM : Aside0 (svN l (kk + 1) = svN l kk + sharedN py x.f0) := ⟨by show svN l kk + nSh l kk = _; rw [HNS2.out]⟩
              have HSB : Aside0 (sharedN py x.f0 ≤ 1048576) := ⟨by rw [← HNS2.out]; have := HNS.out; have := HSX.out; omega⟩
              clear c4
              go_wp2_with fail
              have HW5 : Aside0 (Below (wr.alloc (.cells #[.string x.f0, .int .i64 x.f1, .int .i64 x.f2, .string x.f3, .string x.f4] 49)).heap.size (wr.alloc (.cells #[.string x.f0, .int .i64 x.f1, .int .i64 x.f2, .string x.f3, .string x.f4] 49)) (wr.alloc (.cells #[.string x.f0, .int .i64 x.f1, .int .i64 x.f2, .string x.f3, .string x.f4] 49))) := ⟨Below.refl _ _⟩
              generalize wr.alloc (.cells #[.string x.f0, .int .i64 x.f1, .int .i64 x.f2, .string x.f3, .string x.f4] 49) = W5 at HW5 HBN HBW5 HB5 p0 b0 ⊢
              generalize hgs : W5.heap.size = g5 at HW5
              clear e0 e1 e2 e3 e4
              refine start_ (n := 12) (S := fun w' => w'.cell? (ad.add (kp * 5)) = some (.string py) ∧ w'.cell? ⟨wr.heap.size, 0, none⟩ = some (.string x.f0) ∧ Aside0 (Below g5 W5 w')) (ds := []) #[false, false, false, false, false, false, false, false, false, false, false, false] (by kernel_rfl) rfl rfl ⟨p0, b0, ⟨Below.drew HW5.out⟩⟩ (fun hHeld => ?_)
              refine pure_ (i := 0) (N := some 26) (v := ?_) (a' := ?_) #[true, false, false, false, false, false, false, false, false, false, false, false] rfl rfl (by kernel_rfl) (fun _ _ _ h => h) (Or.inl ⟨by rfl, ?_⟩) ?_ ?_
              rotate_left
              · intro w'
                go_simp
                with_reducible rfl
              rotate_left
              · simp only [Act.put, List.setIfInBounds_toArray, List.set_cons_zero, List.set_cons_succ, i64_w, i32_w]
                rfl
              refine pure_ (i := 1) (N := some 27) (v := ?_) (a' := ?_) #[true, true, false, false, false, false, false, false, false, false, false, false] rfl rfl (by kernel_rfl) (fun _ _ _ h => h) (Or.inl ⟨by rfl, ?_⟩) ?_ ?_
              rotate_left
              · intro w'
                go_simp
                with_reducible rfl
              rotate_left
              · simp only [Act.put, List.setIfInBounds_toArray, List.set_cons_zero, List.set_cons_succ, i64_w, i32_w]
                rfl
              refine pure_ (i := 2) (N := some 28) (v := ?_) (a' := ?_) #[true, true, true, false, false, false, false, false, false, false, false, false] rfl rfl (by kernel_rfl) (fun _ _ _ h => h) (Or.inl ⟨by rfl, ?_⟩) ?_ ?_
              rotate_left
              · intro w'
                go_simp
                with_reducible rfl
              rotate_left
              · simp only [Act.put, List.setIfInBounds_toArray, List.set_cons_zero, List.set_cons_succ, i64_w, i32_w]
                rfl
              refine pure_ (i := 3) (N := some 29) (v := ?_) (a' := ?_) #[true, true, true, true, false, false, false, false, false, false, false, false] rfl rfl (by kernel_rfl) (fun _ _ _ h => h) (Or.inl ⟨by rfl, ?_⟩) ?_ ?_
              rotate_left
              · intro w'
                go_simp
                with_reducible rfl
              rotate_left
              · simp only [Act.put, List.setIfInBounds_toArray, List.set_cons_zero, List.set_cons_succ, i64_w, i32_w]
                rfl
              refine pure_ (i := 4) (N := some 30) (v := ?_) (a' := ?_) #[true, true, true, true, true, false, false, false, false, false, false, false] rfl rfl (by kernel_rfl) (fun _ _ _ h => h) (Or.inl ⟨by rfl, ?_⟩) ?_ ?_
              rotate_left
              · intro w'
                go_simp
                with_reducible rfl
              rotate_left
              · simp only [Act.put, List.setIfInBounds_toArray, List.set_cons_zero, List.set_cons_succ, i64_w, i32_w]
                rfl
              refine pure_ (i := 5) (N := some 31) (v := ?_) (a' := ?_) #[true, true, true, true, true, true, false, false, false, false, false, false] rfl rfl (by kernel_rfl) (fun _ _ _ h => h) (Or.inl ⟨by rfl, ?_⟩) ?_ ?_
              rotate_left
              · intro w'
                go_simp
                with_reducible rfl
              rotate_left
              · simp only [Act.put, List.setIfInBounds_toArray, List.set_cons_zero, List.set_cons_succ, i64_w, i32_w]
                rfl
              refine pure_ (i := 7) (N := some 33) (v := ?_) (a' := ?_) #[true, true, true, true, true, true, false, true, false, false, false, false] rfl rfl (by kernel_rfl) (fun _ _ _ h => h) (Or.inl ⟨by rfl, ?_⟩) ?_ ?_
              rotate_left
              · intro w'
                go_simp
                with_reducible rfl
              rotate_left
              · simp only [Act.put, List.setIfInBounds_toArray, List.set_cons_zero, List.set_cons_succ, i64_w, i32_w]
                rfl
              refine take_ (i := 6) (N := some 32) (v := ?_) (a' := ?_) #[true, true, true, true, true, true, true, true, false, false, false, false] rfl rfl (by kernel_rfl) (fun _ _ _ h => h) (Or.inl ⟨by rfl, ?_⟩) hHeld ?_ ?_
              rotate_left
              · rintro w' ⟨s0, s1, s2⟩
                go_simp
                with_reducible rfl
              rotate_left
              · simp only [Act.put, List.setIfInBounds_toArray, List.set_cons_zero, List.set_cons_succ, i64_w, i32_w]
                rfl
              refine take_ (i := 8) (N := some 34) (v := ?_) (a' := ?_) #[true, true, true, true, true, true, true, true, true, false, false, false] rfl rfl (by kernel_rfl) (fun _ _ _ h => h) (Or.inl ⟨by rfl, ?_⟩) hHeld ?_ ?_
              rotate_left
              · rintro w' ⟨s0, s1, s2⟩
                go_simp
                with_reducible rfl
              rotate_left
              · simp only [Act.put, List.setIfInBounds_toArray, List.set_cons_zero, List.set_cons_succ, i64_w, i32_w]
                rfl
              refine one_ (i := 9) (N := some 35) #[true, true, true, true, true, true, true, true, true, true, false, false] rfl rfl (by kernel_rfl) (by decide) (fun K hK => ?_)
              refine goes_ Try.func51 (by kernel_rfl) rfl #[.string py, .string x.f0] (by rfl) rfl rfl (by simp only [List.map_toArray, List.map_cons, List.map_nil]; rfl) ?_
              with_reducible refine (HSH.out _).mono ?_
              rintro e w1 ⟨rfl, hb1⟩
              refine ⟨_, rfl, ?_⟩
              refine hK.out _ _ ⟨(pw_cell_below hb1 (hHeld.1)), (pw_cell_below hb1 (hHeld.2.1)), (below_chain hgs (hHeld.2.2) hb1)⟩ (fun hHeld => ?_)
              clear hK K
              refine norm_ (a' := ?_) ?_ ?_
              rotate_left
              · show Act.put _ (some 35) _ = _
                simp only [Act.put, List.setIfInBounds_toArray, List.set_cons_zero, List.set_cons_succ, i64_w, i32_w]
                rfl
              refine pure_ (i := 10) (N := some 36) (v := ?_) (a' := ?_) #[true, true, true, true, true, true, true, true, true, true, true, false] rfl rfl (by kernel_rfl) (fun _ _ _ h => h) (Or.inl ⟨by rfl, ?_⟩) ?_ ?_
              rotate_left
              · intro w'
                go_simp
                with_reducible rfl
              rotate_left
              · simp only [Act.put, List.setIfInBounds_toArray, List.set_cons_zero, List.set_cons_succ, i64_w, i32_w]
                rfl
              refine pure_ (i := 11) (N := some 6) (v := ?_) (a' := ?_) #[true, true, true, true, true, true, true, true, true, true, true, true] rfl rfl (by kernel_rfl) (fun _ _ _ h => h) (Or.inl ⟨by rfl, ?_⟩) ?_ ?_
              rotate_left
              · intro w'
                go_simp
                with_reducible rfl
              rotate_left
              · simp only [Act.put, List.setIfInBounds_toArray, List.set_cons_zero, List.set_cons_succ, i64_w, i32_w]
                rfl
              refine done_ (by kernel_rfl) ?_
              have B := Aside0.out hHeld.2.2
              rw [← hgs] at B
              have HBB := Aside0.mk B
              clear B hHeld hgs hkp hw1 hw2
              go_wp2
              go_roundg (l.length - (kk + 1))
              case measure => omega
              case rel =>
                exact ⟨kk + 1, by rw [HSM.out, wrap64_id (by have a1 := HSB.out; have a2 := HSV.out; omega) (by have a1 := HSB.out; have a2 := HSV.out; omega)]; rfl, by go_num, by omega, Nat.le_refl _, ⟨HBW5.out.trans (HBB.out.mono HBW5.out.size)⟩⟩
          · have hlti : ¬ (kk : Int) < (l.length : Int) := by omega
            obtain rfl : kk = l.length := by omega
            go_wp2
            go_ret2
            exact ⟨rfl, HB0.out.trans (HB.out.mono HB0.out.size)⟩
      · rw [if_neg ha] at h2
        cases h2
    · rw [if_neg hl] at h2
      cases h2
end Go.Proofs.Ytogndjjoeahccaa.Q
