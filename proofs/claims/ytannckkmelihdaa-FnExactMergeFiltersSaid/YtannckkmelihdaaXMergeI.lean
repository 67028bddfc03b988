/- The contract of the program's MergeFilters. Conditions: those before each theorem. -/
import Derived.Test.YtannckkmelihdaaXMergeS
import Derived.Test.YtannckkmelihdaaQ1
namespace Go.Proofs.Ytannckkmelihdaa.Q
open Go.RowKit Go.Proofs.YtannckkmelihdaaW.PrintWords Go.Proofs.YtannckkmelihdaaW.PrintMore Go.Proofs.YtannckkmelihdaaW.PrintLast
set_option linter.unusedVariables false

def impl_MergeFilters.f (a0 a1 : ByteArray) : Option (ByteArray × Int) := some (mergeF a0 a1)
set_option linter.unusedSimpArgs false in
set_option maxHeartbeats 2000000 in
set_option maxRecDepth 100000 in
theorem impl_MergeFilters.calls (a0 a1 : ByteArray) (r1 : ByteArray) (r2 : Int) (w : World) (h : impl_MergeFilters.f a0 a1 = some (r1, r2)) :
    Calls Try.prog 25 #[.string a0, .string a1] w fun e w' => e = .returned (.tuple #[.string r1, .int .i64 r2]) ∧ Below w.heap.size w w' := by
  have h1 : mergeF a0 a1 = (r1, r2) := Option.some.inj h
  unfold mergeF at h1
  have HS : Aside0 (∀ (a : ByteArray) (W : World), Calls Try.prog 50 #[.string a] W fun e w' => e = .returned (.bool (decide (1 ≤ (a.size : Int) ∧ (a.size : Int) ≤ 80))) ∧ Below W.heap.size W w') := ⟨fun a W => (impl_filterOk.calls a _ W (by unfold impl_filterOk.f; rw [within_eq]; rfl)).mono fun e w' ⟨he, hd⟩ => ⟨he, hd.below⟩⟩
  clear h
  by_cases c1 : 1 ≤ (a0.size : Int) ∧ (a0.size : Int) ≤ 80
  · rw [if_pos c1] at h1
    have hs0 := fun W => HS.out a0 W
    rw [decide_eq_true c1] at hs0
    by_cases c2 : 1 ≤ (a1.size : Int) ∧ (a1.size : Int) ≤ 80
    · rw [if_pos c2] at h1
      have hs1 := fun W => HS.out a1 W
      rw [decide_eq_true c2] at hs1
      have H0 := Aside0.mk hs0
      have H1 := Aside0.mk hs1
      clear hs0 hs1
      by_cases c3 : a0.size = a1.size
      · rw [if_pos c3] at h1
        obtain ⟨rfl, rfl⟩ := Prod.mk.inj h1
        have c3b : ((a0.size : Int) != (a1.size : Int)) = false := by rw [show (a0.size : Int) = (a1.size : Int) from by omega]; simp
        have hsz : a0.size ≤ 80 := by omega
        have hszb : a0.size ≤ 9223372036854775807 := by omega
        have HC3 := Aside0.mk c3
        clear h1 HS c3
        have kb := fun W => print_bytes (P := Try.prog) 9 63 5 Try.underlying9 Try.underlying63 Try.underlying5 a0 W
        go_enter Try.func25, Try.ntmps25
        go_wp2_with (first | (go_at_call 50; refine (H0.out _).mono ?_; rintro e w1 ⟨rfl, hb1⟩; have HB1 := Aside0.mk hb1; clear hb1 H0) | (go_at_call 50; refine (H1.out _).mono ?_; rintro e w2 ⟨rfl, hb2⟩; have HB2 := Aside0.mk (HB1.out.trans (hb2.mono HB1.out.size)); clear hb2 H1))
        have HBR := Aside0.mk (brow_start w2 5 a0)
        have HBW := Aside0.mk (bytes_below HB2.out HB2.out.size 5 a0)
        have HG := Aside0.mk HB2.out.size
        generalize hg : w2.heap.size = g at HBR HG
        clear hg c3b kb
        go_loopg [7, 27] a0.size (fun gg _ s27 wr => ∃ kk : Nat, s27 = .int .i64 (kk : Int) ∧ kk ≤ a0.size ∧ a0.size - kk ≤ gg ∧ Aside0 (Below w.heap.size w wr) ∧ Aside0 (BRow wr g 5 a0.size (mgL a0 a1 kk)))
        case atStart => exact ⟨0, rfl, Nat.zero_le _, by omega, HBW, ⟨by rw [mgL_zero]; exact HBR.out⟩⟩
        case round =>
          obtain ⟨kk, rfl, hkk, hgg, HB, HR⟩ := hrel
          clear HBR HBW
          by_cases hlt : kk < a0.size
          · have hlti : (kk : Int) < (a0.size : Int) := by omega
            have hlt1 : kk < a1.size := by rw [← HC3.out]; exact hlt
            have hlt1z : (kk : Int) < (a1.size : Int) := by omega
            obtain ⟨e0, f0⟩ := brow_cell HR.out kk hlt
            rw [mgL_at a0 a1 kk hlt] at e0
            have hx := bt_nat a1 kk
            have HN := Aside0.mk (brow_set HR.out kk hlt (Go.bits .or .u8 (bt a0 (kk : Int)) (bt a1 (kk : Int))))
            have HW2 := Aside0.mk (fun v => brow_below (g := g) (j := kk) (v := v) HB.out HG.out)
            go_wp2_with fail
            refine start_ (n := 10) (S := fun w' => w'.cell? ⟨g, kk, none⟩ = some (.int .u8 (bt a0 (kk : Int))) ∧ w'.frozen? ⟨g, kk, none⟩ = false ∧ Aside0 (w' = wr.drew)) (ds := [9]) #[false, false, false, false, false, false, false, false, false, false] (by kernel_rfl) rfl rfl ⟨e0, f0, ⟨rfl⟩⟩ (fun hHeld => ?_)
            refine pure_ (i := 0) (N := some 30) (v := ?_) (a' := ?_) #[true, false, false, false, false, false, false, false, false, false] rfl rfl (by kernel_rfl) (fun _ _ _ h => h) (Or.inl ⟨by rfl, ?_⟩) ?_ ?_
            rotate_left
            · intro w'
              go_simp
              with_reducible rfl
            rotate_left
            · simp only [Act.put, List.setIfInBounds_toArray, List.set_cons_zero, List.set_cons_succ, i64_w, i32_w]
              rfl
            refine pure_ (i := 1) (N := some 31) (v := ?_) (a' := ?_) #[true, true, false, false, false, false, false, false, false, false] rfl rfl (by kernel_rfl) (fun _ _ _ h => h) (Or.inl ⟨by rfl, ?_⟩) ?_ ?_
            rotate_left
            · intro w'
              go_simp
              with_reducible rfl
            rotate_left
            · simp only [Act.put, List.setIfInBounds_toArray, List.set_cons_zero, List.set_cons_succ, i64_w, i32_w]
              rfl
            refine pure_ (i := 2) (N := some 32) (v := ?_) (a' := ?_) #[true, true, true, false, false, false, false, false, false, false] rfl rfl (by kernel_rfl) (fun _ _ _ h => h) (Or.inl ⟨by rfl, ?_⟩) ?_ ?_
            rotate_left
            · intro w'
              go_simp
              with_reducible rfl
            rotate_left
            · simp only [Act.put, List.setIfInBounds_toArray, List.set_cons_zero, List.set_cons_succ, i64_w, i32_w]
              rfl
            refine pure_ (i := 4) (N := some 34) (v := ?_) (a' := ?_) #[true, true, true, false, true, false, false, false, false, false] rfl rfl (by kernel_rfl) (fun _ _ _ h => h) (Or.inl ⟨by rfl, ?_⟩) ?_ ?_
            rotate_left
            · intro w'
              go_simp
              with_reducible rfl
            rotate_left
            · simp only [Act.put, List.setIfInBounds_toArray, List.set_cons_zero, List.set_cons_succ, i64_w, i32_w]
              rfl
            refine pure_ (i := 5) (N := some 35) (v := ?_) (a' := ?_) #[true, true, true, false, true, true, false, false, false, false] rfl rfl (by kernel_rfl) (fun _ _ _ h => h) (Or.inl ⟨by rfl, ?_⟩) ?_ ?_
            rotate_left
            · intro w'
              go_simp
              with_reducible rfl
            rotate_left
            · simp only [Act.put, List.setIfInBounds_toArray, List.set_cons_zero, List.set_cons_succ, i64_w, i32_w]
              rfl
            refine take_ (i := 3) (N := some 33) (v := ?_) (a' := ?_) #[true, true, true, true, true, true, false, false, false, false] rfl rfl (by kernel_rfl) (fun _ _ _ h => h) (Or.inl ⟨by rfl, ?_⟩) hHeld ?_ ?_
            rotate_left
            · rintro w' ⟨s0, s1, s2⟩
              go_simp
              with_reducible rfl
            rotate_left
            · simp only [Act.put, List.setIfInBounds_toArray, List.set_cons_zero, List.set_cons_succ, i64_w, i32_w]
              rfl
            refine take_ (i := 6) (N := some 36) (v := ?_) (a' := ?_) #[true, true, true, true, true, true, true, false, false, false] rfl rfl (by kernel_rfl) (fun _ _ _ h => h) (Or.inl ⟨by rfl, ?_⟩) hHeld ?_ ?_
            rotate_left
            · rintro w' ⟨s0, s1, s2⟩
              go_simp
              with_reducible rfl
            rotate_left
            · simp only [Act.put, List.setIfInBounds_toArray, List.set_cons_zero, List.set_cons_succ, i64_w, i32_w]
              rfl
            refine pure_ (i := 7) (N := some 37) (v := ?_) (a' := ?_) #[true, true, true, true, true, true, true, true, false, false] rfl rfl (by kernel_rfl) (fun _ _ _ h => h) (Or.inl ⟨by rfl, ?_⟩) ?_ ?_
            rotate_left
            · intro w'
              go_simp
              with_reducible rfl
            rotate_left
            · simp only [Act.put, List.setIfInBounds_toArray, List.set_cons_zero, List.set_cons_succ, i64_w, i32_w]
              rfl
            refine pure_ (i := 8) (N := some 38) (v := ?_) (a' := ?_) #[true, true, true, true, true, true, true, true, true, false] rfl rfl (by kernel_rfl) (fun _ _ _ h => h) (Or.inl ⟨by rfl, ?_⟩) ?_ ?_
            rotate_left
            · intro w'
              go_simp
              with_reducible rfl
            rotate_left
            · simp only [Act.put, List.setIfInBounds_toArray, List.set_cons_zero, List.set_cons_succ, i64_w, i32_w]
              rfl
            refine last_ (i := 9) (N := none) #[true, true, true, true, true, true, true, true, true, true] rfl rfl (by kernel_rfl) (by decide) (fun K hK => ?_)
            refine skip_ (w1 := ?_) (by rfl) rfl ?_ ?_
            rotate_left
            · go_simp
              rfl
            refine hK.out _ _ ?_
            clear hK K
            refine done_ (by kernel_rfl) ?_
            have HN2 : Aside0 (BRow (wr.setCell ⟨g, kk, none⟩ (.int .u8 (Go.bits .or .u8 (bt a0 (kk : Int)) (bt a1 (kk : Int))))).drew g 5 a0.size (mgL a0 a1 (kk + 1))) := ⟨by rw [← mgL_set a0 a1 kk hlt]; exact HN.out⟩
            have HB3 : Aside0 (Below w.heap.size w (wr.setCell ⟨g, kk, none⟩ (.int .u8 (Go.bits .or .u8 (bt a0 (kk : Int)) (bt a1 (kk : Int))))).drew) := ⟨below_drew (HW2.out _)⟩
            clear hHeld e0 f0 HN HW2 hx
            generalize (wr.setCell ⟨g, kk, none⟩ (.int .u8 (Go.bits .or .u8 (bt a0 (kk : Int)) (bt a1 (kk : Int))))).drew = wz at HN2 HB3 ⊢
            go_wp2
            go_roundg (a0.size - (kk + 1))
            case measure => omega
            case rel => exact ⟨kk + 1, by go_num, by omega, Nat.le_refl _, HB3, HN2⟩
          · have hlti : ¬ (kk : Int) < (a0.size : Int) := by omega
            obtain rfl : kk = a0.size := by omega
            have hcv := string_of_reads (P := Try.prog) (src := 63) (dst := 9) (e := 5) (c := grownCap w2 a0.size 0 5) Try.underlying63 Try.underlying5 Try.underlying9 (brow_reads HR.out hszb)
            go_wp2
            go_ret2
            exact ⟨rfl, HB.out⟩
      · rw [if_neg c3] at h1
        obtain ⟨rfl, rfl⟩ := Prod.mk.inj h1
        have c3b : ((a0.size : Int) != (a1.size : Int)) = true := by rw [bne_iff_ne]; omega
        clear h1 HS
        go_enter Try.func25, Try.ntmps25
        go_wp2_with (first | (go_at_call 50; refine (H0.out _).mono ?_; rintro e w1 ⟨rfl, hb1⟩; have HB1 := Aside0.mk hb1; clear hb1 H0) | (go_at_call 50; refine (H1.out _).mono ?_; rintro e w2 ⟨rfl, hb2⟩; have HB2 := Aside0.mk (HB1.out.trans (hb2.mono HB1.out.size)); clear hb2 H1))
        go_ret2
        exact ⟨rfl, HB2.out⟩
    · rw [if_neg c2] at h1
      obtain ⟨rfl, rfl⟩ := Prod.mk.inj h1
      have hs1 := fun W => HS.out a1 W
      rw [decide_eq_false c2] at hs1
      have H0 := Aside0.mk hs0
      have H1 := Aside0.mk hs1
      clear hs0 hs1 h1 HS
      go_enter Try.func25, Try.ntmps25
      go_wp2_with (first | (go_at_call 50; refine (H0.out _).mono ?_; rintro e w1 ⟨rfl, hb1⟩; have HB1 := Aside0.mk hb1; clear hb1 H0) | (go_at_call 50; refine (H1.out _).mono ?_; rintro e w2 ⟨rfl, hb2⟩; have HB2 := Aside0.mk (HB1.out.trans (hb2.mono HB1.out.size)); clear hb2 H1))
      go_ret2
      exact ⟨rfl, HB2.out⟩
  · rw [if_neg c1] at h1
    obtain ⟨rfl, rfl⟩ := Prod.mk.inj h1
    have hs0 := fun W => HS.out a0 W
    rw [decide_eq_false c1] at hs0
    have H0 := Aside0.mk hs0
    clear hs0 h1 HS
    go_enter Try.func25, Try.ntmps25
    go_wp2_with (go_at_call 50; refine (H0.out _).mono ?_; rintro e w1 ⟨rfl, hb1⟩; have HB1 := Aside0.mk hb1; clear hb1 H0)
    go_ret2
    exact ⟨rfl, HB1.out⟩
end Go.Proofs.Ytannckkmelihdaa.Q
