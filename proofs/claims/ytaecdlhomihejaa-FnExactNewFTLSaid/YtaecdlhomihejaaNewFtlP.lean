/- What NewFTL answers, on both sides. No condition. -/
import Derived.Test.YtaecdlhomihejaaXNewFTL
import Derived.Test.YtaecdlhomihejaaXRepeatI
import Derived.Test.YtaecdlhomihejaaGeoOk
import Derived.Test.YtaecdlhomihejaaInS
import Derived.Test.YtaecdlhomihejaaInOk
import Derived.Test.YtaecdlhomihejaaCapOk
import Derived.Test.YtaecdlhomihejaaXSizeOk
namespace Go.Proofs.Ytaecdlhomihejaa.Q
open Go.RowKit Go.Proofs.YtaecdlhomihejaaW.PrintWords
set_option linter.unusedVariables false
def blkF (p : Int) : S120 := ⟨0, 0, false, List.replicate p.toNat (⟨#[]⟩ : ByteArray)⟩
theorem repF_snoc {α : Type} (n : Nat) (x : α) : List.replicate n x ++ [x] = List.replicate (n + 1) x := by rw [List.replicate_succ']
theorem sNewF_loop (d b p : Int) (n : Nat) (hn : wrap64 (d * b) = n) (hs : n ≤ 100) (h0 : 0 ≤ p) (h1 : p ≤ 16) : ∀ j i : Nat, i + j = n →
    Ev (fun k => spec_l06New.l0 k (i : Int) d b p d b p (List.replicate i (blkF p)) (-1) 0 false 0) (d, b, p, List.replicate n (blkF p), -1, 0, false, 0)
  | 0, i, hi => by
    obtain rfl : i = n := hi
    refine Ev.step (f := fun _ => some (d, b, p, List.replicate i (blkF p), -1, 0, false, 0)) (fun k => ?_) (Ev.now _)
    rw [spec_l06New.l0, hn, if_neg (by omega)]
  | j + 1, i, hi => by
    refine Ev.step (fun k => ?_) (sNewF_loop d b p n hn hs h0 h1 j (i + 1) (by omega))
    rw [spec_l06New.l0, hn, if_pos (by omega), if_pos h0, if_pos (by omega), if_pos (by rw [List.length_replicate]; omega), wrap64_id (by omega) (by omega), ← repF_snoc]
    rfl
theorem iNewF_loop (d b p : Int) (n : Nat) (hs : n ≤ 100) (h0 : 0 ≤ p) (h1 : p ≤ 16) : ∀ j i : Nat, i + j = n →
    Ev (fun k => impl_newFlash.l0 k (n : Int) (i : Int) d b p d b p (List.replicate i (blkF p)) (-1) 0 false 0) (d, b, p, List.replicate n (blkF p), -1, 0, false, 0)
  | 0, i, hi => by
    obtain rfl : i = n := hi
    refine Ev.step (f := fun _ => some (d, b, p, List.replicate i (blkF p), -1, 0, false, 0)) (fun k => ?_) (Ev.now _)
    rw [impl_newFlash.l0, if_neg (by omega)]
  | j + 1, i, hi => by
    refine Ev.step (fun k => ?_) (iNewF_loop d b p n hs h0 h1 j (i + 1) (by omega))
    rw [impl_newFlash.l0, if_pos (by omega), if_pos h0, if_pos (by omega), if_pos (by rw [List.length_replicate]; omega), wrap64_id (by omega) (by omega), ← repF_snoc]
    rfl
theorem sMap_loop (b p : Int) (n : Nat) (hn : n ≤ 100) : ∀ j i : Nat, i + j = n → Ev (fun k => spec_l09New.l0 k (n : Int) (i : Int) b p (List.replicate i (-1)) (List.replicate i false)) (b, p, List.replicate n (-1), List.replicate n false)
  | 0, i, hi => by
    obtain rfl : i = n := hi
    refine Ev.step (f := fun _ => some (b, p, List.replicate i (-1), List.replicate i false)) (fun k => ?_) (Ev.now _)
    rw [spec_l09New.l0, if_neg (by omega)]
  | j + 1, i, hi => by
    refine Ev.step (fun k => ?_) (sMap_loop b p n hn j (i + 1) (by omega))
    rw [spec_l09New.l0, if_pos (by omega), if_pos (by rw [List.length_replicate]; omega), if_pos (by rw [List.length_replicate]; omega), wrap64_id (by omega) (by omega), repF_snoc, repF_snoc]
    rfl
def capF (a b c : Int) : Int := mn 48 (wrap64 (Int.tdiv (wrap64 ((wrap64 ((wrap64 (a * b)) - 6)) * c)) 2))
theorem capF_le (a b c : Int) : capF a b c ≤ 48 := by unfold capF mn; split <;> omega
def okPar (cap lo bo po : Int) : Bool := decide (1 ≤ lo ∧ lo ≤ cap) && (decide (1 ≤ bo ∧ bo ≤ 100) && decide (1 ≤ po ∧ po ≤ 2))
theorem specPar_eq (a b c lo bo po : Int) (h : okGeo a b c = true) : spec_l14Params.f a b c lo bo po = some (okPar (capF a b c) lo bo po) := by
  unfold spec_l14Params.f spec_CapacityFTL.f
  rw [specGeo_eq, h, Option.bind_some, if_pos rfl, l00Min_eq, Option.bind_some, Option.bind_some]
  show (spec_l00In.f lo 1 (capF a b c)).bind _ = _
  rw [l00In_eq, Option.bind_some]
  unfold okPar
  by_cases h1 : 1 ≤ lo ∧ lo ≤ capF a b c
  · rw [decide_eq_true h1, if_pos rfl, l00In_eq, Option.bind_some, Bool.true_and]
    by_cases h2 : 1 ≤ bo ∧ bo ≤ 100
    · rw [decide_eq_true h2, if_pos rfl, l00In_eq, Option.bind_some, Bool.true_and]
    · rw [decide_eq_false h2, if_neg (by decide), Bool.false_and]
  · rw [decide_eq_false h1, if_neg (by decide), Bool.false_and]
theorem policy_eq (bo po : Int) : impl_policyOk.f bo po = some (decide (1 ≤ bo ∧ bo ≤ 100) && decide (1 ≤ po ∧ po ≤ 2)) := by
  unfold impl_policyOk.f
  rw [within_eq, Option.bind_some]
  by_cases h2 : 1 ≤ bo ∧ bo ≤ 100
  · rw [decide_eq_true h2, if_pos rfl, within_eq, Option.bind_some, Bool.true_and]
  · rw [decide_eq_false h2, if_neg (by decide), Bool.false_and]
theorem newMap_eq (n : Nat) (b p : Int) (h0 : 1 ≤ n) (h1 : n ≤ 48) (hb0 : 1 ≤ b) (hb1 : b ≤ 36) (hp0 : 1 ≤ p) (hp1 : p ≤ 16) : impl_newMap.f n b p = some (b, p, List.replicate n (-1), List.replicate n false, true) := by
  have hq : p ≤ 640 / b := (Int.le_ediv_iff_mul_le (by omega)).2 (by
    have h2 : p * b ≤ 16 * 36 := Int.mul_le_mul hp1 hb1 (by omega) (by omega)
    omega)
  unfold impl_newMap.f impl_sizeOk.f slices_Repeat_int64_int64.f
  rw [within_eq, decide_eq_true (show 1 ≤ (n : Int) ∧ (n : Int) ≤ 48 by omega), Option.bind_some, if_pos rfl, Option.bind_some, decide_eq_true (show 1 ≤ b ∧ b ≤ 640 by omega), decide_eq_true (show 1 ≤ p ∧ p ≤ 640 / b from ⟨hp0, hq⟩), if_pos (by rfl), if_pos (show ([-1] : List Int).length = 1 ∧ 1 ≤ (n : Int) ∧ (n : Int) ≤ 48 from ⟨rfl, by omega, by omega⟩), Option.bind_some, if_pos (by omega), if_pos (by omega), Int.toNat_natCast]
  rfl
theorem newHeat_eq (n : Nat) (h0 : 1 ≤ n) (h1 : n ≤ 48) : impl_NewHeat.f n = some (List.replicate n 0, 0, 0) := by
  unfold impl_NewHeat.f
  rw [within_eq, decide_eq_true (show 1 ≤ (n : Int) ∧ (n : Int) ≤ 48 by omega), Option.bind_some, if_pos rfl, if_pos (by omega), if_pos (by omega), Int.toNat_natCast]
theorem newFtl_ev (g0 g1 g2 lo bo po : Int) : ∃ (r0 r1 r2 : Int) (RL : List S120) (r4 r5 : Int) (r6 : Bool) (r7 r8 r9 : Int) (RM : List Int) (RT : List Bool) (RH : List Int) (r13 r14 : Int) (RO RX : List Int) (r17 r18 cd : Int),
    (∀ W, Calls Try.prog 50 #[.agg #[.int .i64 g0, .int .i64 g1, .int .i64 g2], .int .i64 lo, .int .i64 bo, .int .i64 po] W fun e w' => ∃ A3 c3 A10 c10 A11 c11 A12 c12 A15 c15 A16 c16, e = .returned (.tuple #[.agg #[.int .i64 r0, .int .i64 r1, .int .i64 r2, .slice A3 RL.length c3, .int .i64 r4, .int .i64 r5, .bool r6, .int .i64 r7, .int .i64 r8, .int .i64 r9, .slice A10 RM.length c10, .slice A11 RT.length c11, .slice A12 RH.length c12, .int .i64 r13, .int .i64 r14, .slice A15 RO.length c15, .slice A16 RX.length c16, .int .i64 r17, .int .i64 r18], .int .i64 cd]) ∧ RFTL w' A3 c3 RL A10 c10 RM A11 c11 RT A12 c12 RH A15 c15 RO A16 c16 RX ∧ Below W.heap.size W w') ∧
    (∀ W, Calls Try.prog 51 #[.agg #[.int .i64 g0, .int .i64 g1, .int .i64 g2], .int .i64 lo, .int .i64 bo, .int .i64 po] W fun e w' => ∃ v3 v10 v11 v12 v15 v16 : Value, e = .returned (.tuple #[.agg #[.int .i64 r0, .int .i64 r1, .int .i64 r2, v3, .int .i64 r4, .int .i64 r5, .bool r6, .int .i64 r7, .int .i64 r8, .int .i64 r9, v10, v11, v12, .int .i64 r13, .int .i64 r14, v15, v16, .int .i64 r17, .int .i64 r18], .int .i64 cd]) ∧ OFTL w' W.heap.size v3 v10 v11 v12 v15 v16 RL RM RT RH RO RX ∧ Below W.heap.size W w') ∧
    RL.length ≤ 100 ∧ (∀ x ∈ RL, x.f3.length ≤ 16) ∧ RM.length ≤ 100 ∧ RT.length ≤ 100 ∧ RH.length ≤ 100 ∧ RO.length ≤ 100 ∧ RX.length ≤ 100 := by
  by_cases h : okGeo g0 g1 g2 = true
  · have hg : (2 ≤ g0 ∧ g0 ≤ 3) ∧ (4 ≤ g1 ∧ g1 ≤ 12) ∧ (g2 = 8 ∨ g2 = 16) := by simpa [okGeo] using h
    obtain ⟨n, rfl⟩ : ∃ n : Nat, g0 = n := ⟨g0.toNat, by omega⟩
    obtain ⟨b, rfl⟩ : ∃ b : Nat, g1 = b := ⟨g1.toNat, by omega⟩
    have hnb : n * b ≤ 36 := Nat.le_trans (Nat.mul_le_mul (show n ≤ 3 by omega) (show b ≤ 12 by omega)) (by decide)
    have hnb0 : 1 ≤ n * b := Nat.le_trans (by decide) (Nat.mul_le_mul (show 1 ≤ n by omega) (show 1 ≤ b by omega))
    have hw : wrap64 ((n : Int) * (b : Int)) = ((n * b : Nat) : Int) := by rw [← Int.natCast_mul, wrap64_id (by omega) (by omega)]
    have s1 := sNewF_loop n b g2 (n * b) hw (by omega) (by omega) (by omega) (n * b) 0 (by omega)
    have i1 := iNewF_loop n b g2 (n * b) (by omega) (by omega) (by omega) (n * b) 0 (by omega)
    have hA : Ev (fun k => spec_NewFlash.f k n b g2) ((n : Int), (b : Int), g2, List.replicate (n * b) (blkF g2), -1, 0, false, 0, 0) := by
      unfold spec_NewFlash.f
      rw [specGeo_eq, h]
      exact Ev.bind1 rfl (Ev.if_pos rfl (Ev.bind (a := ((n : Int), (b : Int), g2, List.replicate (n * b) (blkF g2), -1, 0, false, 0)) s1 (Ev.now _)))
    have hF : Ev (fun k => impl_newFlash.f k n b g2) ((n : Int), (b : Int), g2, List.replicate (n * b) (blkF g2), -1, 0, false, 0) := by
      unfold impl_newFlash.f impl_Geometry_all.f
      exact Ev.bind1 rfl (by rw [hw]; exact i1)
    by_cases hp : okPar (capF n b g2) lo bo po = true
    · have hpp : (1 ≤ lo ∧ lo ≤ capF n b g2) ∧ (1 ≤ bo ∧ bo ≤ 100) ∧ (1 ≤ po ∧ po ≤ 2) := by simpa [okPar] using hp
      have hc := capF_le n b g2
      obtain ⟨q, rfl⟩ : ∃ q : Nat, lo = q := ⟨lo.toNat, by omega⟩
      have m1 := sMap_loop (wrap64 ((n : Int) * (b : Int))) g2 q (by omega) q 0 (by omega)
      have hN : spec_l14New.f n b g2 (List.replicate (n * b) (blkF g2)) (-1) 0 false 0 (wrap64 ((n : Int) * (b : Int))) g2 (List.replicate q (-1)) (List.replicate q false) bo po = some ((n : Int), (b : Int), g2, List.replicate (n * b) (blkF g2), -1, 0, false, 0, wrap64 ((n : Int) * (b : Int)), g2, List.replicate q (-1), List.replicate q false, List.replicate q 0, 0, 1, [-1, -1], List.replicate (n * b) 0, bo, po) := by
        unfold spec_l14New.f spec_l13New.f
        rw [List.length_replicate, if_pos (by omega), if_pos (by omega), Option.bind_some, List.length_replicate, if_pos (by omega), if_pos (by omega), Int.toNat_natCast, Int.toNat_natCast]
      have hO : Ev (fun k => impl_ftlOn.f k n b g2 (List.replicate (n * b) (blkF g2)) (-1) 0 false 0 q bo po) ((n : Int), (b : Int), g2, List.replicate (n * b) (blkF g2), -1, 0, false, 0, wrap64 ((n : Int) * (b : Int)), g2, List.replicate q (-1), List.replicate q false, List.replicate q 0, 0, 1, [-1, -1], List.replicate (n * b) 0, bo, po, true) := by
        unfold impl_ftlOn.f
        refine Ev.bind1 (cap_same _ _ _) (Ev.bind1 (within_eq _ _ _) (Ev.if_pos (decide_eq_true hpp.1) (Ev.bind1 (policy_eq bo po) ?_)))
        rw [decide_eq_true hpp.2.1, decide_eq_true hpp.2.2]
        refine Ev.step (f := fun _ => some ((n : Int), (b : Int), g2, List.replicate (n * b) (blkF g2), -1, 0, false, 0, wrap64 ((n : Int) * (b : Int)), g2, List.replicate q (-1), List.replicate q false, List.replicate q 0, 0, 1, [-1, -1], List.replicate (n * b) 0, bo, po, true)) (fun k => ?_) (Ev.now _)
        rw [impl_ftlOn.j0, if_neg (by decide)]
        unfold impl_Geometry_all.f
        rw [Option.bind_some, hw, newMap_eq q _ _ (by omega) (by omega) (by omega) (by omega) (by omega) (by omega), Option.bind_some, newHeat_eq q (by omega) (by omega), Option.bind_some, Option.bind_some, if_pos (by omega), if_pos (by omega), Int.toNat_natCast]
      obtain ⟨k1, a1⟩ := hA
      obtain ⟨k2, a2⟩ := m1
      obtain ⟨k3, a3⟩ := hF
      obtain ⟨k4, a4⟩ := hO
      have hP := specPar_eq n b g2 q bo po h
      rw [hp] at hP
      refine ⟨_, _, _, _, _, _, _, _, _, _, _, _, _, _, _, _, _, _, _, 0, fun W => specNewFTL_ok (k1 + k2 + k3 + k4) n b g2 q bo po _ _ _ _ _ _ _ _ _ _ _ _ _ _ _ _ _ _ _ _ _ _ _ _ _ _ _ _ _ _ _ W (a1 _ (by omega)) hP (a2 (k1 + k2 + k3 + k4) (by omega)) hN, fun W => implNewFTL_ok (k1 + k2 + k3 + k4) n b g2 q bo po _ _ _ _ _ _ _ _ _ _ _ _ _ _ _ _ _ _ _ _ _ _ _ _ _ _ _ W (by rw [implGeo_eq, h]) (a3 _ (by omega)) (a4 _ (by omega)), ?_⟩
      simp only [List.length_replicate]
      refine ⟨by omega, ?_, by omega, by omega, by omega, by decide, by omega⟩
      intro x hx
      rw [List.eq_of_mem_replicate hx]
      simp only [blkF, List.length_replicate]
      omega
    · have hpf := Bool.eq_false_iff.2 hp
      have hO : Ev (fun k => impl_ftlOn.f k n b g2 (List.replicate (n * b) (blkF g2)) (-1) 0 false 0 lo bo po) (0, 0, 0, [], 0, 0, false, 0, 0, 0, [], [], [], 0, 0, [], [], 0, 0, false) := by
        have last : ∀ c, c = true → Ev (fun k => impl_ftlOn.j0 k lo bo po c n b g2 (List.replicate (n * b) (blkF g2)) (-1) 0 false 0 n b g2) (0, 0, 0, [], 0, 0, false, 0, 0, 0, [], [], [], 0, 0, [], [], 0, 0, false) := fun c hc => Ev.step (f := fun _ => some (0, 0, 0, [], 0, 0, false, 0, 0, 0, [], [], [], 0, 0, [], [], 0, 0, false)) (fun k => by rw [impl_ftlOn.j0, if_pos hc]) (Ev.now _)
        unfold impl_ftlOn.f
        refine Ev.bind1 (cap_same _ _ _) (Ev.bind1 (within_eq _ _ _) ?_)
        by_cases h1 : 1 ≤ lo ∧ lo ≤ capF n b g2
        · refine Ev.if_pos (decide_eq_true h1) (Ev.bind1 (policy_eq bo po) (last _ ?_))
          unfold okPar at hpf
          rw [decide_eq_true h1, Bool.true_and] at hpf
          rw [hpf]; rfl
        · exact Ev.if_neg (fun e => h1 (of_decide_eq_true e)) (last _ rfl)
      obtain ⟨k1, a1⟩ := hA
      obtain ⟨k3, a3⟩ := hF
      obtain ⟨k4, a4⟩ := hO
      have hP := specPar_eq n b g2 lo bo po h
      rw [hpf] at hP
      refine ⟨0, 0, 0, [], 0, 0, false, 0, 0, 0, [], [], [], 0, 0, [], [], 0, 0, 2, fun W => (specNewFTL_par (k1 + k3 + k4) n b g2 lo bo po _ _ _ _ _ _ _ _ W (a1 _ (by omega)) hP).mono fun e w' hz => ⟨none, 0, none, 0, none, 0, none, 0, none, 0, none, 0, hz.1, RFTL.nil _, hz.2⟩, fun W => (implNewFTL_par (k1 + k3 + k4) n b g2 lo bo po _ _ _ _ _ _ _ _ _ _ _ _ _ _ _ _ _ _ _ _ _ _ _ _ _ _ _ W (by rw [implGeo_eq, h]) (a3 _ (by omega)) (a4 _ (by omega))).mono fun e w' hz => ⟨_, _, _, _, _, _, hz.1, OFTL.nil _ _, hz.2⟩, by simp, by simp, by simp, by simp, by simp, by simp, by simp⟩
  · have hf := Bool.eq_false_iff.2 h
    have hA : spec_NewFlash.f 0 g0 g1 g2 = some (0, 0, 0, [], 0, 0, false, 0, 1) := by
      unfold spec_NewFlash.f
      rw [specGeo_eq, hf]; rfl
    refine ⟨0, 0, 0, [], 0, 0, false, 0, 0, 0, [], [], [], 0, 0, [], [], 0, 0, 1, fun W => (specNewFTL_geo 0 g0 g1 g2 lo bo po W hA).mono fun e w' hz => ⟨none, 0, none, 0, none, 0, none, 0, none, 0, none, 0, hz.1, RFTL.nil _, hz.2⟩, fun W => (implNewFTL_geo g0 g1 g2 lo bo po W (by rw [implGeo_eq, hf])).mono fun e w' hz => ⟨_, _, _, _, _, _, hz.1, OFTL.nil _ _, hz.2⟩, by simp, by simp, by simp, by simp, by simp, by simp, by simp⟩
end Go.Proofs.Ytaecdlhomihejaa.Q
