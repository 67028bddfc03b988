/- The contract of the program's placesOk. Conditions: those before each theorem. -/
import Derived.Test.YtdjbphffibcbeaaXOrdL
import Derived.Test.YtdjbphffibcbeaaXIdxI
import Derived.Test.YtdjbphffibcbeaaOpaque
import Derived.Test.YtdjbphffibcbeaaInOk
namespace Go.Proofs.Ytdjbphffibcbeaa.Q
open Go.RowKit Go.Proofs.YtdjbphffibcbeaaW.PrintWords Go.Proofs.YtdjbphffibcbeaaW.PrintMore Go.Proofs.YtdjbphffibcbeaaW.PrintLast
set_option linter.unusedVariables false
set_option linter.unusedSimpArgs false
theorem inD_calls (a b c : Int) (W : World) : Calls Try.prog 23 #[.int .i64 a, .int .i64 b, .int .i64 c] W fun e w' => e = .returned (.bool (decide (b ≤ a ∧ a ≤ c))) ∧ Below W.heap.size W w' :=
  (impl_within.calls a b c _ W (within_eq a b c)).mono fun e w' ⟨he, hd⟩ => ⟨he, by obtain ⟨nn, rfl⟩ := hd.out; exact pw_below_drewN (Below.refl _ _) nn⟩
theorem allD_range {n : Nat} {p : Nat → Bool} (h : ∀ j, j < n → p j = true) : (List.range n).all p = true := by
  rw [List.all_eq_true]
  exact fun x hx => h x (List.mem_range.1 hx)
theorem notD_range {n : Nat} {p : Nat → Bool} {j : Nat} (hj : j < n) (h : p j = false) : (List.range n).all p = false := by
  rw [List.all_eq_false]
  exact ⟨j, List.mem_range.2 hj, by simp [h]⟩
def placeAt (b : Int) (bl : List Int) (i : Nat) : Bool := decide (wrap64 ((i : Int) * b) ≤ rd bl i ∧ rd bl i ≤ wrap64 (wrap64 (wrap64 ((i : Int) * b) + b) - 1))
def placesB (d b : Int) (bl : List Int) : Bool := ((bl.length : Int) == d) && (List.range bl.length).all (placeAt b bl)
def plcr1.T : Bool × List (List Nat × List Nat) := (true, [([], []), ([0], [0]), ([1], [1]), ([], []), ([3], [3]), ([4], [4]), ([5], [5]), ([6], [6]), ([7], [7]), ([2, 8], [2, 8])])
def plcr1.B : List Nat := [0, 1, 3, 0, 8, 24, 56, 120, 248, 511]
theorem plcr1.tab : rtab .any (opsOf Try.f24 1) = plcr1.T := by kernel_rfl
theorem plcr1.bits : waitsOk plcr1.T.2 plcr1.B = true := by kernel_rfl
set_option maxHeartbeats 16000000 in
set_option maxRecDepth 100000 in
theorem places_calls (g : Nat) (d b p : Int) (A3 : Option Addr) (c3 : Nat) (L : List (S68)) (u v : Int) (o : Bool) (z : Int) (A8 : Option Addr) (n8 c8 : Nat) (zs : Int) (B1 : Option Addr) (e1 : Nat) (bl : List Int) (zw zy : Int) (B4 : Option Addr) (n4 e4 : Nat) (B5 : Option Addr) (n5 e5 : Nat) (w : World) (BK : w.heap[g]? = some (.cells #[.int .i64 d, .int .i64 b, .int .i64 p, .slice A3 L.length c3, .int .i64 u, .int .i64 v, .bool o, .int .i64 z, .slice A8 n8 c8] 38 (0, 0))) (hrB : Kd.C (Kd.int .i64) w B1 bl.length bl) (hcB : bl.length ≤ e1) :
    Calls Try.prog 24 #[.pointer (some ⟨g, 0, none⟩), .agg #[.int .i64 zs, .slice B1 bl.length e1, .int .i64 zw, .int .i64 zy, .slice B4 n4 e4, .slice B5 n5 e5]] w fun e w' => e = .returned (.bool (placesB d b bl)) ∧ Below w.heap.size w w' := by
  have hbig := hrB.2.1
  have LG := Aside0.mk (blk_lt BK)
  have BK := Aside0.mk BK
  have HR := Aside0.mk hrB
  clear hrB
  unfold placesB
  cases hl : ((bl.length : Int) == d) with
  | false =>
    have hl1 : ((bl.length : Int) != d) = true := by rw [bne, hl]; rfl
    rw [Bool.false_and]
    clear hbig
    go_enter Try.func24, Try.ntmps24
    go_upto_region 1 with (first | ((with_reducible refine gate_dst (N := 3) rfl ?_); (try (refine gate_guard (by rfl) ?_; dsimp only)); refine box_event ?hg (N := 3) ?hd (cs := #[.int .i64 zs, .slice B1 bl.length e1, .int .i64 zw, .int .i64 zy, .slice B4 n4 e4, .slice B5 n5 e5]) (t := 50) ?hr ?_; (case hd => rfl); (case hg => rfl); (case hr => first | (go_simp; done) | (go_simp; rfl)); intro gz hg W3 hbox hb; have HT : Aside0 (∀ W, Below W3.heap.size W3 W → Below w.heap.size w W) := ⟨fun W h => hb.trans (h.mono hb.size)⟩; have LG3 : g < W3.heap.size := Nat.lt_of_lt_of_le LG.out hb.size; have BK3 := blk_below BK.out hb; have HSS : Aside0 (∀ w', Below W3.heap.size W3 w' → (w'.cell? ⟨g, 0, none⟩ = some (.int .i64 d) ∧ w'.cell? ⟨g, 1, none⟩ = some (.int .i64 b) ∧ w'.cell? ⟨gz, 1, none⟩ = some (.slice B1 bl.length e1))) := ⟨fun w' h => ⟨(h.cell LG3).trans ((blk_cell BK3 0).trans rfl), (h.cell LG3).trans ((blk_cell BK3 1).trans rfl), (h.cell (blk_lt hbox)).trans ((blk_cell hbox 1).trans rfl)⟩⟩; have HB := Aside0.mk (Below.refl W3.heap.size W3); clear hb hbox hg LG3 BK3; (try simp only [Act.put, List.setIfInBounds_toArray, List.set_cons_zero, List.set_cons_succ])))
    (try simp only [Act.put, List.setIfInBounds_toArray, List.set_cons_zero, List.set_cons_succ])
    have n0_ := Aside0.mk (below_drew1 HB.out)
    clear HB
    have HB := n0_
    clear n0_
    refine start_ (n := 10) (S := fun w' => w'.cell? ⟨g, 0, none⟩ = some (.int .i64 d) ∧ w'.cell? ⟨g, 1, none⟩ = some (.int .i64 b) ∧ w'.cell? ⟨gz, 1, none⟩ = some (.slice B1 bl.length e1)) (ds := []) #[false, false, false, false, false, false, false, false, false, false] (by kernel_rfl) rfl rfl (HSS.out _ HB.out) (fun hHeld => ?_)
    refine with_tabW plcr1.tab plcr1.bits (fun HT_ HW_ => ?_)
    generalize World.drew _ = W5 at HB hHeld ⊢
    refine ord_ [(1, 0, some 8), (1, 3, some 11), (1, 4, some 12), (1, 5, some 13), (1, 6, some 14), (1, 7, some 15), (2, 1, some 9), (1, 2, some 10), (2, 8, some 16), (1, 9, some 17)] ?_
    repeat (first | (refine Ord.pureL (v := ?_) (l' := ?_) (t' := ?_) rfl rfl (fun _ _ _ h => h) (by kernel_rfl) ?_ ?_ ?_ ?_ ?_; rotate_left 3; dsimp only [s0, s1]; rfl; exact any_of HT_.out (by kernel_rfl); intro w'; go_simp; (try simp only [i64_w]); with_reducible rfl; dsimp only [s0, s1]; rfl) | (refine Ord.takeL (v := ?_) (l' := ?_) (t' := ?_) rfl rfl (fun _ _ _ h => h) hHeld (by kernel_rfl) ?_ ?_ ?_ ?_ ?_; rotate_left 3; dsimp only [s0, s1]; rfl; exact take_ofW HT_.out HW_.out (by kernel_rfl); rintro w' ⟨s0, s1, s2⟩; go_simp; with_reducible rfl; dsimp only [s0, s1]; rfl))
    refine Ord.nil ?_
    refine done_ (done_of HT_.out (by kernel_rfl)) ?_
    clear hHeld
    try go_wp2
    go_ret
    exact ⟨rfl, HT.out _ HB.out⟩
  | true =>
    have hl1 : ((bl.length : Int) != d) = false := by rw [bne, hl]; rfl
    rw [Bool.true_and]
    go_enter Try.func24, Try.ntmps24
    go_upto_region 1 with (first | ((with_reducible refine gate_dst (N := 3) rfl ?_); (try (refine gate_guard (by rfl) ?_; dsimp only)); refine box_event ?hg (N := 3) ?hd (cs := #[.int .i64 zs, .slice B1 bl.length e1, .int .i64 zw, .int .i64 zy, .slice B4 n4 e4, .slice B5 n5 e5]) (t := 50) ?hr ?_; (case hd => rfl); (case hg => rfl); (case hr => first | (go_simp; done) | (go_simp; rfl)); intro gz hg W3 hbox hb; have HT : Aside0 (∀ W, Below W3.heap.size W3 W → Below w.heap.size w W) := ⟨fun W h => hb.trans (h.mono hb.size)⟩; have LG3 : g < W3.heap.size := Nat.lt_of_lt_of_le LG.out hb.size; have BK3 := blk_below BK.out hb; have HSS : Aside0 (∀ w', Below W3.heap.size W3 w' → (w'.cell? ⟨g, 0, none⟩ = some (.int .i64 d) ∧ w'.cell? ⟨g, 1, none⟩ = some (.int .i64 b) ∧ w'.cell? ⟨gz, 1, none⟩ = some (.slice B1 bl.length e1))) := ⟨fun w' h => ⟨(h.cell LG3).trans ((blk_cell BK3 0).trans rfl), (h.cell LG3).trans ((blk_cell BK3 1).trans rfl), (h.cell (blk_lt hbox)).trans ((blk_cell hbox 1).trans rfl)⟩⟩; have HB := Aside0.mk (Below.refl W3.heap.size W3); clear hb hbox hg LG3 BK3; (try simp only [Act.put, List.setIfInBounds_toArray, List.set_cons_zero, List.set_cons_succ])))
    (try simp only [Act.put, List.setIfInBounds_toArray, List.set_cons_zero, List.set_cons_succ])
    have n0_ := Aside0.mk (below_drew1 HB.out)
    clear HB
    have HB := n0_
    clear n0_
    refine start_ (n := 10) (S := fun w' => w'.cell? ⟨g, 0, none⟩ = some (.int .i64 d) ∧ w'.cell? ⟨g, 1, none⟩ = some (.int .i64 b) ∧ w'.cell? ⟨gz, 1, none⟩ = some (.slice B1 bl.length e1)) (ds := []) #[false, false, false, false, false, false, false, false, false, false] (by kernel_rfl) rfl rfl (HSS.out _ HB.out) (fun hHeld => ?_)
    refine with_tabW plcr1.tab plcr1.bits (fun HT_ HW_ => ?_)
    generalize World.drew _ = W5 at HB hHeld ⊢
    refine ord_ [(1, 0, some 8), (1, 3, some 11), (1, 4, some 12), (1, 5, some 13), (1, 6, some 14), (1, 7, some 15), (2, 1, some 9), (1, 2, some 10), (2, 8, some 16), (1, 9, some 17)] ?_
    repeat (first | (refine Ord.pureL (v := ?_) (l' := ?_) (t' := ?_) rfl rfl (fun _ _ _ h => h) (by kernel_rfl) ?_ ?_ ?_ ?_ ?_; rotate_left 3; dsimp only [s0, s1]; rfl; exact any_of HT_.out (by kernel_rfl); intro w'; go_simp; (try simp only [i64_w]); with_reducible rfl; dsimp only [s0, s1]; rfl) | (refine Ord.takeL (v := ?_) (l' := ?_) (t' := ?_) rfl rfl (fun _ _ _ h => h) hHeld (by kernel_rfl) ?_ ?_ ?_ ?_ ?_; rotate_left 3; dsimp only [s0, s1]; rfl; exact take_ofW HT_.out HW_.out (by kernel_rfl); rintro w' ⟨s0, s1, s2⟩; go_simp; with_reducible rfl; dsimp only [s0, s1]; rfl))
    refine Ord.nil ?_
    refine done_ (done_of HT_.out (by kernel_rfl)) ?_
    clear hHeld hl hl1
    obtain ⟨z0, z1, z2⟩ := HSS.out _ HB.out
    go_wp2
    clear z0 z1 z2
    go_loopg [5, 6, 7, 21] bl.length (fun gg _ _ _ s21 wr => ∃ kk : Nat, kk ≤ bl.length ∧ bl.length - kk ≤ gg ∧ s21 = .int .i64 kk ∧ Aside0 (Below W3.heap.size W3 wr) ∧ Aside0 (∀ j, j < kk → placeAt b bl j = true))
    case atStart => exact ⟨0, Nat.zero_le _, by omega, rfl, HB, ⟨fun j hj => absurd hj (Nat.not_lt_zero _)⟩⟩
    case round =>
      clear HB
      obtain ⟨kk, hkk, hg, rfl, HB, HA⟩ := hrel
      obtain ⟨z0, z1, z2⟩ := HSS.out _ HB.out
      by_cases hlt : kk < bl.length
      · have hlti : (kk : Int) < (bl.length : Int) := by omega
        have hltb : decide ((kk : Int) < (bl.length : Int)) = true := decide_eq_true hlti
        obtain ⟨ad, e1_, hcell⟩ := Kd.at_int (Kd.C_below HR.out (HT.out _ HB.out)) (kk : Int) (by omega) (by omega)
        subst e1_
        rw [Int.toNat_natCast] at hcell
        have HMA : Aside0 (placeAt b bl kk = decide (wrap64 ((kk : Int) * b) ≤ rd bl kk ∧ rd bl kk ≤ wrap64 (wrap64 (wrap64 ((kk : Int) * b) + b) - 1))) := ⟨rfl⟩
        have HY := Aside0.mk (inD_calls (rd bl kk) (wrap64 ((kk : Int) * b)) (wrap64 (wrap64 (wrap64 ((kk : Int) * b) + b) - 1)))
        generalize rd bl kk = y at hcell HMA HY
        cases ci : decide (wrap64 ((kk : Int) * b) ≤ y ∧ y ≤ wrap64 (wrap64 (wrap64 ((kk : Int) * b) + b) - 1)) with
        | false =>
          rw [ci] at HY HMA
          clear ci
          have HF := Aside0.mk (notD_range (p := placeAt b bl) hlt HMA.out)
          go_wp2_with (go_at_call 23; with_reducible refine Calls.mono (HY.out _) ?_; rintro e w2 ⟨rfl, hb⟩; have n0_ := Aside0.mk (below_step HB.out hb); clear HB hb; have HB := n0_; clear n0_)
          go_ret
          exact ⟨by rw [HF.out]; rfl, HT.out _ HB.out⟩
        | true =>
          rw [ci] at HY HMA
          clear ci
          go_wp2_with (go_at_call 23; with_reducible refine Calls.mono (HY.out _) ?_; rintro e w2 ⟨rfl, hb⟩; have n0_ := Aside0.mk (below_step HB.out hb); clear HB hb; have HB := n0_; clear n0_)
          go_roundg (bl.length - (kk + 1))
          case measure => omega
          case rel =>
            refine ⟨kk + 1, by omega, by omega, by go_num, HB, ⟨fun j hj => ?_⟩⟩
            by_cases e : j = kk
            · subst e
              exact HMA.out
            · exact HA.out j (by omega)
      · have hlti : ¬ (kk : Int) < (bl.length : Int) := by omega
        have hltb : decide ((kk : Int) < (bl.length : Int)) = false := decide_eq_false hlti
        obtain rfl : kk = bl.length := by omega
        have HF := Aside0.mk (allD_range HA.out)
        go_wp2
        go_ret
        exact ⟨by rw [HF.out]; rfl, HT.out _ HB.out⟩
end Go.Proofs.Ytdjbphffibcbeaa.Q
