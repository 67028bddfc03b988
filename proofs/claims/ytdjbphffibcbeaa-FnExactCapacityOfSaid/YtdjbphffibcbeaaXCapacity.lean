/- The contract of the program's CapacityOf. Conditions: those before each theorem. -/
import Derived.Test.YtdjbphffibcbeaaXValidDevice
namespace Go.Proofs.Ytdjbphffibcbeaa.Q
open Go.RowKit Go.Maps Go.Proofs.YtdjbphffibcbeaaW.PrintWords Go.Proofs.YtdjbphffibcbeaaW.PrintMore Go.Proofs.YtdjbphffibcbeaaW.PrintLast
set_option linter.unusedVariables false
set_option linter.unusedSimpArgs false
def capr1.T : Bool × List (List Nat × List Nat) := (true, [([], []), ([0], [0]), ([], []), ([2], [2]), ([3], [3]), ([4], [4]), ([5], [5]), ([6], [6]), ([1, 7], [1, 7]), ([8, 1, 0, 1, 2, 3, 4, 5, 6, 7, 8], [8])])
def capr1.B : List Nat := [0, 1, 0, 4, 12, 28, 60, 124, 255, 511]
theorem capr1.tab : rtab .any (opsOf Try.f29 1) = capr1.T := by kernel_rfl
theorem capr1.bits : waitsOk capr1.T.2 capr1.B = true := by kernel_rfl
set_option maxHeartbeats 16000000 in
set_option maxRecDepth 100000 in
theorem capacity_calls (g : Nat) (d b p : Int) (A3 : Option Addr) (c3 : Nat) (L : List (S68)) (u v : Int) (o : Bool) (z : Int) (A8 : Option Addr) (n8 c8 : Nat) (w : World) (BK : w.heap[g]? = some (.cells #[.int .i64 d, .int .i64 b, .int .i64 p, .slice A3 L.length c3, .int .i64 u, .int .i64 v, .bool o, .int .i64 z, .slice A8 n8 c8] 38 (0, 0))) :
    Calls Try.prog 29 #[.pointer (some ⟨g, 0, none⟩)] w fun e w' => e = .returned (.int .i64 (wrap64 (wrap64 (d - 1) * p))) ∧ Below w.heap.size w w' := by
  have LG := blk_lt BK
  have HSS : Aside0 (∀ w', Below w.heap.size w w' → (w'.cell? ⟨g, 0, none⟩ = some (.int .i64 d) ∧ w'.cell? ⟨g, 2, none⟩ = some (.int .i64 p))) := ⟨fun w' h => ⟨(h.cell LG).trans ((blk_cell BK 0).trans rfl), (h.cell LG).trans ((blk_cell BK 2).trans rfl)⟩⟩
  have HU : Aside0 (∀ W, Below w.heap.size w W → Calls Try.prog 45 #[.pointer (some ⟨g, 0, none⟩)] W fun e w' => e = .returned (.int .i64 (wrap64 (d - 1))) ∧ Below W.heap.size W w') := ⟨fun W h => units_calls g d W (HSS.out _ h).1⟩
  have HB := Aside0.mk (Below.refl w.heap.size w)
  clear BK LG
  go_enter Try.func29, Try.ntmps29
  go_upto_region 1 with (fail)
  (try simp only [Act.put, List.setIfInBounds_toArray, List.set_cons_zero, List.set_cons_succ])
  have n0_ := Aside0.mk (below_drew1 HB.out)
  clear HB
  have HB := n0_
  clear n0_
  refine start_ (n := 10) (S := fun w' => w'.cell? ⟨g, 0, none⟩ = some (.int .i64 d) ∧ w'.cell? ⟨g, 2, none⟩ = some (.int .i64 p)) (ds := []) #[false, false, false, false, false, false, false, false, false, false] (by kernel_rfl) rfl rfl (HSS.out _ HB.out) (fun hHeld => ?_)
  refine with_tabW capr1.tab capr1.bits (fun HT_ HW_ => ?_)
  generalize World.drew _ = W5 at HB hHeld ⊢
  refine ord_ [(1, 0, some 3), (1, 2, some 5), (1, 3, some 6), (1, 4, some 7), (1, 5, some 8), (1, 6, some 9), (2, 7, some 10)] ?_
  repeat (first | (refine Ord.pureL (v := ?_) (l' := ?_) (t' := ?_) rfl rfl (fun _ _ _ h => h) (by kernel_rfl) ?_ ?_ ?_ ?_ ?_; rotate_left 3; dsimp only [s0, s1]; rfl; exact any_of HT_.out (by kernel_rfl); intro w'; go_simp; (try simp only [i64_w]); with_reducible rfl; dsimp only [s0, s1]; rfl) | (refine Ord.takeL (v := ?_) (l' := ?_) (t' := ?_) rfl rfl (fun _ _ _ h => h) hHeld (by kernel_rfl) ?_ ?_ ?_ ?_ ?_; rotate_left 3; dsimp only [s0, s1]; rfl; exact take_ofW HT_.out HW_.out (by kernel_rfl); rintro w' ⟨s0, s1⟩; go_simp; with_reducible rfl; dsimp only [s0, s1]; rfl))
  refine Ord.nil ?_
  refine one_ (i := 1) (N := some 4) #[true, true, true, true, true, true, true, true, false, false] rfl rfl (one_of HT_.out (by kernel_rfl)) (by decide) (fun K hK => ?_)
  refine goes_ Try.func45 (by kernel_rfl) rfl #[.pointer (some ⟨g, 0, none⟩)] (by rfl) rfl rfl (by simp only [List.map_toArray, List.map_cons, List.map_nil]; rfl) ?_
  with_reducible refine (HU.out _ HB.out).mono ?_
  rintro e W6 ⟨rfl, hb⟩
  refine ⟨_, rfl, ?_⟩
  have n0_ := Aside0.mk (below_step HB.out hb)
  clear HB hb
  have HB := n0_
  clear n0_
  refine hK.out _ _ (HSS.out _ HB.out) (fun hHeld => ?_)
  clear hK K
  refine norm_ (a' := ?_) ?_ ?_
  rotate_left
  · show Act.put _ (some 4) _ = _
    simp only [Act.put, List.setIfInBounds_toArray, List.set_cons_zero, List.set_cons_succ, i64_w, i32_w]
    rfl
  refine ord_ [(1, 8, some 11), (1, 9, some 2)] ?_
  repeat (first | (refine Ord.pureL (v := ?_) (l' := ?_) (t' := ?_) rfl rfl (fun _ _ _ h => h) (by kernel_rfl) ?_ ?_ ?_ ?_ ?_; rotate_left 3; dsimp only [s0, s1]; rfl; exact any_of HT_.out (by kernel_rfl); intro w'; go_simp; (try simp only [i64_w]); with_reducible rfl; dsimp only [s0, s1]; rfl))
  refine Ord.nil ?_
  refine done_ (done_of HT_.out (by kernel_rfl)) ?_
  clear hHeld
  try go_wp2
  go_ret
  exact ⟨by first | rfl | simp, HB.out⟩
set_option maxHeartbeats 16000000 in
set_option maxRecDepth 100000 in
theorem cap_core (d b p : Int) (A3 : Option Addr) (c3 : Nat) (L : List (S68)) (u v : Int) (o : Bool) (z : Int) (A8 : Option Addr) (c8 : Nat) (Zs : List (S50)) (bV : Bool) (w : World)
    (hV : ∀ W, Below w.heap.size w W → Calls Try.prog 8 #[.agg #[.int .i64 d, .int .i64 b, .int .i64 p, .slice A3 L.length c3, .int .i64 u, .int .i64 v, .bool o, .int .i64 z, .slice A8 Zs.length c8]] W fun e w' => e = .returned (.bool bV) ∧ Below W.heap.size W w') :
    Calls Try.prog 11 #[.agg #[.int .i64 d, .int .i64 b, .int .i64 p, .slice A3 L.length c3, .int .i64 u, .int .i64 v, .bool o, .int .i64 z, .slice A8 Zs.length c8]] w fun e w' => e = .returned (.int .i64 (if bV = true then wrap64 (wrap64 (d - 1) * p) else 0)) ∧ Below w.heap.size w w' := by
  have HV := Aside0.mk hV
  have hu38 := Try.underlying38
  clear hV
  go_enter Try.func11, Try.ntmps11
  go_upto_region 1 with (first | ((with_reducible refine gate_dst (N := 1) rfl ?_); (try (refine gate_guard (by rfl) ?_; dsimp only)); refine box_event ?hg (N := 1) ?hd (cs := #[.int .i64 d, .int .i64 b, .int .i64 p, .slice A3 L.length c3, .int .i64 u, .int .i64 v, .bool o, .int .i64 z, .slice A8 Zs.length c8]) (t := 38) ?hr ?_; (case hd => rfl); (case hg => rfl); (case hr => first | (go_simp; done) | (go_simp; rfl)); intro g hg W1 hbox hb; have LG := blk_lt hbox; have HT : Aside0 (∀ W, Below W1.heap.size W1 W → Below w.heap.size w W) := ⟨fun W h => hb.trans (h.mono hb.size)⟩; have HDB := Aside0.mk hbox; have HSS : Aside0 (∀ w', Below W1.heap.size W1 w' → (w'.cell? ⟨g, 0, none⟩ = some (.int .i64 d) ∧ w'.cell? ⟨g, 1, none⟩ = some (.int .i64 b) ∧ w'.cell? ⟨g, 2, none⟩ = some (.int .i64 p) ∧ w'.cell? ⟨g, 3, none⟩ = some (.slice A3 L.length c3) ∧ w'.cell? ⟨g, 4, none⟩ = some (.int .i64 u) ∧ w'.cell? ⟨g, 5, none⟩ = some (.int .i64 v) ∧ w'.cell? ⟨g, 6, none⟩ = some (.bool o) ∧ w'.cell? ⟨g, 7, none⟩ = some (.int .i64 z) ∧ w'.cell? ⟨g, 8, none⟩ = some (.slice A8 Zs.length c8))) := ⟨fun w' h => ⟨(h.cell LG).trans ((blk_cell hbox 0).trans rfl), (h.cell LG).trans ((blk_cell hbox 1).trans rfl), (h.cell LG).trans ((blk_cell hbox 2).trans rfl), (h.cell LG).trans ((blk_cell hbox 3).trans rfl), (h.cell LG).trans ((blk_cell hbox 4).trans rfl), (h.cell LG).trans ((blk_cell hbox 5).trans rfl), (h.cell LG).trans ((blk_cell hbox 6).trans rfl), (h.cell LG).trans ((blk_cell hbox 7).trans rfl), (h.cell LG).trans ((blk_cell hbox 8).trans rfl)⟩⟩; have HB := Aside0.mk (Below.refl W1.heap.size W1); clear hb hbox hg LG; (try simp only [Act.put, List.setIfInBounds_toArray, List.set_cons_zero, List.set_cons_succ])))
  have HP : Aside0 (∀ W, Below W1.heap.size W1 W → Calls Try.prog 29 #[.pointer (some ⟨g, 0, none⟩)] W fun e w' => e = .returned (.int .i64 (wrap64 (wrap64 (d - 1) * p))) ∧ Below W.heap.size W w') := ⟨fun W h => capacity_calls g d b p A3 c3 L u v o z A8 Zs.length c8 W (blk_below HDB.out h)⟩
  obtain ⟨z0, z1, z2, z3, z4, z5, z6, z7, z8⟩ := HSS.out _ HB.out
  cases bV with
  | false =>
    go_wp2_with (go_at_call 8; with_reducible refine Calls.mono (HV.out _ (HT.out _ HB.out)) ?_; rintro e W6 ⟨rfl, hb⟩; have n0_ := Aside0.mk (below_step HB.out hb); clear HB hb; have HB := n0_; clear n0_; clear z0 z1 z2 z3 z4 z5 z6 z7 z8; obtain ⟨z0, z1, z2, z3, z4, z5, z6, z7, z8⟩ := HSS.out _ HB.out)
    go_ret
    exact ⟨rfl, HT.out _ HB.out⟩
  | true =>
    go_wp2_with (first | (go_at_call 8; with_reducible refine Calls.mono (HV.out _ (HT.out _ HB.out)) ?_; rintro e W6 ⟨rfl, hb⟩; have n0_ := Aside0.mk (below_step HB.out hb); clear HB hb; have HB := n0_; clear n0_; clear z0 z1 z2 z3 z4 z5 z6 z7 z8; obtain ⟨z0, z1, z2, z3, z4, z5, z6, z7, z8⟩ := HSS.out _ HB.out) | (go_at_call 29; with_reducible refine Calls.mono (HP.out _ HB.out) ?_; rintro e W7 ⟨rfl, hb⟩; have n0_ := Aside0.mk (below_step HB.out hb); clear HB hb; have HB := n0_; clear n0_; skip))
    go_ret
    exact ⟨rfl, HT.out _ HB.out⟩
def impl_CapacityOf.f (a0_0 a0_1 a0_2 : Int) (l0_3 : List (S68)) (a0_4 a0_5 : Int) (a0_6 : Bool) (a0_7 : Int) (l0_8 : List (S50)) : Option Int := some (if devB a0_0 a0_1 a0_2 l0_3 a0_4 a0_5 a0_7 l0_8 = true then wrap64 (wrap64 (a0_0 - 1) * a0_2) else 0)
theorem impl_CapacityOf.calls (a0_0 a0_1 a0_2 : Int) (A0_3 : Option Addr) (c0_3 : Nat) (l0_3 : List (S68)) (a0_4 a0_5 : Int) (a0_6 : Bool) (a0_7 : Int) (A0_8 : Option Addr) (c0_8 : Nat) (l0_8 : List (S50)) (r : Int) (w : World) (hr0_3 : Kd.C k68 w A0_3 l0_3.length l0_3) (hc0_3 : l0_3.length ≤ c0_3) (hr0_8 : Kd.C k50 w A0_8 l0_8.length l0_8) (hc0_8 : l0_8.length ≤ c0_8) (h : impl_CapacityOf.f a0_0 a0_1 a0_2 l0_3 a0_4 a0_5 a0_6 a0_7 l0_8 = some r) :
    Calls Try.prog 11 #[.agg #[.int .i64 a0_0, .int .i64 a0_1, .int .i64 a0_2, .slice A0_3 l0_3.length c0_3, .int .i64 a0_4, .int .i64 a0_5, .bool a0_6, .int .i64 a0_7, .slice A0_8 l0_8.length c0_8]] w fun e w' => e = .returned (.int .i64 r) ∧ Below w.heap.size w w' := by
  rw [← Option.some.inj h]
  exact cap_core a0_0 a0_1 a0_2 A0_3 c0_3 l0_3 a0_4 a0_5 a0_6 a0_7 A0_8 c0_8 l0_8 _ w fun W hb => impl_ValidDevice.calls a0_0 a0_1 a0_2 A0_3 c0_3 l0_3 a0_4 a0_5 a0_6 a0_7 A0_8 c0_8 l0_8 _ W (Kd.C_below hr0_3 hb) hc0_3 (Kd.C_below hr0_8 hb) hc0_8 rfl
end Go.Proofs.Ytdjbphffibcbeaa.Q
