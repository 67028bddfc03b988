/- The closure of the program's ready, and ready. Conditions: those before each theorem. -/
import Derived.Test.YtdjbphffibcbeaaXOrdL
import Derived.Test.YtdjbphffibcbeaaXIdxI
import Derived.Test.YtdjbphffibcbeaaOpaque
namespace Go.Proofs.Ytdjbphffibcbeaa.Q
open Go.RowKit Go.Proofs.YtdjbphffibcbeaaW.PrintWords Go.Proofs.YtdjbphffibcbeaaW.PrintMore Go.Proofs.YtdjbphffibcbeaaW.PrintLast
set_option linter.unusedVariables false
set_option linter.unusedSimpArgs false
def rdyr1.T : Bool × List (List Nat × List Nat) := (true, [([], []), ([0], [0]), ([1], [1]), ([2], [2]), ([3], [3]), ([], []), ([4, 5], [4, 5]), ([6], [6]), ([7], [7]), ([], []), ([9], [9]), ([10], [10]), ([8, 11], [8, 11]), ([12, 0, 1, 2, 3, 4, 5, 6, 7, 8, 9, 10, 11, 12], [12])])
def rdyr1.B : List Nat := [0, 1, 3, 7, 15, 0, 63, 127, 255, 0, 512, 1536, 4095, 8191]
theorem rdyr1.tab : rtab .any (opsOf Try.f63 1) = rdyr1.T := by kernel_rfl
theorem rdyr1.bits : waitsOk rdyr1.T.2 rdyr1.B = true := by kernel_rfl
set_option maxHeartbeats 16000000 in
set_option maxRecDepth 100000 in
theorem ready_pred (gp g gz : Nat) (A3 : Option Addr) (c3 : Nat) (L : List (S68)) (B4 : Option Addr) (n4 e4 : Nat) (x : Int) (w : World) (hp : w.cell? ⟨gp, 0, none⟩ = some (.pointer (some ⟨g, 0, none⟩))) (h3 : w.cell? ⟨g, 3, none⟩ = some (.slice A3 L.length c3)) (h4 : w.cell? ⟨gz, 4, none⟩ = some (.slice B4 n4 e4))
    (hr : Kd.C k68 w A3 L.length L) (hx : 0 ≤ x ∧ x < L.length) :
    Calls Try.prog 63 #[.int .i64 x, .pointer (some ⟨gp, 0, none⟩), .pointer (some ⟨gz, 0, none⟩)] w fun e w' => e = .returned (.bool ((rd_T68 L x).f1 != (n4 : Int))) ∧ Below w.heap.size w w' := by
  obtain ⟨ad, Ap, cp, hA, e0, e1, e2, e3, hl3, hC3⟩ := at_T68 hr x hx.1 (by omega)
  subst hA
  have LP : gp < w.heap.size := World.block_lt_of_cell? w _ hp
  have LG : g < w.heap.size := World.block_lt_of_cell? w _ h3
  have LZ : gz < w.heap.size := World.block_lt_of_cell? w _ h4
  have LE : (ad.add (x.toNat * 4)).block < w.heap.size := World.block_lt_of_cell? w _ e0
  have hxa : 0 ≤ x := hx.1
  have hxb : x < (L.length : Int) := hx.2
  have hxc : decide (0 ≤ x) = true := decide_eq_true hx.1
  have hxd : decide (x < (L.length : Int)) = true := decide_eq_true hx.2
  have HQ : Aside0 ((rd_T68 L x).f1 = (rd_T68 L x).f1) := ⟨rfl⟩
  generalize (rd_T68 L x).f1 = y at e1 ⊢
  have HSS : Aside0 (∀ w', Below w.heap.size w w' → (w'.cell? ⟨gp, 0, none⟩ = some (.pointer (some ⟨g, 0, none⟩)) ∧ w'.cell? ⟨g, 3, none⟩ = some (.slice (some ad) L.length c3) ∧ w'.cell? ⟨gz, 4, none⟩ = some (.slice B4 n4 e4) ∧ w'.cell? ⟨(ad.add (x.toNat * 4)).block, (ad.add (x.toNat * 4)).off + 1, none⟩ = some (.int .i64 y))) := ⟨fun w' h => ⟨(h.cell LP).trans hp, (h.cell LG).trans h3, (h.cell LZ).trans h4, (h.cell (show (⟨(ad.add (x.toNat * 4)).block, (ad.add (x.toNat * 4)).off + 1, none⟩ : Addr).block < _ from LE)).trans e1⟩⟩
  have HB := Aside0.mk (Below.refl w.heap.size w)
  clear hp h3 h4 hr hx e0 e1 e2 e3 hl3 hC3 HQ LP LG LZ LE
  go_enter Try.func63, Try.ntmps63
  go_upto_region 1 with (fail)
  (try simp only [Act.put, List.setIfInBounds_toArray, List.set_cons_zero, List.set_cons_succ])
  have n0_ := Aside0.mk (below_drew1 HB.out)
  clear HB
  have HB := n0_
  clear n0_
  refine start_ (n := 14) (S := fun w' => w'.cell? ⟨gp, 0, none⟩ = some (.pointer (some ⟨g, 0, none⟩)) ∧ w'.cell? ⟨g, 3, none⟩ = some (.slice (some ad) L.length c3) ∧ w'.cell? ⟨gz, 4, none⟩ = some (.slice B4 n4 e4) ∧ w'.cell? ⟨(ad.add (x.toNat * 4)).block, (ad.add (x.toNat * 4)).off + 1, none⟩ = some (.int .i64 y)) (ds := []) #[false, false, false, false, false, false, false, false, false, false, false, false, false, false] (by kernel_rfl) rfl rfl (HSS.out _ HB.out) (fun hHeld => ?_)
  refine with_tabW rdyr1.tab rdyr1.bits (fun HT_ HW_ => ?_)
  generalize World.drew _ = W5 at HB hHeld ⊢
  refine ord_ [(1, 5, some 10), (1, 9, some 14), (2, 0, some 5), (1, 1, some 6), (1, 2, some 7), (1, 3, some 8), (2, 4, some 9), (1, 6, some 11), (1, 7, some 12), (2, 8, some 13), (2, 10, some 15), (1, 11, some 16), (1, 12, some 17), (1, 13, some 4)] ?_
  repeat (first | (refine Ord.pureL (v := ?_) (l' := ?_) (t' := ?_) rfl rfl (fun _ _ _ h => h) (by kernel_rfl) ?_ ?_ ?_ ?_ ?_; rotate_left 3; dsimp only [s0, s1]; rfl; exact any_of HT_.out (by kernel_rfl); intro w'; go_simp; (try simp only [i64_w]); with_reducible rfl; dsimp only [s0, s1]; rfl) | (refine Ord.takeL (v := ?_) (l' := ?_) (t' := ?_) rfl rfl (fun _ _ _ h => h) hHeld (by kernel_rfl) ?_ ?_ ?_ ?_ ?_; rotate_left 3; dsimp only [s0, s1]; rfl; exact take_ofW HT_.out HW_.out (by kernel_rfl); rintro w' ⟨s0, s1, s2, s3⟩; go_simp; with_reducible rfl; dsimp only [s0, s1]; rfl))
  refine Ord.nil ?_
  refine done_ (done_of HT_.out (by kernel_rfl)) ?_
  clear hHeld
  try go_wp2
  go_ret
  exact ⟨by first | rfl | simp, HB.out⟩
theorem ready_calls (g : Nat) (d b p : Int) (A3 : Option Addr) (c3 : Nat) (L : List (S68)) (u v : Int) (o : Bool) (z : Int) (A8 : Option Addr) (n8 c8 : Nat) (zs : Int) (B1 : Option Addr) (e1 : Nat) (bl : List Int) (zw zy : Int) (B4 : Option Addr) (n4 e4 : Nat) (B5 : Option Addr) (n5 e5 : Nat) (w : World) (BK : w.heap[g]? = some (.cells #[.int .i64 d, .int .i64 b, .int .i64 p, .slice A3 L.length c3, .int .i64 u, .int .i64 v, .bool o, .int .i64 z, .slice A8 n8 c8] 38 (0, 0))) (hrL : Kd.C k68 w A3 L.length L) (hrB : Kd.C (Kd.int .i64) w B1 bl.length bl) (hcB : bl.length ≤ e1) (hin : ∀ x ∈ bl, 0 ≤ x ∧ x < L.length) :
    Calls Try.prog 49 #[.pointer (some ⟨g, 0, none⟩), .agg #[.int .i64 zs, .slice B1 bl.length e1, .int .i64 zw, .int .i64 zy, .slice B4 n4 e4, .slice B5 n5 e5]] w fun e w' => e = .returned (.bool (!(bl.any fun x => (rd_T68 L x).f1 != (n4 : Int)))) ∧ Below w.heap.size w w' := by
  have LG : g < w.heap.size := blk_lt BK
  have eg : ∀ args w, (callFunc 63 args).run Try.prog w = .ok (.enter 63 args) w := enters_of Try.func63 (by kernel_rfl) rfl
  have HCON : Aside0 (∀ gp gz W, Below w.heap.size w W → W.heap[gp]? = some (.cells #[.pointer (some ⟨g, 0, none⟩)] 75 (0, 0)) → W.heap[gz]? = some (.cells #[.int .i64 zs, .slice B1 bl.length e1, .int .i64 zw, .int .i64 zy, .slice B4 n4 e4, .slice B5 n5 e5] 50 (0, 0)) → Calls Try.prog 60 #[.slice B1 bl.length e1, .func (.func 63) #[] #[.pointer (some ⟨gp, 0, none⟩), .pointer (some ⟨gz, 0, none⟩)]] W fun e w' => e = .returned (.bool (bl.any fun x => (rd_T68 L x).f1 != (n4 : Int))) ∧ Below W.heap.size W w') := ⟨fun gp gz W hb hP hZ =>
    anyI_calls B1 e1 bl W (Kd.C_below hrB hb) hcB 63 #[.pointer (some ⟨gp, 0, none⟩), .pointer (some ⟨gz, 0, none⟩)] (fun x => (rd_T68 L x).f1 != (n4 : Int)) eg (fun W2 x hx hb2 => (ready_pred gp g gz A3 c3 L B4 n4 e4 x W2 ((hb2.cell (blk_lt hP)).trans ((blk_cell hP 0).trans rfl)) (((hb.trans (hb2.mono hb.size)).cell LG).trans ((blk_cell BK 3).trans rfl)) ((hb2.cell (blk_lt hZ)).trans ((blk_cell hZ 4).trans rfl)) (Kd.C_below hrL (hb.trans (hb2.mono hb.size))) (hin x hx)).mono fun e w' ⟨he, hw⟩ => ⟨he, hb2.trans (hw.mono hb2.size)⟩)⟩
  have HB := Aside0.mk (Below.refl w.heap.size w)
  generalize (bl.any fun x => (rd_T68 L x).f1 != (n4 : Int)) = r at HCON ⊢
  clear BK hrL hrB hcB hin LG eg
  go_enter Try.func49, Try.ntmps49
  go_wp2_with (first
    | ((with_reducible refine gate_dst (N := 2) rfl ?_); (try (refine gate_guard (by rfl) ?_; dsimp only)); refine box_event ?hg (N := 2) ?hd (cs := #[.pointer (some ⟨g, 0, none⟩)]) (t := 75) ?hr ?_; (case hd => rfl); (case hg => rfl); (case hr => first | (go_simp; done) | (go_simp; rfl)); intro gp hg W2 hbox hb; have n0_ := Aside0.mk (below_step HB.out hb); clear HB; have HB := n0_; clear n0_; have HP := Aside0.mk hbox; clear hb hbox hg)
    | ((with_reducible refine gate_dst (N := 3) rfl ?_); (try (refine gate_guard (by rfl) ?_; dsimp only)); refine box_event ?hg (N := 3) ?hd (cs := #[.int .i64 zs, .slice B1 bl.length e1, .int .i64 zw, .int .i64 zy, .slice B4 n4 e4, .slice B5 n5 e5]) (t := 50) ?hr ?_; (case hd => rfl); (case hg => rfl); (case hr => first | (go_simp; done) | (go_simp; rfl)); intro gz hg W3 hbox hb; have n0_ := Aside0.mk (below_step HB.out hb); clear HB; have HB := n0_; clear n0_; have n1_ := Aside0.mk (blk_below HP.out hb); clear HP; have HP := n1_; clear n1_; have HZ := Aside0.mk hbox; have zz1 := (blk_cell HZ.out 1).trans rfl; clear hb hbox hg)
    | (go_at_call 60; with_reducible refine Calls.mono (HCON.out gp gz W3 HB.out HP.out HZ.out) ?_; rintro e w' ⟨rfl, hb⟩; have n0_ := Aside0.mk (below_step HB.out hb); clear HB hb; have HB := n0_; clear n0_))
  go_ret
  exact ⟨by first | rfl | simp, HB.out⟩
end Go.Proofs.Ytdjbphffibcbeaa.Q
