/- The program's contentsOk: the walk over the known answers of its calls. Conditions: those before each theorem. -/
import Derived.Test.YtdjbphffibcbeaaXPlaces
namespace Go.Proofs.Ytdjbphffibcbeaa.Q
open Go.RowKit Go.Proofs.YtdjbphffibcbeaaW.PrintWords Go.Proofs.YtdjbphffibcbeaaW.PrintMore Go.Proofs.YtdjbphffibcbeaaW.PrintLast
abbrev kNXContents_ := @blk_drewN
abbrev kDXContents_ := @blk_drew
abbrev rNXContents_ := @Kd.R_drewN
abbrev bAXContents_ := @below_alloc
abbrev bNXContents_ := @pw_below_drewN
abbrev bDXContents_ := @below_drew1
abbrev bSXContents_ := @below_set
abbrev mkXContents_ := @Aside0.mk
abbrev fZXContents_ := @blk_frozen
abbrev sBXContents_ := @Kd.S_below
abbrev bTXContents_ := @below_step
abbrev bZXContents_ := @below_size
set_option linter.unusedVariables false
set_option linter.unusedSimpArgs false
set_option maxHeartbeats 16000000 in
set_option maxRecDepth 100000 in
theorem units_calls (g:Nat) (d:Int) (w:World) (h0:w.cell? ⟨g,0,none⟩=some (.int .i64 d)) :
  Calls Try.prog 45 #[.pointer (some ⟨g,0,none⟩)] w fun e w'=>e=.returned (.int .i64 (wrap64 (d - 1)))∧Below w.heap.size w w':=by
 go_enter Try.func45, Try.ntmps45
 go_wp2
 go_ret
 exact ⟨by first|rfl|simp,by repeat (first|exact Below.refl _ _|apply bNXContents_|apply bDXContents_)⟩
def cntr1.T:Bool × List (List Nat × List Nat):=(true,[([],[]),([0],[0]),([1],[1]),([],[]),([3],[3]),([4],[4]),([5],[5]),([6],[6]),([7],[7]),([2,8],[2,8]),([9],[9]),([10],[10]),([11,10],[10,11]),([10],[10]),([13,10,10],[10,13]),([12,14,14,10],[10,12,14]),([15,10],[10,15]),([10,16],[10,16]),([17,15],[17]),([18],[18]),([19,18],[18,19]),([20,18],[18,20]),([18],[18]),([22,18,18],[18,22]),([21,23,18],[18,21,23]),([18,24],[18,24])])
def cntr1.B:List Nat:=[0,1,3,0,8,24,56,120,248,511,1023,2047,4095,2047,10239,32767,65535,131071,262143,524287,1048575,2097151,524287,4718591,16777215,33554431]
theorem cntr1.tab : rtab .any (opsOf Try.f25 1) = cntr1.T := by kernel_rfl
theorem cntr1.bits : waitsOk cntr1.T.2 cntr1.B = true := by kernel_rfl
def cntr3.T:Bool × List (List Nat × List Nat):=(true,[([],[]),([0],[0]),([],[]),([2],[2]),([3],[3]),([1,4],[1,4]),([5,4],[5]),([6],[6]),([7,6],[6,7]),([6],[6]),([9,6],[6,9]),([6],[6]),([11,6],[6,11]),([12,6],[6,12]),([10,13,6],[6,10,13]),([8,14,6],[6,8,14]),([6,15],[6,15]),([16,6],[16]),([17],[17]),([18,17],[17,18]),([19,17,17],[17,19]),([20,17],[17,20]),([17,21],[17,21]),([22,20,0,1,2,3,4,5,6,7,8,9,10,11,12,13,14,15,16,17,18,19,20,21,22],[22])])
def cntr3.B:List Nat:=[0,1,0,4,12,31,63,127,255,127,639,127,2175,6271,15999,32767,65535,131071,262143,524287,1048575,2097151,4194303,8388607]
theorem cntr3.tab : rtab .any (opsOf Try.f25 3) = cntr3.T := by kernel_rfl
theorem cntr3.bits : waitsOk cntr3.T.2 cntr3.B = true := by kernel_rfl
set_option maxHeartbeats 16000000 in
set_option maxRecDepth 100000 in
theorem contents_core (g:Nat) (d b p:Int) (A3:Option Addr) (c3:Nat) (L:List (S68)) (u v:Int) (o:Bool) (z:Int) (A8:Option Addr) (n8 c8:Nat) (zs:Int) (B1:Option Addr) (e1:Nat) (bl:List Int) (zw zy:Int) (B4:Option Addr) (n4 e4:Nat) (B5:Option Addr) (n5 e5:Nat) (tt:Int) (bG bA bU bT bW bC r:Bool) (w:World) (BK:w.heap[g]?=some (.cells #[.int .i64 d,.int .i64 b,.int .i64 p,.slice A3 L.length c3,.int .i64 u,.int .i64 v,.bool o,.int .i64 z,.slice A8 n8 c8] 38 (0,0)))
  (hA:∀ W,Below w.heap.size w W→Calls Try.prog 44 #[.slice B4 n4 e4,.int .i64 1,.int .i64 (wrap64 (d - 1))] W fun e w'=>e=.returned (.bool bA)∧Below W.heap.size W w')
  (hO:∀ W,Below w.heap.size w W→Calls Try.prog 46 #[.slice B4 n4 e4] W fun e w'=>e=.returned (.int .i64 tt)∧Below W.heap.size W w')
  (hC:∀ W,Below w.heap.size w W→Calls Try.prog 47 #[.slice B5 n5 e5,.func (.func 48) #[] #[]] W fun e w'=>e=.returned (.bool bC)∧Below W.heap.size W w')
  (qG:decide (p < (n4:Int))=bG) (qU:decide (wrap64 (d - 1)≤(n5:Int))=bU) (qT:(zy == tt)=bT) (qW:(zw == wrap64 (zy+(n5:Int)))=bW)
  (hr : (!bG && (bA && (!bU && (bT && (bW && !bC))))) = r) :
  Calls Try.prog 25 #[.pointer (some ⟨g,0,none⟩),.agg #[.int .i64 zs,.slice B1 bl.length e1,.int .i64 zw,.int .i64 zy,.slice B4 n4 e4,.slice B5 n5 e5]] w fun e w'=>e=.returned (.bool r)∧Below w.heap.size w w':=by
 have LG := Aside0.mk (blk_lt BK)
 have BK := Aside0.mk BK
 have HA := Aside0.mk hA
 have HO := Aside0.mk hO
 have HC := Aside0.mk hC
 have KQ := Aside0.mk (And.intro qG (And.intro qU (And.intro qT qW)))
 clear hA hO hC qG qU qT qW
 go_enter Try.func25, Try.ntmps25
 go_upto_region 1 with (first|((with_reducible refine gate_dst (N:=3) rfl ?_);(try (refine gate_guard (by rfl) ?_;dsimp only));refine box_event ?hg (N:=3) ?hd (cs:=#[.int .i64 zs,.slice B1 bl.length e1,.int .i64 zw,.int .i64 zy,.slice B4 n4 e4,.slice B5 n5 e5]) (t:=50) ?hr ?_;(case hd=>rfl);(case hg=>rfl);(case hr=>first|(go_simp;done)|(go_simp;rfl));intro gz hg W3 hbox hb;have HT:Aside0 (∀ W,Below W3.heap.size W3 W→Below w.heap.size w W):=⟨fun W h=>hb.trans (h.mono hb.size)⟩;have LG3:g < W3.heap.size:=Nat.lt_of_lt_of_le LG.out hb.size;have BK3:=blk_below BK.out hb;have HSS:Aside0 (∀ w',Below W3.heap.size W3 w'→(w'.cell? ⟨g,0,none⟩=some (.int .i64 d)∧w'.cell? ⟨g,2,none⟩=some (.int .i64 p)∧w'.cell? ⟨gz,2,none⟩=some (.int .i64 zw)∧w'.cell? ⟨gz,3,none⟩=some (.int .i64 zy)∧w'.cell? ⟨gz,4,none⟩=some (.slice B4 n4 e4)∧w'.cell? ⟨gz,5,none⟩=some (.slice B5 n5 e5))):=⟨fun w' h=>⟨(h.cell LG3).trans ((blk_cell BK3 0).trans rfl),(h.cell LG3).trans ((blk_cell BK3 2).trans rfl),(h.cell (blk_lt hbox)).trans ((blk_cell hbox 2).trans rfl),(h.cell (blk_lt hbox)).trans ((blk_cell hbox 3).trans rfl),(h.cell (blk_lt hbox)).trans ((blk_cell hbox 4).trans rfl),(h.cell (blk_lt hbox)).trans ((blk_cell hbox 5).trans rfl)⟩⟩;have HB:=mkXContents_ (Below.refl W3.heap.size W3);clear hb hbox hg LG3 BK3;(try simp only [Act.put,List.setIfInBounds_toArray,List.set_cons_zero,List.set_cons_succ])))
 (try simp only [Act.put, List.setIfInBounds_toArray, List.set_cons_zero, List.set_cons_succ])
 have HU:Aside0 (∀ W,Below W3.heap.size W3 W→Calls Try.prog 45 #[.pointer (some ⟨g,0,none⟩)] W fun e w'=>e=.returned (.int .i64 (wrap64 (d - 1)))∧Below W.heap.size W w'):=⟨fun W h=>units_calls g d W (HSS.out _ h).1⟩
 cases bG with
 | true =>
  obtain ⟨qG, qU, qT, qW⟩ := KQ.out
  clear qT qW
  obtain rfl : r = false := hr.symm.trans (by first | rfl | simp)
  clear hr
  have n0_ := Aside0.mk (below_drew1 HB.out)
  clear HB
  have HB := n0_
  clear n0_
  refine start_ (n:=26) (S:=fun w'=>w'.cell? ⟨g,0,none⟩=some (.int .i64 d)∧w'.cell? ⟨g,2,none⟩=some (.int .i64 p)∧w'.cell? ⟨gz,2,none⟩=some (.int .i64 zw)∧w'.cell? ⟨gz,3,none⟩=some (.int .i64 zy)∧w'.cell? ⟨gz,4,none⟩=some (.slice B4 n4 e4)∧w'.cell? ⟨gz,5,none⟩=some (.slice B5 n5 e5)) (ds:=[]) #[false,false,false,false,false,false,false,false,false,false,false,false,false,false,false,false,false,false,false,false,false,false,false,false,false,false] (by kernel_rfl) rfl rfl (HSS.out _ HB.out) (fun hHeld=>?_)
  refine with_tabW cntr1.tab cntr1.bits (fun HT_ HW_ => ?_)
  generalize World.drew _ = W5 at HB hHeld ⊢
  refine ord_ [(1,0,some 5),(1,3,some 8),(1,4,some 9),(1,5,some 10),(1,6,some 11),(1,7,some 12),(2,1,some 6),(1,2,some 7),(2,8,some 13),(1,9,some 14),(1,10,some 15),(0,11,some 16),(0,12,some 17),(0,13,some 18),(0,14,some 19),(0,15,some 20),(0,16,some 21),(1,17,some 22),(1,18,some 23),(0,19,some 24),(0,20,some 25),(0,21,some 26),(0,22,some 27),(0,23,some 28),(0,24,some 29),(1,25,some 30)] ?_
  repeat (first|(refine Ord.offL (l':=?_) (t':=?_) rfl rfl (fun _ _ _ h=>h) (by kernel_rfl) ?_ ?_ ?_ ?_;rotate_left 2;dsimp only [s0,s1];rfl;exact any_of HT_.out (by kernel_rfl);dsimp only [s0,s1];rfl)|(refine Ord.pureL (v:=?_) (l':=?_) (t':=?_) rfl rfl (fun _ _ _ h=>h) (by kernel_rfl) ?_ ?_ ?_ ?_ ?_;rotate_left 3;dsimp only [s0,s1];rfl;exact any_of HT_.out (by kernel_rfl);intro w';go_simp;(try simp only [i64_w]);with_reducible rfl;dsimp only [s0,s1];rfl)|(refine Ord.takeL (v:=?_) (l':=?_) (t':=?_) rfl rfl (fun _ _ _ h=>h) hHeld (by kernel_rfl) ?_ ?_ ?_ ?_ ?_;rotate_left 3;dsimp only [s0,s1];rfl;exact take_ofW HT_.out HW_.out (by kernel_rfl);rintro w' ⟨s0,s1,s2,s3,s4,s5⟩;go_simp;with_reducible rfl;dsimp only [s0,s1];rfl))
  refine Ord.nil ?_
  refine done_ (done_of HT_.out (by kernel_rfl)) ?_
  clear hHeld
  try go_wp2
  go_ret
  exact ⟨rfl, HT.out _ HB.out⟩
 | false =>
  cases bA with
  | false =>
   obtain ⟨qG, qU, qT, qW⟩ := KQ.out
   clear qT qW
   obtain rfl : r = false := hr.symm.trans (by first | rfl | simp)
   clear hr
   have n0_ := Aside0.mk (below_drew1 HB.out)
   clear HB
   have HB := n0_
   clear n0_
   refine start_ (n:=26) (S:=fun w'=>w'.cell? ⟨g,0,none⟩=some (.int .i64 d)∧w'.cell? ⟨g,2,none⟩=some (.int .i64 p)∧w'.cell? ⟨gz,2,none⟩=some (.int .i64 zw)∧w'.cell? ⟨gz,3,none⟩=some (.int .i64 zy)∧w'.cell? ⟨gz,4,none⟩=some (.slice B4 n4 e4)∧w'.cell? ⟨gz,5,none⟩=some (.slice B5 n5 e5)) (ds:=[]) #[false,false,false,false,false,false,false,false,false,false,false,false,false,false,false,false,false,false,false,false,false,false,false,false,false,false] (by kernel_rfl) rfl rfl (HSS.out _ HB.out) (fun hHeld=>?_)
   refine with_tabW cntr1.tab cntr1.bits (fun HT_ HW_ => ?_)
   generalize World.drew _ = W5 at HB hHeld ⊢
   refine ord_ [(1,0,some 5),(1,3,some 8),(1,4,some 9),(1,5,some 10),(1,6,some 11),(1,7,some 12),(2,1,some 6),(1,2,some 7),(2,8,some 13),(1,9,some 14),(1,10,some 15),(1,11,some 16),(1,13,some 18),(2,12,some 17)] ?_
   repeat (first|(refine Ord.pureL (v:=?_) (l':=?_) (t':=?_) rfl rfl (fun _ _ _ h=>h) (by kernel_rfl) ?_ ?_ ?_ ?_ ?_;rotate_left 3;dsimp only [s0,s1];rfl;exact any_of HT_.out (by kernel_rfl);intro w';go_simp;(try simp only [i64_w]);with_reducible rfl;dsimp only [s0,s1];rfl)|(refine Ord.takeL (v:=?_) (l':=?_) (t':=?_) rfl rfl (fun _ _ _ h=>h) hHeld (by kernel_rfl) ?_ ?_ ?_ ?_ ?_;rotate_left 3;dsimp only [s0,s1];rfl;exact take_ofW HT_.out HW_.out (by kernel_rfl);rintro w' ⟨s0,s1,s2,s3,s4,s5⟩;go_simp;with_reducible rfl;dsimp only [s0,s1];rfl))
   refine Ord.nil ?_
   refine one_ (i:=14) (N:=some 19) #[true,true,true,true,true,true,true,true,true,true,true,true,true,true,true,false,false,false,false,false,false,false,false,false,false,false] rfl rfl (one_of HT_.out (by kernel_rfl)) (by decide) (fun K hK=>?_)
   refine goes_ Try.func45 (by kernel_rfl) rfl #[.pointer (some ⟨g,0,none⟩)] (by rfl) rfl rfl (by simp only [List.map_toArray,List.map_cons,List.map_nil];rfl) ?_
   with_reducible refine (HU.out _ HB.out).mono ?_
   rintro e W20 ⟨rfl, hb⟩
   refine ⟨_, rfl, ?_⟩
   have n0_ := Aside0.mk (below_step HB.out hb)
   clear HB hb
   have HB := n0_
   clear n0_
   refine hK.out _ _ (HSS.out _ HB.out) (fun hHeld => ?_)
   clear hK K
   refine norm_ (a' := ?_) ?_ ?_
   rotate_left
   ·show Act.put _ (some 19) _ = _
    simp only [Act.put,List.setIfInBounds_toArray,List.set_cons_zero,List.set_cons_succ,i64_w,i32_w]
    rfl
   refine one_ (i:=15) (N:=some 20) #[true,true,true,true,true,true,true,true,true,true,true,true,true,true,true,true,false,false,false,false,false,false,false,false,false,false] rfl rfl (one_of HT_.out (by kernel_rfl)) (by decide) (fun K hK=>?_)
   refine goes_ Try.func44 (by kernel_rfl) rfl #[.slice B4 n4 e4,.int .i64 1,.int .i64 (wrap64 (d - 1))] (by rfl) rfl rfl (by simp only [List.map_toArray,List.map_cons,List.map_nil];rfl) ?_
   with_reducible refine (HA.out _ (HT.out _ HB.out)).mono ?_
   rintro e W21 ⟨rfl, hb⟩
   refine ⟨_, rfl, ?_⟩
   have n0_ := Aside0.mk (below_step HB.out hb)
   clear HB hb
   have HB := n0_
   clear n0_
   refine hK.out _ _ (HSS.out _ HB.out) (fun hHeld => ?_)
   clear hK K
   refine norm_ (a' := ?_) ?_ ?_
   rotate_left
   ·show Act.put _ (some 20) _ = _
    simp only [Act.put,List.setIfInBounds_toArray,List.set_cons_zero,List.set_cons_succ,i64_w,i32_w]
    rfl
   refine ord_ [(1,16,some 21),(1,17,some 22),(1,18,some 23),(0,19,some 24),(0,20,some 25),(0,21,some 26),(0,22,some 27),(0,23,some 28),(0,24,some 29),(1,25,some 30)] ?_
   repeat (first|(refine Ord.offL (l':=?_) (t':=?_) rfl rfl (fun _ _ _ h=>h) (by kernel_rfl) ?_ ?_ ?_ ?_;rotate_left 2;dsimp only [s0,s1];rfl;exact any_of HT_.out (by kernel_rfl);dsimp only [s0,s1];rfl)|(refine Ord.pureL (v:=?_) (l':=?_) (t':=?_) rfl rfl (fun _ _ _ h=>h) (by kernel_rfl) ?_ ?_ ?_ ?_ ?_;rotate_left 3;dsimp only [s0,s1];rfl;exact any_of HT_.out (by kernel_rfl);intro w';go_simp;(try simp only [i64_w]);with_reducible rfl;dsimp only [s0,s1];rfl))
   refine Ord.nil ?_
   refine done_ (done_of HT_.out (by kernel_rfl)) ?_
   clear hHeld
   try go_wp2
   go_ret
   exact ⟨rfl, HT.out _ HB.out⟩
  | true =>
   cases bU with
   | true =>
    obtain ⟨qG, qU, qT, qW⟩ := KQ.out
    clear qT qW
    obtain rfl : r = false := hr.symm.trans (by first | rfl | simp)
    clear hr
    have n0_ := Aside0.mk (below_drew1 HB.out)
    clear HB
    have HB := n0_
    clear n0_
    refine start_ (n:=26) (S:=fun w'=>w'.cell? ⟨g,0,none⟩=some (.int .i64 d)∧w'.cell? ⟨g,2,none⟩=some (.int .i64 p)∧w'.cell? ⟨gz,2,none⟩=some (.int .i64 zw)∧w'.cell? ⟨gz,3,none⟩=some (.int .i64 zy)∧w'.cell? ⟨gz,4,none⟩=some (.slice B4 n4 e4)∧w'.cell? ⟨gz,5,none⟩=some (.slice B5 n5 e5)) (ds:=[]) #[false,false,false,false,false,false,false,false,false,false,false,false,false,false,false,false,false,false,false,false,false,false,false,false,false,false] (by kernel_rfl) rfl rfl (HSS.out _ HB.out) (fun hHeld=>?_)
    refine with_tabW cntr1.tab cntr1.bits (fun HT_ HW_ => ?_)
    generalize World.drew _ = W5 at HB hHeld ⊢
    refine ord_ [(1,0,some 5),(1,3,some 8),(1,4,some 9),(1,5,some 10),(1,6,some 11),(1,7,some 12),(2,1,some 6),(1,2,some 7),(2,8,some 13),(1,9,some 14),(1,10,some 15),(1,11,some 16),(1,13,some 18),(2,12,some 17)] ?_
    repeat (first|(refine Ord.pureL (v:=?_) (l':=?_) (t':=?_) rfl rfl (fun _ _ _ h=>h) (by kernel_rfl) ?_ ?_ ?_ ?_ ?_;rotate_left 3;dsimp only [s0,s1];rfl;exact any_of HT_.out (by kernel_rfl);intro w';go_simp;(try simp only [i64_w]);with_reducible rfl;dsimp only [s0,s1];rfl)|(refine Ord.takeL (v:=?_) (l':=?_) (t':=?_) rfl rfl (fun _ _ _ h=>h) hHeld (by kernel_rfl) ?_ ?_ ?_ ?_ ?_;rotate_left 3;dsimp only [s0,s1];rfl;exact take_ofW HT_.out HW_.out (by kernel_rfl);rintro w' ⟨s0,s1,s2,s3,s4,s5⟩;go_simp;with_reducible rfl;dsimp only [s0,s1];rfl))
    refine Ord.nil ?_
    refine one_ (i:=14) (N:=some 19) #[true,true,true,true,true,true,true,true,true,true,true,true,true,true,true,false,false,false,false,false,false,false,false,false,false,false] rfl rfl (one_of HT_.out (by kernel_rfl)) (by decide) (fun K hK=>?_)
    refine goes_ Try.func45 (by kernel_rfl) rfl #[.pointer (some ⟨g,0,none⟩)] (by rfl) rfl rfl (by simp only [List.map_toArray,List.map_cons,List.map_nil];rfl) ?_
    with_reducible refine (HU.out _ HB.out).mono ?_
    rintro e W20 ⟨rfl, hb⟩
    refine ⟨_, rfl, ?_⟩
    have n0_ := Aside0.mk (below_step HB.out hb)
    clear HB hb
    have HB := n0_
    clear n0_
    refine hK.out _ _ (HSS.out _ HB.out) (fun hHeld => ?_)
    clear hK K
    refine norm_ (a' := ?_) ?_ ?_
    rotate_left
    ·show Act.put _ (some 19) _ = _
     simp only [Act.put,List.setIfInBounds_toArray,List.set_cons_zero,List.set_cons_succ,i64_w,i32_w]
     rfl
    refine one_ (i:=15) (N:=some 20) #[true,true,true,true,true,true,true,true,true,true,true,true,true,true,true,true,false,false,false,false,false,false,false,false,false,false] rfl rfl (one_of HT_.out (by kernel_rfl)) (by decide) (fun K hK=>?_)
    refine goes_ Try.func44 (by kernel_rfl) rfl #[.slice B4 n4 e4,.int .i64 1,.int .i64 (wrap64 (d - 1))] (by rfl) rfl rfl (by simp only [List.map_toArray,List.map_cons,List.map_nil];rfl) ?_
    with_reducible refine (HA.out _ (HT.out _ HB.out)).mono ?_
    rintro e W21 ⟨rfl, hb⟩
    refine ⟨_, rfl, ?_⟩
    have n0_ := Aside0.mk (below_step HB.out hb)
    clear HB hb
    have HB := n0_
    clear n0_
    refine hK.out _ _ (HSS.out _ HB.out) (fun hHeld => ?_)
    clear hK K
    refine norm_ (a' := ?_) ?_ ?_
    rotate_left
    ·show Act.put _ (some 20) _ = _
     simp only [Act.put,List.setIfInBounds_toArray,List.set_cons_zero,List.set_cons_succ,i64_w,i32_w]
     rfl
    refine ord_ [(1,16,some 21),(1,17,some 22),(1,18,some 23),(1,19,some 24),(1,22,some 27),(2,20,some 25),(1,21,some 26)] ?_
    repeat (first|(refine Ord.pureL (v:=?_) (l':=?_) (t':=?_) rfl rfl (fun _ _ _ h=>h) (by kernel_rfl) ?_ ?_ ?_ ?_ ?_;rotate_left 3;dsimp only [s0,s1];rfl;exact any_of HT_.out (by kernel_rfl);intro w';go_simp;(try simp only [i64_w]);with_reducible rfl;dsimp only [s0,s1];rfl)|(refine Ord.takeL (v:=?_) (l':=?_) (t':=?_) rfl rfl (fun _ _ _ h=>h) hHeld (by kernel_rfl) ?_ ?_ ?_ ?_ ?_;rotate_left 3;dsimp only [s0,s1];rfl;exact take_ofW HT_.out HW_.out (by kernel_rfl);rintro w' ⟨s0,s1,s2,s3,s4,s5⟩;go_simp;with_reducible rfl;dsimp only [s0,s1];rfl))
    refine Ord.nil ?_
    refine one_ (i:=23) (N:=some 28) #[true,true,true,true,true,true,true,true,true,true,true,true,true,true,true,true,true,true,true,true,true,true,true,true,false,false] rfl rfl (one_of HT_.out (by kernel_rfl)) (by decide) (fun K hK=>?_)
    refine goes_ Try.func45 (by kernel_rfl) rfl #[.pointer (some ⟨g,0,none⟩)] (by rfl) rfl rfl (by simp only [List.map_toArray,List.map_cons,List.map_nil];rfl) ?_
    with_reducible refine (HU.out _ HB.out).mono ?_
    rintro e W29 ⟨rfl, hb⟩
    refine ⟨_, rfl, ?_⟩
    have n0_ := Aside0.mk (below_step HB.out hb)
    clear HB hb
    have HB := n0_
    clear n0_
    refine hK.out _ _ (HSS.out _ HB.out) (fun hHeld => ?_)
    clear hK K
    refine norm_ (a' := ?_) ?_ ?_
    rotate_left
    ·show Act.put _ (some 28) _ = _
     simp only [Act.put,List.setIfInBounds_toArray,List.set_cons_zero,List.set_cons_succ,i64_w,i32_w]
     rfl
    refine ord_ [(1, 24, some 29), (1, 25, some 30)] ?_
    repeat (first|(refine Ord.pureL (v:=?_) (l':=?_) (t':=?_) rfl rfl (fun _ _ _ h=>h) (by kernel_rfl) ?_ ?_ ?_ ?_ ?_;rotate_left 3;dsimp only [s0,s1];rfl;exact any_of HT_.out (by kernel_rfl);intro w';go_simp;(try simp only [i64_w]);with_reducible rfl;dsimp only [s0,s1];rfl))
    refine Ord.nil ?_
    refine done_ (done_of HT_.out (by kernel_rfl)) ?_
    clear hHeld
    try go_wp2
    go_ret
    exact ⟨rfl, HT.out _ HB.out⟩
   | false =>
    obtain ⟨qG, qU, qT, qW⟩ := KQ.out
    clear qT qW
    have n0_ := Aside0.mk (below_drew1 HB.out)
    clear HB
    have HB := n0_
    clear n0_
    refine start_ (n:=26) (S:=fun w'=>w'.cell? ⟨g,0,none⟩=some (.int .i64 d)∧w'.cell? ⟨g,2,none⟩=some (.int .i64 p)∧w'.cell? ⟨gz,2,none⟩=some (.int .i64 zw)∧w'.cell? ⟨gz,3,none⟩=some (.int .i64 zy)∧w'.cell? ⟨gz,4,none⟩=some (.slice B4 n4 e4)∧w'.cell? ⟨gz,5,none⟩=some (.slice B5 n5 e5)) (ds:=[]) #[false,false,false,false,false,false,false,false,false,false,false,false,false,false,false,false,false,false,false,false,false,false,false,false,false,false] (by kernel_rfl) rfl rfl (HSS.out _ HB.out) (fun hHeld=>?_)
    refine with_tabW cntr1.tab cntr1.bits (fun HT_ HW_ => ?_)
    generalize World.drew _ = W5 at HB hHeld ⊢
    refine ord_ [(1,0,some 5),(1,3,some 8),(1,4,some 9),(1,5,some 10),(1,6,some 11),(1,7,some 12),(2,1,some 6),(1,2,some 7),(2,8,some 13),(1,9,some 14),(1,10,some 15),(1,11,some 16),(1,13,some 18),(2,12,some 17)] ?_
    repeat (first|(refine Ord.pureL (v:=?_) (l':=?_) (t':=?_) rfl rfl (fun _ _ _ h=>h) (by kernel_rfl) ?_ ?_ ?_ ?_ ?_;rotate_left 3;dsimp only [s0,s1];rfl;exact any_of HT_.out (by kernel_rfl);intro w';go_simp;(try simp only [i64_w]);with_reducible rfl;dsimp only [s0,s1];rfl)|(refine Ord.takeL (v:=?_) (l':=?_) (t':=?_) rfl rfl (fun _ _ _ h=>h) hHeld (by kernel_rfl) ?_ ?_ ?_ ?_ ?_;rotate_left 3;dsimp only [s0,s1];rfl;exact take_ofW HT_.out HW_.out (by kernel_rfl);rintro w' ⟨s0,s1,s2,s3,s4,s5⟩;go_simp;with_reducible rfl;dsimp only [s0,s1];rfl))
    refine Ord.nil ?_
    refine one_ (i:=14) (N:=some 19) #[true,true,true,true,true,true,true,true,true,true,true,true,true,true,true,false,false,false,false,false,false,false,false,false,false,false] rfl rfl (one_of HT_.out (by kernel_rfl)) (by decide) (fun K hK=>?_)
    refine goes_ Try.func45 (by kernel_rfl) rfl #[.pointer (some ⟨g,0,none⟩)] (by rfl) rfl rfl (by simp only [List.map_toArray,List.map_cons,List.map_nil];rfl) ?_
    with_reducible refine (HU.out _ HB.out).mono ?_
    rintro e W20 ⟨rfl, hb⟩
    refine ⟨_, rfl, ?_⟩
    have n0_ := Aside0.mk (below_step HB.out hb)
    clear HB hb
    have HB := n0_
    clear n0_
    refine hK.out _ _ (HSS.out _ HB.out) (fun hHeld => ?_)
    clear hK K
    refine norm_ (a' := ?_) ?_ ?_
    rotate_left
    ·show Act.put _ (some 19) _ = _
     simp only [Act.put,List.setIfInBounds_toArray,List.set_cons_zero,List.set_cons_succ,i64_w,i32_w]
     rfl
    refine one_ (i:=15) (N:=some 20) #[true,true,true,true,true,true,true,true,true,true,true,true,true,true,true,true,false,false,false,false,false,false,false,false,false,false] rfl rfl (one_of HT_.out (by kernel_rfl)) (by decide) (fun K hK=>?_)
    refine goes_ Try.func44 (by kernel_rfl) rfl #[.slice B4 n4 e4,.int .i64 1,.int .i64 (wrap64 (d - 1))] (by rfl) rfl rfl (by simp only [List.map_toArray,List.map_cons,List.map_nil];rfl) ?_
    with_reducible refine (HA.out _ (HT.out _ HB.out)).mono ?_
    rintro e W21 ⟨rfl, hb⟩
    refine ⟨_, rfl, ?_⟩
    have n0_ := Aside0.mk (below_step HB.out hb)
    clear HB hb
    have HB := n0_
    clear n0_
    refine hK.out _ _ (HSS.out _ HB.out) (fun hHeld => ?_)
    clear hK K
    refine norm_ (a' := ?_) ?_ ?_
    rotate_left
    ·show Act.put _ (some 20) _ = _
     simp only [Act.put,List.setIfInBounds_toArray,List.set_cons_zero,List.set_cons_succ,i64_w,i32_w]
     rfl
    refine ord_ [(1,16,some 21),(1,17,some 22),(1,18,some 23),(1,19,some 24),(1,22,some 27),(2,20,some 25),(1,21,some 26)] ?_
    repeat (first|(refine Ord.pureL (v:=?_) (l':=?_) (t':=?_) rfl rfl (fun _ _ _ h=>h) (by kernel_rfl) ?_ ?_ ?_ ?_ ?_;rotate_left 3;dsimp only [s0,s1];rfl;exact any_of HT_.out (by kernel_rfl);intro w';go_simp;(try simp only [i64_w]);with_reducible rfl;dsimp only [s0,s1];rfl)|(refine Ord.takeL (v:=?_) (l':=?_) (t':=?_) rfl rfl (fun _ _ _ h=>h) hHeld (by kernel_rfl) ?_ ?_ ?_ ?_ ?_;rotate_left 3;dsimp only [s0,s1];rfl;exact take_ofW HT_.out HW_.out (by kernel_rfl);rintro w' ⟨s0,s1,s2,s3,s4,s5⟩;go_simp;with_reducible rfl;dsimp only [s0,s1];rfl))
    refine Ord.nil ?_
    refine one_ (i:=23) (N:=some 28) #[true,true,true,true,true,true,true,true,true,true,true,true,true,true,true,true,true,true,true,true,true,true,true,true,false,false] rfl rfl (one_of HT_.out (by kernel_rfl)) (by decide) (fun K hK=>?_)
    refine goes_ Try.func45 (by kernel_rfl) rfl #[.pointer (some ⟨g,0,none⟩)] (by rfl) rfl rfl (by simp only [List.map_toArray,List.map_cons,List.map_nil];rfl) ?_
    with_reducible refine (HU.out _ HB.out).mono ?_
    rintro e W29 ⟨rfl, hb⟩
    refine ⟨_, rfl, ?_⟩
    have n0_ := Aside0.mk (below_step HB.out hb)
    clear HB hb
    have HB := n0_
    clear n0_
    refine hK.out _ _ (HSS.out _ HB.out) (fun hHeld => ?_)
    clear hK K
    refine norm_ (a' := ?_) ?_ ?_
    rotate_left
    ·show Act.put _ (some 28) _ = _
     simp only [Act.put,List.setIfInBounds_toArray,List.set_cons_zero,List.set_cons_succ,i64_w,i32_w]
     rfl
    refine ord_ [(1, 24, some 29), (1, 25, some 30)] ?_
    repeat (first|(refine Ord.pureL (v:=?_) (l':=?_) (t':=?_) rfl rfl (fun _ _ _ h=>h) (by kernel_rfl) ?_ ?_ ?_ ?_ ?_;rotate_left 3;dsimp only [s0,s1];rfl;exact any_of HT_.out (by kernel_rfl);intro w';go_simp;(try simp only [i64_w]);with_reducible rfl;dsimp only [s0,s1];rfl))
    refine Ord.nil ?_
    refine done_ (done_of HT_.out (by kernel_rfl)) ?_
    clear hHeld qG qU HA
    go_upto_region 3 with (fail)
    (try simp only [Act.put,List.setIfInBounds_toArray,List.set_cons_zero,List.set_cons_succ])
    cases bT with
    | false =>
     obtain ⟨qG, qU, qT, qW⟩ := KQ.out
     clear qG qU
     obtain rfl : r = false := hr.symm.trans (by first | rfl | simp)
     clear hr
     have qT1 : (zy == tt) = false := qT
     have qT2 : (zy != tt) = true := by rw [bne, qT]; rfl
     have n0_ := Aside0.mk (below_drew1 HB.out)
     clear HB
     have HB := n0_
     clear n0_
     refine start_ (n:=24) (S:=fun w'=>w'.cell? ⟨g,0,none⟩=some (.int .i64 d)∧w'.cell? ⟨g,2,none⟩=some (.int .i64 p)∧w'.cell? ⟨gz,2,none⟩=some (.int .i64 zw)∧w'.cell? ⟨gz,3,none⟩=some (.int .i64 zy)∧w'.cell? ⟨gz,4,none⟩=some (.slice B4 n4 e4)∧w'.cell? ⟨gz,5,none⟩=some (.slice B5 n5 e5)) (ds:=[]) #[false,false,false,false,false,false,false,false,false,false,false,false,false,false,false,false,false,false,false,false,false,false,false,false] (by kernel_rfl) rfl rfl (HSS.out _ HB.out) (fun hHeld=>?_)
     refine with_tabW cntr3.tab cntr3.bits (fun HT_ HW_ => ?_)
     generalize World.drew _ = W5 at HB hHeld ⊢
     refine ord_ [(1, 0, some 31), (1, 2, some 33), (2, 1, some 32), (2, 3, some 34)] ?_
     repeat (first|(refine Ord.pureL (v:=?_) (l':=?_) (t':=?_) rfl rfl (fun _ _ _ h=>h) (by kernel_rfl) ?_ ?_ ?_ ?_ ?_;rotate_left 3;dsimp only [s0,s1];rfl;exact any_of HT_.out (by kernel_rfl);intro w';go_simp;(try simp only [i64_w]);with_reducible rfl;dsimp only [s0,s1];rfl)|(refine Ord.takeL (v:=?_) (l':=?_) (t':=?_) rfl rfl (fun _ _ _ h=>h) hHeld (by kernel_rfl) ?_ ?_ ?_ ?_ ?_;rotate_left 3;dsimp only [s0,s1];rfl;exact take_ofW HT_.out HW_.out (by kernel_rfl);rintro w' ⟨s0,s1,s2,s3,s4,s5⟩;go_simp;with_reducible rfl;dsimp only [s0,s1];rfl))
     refine Ord.nil ?_
     refine one_ (i:=4) (N:=some 35) #[true,true,true,true,true,false,false,false,false,false,false,false,false,false,false,false,false,false,false,false,false,false,false,false] rfl rfl (one_of HT_.out (by kernel_rfl)) (by decide) (fun K hK=>?_)
     refine goes_ Try.func46 (by kernel_rfl) rfl #[.slice B4 n4 e4] (by rfl) rfl rfl (by simp only [List.map_toArray,List.map_cons,List.map_nil];rfl) ?_
     with_reducible refine (HO.out _ (HT.out _ HB.out)).mono ?_
     rintro e W10 ⟨rfl, hb⟩
     refine ⟨_, rfl, ?_⟩
     have n0_ := Aside0.mk (below_step HB.out hb)
     clear HB hb
     have HB := n0_
     clear n0_
     refine hK.out _ _ (HSS.out _ HB.out) (fun hHeld => ?_)
     clear hK K
     refine norm_ (a' := ?_) ?_ ?_
     rotate_left
     ·show Act.put _ (some 35) _ = _
      simp only [Act.put,List.setIfInBounds_toArray,List.set_cons_zero,List.set_cons_succ,i64_w,i32_w]
      rfl
     refine ord_ [(1,5,some 36),(1,6,some 37),(0,7,some 38),(0,8,some 39),(0,9,some 40),(0,10,some 41),(0,11,some 42),(0,12,some 43),(0,13,some 44),(0,14,some 45),(0,15,some 46),(1,16,some 47),(1,17,some 48),(0,18,some 49),(0,19,some 50),(0,20,some 51),(0,21,some 52),(1,22,some 53),(1,23,some 4)] ?_
     repeat (first|(refine Ord.offL (l':=?_) (t':=?_) rfl rfl (fun _ _ _ h=>h) (by kernel_rfl) ?_ ?_ ?_ ?_;rotate_left 2;dsimp only [s0,s1];rfl;exact any_of HT_.out (by kernel_rfl);dsimp only [s0,s1];rfl)|(refine Ord.pureL (v:=?_) (l':=?_) (t':=?_) rfl rfl (fun _ _ _ h=>h) (by kernel_rfl) ?_ ?_ ?_ ?_ ?_;rotate_left 3;dsimp only [s0,s1];rfl;exact any_of HT_.out (by kernel_rfl);intro w';go_simp;(try simp only [i64_w]);with_reducible rfl;dsimp only [s0,s1];rfl))
     refine Ord.nil ?_
     refine done_ (done_of HT_.out (by kernel_rfl)) ?_
     clear hHeld
     try go_wp2
     go_ret
     exact ⟨rfl, HT.out _ HB.out⟩
    | true =>
     cases bW with
     | false =>
      obtain ⟨qG, qU, qT, qW⟩ := KQ.out
      clear qG qU
      obtain rfl : r = false := hr.symm.trans (by first | rfl | simp)
      clear hr
      have qT1 : (zy == tt) = true := qT
      have qT2 : (zy != tt) = false := by rw [bne, qT]; rfl
      have qW1 : (zw == wrap64 (zy + (n5 : Int))) = false := qW
      have qW2 : (zw != wrap64 (zy + (n5 : Int))) = true := by rw [bne, qW]; rfl
      have n0_ := Aside0.mk (below_drew1 HB.out)
      clear HB
      have HB := n0_
      clear n0_
      refine start_ (n:=24) (S:=fun w'=>w'.cell? ⟨g,0,none⟩=some (.int .i64 d)∧w'.cell? ⟨g,2,none⟩=some (.int .i64 p)∧w'.cell? ⟨gz,2,none⟩=some (.int .i64 zw)∧w'.cell? ⟨gz,3,none⟩=some (.int .i64 zy)∧w'.cell? ⟨gz,4,none⟩=some (.slice B4 n4 e4)∧w'.cell? ⟨gz,5,none⟩=some (.slice B5 n5 e5)) (ds:=[]) #[false,false,false,false,false,false,false,false,false,false,false,false,false,false,false,false,false,false,false,false,false,false,false,false] (by kernel_rfl) rfl rfl (HSS.out _ HB.out) (fun hHeld=>?_)
      refine with_tabW cntr3.tab cntr3.bits (fun HT_ HW_ => ?_)
      generalize World.drew _ = W5 at HB hHeld ⊢
      refine ord_ [(1, 0, some 31), (1, 2, some 33), (2, 1, some 32), (2, 3, some 34)] ?_
      repeat (first|(refine Ord.pureL (v:=?_) (l':=?_) (t':=?_) rfl rfl (fun _ _ _ h=>h) (by kernel_rfl) ?_ ?_ ?_ ?_ ?_;rotate_left 3;dsimp only [s0,s1];rfl;exact any_of HT_.out (by kernel_rfl);intro w';go_simp;(try simp only [i64_w]);with_reducible rfl;dsimp only [s0,s1];rfl)|(refine Ord.takeL (v:=?_) (l':=?_) (t':=?_) rfl rfl (fun _ _ _ h=>h) hHeld (by kernel_rfl) ?_ ?_ ?_ ?_ ?_;rotate_left 3;dsimp only [s0,s1];rfl;exact take_ofW HT_.out HW_.out (by kernel_rfl);rintro w' ⟨s0,s1,s2,s3,s4,s5⟩;go_simp;with_reducible rfl;dsimp only [s0,s1];rfl))
      refine Ord.nil ?_
      refine one_ (i:=4) (N:=some 35) #[true,true,true,true,true,false,false,false,false,false,false,false,false,false,false,false,false,false,false,false,false,false,false,false] rfl rfl (one_of HT_.out (by kernel_rfl)) (by decide) (fun K hK=>?_)
      refine goes_ Try.func46 (by kernel_rfl) rfl #[.slice B4 n4 e4] (by rfl) rfl rfl (by simp only [List.map_toArray,List.map_cons,List.map_nil];rfl) ?_
      with_reducible refine (HO.out _ (HT.out _ HB.out)).mono ?_
      rintro e W10 ⟨rfl, hb⟩
      refine ⟨_, rfl, ?_⟩
      have n0_ := Aside0.mk (below_step HB.out hb)
      clear HB hb
      have HB := n0_
      clear n0_
      refine hK.out _ _ (HSS.out _ HB.out) (fun hHeld => ?_)
      clear hK K
      refine norm_ (a' := ?_) ?_ ?_
      rotate_left
      ·show Act.put _ (some 35) _ = _
       simp only [Act.put,List.setIfInBounds_toArray,List.set_cons_zero,List.set_cons_succ,i64_w,i32_w]
       rfl
      refine ord_ [(1,5,some 36),(1,6,some 37),(1,7,some 38),(1,9,some 40),(1,11,some 42),(2,8,some 39),(2,10,some 41),(2,12,some 43),(1,13,some 44),(1,14,some 45),(1,15,some 46),(1,16,some 47),(1,17,some 48),(0,18,some 49),(0,19,some 50),(0,20,some 51),(0,21,some 52),(1,22,some 53),(1,23,some 4)] ?_
      repeat (first|(refine Ord.offL (l':=?_) (t':=?_) rfl rfl (fun _ _ _ h=>h) (by kernel_rfl) ?_ ?_ ?_ ?_;rotate_left 2;dsimp only [s0,s1];rfl;exact any_of HT_.out (by kernel_rfl);dsimp only [s0,s1];rfl)|(refine Ord.pureL (v:=?_) (l':=?_) (t':=?_) rfl rfl (fun _ _ _ h=>h) (by kernel_rfl) ?_ ?_ ?_ ?_ ?_;rotate_left 3;dsimp only [s0,s1];rfl;exact any_of HT_.out (by kernel_rfl);intro w';go_simp;(try simp only [i64_w]);with_reducible rfl;dsimp only [s0,s1];rfl)|(refine Ord.takeL (v:=?_) (l':=?_) (t':=?_) rfl rfl (fun _ _ _ h=>h) hHeld (by kernel_rfl) ?_ ?_ ?_ ?_ ?_;rotate_left 3;dsimp only [s0,s1];rfl;exact take_ofW HT_.out HW_.out (by kernel_rfl);rintro w' ⟨s0,s1,s2,s3,s4,s5⟩;go_simp;with_reducible rfl;dsimp only [s0,s1];rfl))
      refine Ord.nil ?_
      refine done_ (done_of HT_.out (by kernel_rfl)) ?_
      clear hHeld
      try go_wp2
      go_ret
      exact ⟨rfl, HT.out _ HB.out⟩
     | true =>
      obtain ⟨qG, qU, qT, qW⟩ := KQ.out
      clear qG qU
      obtain rfl : r = !bC := hr.symm.trans (by first | rfl | simp)
      clear hr
      have qT1 : (zy == tt) = true := qT
      have qT2 : (zy != tt) = false := by rw [bne, qT]; rfl
      have qW1 : (zw == wrap64 (zy + (n5 : Int))) = true := qW
      have qW2 : (zw != wrap64 (zy + (n5 : Int))) = false := by rw [bne, qW]; rfl
      have n0_ := Aside0.mk (below_drew1 HB.out)
      clear HB
      have HB := n0_
      clear n0_
      refine start_ (n:=24) (S:=fun w'=>w'.cell? ⟨g,0,none⟩=some (.int .i64 d)∧w'.cell? ⟨g,2,none⟩=some (.int .i64 p)∧w'.cell? ⟨gz,2,none⟩=some (.int .i64 zw)∧w'.cell? ⟨gz,3,none⟩=some (.int .i64 zy)∧w'.cell? ⟨gz,4,none⟩=some (.slice B4 n4 e4)∧w'.cell? ⟨gz,5,none⟩=some (.slice B5 n5 e5)) (ds:=[]) #[false,false,false,false,false,false,false,false,false,false,false,false,false,false,false,false,false,false,false,false,false,false,false,false] (by kernel_rfl) rfl rfl (HSS.out _ HB.out) (fun hHeld=>?_)
      refine with_tabW cntr3.tab cntr3.bits (fun HT_ HW_ => ?_)
      generalize World.drew _ = W5 at HB hHeld ⊢
      refine ord_ [(1, 0, some 31), (1, 2, some 33), (2, 1, some 32), (2, 3, some 34)] ?_
      repeat (first|(refine Ord.pureL (v:=?_) (l':=?_) (t':=?_) rfl rfl (fun _ _ _ h=>h) (by kernel_rfl) ?_ ?_ ?_ ?_ ?_;rotate_left 3;dsimp only [s0,s1];rfl;exact any_of HT_.out (by kernel_rfl);intro w';go_simp;(try simp only [i64_w]);with_reducible rfl;dsimp only [s0,s1];rfl)|(refine Ord.takeL (v:=?_) (l':=?_) (t':=?_) rfl rfl (fun _ _ _ h=>h) hHeld (by kernel_rfl) ?_ ?_ ?_ ?_ ?_;rotate_left 3;dsimp only [s0,s1];rfl;exact take_ofW HT_.out HW_.out (by kernel_rfl);rintro w' ⟨s0,s1,s2,s3,s4,s5⟩;go_simp;with_reducible rfl;dsimp only [s0,s1];rfl))
      refine Ord.nil ?_
      refine one_ (i:=4) (N:=some 35) #[true,true,true,true,true,false,false,false,false,false,false,false,false,false,false,false,false,false,false,false,false,false,false,false] rfl rfl (one_of HT_.out (by kernel_rfl)) (by decide) (fun K hK=>?_)
      refine goes_ Try.func46 (by kernel_rfl) rfl #[.slice B4 n4 e4] (by rfl) rfl rfl (by simp only [List.map_toArray,List.map_cons,List.map_nil];rfl) ?_
      with_reducible refine (HO.out _ (HT.out _ HB.out)).mono ?_
      rintro e W10 ⟨rfl, hb⟩
      refine ⟨_, rfl, ?_⟩
      have n0_ := Aside0.mk (below_step HB.out hb)
      clear HB hb
      have HB := n0_
      clear n0_
      refine hK.out _ _ (HSS.out _ HB.out) (fun hHeld => ?_)
      clear hK K
      refine norm_ (a' := ?_) ?_ ?_
      rotate_left
      ·show Act.put _ (some 35) _ = _
       simp only [Act.put,List.setIfInBounds_toArray,List.set_cons_zero,List.set_cons_succ,i64_w,i32_w]
       rfl
      refine ord_ [(1,5,some 36),(1,6,some 37),(1,7,some 38),(1,9,some 40),(1,11,some 42),(2,8,some 39),(2,10,some 41),(2,12,some 43),(1,13,some 44),(1,14,some 45),(1,15,some 46),(1,16,some 47),(1,17,some 48),(1,18,some 49),(2,19,some 50)] ?_
      repeat (first|(refine Ord.pureL (v:=?_) (l':=?_) (t':=?_) rfl rfl (fun _ _ _ h=>h) (by kernel_rfl) ?_ ?_ ?_ ?_ ?_;rotate_left 3;dsimp only [s0,s1];rfl;exact any_of HT_.out (by kernel_rfl);intro w';go_simp;(try simp only [i64_w]);with_reducible rfl;dsimp only [s0,s1];rfl)|(refine Ord.takeL (v:=?_) (l':=?_) (t':=?_) rfl rfl (fun _ _ _ h=>h) hHeld (by kernel_rfl) ?_ ?_ ?_ ?_ ?_;rotate_left 3;dsimp only [s0,s1];rfl;exact take_ofW HT_.out HW_.out (by kernel_rfl);rintro w' ⟨s0,s1,s2,s3,s4,s5⟩;go_simp;with_reducible rfl;dsimp only [s0,s1];rfl))
      refine Ord.nil ?_
      refine one_ (i:=20) (N:=some 51) #[true,true,true,true,true,true,true,true,true,true,true,true,true,true,true,true,true,true,true,true,true,false,false,false] rfl rfl (one_of HT_.out (by kernel_rfl)) (by decide) (fun K hK=>?_)
      refine goes_ Try.func47 (by kernel_rfl) rfl #[.slice B5 n5 e5,.func (.func 48) #[] #[]] (by rfl) rfl rfl (by simp only [List.map_toArray,List.map_cons,List.map_nil];rfl) ?_
      with_reducible refine (HC.out _ (HT.out _ HB.out)).mono ?_
      rintro e W26 ⟨rfl, hb⟩
      refine ⟨_, rfl, ?_⟩
      have n0_ := Aside0.mk (below_step HB.out hb)
      clear HB hb
      have HB := n0_
      clear n0_
      refine hK.out _ _ (HSS.out _ HB.out) (fun hHeld => ?_)
      clear hK K
      refine norm_ (a' := ?_) ?_ ?_
      rotate_left
      ·show Act.put _ (some 51) _ = _
       simp only [Act.put,List.setIfInBounds_toArray,List.set_cons_zero,List.set_cons_succ,i64_w,i32_w]
       rfl
      refine ord_ [(1, 21, some 52), (1, 22, some 53), (1, 23, some 4)] ?_
      repeat (first|(refine Ord.pureL (v:=?_) (l':=?_) (t':=?_) rfl rfl (fun _ _ _ h=>h) (by kernel_rfl) ?_ ?_ ?_ ?_ ?_;rotate_left 3;dsimp only [s0,s1];rfl;exact any_of HT_.out (by kernel_rfl);intro w';go_simp;(try simp only [i64_w]);with_reducible rfl;dsimp only [s0,s1];rfl))
      refine Ord.nil ?_
      refine done_ (done_of HT_.out (by kernel_rfl)) ?_
      clear hHeld
      try go_wp2
      go_ret
      exact ⟨by first | rfl | simp, HT.out _ HB.out⟩
end Go.Proofs.Ytdjbphffibcbeaa.Q
