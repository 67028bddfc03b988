/- The program's stateOk: the walk over the known answers of its calls. Conditions: those before each theorem. -/
import Derived.Test.YtdjbphffibcbeaaXPlaces
namespace Go.Proofs.Ytdjbphffibcbeaa.Q
open Go.RowKit Go.Proofs.YtdjbphffibcbeaaW.PrintWords Go.Proofs.YtdjbphffibcbeaaW.PrintMore Go.Proofs.YtdjbphffibcbeaaW.PrintLast
abbrev kNXState_ := @blk_drewN
abbrev kDXState_ := @blk_drew
abbrev rNXState_ := @Kd.R_drewN
abbrev bAXState_ := @below_alloc
abbrev bNXState_ := @pw_below_drewN
abbrev bDXState_ := @below_drew1
abbrev bSXState_ := @below_set
abbrev mkXState_ := @Aside0.mk
abbrev fZXState_ := @blk_frozen
abbrev sBXState_ := @Kd.S_below
abbrev bTXState_ := @below_step
abbrev bZXState_ := @below_size
set_option linter.unusedVariables false
set_option linter.unusedSimpArgs false
def stateV (zs zw p:Int) (n4 n5:Nat) (bR:Bool):Bool:=if zs=1 then (zw == 0) && bR else if zs=2 then decide (0 < zw) && (decide ((n4:Int) < p) && bR) else if zs=3 then ((n5:Int) == 0) else if zs=4 then (zw == 0) else false
theorem natz (a : Nat) : (a == 0) = ((a : Int) == 0) := by
 rw [Bool.eq_iff_iff, beq_iff_eq, beq_iff_eq]
 omega
def str5.T:Bool × List (List Nat × List Nat):=(true,[([],[]),([0],[0]),([1],[1]),([2],[2]),([3],[3]),([4,3],[3,4]),([5,3],[3,5]),([3],[3]),([7,3],[3,7]),([8,3],[3,8]),([9,3],[3,9]),([10,3],[3,10]),([11,3],[3,11]),([6,12,3],[3,6,12]),([3,13],[3,13]),([14,3],[14]),([15],[15]),([15],[15]),([16,17,15,15],[15,16,17]),([15,18],[15,18]),([19,18,0,1,2,3,4,5,6,7,8,9,10,11,12,13,14,15,16,17,18,19],[19])])
def str5.B:List Nat:=[0,1,3,7,15,31,63,15,143,399,911,1935,3983,8191,16383,32767,65535,65535,262143,524287,1048575]
theorem str5.tab : rtab .any (opsOf Try.f26 5) = str5.T := by kernel_rfl
theorem str5.bits : waitsOk str5.T.2 str5.B = true := by kernel_rfl
set_option maxHeartbeats 16000000 in
set_option maxRecDepth 100000 in
theorem state_core (g:Nat) (d b p:Int) (A3:Option Addr) (c3:Nat) (L:List (S68)) (u v:Int) (o:Bool) (z:Int) (A8:Option Addr) (n8 c8:Nat) (zs:Int) (B1:Option Addr) (e1:Nat) (bl:List Int) (zw zy:Int) (B4:Option Addr) (n4 e4:Nat) (B5:Option Addr) (n5 e5:Nat) (bR r:Bool) (w:World) (BK:w.heap[g]?=some (.cells #[.int .i64 d,.int .i64 b,.int .i64 p,.slice A3 L.length c3,.int .i64 u,.int .i64 v,.bool o,.int .i64 z,.slice A8 n8 c8] 38 (0,0)))
  (hR:∀ W,Below w.heap.size w W→Calls Try.prog 49 #[.pointer (some ⟨g,0,none⟩),.agg #[.int .i64 zs,.slice B1 bl.length e1,.int .i64 zw,.int .i64 zy,.slice B4 n4 e4,.slice B5 n5 e5]] W fun e w'=>e=.returned (.bool bR)∧Below W.heap.size W w')
  (hr : stateV zs zw p n4 n5 bR = r) :
  Calls Try.prog 26 #[.pointer (some ⟨g,0,none⟩),.agg #[.int .i64 zs,.slice B1 bl.length e1,.int .i64 zw,.int .i64 zy,.slice B4 n4 e4,.slice B5 n5 e5]] w fun e w'=>e=.returned (.bool r)∧Below w.heap.size w w':=by
 have hu := Try.underlying50
 have LG := Aside0.mk (blk_lt BK)
 have BK := Aside0.mk BK
 have HR := Aside0.mk hR
 clear hR
 unfold stateV at hr
 go_enter Try.func26, Try.ntmps26
 go_upto_region 1 with (first|((with_reducible refine gate_dst (N:=3) rfl ?_);(try (refine gate_guard (by rfl) ?_;dsimp only));refine box_event ?hg (N:=3) ?hd (cs:=#[.int .i64 zs,.slice B1 bl.length e1,.int .i64 zw,.int .i64 zy,.slice B4 n4 e4,.slice B5 n5 e5]) (t:=50) ?hr ?_;(case hd=>rfl);(case hg=>rfl);(case hr=>first|(go_simp;done)|(go_simp;rfl));intro gz hg W3 hbox hb;have HT:Aside0 (∀ W,Below W3.heap.size W3 W→Below w.heap.size w W):=⟨fun W h=>hb.trans (h.mono hb.size)⟩;have LG3:g < W3.heap.size:=Nat.lt_of_lt_of_le LG.out hb.size;have BK3:=blk_below BK.out hb;have HSS:Aside0 (∀ w',Below W3.heap.size W3 w'→(w'.cell? ⟨g,2,none⟩=some (.int .i64 p)∧w'.cell? ⟨gz,0,none⟩=some (.int .i64 zs)∧w'.cell? ⟨gz,1,none⟩=some (.slice B1 bl.length e1)∧w'.cell? ⟨gz,2,none⟩=some (.int .i64 zw)∧w'.cell? ⟨gz,3,none⟩=some (.int .i64 zy)∧w'.cell? ⟨gz,4,none⟩=some (.slice B4 n4 e4)∧w'.cell? ⟨gz,5,none⟩=some (.slice B5 n5 e5))):=⟨fun w' h=>⟨(h.cell LG3).trans ((blk_cell BK3 2).trans rfl),(h.cell (blk_lt hbox)).trans ((blk_cell hbox 0).trans rfl),(h.cell (blk_lt hbox)).trans ((blk_cell hbox 1).trans rfl),(h.cell (blk_lt hbox)).trans ((blk_cell hbox 2).trans rfl),(h.cell (blk_lt hbox)).trans ((blk_cell hbox 3).trans rfl),(h.cell (blk_lt hbox)).trans ((blk_cell hbox 4).trans rfl),(h.cell (blk_lt hbox)).trans ((blk_cell hbox 5).trans rfl)⟩⟩;have HB:=mkXState_ (Below.refl W3.heap.size W3);clear hb hbox hg LG3 BK3;(try simp only [Act.put,List.setIfInBounds_toArray,List.set_cons_zero,List.set_cons_succ])))
 (try simp only [Act.put, List.setIfInBounds_toArray, List.set_cons_zero, List.set_cons_succ])
 obtain ⟨z0, z1, z2, z3, z4, z5, z6⟩ := HSS.out _ HB.out
 by_cases h1 : zs = 1
 ·subst h1
  rw [if_pos rfl] at hr
  cases hz : (zw == 0) with
  | false =>
   rw [hz, Bool.false_and] at hr
   have hr2 : r = false := hr.symm
   clear hr
   subst hr2
   go_wp2
   go_ret
   exact ⟨rfl, HT.out _ HB.out⟩
  | true =>
   rw [hz, Bool.true_and] at hr
   have hr2 : r = bR := hr.symm
   clear hr
   subst hr2
   go_wp2_with (go_at_call 49;with_reducible refine Calls.mono (HR.out _ (HT.out _ HB.out)) ?_;rintro e w2 ⟨rfl,hb⟩;have n0_:=mkXState_ (bTXState_ HB.out hb);clear HB hb;have HB:=n0_;clear n0_)
   go_ret
   exact ⟨rfl, HT.out _ HB.out⟩
 ·rw [if_neg h1] at hr
  have f1 : (zs == 1) = false := beq_eq_false_iff_ne.2 h1
  by_cases h2 : zs = 2
  ·subst h2
   rw [if_pos rfl] at hr
   clear h1 f1
   go_upto_region 5 with (fail)
   (try simp only [Act.put, List.setIfInBounds_toArray, List.set_cons_zero, List.set_cons_succ])
   clear z0 z1 z2 z3 z4 z5 z6
   cases hp : decide (0 < zw) with
   | false =>
    rw [hp, Bool.false_and] at hr
    have hr2 : r = false := hr.symm
    clear hr
    subst hr2
    have n0_ := Aside0.mk (below_drew1 HB.out)
    clear HB
    have HB := n0_
    clear n0_
    refine start_ (n:=21) (S:=fun w'=>w'.cell? ⟨g,2,none⟩=some (.int .i64 p)∧w'.cell? ⟨gz,0,none⟩=some (.int .i64 2)∧w'.cell? ⟨gz,1,none⟩=some (.slice B1 bl.length e1)∧w'.cell? ⟨gz,2,none⟩=some (.int .i64 zw)∧w'.cell? ⟨gz,3,none⟩=some (.int .i64 zy)∧w'.cell? ⟨gz,4,none⟩=some (.slice B4 n4 e4)∧w'.cell? ⟨gz,5,none⟩=some (.slice B5 n5 e5)) (ds:=[]) #[false,false,false,false,false,false,false,false,false,false,false,false,false,false,false,false,false,false,false,false,false] (by kernel_rfl) rfl rfl (HSS.out _ HB.out) (fun hHeld=>?_)
    refine with_tabW str5.tab str5.bits (fun HT_ HW_ => ?_)
    generalize World.drew _ = W5 at HB hHeld ⊢
    refine ord_ [(1,0,some 19),(2,1,some 20),(1,2,some 21),(1,3,some 22),(0,4,some 23),(0,5,some 24),(0,6,some 25),(0,7,some 26),(0,8,some 27),(0,9,some 28),(0,10,some 29),(0,11,some 30),(0,12,some 31),(0,13,some 32),(1,14,some 33),(1,15,some 34),(0,16,some 35),(0,17,some 36),(0,18,some 37),(1,19,some 38),(1,20,some 4)] ?_
    repeat (first|(refine Ord.offL (l':=?_) (t':=?_) rfl rfl (fun _ _ _ h=>h) (by kernel_rfl) ?_ ?_ ?_ ?_;rotate_left 2;dsimp only [s0,s1];rfl;exact any_of HT_.out (by kernel_rfl);dsimp only [s0,s1];rfl)|(refine Ord.pureL (v:=?_) (l':=?_) (t':=?_) rfl rfl (fun _ _ _ h=>h) (by kernel_rfl) ?_ ?_ ?_ ?_ ?_;rotate_left 3;dsimp only [s0,s1];rfl;exact any_of HT_.out (by kernel_rfl);intro w';go_simp;(try simp only [i64_w]);with_reducible rfl;dsimp only [s0,s1];rfl)|(refine Ord.takeL (v:=?_) (l':=?_) (t':=?_) rfl rfl (fun _ _ _ h=>h) hHeld (by kernel_rfl) ?_ ?_ ?_ ?_ ?_;rotate_left 3;dsimp only [s0,s1];rfl;exact take_ofW HT_.out HW_.out (by kernel_rfl);rintro w' ⟨s0,s1,s2,s3,s4,s5,s6⟩;go_simp;with_reducible rfl;dsimp only [s0,s1];rfl))
    refine Ord.nil ?_
    refine done_ (done_of HT_.out (by kernel_rfl)) ?_
    clear hHeld
    try go_wp2
    go_ret
    exact ⟨rfl, HT.out _ HB.out⟩
   | true =>
    rw [hp, Bool.true_and] at hr
    cases hq : decide ((n4 : Int) < p) with
    | false =>
     rw [hq, Bool.false_and] at hr
     have hr2 : r = false := hr.symm
     clear hr
     subst hr2
     have n0_ := Aside0.mk (below_drew1 HB.out)
     clear HB
     have HB := n0_
     clear n0_
     refine start_ (n:=21) (S:=fun w'=>w'.cell? ⟨g,2,none⟩=some (.int .i64 p)∧w'.cell? ⟨gz,0,none⟩=some (.int .i64 2)∧w'.cell? ⟨gz,1,none⟩=some (.slice B1 bl.length e1)∧w'.cell? ⟨gz,2,none⟩=some (.int .i64 zw)∧w'.cell? ⟨gz,3,none⟩=some (.int .i64 zy)∧w'.cell? ⟨gz,4,none⟩=some (.slice B4 n4 e4)∧w'.cell? ⟨gz,5,none⟩=some (.slice B5 n5 e5)) (ds:=[]) #[false,false,false,false,false,false,false,false,false,false,false,false,false,false,false,false,false,false,false,false,false] (by kernel_rfl) rfl rfl (HSS.out _ HB.out) (fun hHeld=>?_)
     refine with_tabW str5.tab str5.bits (fun HT_ HW_ => ?_)
     generalize World.drew _ = W5 at HB hHeld ⊢
     refine ord_ [(1,0,some 19),(2,1,some 20),(1,2,some 21),(1,3,some 22),(1,4,some 23),(1,7,some 26),(1,8,some 27),(1,9,some 28),(1,10,some 29),(1,11,some 30),(2,5,some 24),(1,6,some 25),(2,12,some 31),(1,13,some 32),(1,14,some 33),(1,15,some 34),(0,16,some 35),(0,17,some 36),(0,18,some 37),(1,19,some 38),(1,20,some 4)] ?_
     repeat (first|(refine Ord.offL (l':=?_) (t':=?_) rfl rfl (fun _ _ _ h=>h) (by kernel_rfl) ?_ ?_ ?_ ?_;rotate_left 2;dsimp only [s0,s1];rfl;exact any_of HT_.out (by kernel_rfl);dsimp only [s0,s1];rfl)|(refine Ord.pureL (v:=?_) (l':=?_) (t':=?_) rfl rfl (fun _ _ _ h=>h) (by kernel_rfl) ?_ ?_ ?_ ?_ ?_;rotate_left 3;dsimp only [s0,s1];rfl;exact any_of HT_.out (by kernel_rfl);intro w';go_simp;(try simp only [i64_w]);with_reducible rfl;dsimp only [s0,s1];rfl)|(refine Ord.takeL (v:=?_) (l':=?_) (t':=?_) rfl rfl (fun _ _ _ h=>h) hHeld (by kernel_rfl) ?_ ?_ ?_ ?_ ?_;rotate_left 3;dsimp only [s0,s1];rfl;exact take_ofW HT_.out HW_.out (by kernel_rfl);rintro w' ⟨s0,s1,s2,s3,s4,s5,s6⟩;go_simp;with_reducible rfl;dsimp only [s0,s1];rfl))
     refine Ord.nil ?_
     refine done_ (done_of HT_.out (by kernel_rfl)) ?_
     clear hHeld
     try go_wp2
     go_ret
     exact ⟨rfl, HT.out _ HB.out⟩
    | true =>
     rw [hq, Bool.true_and] at hr
     have hr2 : r = bR := hr.symm
     clear hr
     subst hr2
     have n0_ := Aside0.mk (below_drew1 HB.out)
     clear HB
     have HB := n0_
     clear n0_
     refine start_ (n:=21) (S:=fun w'=>w'.cell? ⟨g,2,none⟩=some (.int .i64 p)∧w'.cell? ⟨gz,0,none⟩=some (.int .i64 2)∧w'.cell? ⟨gz,1,none⟩=some (.slice B1 bl.length e1)∧w'.cell? ⟨gz,2,none⟩=some (.int .i64 zw)∧w'.cell? ⟨gz,3,none⟩=some (.int .i64 zy)∧w'.cell? ⟨gz,4,none⟩=some (.slice B4 n4 e4)∧w'.cell? ⟨gz,5,none⟩=some (.slice B5 n5 e5)) (ds:=[]) #[false,false,false,false,false,false,false,false,false,false,false,false,false,false,false,false,false,false,false,false,false] (by kernel_rfl) rfl rfl (HSS.out _ HB.out) (fun hHeld=>?_)
     refine with_tabW str5.tab str5.bits (fun HT_ HW_ => ?_)
     generalize World.drew _ = W5 at HB hHeld ⊢
     refine ord_ [(1,0,some 19),(2,1,some 20),(1,2,some 21),(1,3,some 22),(1,4,some 23),(1,7,some 26),(1,8,some 27),(1,9,some 28),(1,10,some 29),(1,11,some 30),(2,5,some 24),(1,6,some 25),(2,12,some 31),(1,13,some 32),(1,14,some 33),(1,15,some 34),(1,16,some 35),(2,17,some 36)] ?_
     repeat (first|(refine Ord.pureL (v:=?_) (l':=?_) (t':=?_) rfl rfl (fun _ _ _ h=>h) (by kernel_rfl) ?_ ?_ ?_ ?_ ?_;rotate_left 3;dsimp only [s0,s1];rfl;exact any_of HT_.out (by kernel_rfl);intro w';go_simp;(try simp only [i64_w]);with_reducible rfl;dsimp only [s0,s1];rfl)|(refine Ord.takeL (v:=?_) (l':=?_) (t':=?_) rfl rfl (fun _ _ _ h=>h) hHeld (by kernel_rfl) ?_ ?_ ?_ ?_ ?_;rotate_left 3;dsimp only [s0,s1];rfl;exact take_ofW HT_.out HW_.out (by kernel_rfl);rintro w' ⟨s0,s1,s2,s3,s4,s5,s6⟩;go_simp;with_reducible rfl;dsimp only [s0,s1];rfl))
     refine Ord.nil ?_
     refine one_ (i:=18) (N:=some 37) #[true,true,true,true,true,true,true,true,true,true,true,true,true,true,true,true,true,true,true,false,false] rfl rfl (one_of HT_.out (by kernel_rfl)) (by decide) (fun K hK=>?_)
     refine goes_ Try.func49 (by kernel_rfl) rfl #[.pointer (some ⟨g,0,none⟩),.agg #[.int .i64 2,.slice B1 bl.length e1,.int .i64 zw,.int .i64 zy,.slice B4 n4 e4,.slice B5 n5 e5]] (by rfl) rfl rfl (by simp only [List.map_toArray,List.map_cons,List.map_nil];rfl) ?_
     with_reducible refine (HR.out _ (HT.out _ HB.out)).mono ?_
     rintro e W6 ⟨rfl, hb⟩
     refine ⟨_, rfl, ?_⟩
     have n0_ := Aside0.mk (below_step HB.out hb)
     clear HB hb
     have HB := n0_
     clear n0_
     refine hK.out _ _ (HSS.out _ HB.out) (fun hHeld => ?_)
     clear hK K
     refine norm_ (a' := ?_) ?_ ?_
     rotate_left
     ·show Act.put _ (some 37) _ = _
      simp only [Act.put,List.setIfInBounds_toArray,List.set_cons_zero,List.set_cons_succ,i64_w,i32_w]
      rfl
     refine ord_ [(1, 19, some 38), (1, 20, some 4)] ?_
     repeat (first|(refine Ord.pureL (v:=?_) (l':=?_) (t':=?_) rfl rfl (fun _ _ _ h=>h) (by kernel_rfl) ?_ ?_ ?_ ?_ ?_;rotate_left 3;dsimp only [s0,s1];rfl;exact any_of HT_.out (by kernel_rfl);intro w';go_simp;(try simp only [i64_w]);with_reducible rfl;dsimp only [s0,s1];rfl))
     refine Ord.nil ?_
     refine done_ (done_of HT_.out (by kernel_rfl)) ?_
     clear hHeld
     try go_wp2
     go_ret
     exact ⟨rfl, HT.out _ HB.out⟩
  ·rw [if_neg h2] at hr
   have f2 : (zs == 2) = false := beq_eq_false_iff_ne.2 h2
   by_cases h3 : zs = 3
   ·subst h3
    rw [if_pos rfl] at hr
    clear h1 f1 h2 f2
    cases hz : ((n5 : Int) == 0) with
    | false =>
     have hz2 : (n5 == 0) = false := by rw [natz, hz]
     rw [hz] at hr
     have hr2 : r = false := hr.symm
     clear hr
     subst hr2
     go_wp2
     go_ret
     exact ⟨by first | rfl | simp, HT.out _ HB.out⟩
    | true =>
     have hz2 : (n5 == 0) = true := by rw [natz, hz]
     rw [hz] at hr
     have hr2 : r = true := hr.symm
     clear hr
     subst hr2
     go_wp2
     go_ret
     exact ⟨by first | rfl | simp, HT.out _ HB.out⟩
   ·rw [if_neg h3] at hr
    have f3 : (zs == 3) = false := beq_eq_false_iff_ne.2 h3
    by_cases h4 : zs = 4
    ·subst h4
     rw [if_pos rfl] at hr
     clear h1 f1 h2 f2 h3 f3
     cases hz : (zw == 0) with
     | false =>
      rw [hz] at hr
      have hr2 : r = false := hr.symm
      clear hr
      subst hr2
      go_wp2
      go_ret
      exact ⟨by first | rfl | simp, HT.out _ HB.out⟩
     | true =>
      rw [hz] at hr
      have hr2 : r = true := hr.symm
      clear hr
      subst hr2
      go_wp2
      go_ret
      exact ⟨by first | rfl | simp, HT.out _ HB.out⟩
    ·rw [if_neg h4] at hr
     have f4 : (zs == 4) = false := beq_eq_false_iff_ne.2 h4
     have hr2 : r = false := hr.symm
     clear hr
     subst hr2
     go_wp2
     go_ret
     exact ⟨rfl, HT.out _ HB.out⟩
end Go.Proofs.Ytdjbphffibcbeaa.Q
