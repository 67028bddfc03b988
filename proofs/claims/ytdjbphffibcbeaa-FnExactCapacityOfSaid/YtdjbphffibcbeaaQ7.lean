/- The program's functions as Lean functions,and for each the proof that the machine's call comes to what its function says. Conditions: those that stand before each theorem. -/
import Derived.Test.YtdjbphffibcbeaaQ0
import Derived.Test.YtdjbphffibcbeaaQ4
namespace Go.Proofs.Ytdjbphffibcbeaa.Q
open Go.RowKit Go.Proofs.YtdjbphffibcbeaaW.PrintWords Go.Proofs.YtdjbphffibcbeaaW.PrintLast Go.Proofs.YtdjbphffibcbeaaW.PrintMore
abbrev kN7_ := @blk_drewN
abbrev kD7_ := @blk_drew
abbrev rN7_ := @Kd.R_drewN
abbrev bA7_ := @below_alloc
abbrev bN7_ := @pw_below_drewN
abbrev bD7_ := @below_drew1
abbrev bS7_ := @below_set
abbrev mk7_ := @Aside0.mk
abbrev fZ7_ := @blk_frozen
abbrev sB7_ := @Kd.S_below
abbrev bT7_ := @below_step
abbrev bZ7_ := @below_size
set_option linter.unusedVariables false
set_option linter.unusedSimpArgs false

def spec_l00Min.f (a0 : Int) (a1 : Int) : Option (Int) := if a0 < a1 then (some a0) else (some a1)
set_option maxHeartbeats 8000000 in
set_option maxRecDepth 100000 in
theorem spec_l00Min.calls (a0:Int) (a1:Int) (r:Int) (w:World) (h:spec_l00Min.f a0 a1=some r) :
  Calls Try.prog 15 #[.int .i64 a0,.int .i64 a1] w fun e w'=>e=.returned (.int .i64 r)∧Drawn0 w w':=by
 have H : (if a0 < a1 then (some a0) else (some a1)) = some r := h
 clear h
 by_cases c3 : a0 < a1
 ·rw [if_pos c3] at H
  have c3b0 : decide (a0 < a1) = true := decide_eq_true c3
  clear c3
  obtain rfl := Option.some.inj H
  go_enter Try.func15, Try.ntmps15
  go_wp2
  go_ret
  exact ⟨by first|rfl|(simp;done)|(simp [*];done),by repeat (first|exact Drawn0.refl _|apply Drawn0.step)⟩
 ·rw [if_neg c3] at H
  have c3b0 : decide (a0 < a1) = false := decide_eq_false c3
  clear c3
  obtain rfl := Option.some.inj H
  go_enter Try.func15, Try.ntmps15
  go_wp2
  go_ret
  exact ⟨by first|rfl|(simp;done)|(simp [*];done),by repeat (first|exact Drawn0.refl _|apply Drawn0.step)⟩

def spec_l16Blocks.l0:Nat→Int→Int→Int→Int→Int→List Int→Int→Int→List Int→List ByteArray→Option (Bool)
 | 0, _, _, _, _, _, _, _, _, _, _ => none
 | k+1,x5,x243000,x243001,x243002,x244000,x244001,x244002,x244003,x244004,x244005=>if x5 < x243000 then (if 0≤x5 then (if x5 < (x244001.length:Int) then ((spec_l00In.f (rd x244001 x5) (wrap64 (x5 * x243001)) (wrap64 ((wrap64 ((wrap64 (x5+1)) * x243001)) - 1))).bind fun t245=>(if t245=true then (spec_l16Blocks.l0 k (wrap64 (x5+1)) x243000 x243001 x243002 x244000 x244001 x244002 x244003 x244004 x244005) else (some false))) else (none)) else (none)) else (some true)
def spec_l16Blocks.f (k:Nat) (a0_0:Int) (a0_1:Int) (a0_2:Int) (a1_0:Int) (l1_1:List Int) (a1_2:Int) (a1_3:Int) (l1_4:List Int) (l1_5:List ByteArray):Option (Bool):=if (l1_1.length:Int)=a0_0 then (spec_l16Blocks.l0 k 0 a0_0 a0_1 a0_2 a1_0 l1_1 a1_2 a1_3 l1_4 l1_5) else (some false)
set_option maxHeartbeats 8000000 in
set_option maxRecDepth 100000 in
theorem spec_l16Blocks.calls (k:Nat) (a0_0:Int) (a0_1:Int) (a0_2:Int) (a1_0:Int) (A1_1:Option Addr) (c1_1:Nat) (l1_1:List Int) (a1_2:Int) (a1_3:Int) (A1_4:Option Addr) (c1_4:Nat) (l1_4:List Int) (A1_5:Option Addr) (c1_5:Nat) (l1_5:List ByteArray) (r:Bool) (w:World) (hr1_1:Kd.C (Kd.int .i64) w A1_1 l1_1.length l1_1) (hc1_1:l1_1.length≤c1_1) (hr1_4:Kd.C (Kd.int .i64) w A1_4 l1_4.length l1_4) (hc1_4:l1_4.length≤c1_4) (hr1_5:Kd.C Kd.string w A1_5 l1_5.length l1_5) (hc1_5:l1_5.length≤c1_5) (h:spec_l16Blocks.f k a0_0 a0_1 a0_2 a1_0 l1_1 a1_2 a1_3 l1_4 l1_5=some r) :
  Calls Try.prog 16 #[.agg #[.int .i64 a0_0,.int .i64 a0_1,.int .i64 a0_2],.agg #[.int .i64 a1_0,.slice A1_1 l1_1.length c1_1,.int .i64 a1_2,.int .i64 a1_3,.slice A1_4 l1_4.length c1_4,.slice A1_5 l1_5.length c1_5]] w fun e w'=>e=.returned (.bool r)∧Below w.heap.size w w':=by
 have hu32 := Try.underlying32
 have hu50 := Try.underlying50
 have HR1_1 := Aside0.mk hr1_1
 have HC1_1 := Aside0.mk hc1_1
 clear hr1_1 hc1_1
 have HR1_4 := Aside0.mk hr1_4
 have HC1_4 := Aside0.mk hc1_4
 clear hr1_4 hc1_4
 have HR1_5 := Aside0.mk hr1_5
 have HC1_5 := Aside0.mk hc1_5
 clear hr1_5 hc1_5
 have HB := Aside0.mk (Below.refl w.heap.size w)
 have H:(if (l1_1.length:Int)=a0_0 then (spec_l16Blocks.l0 k 0 a0_0 a0_1 a0_2 a1_0 l1_1 a1_2 a1_3 l1_4 l1_5) else (some false))=some r:=h
 clear h
 by_cases c3 : (l1_1.length : Int) = a0_0
 ·rw [if_pos c3] at H
  have c3b0 : ((l1_1.length : Int) == a0_0) = true := beq_iff_eq.mpr c3
  have c3b1 : ((l1_1.length : Int) != a0_0) = false := bne_eq_false_iff_eq.mpr c3
  clear c3
  have H' := Aside0.mk H
  clear H
  go_enter Try.func16, Try.ntmps16
  go_wp2_with (first|((with_reducible refine gate_dst (N:=2) rfl ?_);refine box_event ?hg (N:=2) ?hd (cs:=#[.int .i64 a0_0,.int .i64 a0_1,.int .i64 a0_2]) (t:=32) ?hr ?_;(case hd=>rfl);(case hg=>rfl);(case hr=>first|(go_simp;done)|(go_simp;rfl));intro gb242 hg w4 hbox hb;have n0_:=mk7_ (bT7_ (by repeat (first|(with_reducible first|exact HB.out|apply bA7_|apply bN7_|apply bD7_)|exact HB.out)) hb);have n1_:=mk7_ (hbox);have n2_:=mk7_ ((by rw [hg];exact (bZ7_ (by repeat (first|(with_reducible first|exact HB.out|apply bA7_|apply bN7_|apply bD7_)|exact HB.out))):w.heap.size≤gb242));have n3_:=mk7_ ((by rw [hg];exact (bZ7_ (by repeat (first|(with_reducible first|exact HB.out|apply bA7_|apply bN7_|apply bD7_)|exact HB.out))):w.heap.size≤gb242));clear HB;have HB:=n0_;have BK242:=n1_;have GW242:=n2_;have GE242:=n3_;clear n0_ n1_ n2_ n3_;clear hb hbox hg)|((with_reducible refine gate_dst (N:=3) rfl ?_);refine box_event ?hg (N:=3) ?hd (cs:=#[.int .i64 a1_0,.slice A1_1 l1_1.length c1_1,.int .i64 a1_2,.int .i64 a1_3,.slice A1_4 l1_4.length c1_4,.slice A1_5 l1_5.length c1_5]) (t:=50) ?hr ?_;(case hd=>rfl);(case hg=>rfl);(case hr=>first|(go_simp;done)|(go_simp;rfl));intro gb243 hg w5 hbox hb;have n0_:=mk7_ (blk_below (g:=gb242) (o:=.cells #[.int .i64 a0_0,.int .i64 a0_1,.int .i64 a0_2] 32 (0,0)) (by (with_reducible repeat (first|refine kN7_ ?_ _|refine kD7_ ?_|refine blk_alloc ?_ _));exact BK242.out) hb);have n1_:=mk7_ (bT7_ (by repeat (first|(with_reducible first|exact HB.out|apply bA7_|apply bN7_|apply bD7_|refine bS7_ ?_ GE242.out)|exact HB.out)) hb);have n2_:=mk7_ (hbox);have n3_:=mk7_ ((by rw [hg];exact (bZ7_ (by repeat (first|(with_reducible first|exact HB.out|apply bA7_|apply bN7_|apply bD7_|refine bS7_ ?_ GE242.out)|exact HB.out))):w.heap.size≤gb243));have n4_:=mk7_ ((by rw [hg];exact (bZ7_ (by repeat (first|(with_reducible first|exact HB.out|apply bA7_|apply bN7_|apply bD7_|refine bS7_ ?_ GE242.out)|exact HB.out))):w.heap.size≤gb243));have n5_:=mk7_ ((by rw [hg];exact Nat.ne_of_lt (blk_lt (g:=gb242) (o:=.cells #[.int .i64 a0_0,.int .i64 a0_1,.int .i64 a0_2] 32 (0,0)) (by (with_reducible repeat (first|refine kN7_ ?_ _|refine kD7_ ?_|refine blk_alloc ?_ _));exact BK242.out)):gb242≠gb243));have n6_:=mk7_ ((by rw [hg];exact Nat.ne_of_gt (blk_lt (g:=gb242) (o:=.cells #[.int .i64 a0_0,.int .i64 a0_1,.int .i64 a0_2] 32 (0,0)) (by (with_reducible repeat (first|refine kN7_ ?_ _|refine kD7_ ?_|refine blk_alloc ?_ _));exact BK242.out)):gb243≠gb242));clear BK242;clear HB;have BK242:=n0_;have HB:=n1_;have BK243:=n2_;have GW243:=n3_;have GE243:=n4_;have NB242_243:=n5_;have NB243_242:=n6_;clear n0_ n1_ n2_ n3_ n4_ n5_ n6_;clear hb hbox hg;have hnb6:=NB243_242.out;have hnc6:=NB242_243.out;have hcz7_0:w5.cell? ⟨gb243,0,none⟩=some (.int .i64 a1_0):=(blk_cell BK243.out 0).trans rfl;have hcz7_1:w5.cell? ⟨gb243,1,none⟩=some (.slice A1_1 l1_1.length c1_1):=(blk_cell BK243.out 1).trans rfl;have hcz7_2:w5.cell? ⟨gb243,2,none⟩=some (.int .i64 a1_2):=(blk_cell BK243.out 2).trans rfl;have hcz7_3:w5.cell? ⟨gb243,3,none⟩=some (.int .i64 a1_3):=(blk_cell BK243.out 3).trans rfl;have hcz7_4:w5.cell? ⟨gb243,4,none⟩=some (.slice A1_4 l1_4.length c1_4):=(blk_cell BK243.out 4).trans rfl;have hcz7_5:w5.cell? ⟨gb243,5,none⟩=some (.slice A1_5 l1_5.length c1_5):=(blk_cell BK243.out 5).trans rfl;have hfz7_0:=fZ7_ BK243.out 0;have hfz7_1:=fZ7_ BK243.out 1;have hfz7_2:=fZ7_ BK243.out 2;have hfz7_3:=fZ7_ BK243.out 3;have hfz7_4:=fZ7_ BK243.out 4;have hfz7_5:=fZ7_ BK243.out 5;have hcz8_0:w5.cell? ⟨gb242,0,none⟩=some (.int .i64 a0_0):=(blk_cell BK242.out 0).trans rfl;have hcz8_1:w5.cell? ⟨gb242,1,none⟩=some (.int .i64 a0_1):=(blk_cell BK242.out 1).trans rfl;have hcz8_2:w5.cell? ⟨gb242,2,none⟩=some (.int .i64 a0_2):=(blk_cell BK242.out 2).trans rfl;have hfz8_0:=fZ7_ BK242.out 0;have hfz8_1:=fZ7_ BK242.out 1;have hfz8_2:=fZ7_ BK242.out 2))
  repeat (go_quiet (first|((with_reducible refine gate_dst (N:=2) rfl ?_);refine box_event ?hg (N:=2) ?hd (cs:=#[.int .i64 a0_0,.int .i64 a0_1,.int .i64 a0_2]) (t:=32) ?hr ?_;(case hd=>rfl);(case hg=>rfl);(case hr=>first|(go_simp;done)|(go_simp;rfl));intro gb242 hg w4 hbox hb;have n0_:=mk7_ (bT7_ (by repeat (first|(with_reducible first|exact HB.out|apply bA7_|apply bN7_|apply bD7_)|exact HB.out)) hb);have n1_:=mk7_ (hbox);have n2_:=mk7_ ((by rw [hg];exact (bZ7_ (by repeat (first|(with_reducible first|exact HB.out|apply bA7_|apply bN7_|apply bD7_)|exact HB.out))):w.heap.size≤gb242));have n3_:=mk7_ ((by rw [hg];exact (bZ7_ (by repeat (first|(with_reducible first|exact HB.out|apply bA7_|apply bN7_|apply bD7_)|exact HB.out))):w.heap.size≤gb242));clear HB;have HB:=n0_;have BK242:=n1_;have GW242:=n2_;have GE242:=n3_;clear n0_ n1_ n2_ n3_;clear hb hbox hg)|((with_reducible refine gate_dst (N:=3) rfl ?_);refine box_event ?hg (N:=3) ?hd (cs:=#[.int .i64 a1_0,.slice A1_1 l1_1.length c1_1,.int .i64 a1_2,.int .i64 a1_3,.slice A1_4 l1_4.length c1_4,.slice A1_5 l1_5.length c1_5]) (t:=50) ?hr ?_;(case hd=>rfl);(case hg=>rfl);(case hr=>first|(go_simp;done)|(go_simp;rfl));intro gb243 hg w5 hbox hb;have n0_:=mk7_ (blk_below (g:=gb242) (o:=.cells #[.int .i64 a0_0,.int .i64 a0_1,.int .i64 a0_2] 32 (0,0)) (by (with_reducible repeat (first|refine kN7_ ?_ _|refine kD7_ ?_|refine blk_alloc ?_ _));exact BK242.out) hb);have n1_:=mk7_ (bT7_ (by repeat (first|(with_reducible first|exact HB.out|apply bA7_|apply bN7_|apply bD7_|refine bS7_ ?_ GE242.out)|exact HB.out)) hb);have n2_:=mk7_ (hbox);have n3_:=mk7_ ((by rw [hg];exact (bZ7_ (by repeat (first|(with_reducible first|exact HB.out|apply bA7_|apply bN7_|apply bD7_|refine bS7_ ?_ GE242.out)|exact HB.out))):w.heap.size≤gb243));have n4_:=mk7_ ((by rw [hg];exact (bZ7_ (by repeat (first|(with_reducible first|exact HB.out|apply bA7_|apply bN7_|apply bD7_|refine bS7_ ?_ GE242.out)|exact HB.out))):w.heap.size≤gb243));have n5_:=mk7_ ((by rw [hg];exact Nat.ne_of_lt (blk_lt (g:=gb242) (o:=.cells #[.int .i64 a0_0,.int .i64 a0_1,.int .i64 a0_2] 32 (0,0)) (by (with_reducible repeat (first|refine kN7_ ?_ _|refine kD7_ ?_|refine blk_alloc ?_ _));exact BK242.out)):gb242≠gb243));have n6_:=mk7_ ((by rw [hg];exact Nat.ne_of_gt (blk_lt (g:=gb242) (o:=.cells #[.int .i64 a0_0,.int .i64 a0_1,.int .i64 a0_2] 32 (0,0)) (by (with_reducible repeat (first|refine kN7_ ?_ _|refine kD7_ ?_|refine blk_alloc ?_ _));exact BK242.out)):gb243≠gb242));clear BK242;clear HB;have BK242:=n0_;have HB:=n1_;have BK243:=n2_;have GW243:=n3_;have GE243:=n4_;have NB242_243:=n5_;have NB243_242:=n6_;clear n0_ n1_ n2_ n3_ n4_ n5_ n6_;clear hb hbox hg;have hnb6:=NB243_242.out;have hnc6:=NB242_243.out;have hcz7_0:w5.cell? ⟨gb243,0,none⟩=some (.int .i64 a1_0):=(blk_cell BK243.out 0).trans rfl;have hcz7_1:w5.cell? ⟨gb243,1,none⟩=some (.slice A1_1 l1_1.length c1_1):=(blk_cell BK243.out 1).trans rfl;have hcz7_2:w5.cell? ⟨gb243,2,none⟩=some (.int .i64 a1_2):=(blk_cell BK243.out 2).trans rfl;have hcz7_3:w5.cell? ⟨gb243,3,none⟩=some (.int .i64 a1_3):=(blk_cell BK243.out 3).trans rfl;have hcz7_4:w5.cell? ⟨gb243,4,none⟩=some (.slice A1_4 l1_4.length c1_4):=(blk_cell BK243.out 4).trans rfl;have hcz7_5:w5.cell? ⟨gb243,5,none⟩=some (.slice A1_5 l1_5.length c1_5):=(blk_cell BK243.out 5).trans rfl;have hfz7_0:=fZ7_ BK243.out 0;have hfz7_1:=fZ7_ BK243.out 1;have hfz7_2:=fZ7_ BK243.out 2;have hfz7_3:=fZ7_ BK243.out 3;have hfz7_4:=fZ7_ BK243.out 4;have hfz7_5:=fZ7_ BK243.out 5;have hcz8_0:w5.cell? ⟨gb242,0,none⟩=some (.int .i64 a0_0):=(blk_cell BK242.out 0).trans rfl;have hcz8_1:w5.cell? ⟨gb242,1,none⟩=some (.int .i64 a0_1):=(blk_cell BK242.out 1).trans rfl;have hcz8_2:w5.cell? ⟨gb242,2,none⟩=some (.int .i64 a0_2):=(blk_cell BK242.out 2).trans rfl;have hfz8_0:=fZ7_ BK242.out 0;have hfz8_1:=fZ7_ BK242.out 1;have hfz8_2:=fZ7_ BK242.out 2));try go_wp2_with (first|((with_reducible refine gate_dst (N:=2) rfl ?_);refine box_event ?hg (N:=2) ?hd (cs:=#[.int .i64 a0_0,.int .i64 a0_1,.int .i64 a0_2]) (t:=32) ?hr ?_;(case hd=>rfl);(case hg=>rfl);(case hr=>first|(go_simp;done)|(go_simp;rfl));intro gb242 hg w4 hbox hb;have n0_:=mk7_ (bT7_ (by repeat (first|(with_reducible first|exact HB.out|apply bA7_|apply bN7_|apply bD7_)|exact HB.out)) hb);have n1_:=mk7_ (hbox);have n2_:=mk7_ ((by rw [hg];exact (bZ7_ (by repeat (first|(with_reducible first|exact HB.out|apply bA7_|apply bN7_|apply bD7_)|exact HB.out))):w.heap.size≤gb242));have n3_:=mk7_ ((by rw [hg];exact (bZ7_ (by repeat (first|(with_reducible first|exact HB.out|apply bA7_|apply bN7_|apply bD7_)|exact HB.out))):w.heap.size≤gb242));clear HB;have HB:=n0_;have BK242:=n1_;have GW242:=n2_;have GE242:=n3_;clear n0_ n1_ n2_ n3_;clear hb hbox hg)|((with_reducible refine gate_dst (N:=3) rfl ?_);refine box_event ?hg (N:=3) ?hd (cs:=#[.int .i64 a1_0,.slice A1_1 l1_1.length c1_1,.int .i64 a1_2,.int .i64 a1_3,.slice A1_4 l1_4.length c1_4,.slice A1_5 l1_5.length c1_5]) (t:=50) ?hr ?_;(case hd=>rfl);(case hg=>rfl);(case hr=>first|(go_simp;done)|(go_simp;rfl));intro gb243 hg w5 hbox hb;have n0_:=mk7_ (blk_below (g:=gb242) (o:=.cells #[.int .i64 a0_0,.int .i64 a0_1,.int .i64 a0_2] 32 (0,0)) (by (with_reducible repeat (first|refine kN7_ ?_ _|refine kD7_ ?_|refine blk_alloc ?_ _));exact BK242.out) hb);have n1_:=mk7_ (bT7_ (by repeat (first|(with_reducible first|exact HB.out|apply bA7_|apply bN7_|apply bD7_|refine bS7_ ?_ GE242.out)|exact HB.out)) hb);have n2_:=mk7_ (hbox);have n3_:=mk7_ ((by rw [hg];exact (bZ7_ (by repeat (first|(with_reducible first|exact HB.out|apply bA7_|apply bN7_|apply bD7_|refine bS7_ ?_ GE242.out)|exact HB.out))):w.heap.size≤gb243));have n4_:=mk7_ ((by rw [hg];exact (bZ7_ (by repeat (first|(with_reducible first|exact HB.out|apply bA7_|apply bN7_|apply bD7_|refine bS7_ ?_ GE242.out)|exact HB.out))):w.heap.size≤gb243));have n5_:=mk7_ ((by rw [hg];exact Nat.ne_of_lt (blk_lt (g:=gb242) (o:=.cells #[.int .i64 a0_0,.int .i64 a0_1,.int .i64 a0_2] 32 (0,0)) (by (with_reducible repeat (first|refine kN7_ ?_ _|refine kD7_ ?_|refine blk_alloc ?_ _));exact BK242.out)):gb242≠gb243));have n6_:=mk7_ ((by rw [hg];exact Nat.ne_of_gt (blk_lt (g:=gb242) (o:=.cells #[.int .i64 a0_0,.int .i64 a0_1,.int .i64 a0_2] 32 (0,0)) (by (with_reducible repeat (first|refine kN7_ ?_ _|refine kD7_ ?_|refine blk_alloc ?_ _));exact BK242.out)):gb243≠gb242));clear BK242;clear HB;have BK242:=n0_;have HB:=n1_;have BK243:=n2_;have GW243:=n3_;have GE243:=n4_;have NB242_243:=n5_;have NB243_242:=n6_;clear n0_ n1_ n2_ n3_ n4_ n5_ n6_;clear hb hbox hg;have hnb6:=NB243_242.out;have hnc6:=NB242_243.out;have hcz7_0:w5.cell? ⟨gb243,0,none⟩=some (.int .i64 a1_0):=(blk_cell BK243.out 0).trans rfl;have hcz7_1:w5.cell? ⟨gb243,1,none⟩=some (.slice A1_1 l1_1.length c1_1):=(blk_cell BK243.out 1).trans rfl;have hcz7_2:w5.cell? ⟨gb243,2,none⟩=some (.int .i64 a1_2):=(blk_cell BK243.out 2).trans rfl;have hcz7_3:w5.cell? ⟨gb243,3,none⟩=some (.int .i64 a1_3):=(blk_cell BK243.out 3).trans rfl;have hcz7_4:w5.cell? ⟨gb243,4,none⟩=some (.slice A1_4 l1_4.length c1_4):=(blk_cell BK243.out 4).trans rfl;have hcz7_5:w5.cell? ⟨gb243,5,none⟩=some (.slice A1_5 l1_5.length c1_5):=(blk_cell BK243.out 5).trans rfl;have hfz7_0:=fZ7_ BK243.out 0;have hfz7_1:=fZ7_ BK243.out 1;have hfz7_2:=fZ7_ BK243.out 2;have hfz7_3:=fZ7_ BK243.out 3;have hfz7_4:=fZ7_ BK243.out 4;have hfz7_5:=fZ7_ BK243.out 5;have hcz8_0:w5.cell? ⟨gb242,0,none⟩=some (.int .i64 a0_0):=(blk_cell BK242.out 0).trans rfl;have hcz8_1:w5.cell? ⟨gb242,1,none⟩=some (.int .i64 a0_1):=(blk_cell BK242.out 1).trans rfl;have hcz8_2:w5.cell? ⟨gb242,2,none⟩=some (.int .i64 a0_2):=(blk_cell BK242.out 2).trans rfl;have hfz8_0:=fZ7_ BK242.out 0;have hfz8_1:=fZ7_ BK242.out 1;have hfz8_2:=fZ7_ BK242.out 2)))
  go_loopg [5] k (fun kq v5 w'=>∃ (x5_1:Int),v5=.int .i64 x5_1∧Aside0 (spec_l16Blocks.l0 kq x5_1 a0_0 a0_1 a0_2 a1_0 l1_1 a1_2 a1_3 l1_4 l1_5=some r)∧Aside0 (kq≤k)∧Aside0 (w'.heap[gb242]?=some (.cells #[.int .i64 a0_0,.int .i64 a0_1,.int .i64 a0_2] 32 (0,0)))∧Aside0 (w'.heap[gb243]?=some (.cells #[.int .i64 a1_0,(.slice A1_1 l1_1.length c1_1),.int .i64 a1_2,.int .i64 a1_3,(.slice A1_4 l1_4.length c1_4),(.slice A1_5 l1_5.length c1_5)] 50 (0,0)))∧Aside0 (Below w.heap.size w w'))
  case atStart=>exact ⟨(0),(by first|rfl|(simp;done)|(simp [*];done)),H',⟨Nat.le_refl _⟩,⟨by (with_reducible repeat (first|refine kN7_ ?_ _|refine kD7_ ?_|refine blk_alloc ?_ _));exact BK242.out⟩,⟨by (with_reducible repeat (first|refine kN7_ ?_ _|refine kD7_ ?_|refine blk_alloc ?_ _));exact BK243.out⟩,⟨by repeat (first|(with_reducible first|exact HB.out|apply bA7_|apply bN7_|apply bD7_|refine bS7_ ?_ GE242.out|refine bS7_ ?_ GE243.out)|exact HB.out)⟩⟩
  case round =>
   clear H'
   try clear c1
   try clear p2
   try clear c3
   try clear c3b0
   try clear c3b1
   try clear c6
   try clear hcz7_0
   try clear hcz7_1
   try clear hcz7_2
   try clear hcz7_3
   try clear hcz7_4
   try clear hcz7_5
   try clear hcz8_0
   try clear hcz8_1
   try clear hcz8_2
   try clear hfz7_0
   try clear hfz7_1
   try clear hfz7_2
   try clear hfz7_3
   try clear hfz7_4
   try clear hfz7_5
   try clear hfz8_0
   try clear hfz8_1
   try clear hfz8_2
   obtain ⟨x5_1, rfl, HA, HK1, BK242, BK243, HB⟩ := hrel
   cases gk with
   | zero => exact absurd HA.out (by simp [spec_l16Blocks.l0])
   | succ k1 =>
    have H := HA.out
    clear HA
    simp only [spec_l16Blocks.l0] at H
    by_cases c9 : x5_1 < a0_0
    ·rw [if_pos c9] at H
     have c9b0 : decide (x5_1 < a0_0) = true := decide_eq_true c9
     clear c9
     by_cases c10 : 0 ≤ x5_1
     ·rw [if_pos c10] at H
      have c10b0 : decide (0 ≤ x5_1) = true := decide_eq_true c10
      clear c10
      by_cases c11 : x5_1 < (l1_1.length : Int)
      ·rw [if_pos c11] at H
       have c11b0 : decide (x5_1 < (l1_1.length : Int)) = true := decide_eq_true c11
       clear c11
       replace H := Option.bind_eq_some_iff.mp H
       obtain ⟨t245, A120, H⟩ := H
       replace H:(if t245=true then (spec_l16Blocks.l0 k1 (wrap64 (x5_1+1)) a0_0 a0_1 a0_2 a1_0 l1_1 a1_2 a1_3 l1_4 l1_5) else (some false))=some r:=H
       have A12 := Aside0.mk A120
       clear A120
       by_cases c13 : t245 = true
       ·subst c13
        have H1:(spec_l16Blocks.l0 k1 (wrap64 (x5_1+1)) a0_0 a0_1 a0_2 a1_0 l1_1 a1_2 a1_3 l1_4 l1_5)=some r:=by rw [if_pos rfl] at H;exact H
        clear H
        have H := H1
        clear H1
        have H' := Aside0.mk H
        clear H
        have hnb14 := NB242_243.out
        have hnc14 := NB243_242.out
        have hcz15_0:wr.cell? ⟨gb242,0,none⟩=some (.int .i64 a0_0):=(blk_cell BK242.out 0).trans rfl
        have hcz15_1:wr.cell? ⟨gb242,1,none⟩=some (.int .i64 a0_1):=(blk_cell BK242.out 1).trans rfl
        have hcz15_2:wr.cell? ⟨gb242,2,none⟩=some (.int .i64 a0_2):=(blk_cell BK242.out 2).trans rfl
        have hfz15_0 := blk_frozen BK242.out 0
        have hfz15_1 := blk_frozen BK242.out 1
        have hfz15_2 := blk_frozen BK242.out 2
        have hcz16_0:wr.cell? ⟨gb243,0,none⟩=some (.int .i64 a1_0):=(blk_cell BK243.out 0).trans rfl
        have hcz16_1:wr.cell? ⟨gb243,1,none⟩=some (.slice A1_1 l1_1.length c1_1):=(blk_cell BK243.out 1).trans rfl
        have hcz16_2:wr.cell? ⟨gb243,2,none⟩=some (.int .i64 a1_2):=(blk_cell BK243.out 2).trans rfl
        have hcz16_3:wr.cell? ⟨gb243,3,none⟩=some (.int .i64 a1_3):=(blk_cell BK243.out 3).trans rfl
        have hcz16_4:wr.cell? ⟨gb243,4,none⟩=some (.slice A1_4 l1_4.length c1_4):=(blk_cell BK243.out 4).trans rfl
        have hcz16_5:wr.cell? ⟨gb243,5,none⟩=some (.slice A1_5 l1_5.length c1_5):=(blk_cell BK243.out 5).trans rfl
        have hfz16_0 := blk_frozen BK243.out 0
        have hfz16_1 := blk_frozen BK243.out 1
        have hfz16_2 := blk_frozen BK243.out 2
        have hfz16_3 := blk_frozen BK243.out 3
        have hfz16_4 := blk_frozen BK243.out 4
        have hfz16_5 := blk_frozen BK243.out 5
        have p244:0≤(x5_1:Int):=of_decide_eq_true (by first|(with_reducible assumption)|assumption)
        have q244:x5_1 < (l1_1.length:Int):=of_decide_eq_true (by first|(with_reducible assumption)|assumption)
        obtain ⟨ad244, e244, hx244_0⟩ := Kd.at_int HR1_1.out x5_1 p244 q244
        cases e244
        replace hx244_0:=(HB.out.cell (World.block_lt_of_cell? w _ hx244_0)).trans hx244_0
        replace p244 := eq_true p244
        replace q244 := eq_true q244
        go_wp2_with (first|(go_at_call 33;(with_reducible refine (spec_l00In.calls (rd l1_1 x5_1) (wrap64 (x5_1 * a0_1)) (wrap64 ((wrap64 ((wrap64 (x5_1+1)) * a0_1)) - 1)) true _ A12.out).mono ?_);rintro e w' ⟨rfl,⟨nd,rfl⟩⟩;(try first|exact ⟨rfl,_,World.drewN_drewN _ _ _⟩|exact ⟨rfl,_,Eq.trans (World.drewN_drewN _ _ _) (congrArg (World.drewN _) (Nat.add_assoc _ _ _))⟩)))
        repeat (go_quiet (first|(go_at_call 33;(with_reducible refine (spec_l00In.calls (rd l1_1 x5_1) (wrap64 (x5_1 * a0_1)) (wrap64 ((wrap64 ((wrap64 (x5_1+1)) * a0_1)) - 1)) true _ A12.out).mono ?_);rintro e w' ⟨rfl,⟨nd,rfl⟩⟩;(try first|exact ⟨rfl,_,World.drewN_drewN _ _ _⟩|exact ⟨rfl,_,Eq.trans (World.drewN_drewN _ _ _) (congrArg (World.drewN _) (Nat.add_assoc _ _ _))⟩)));try go_wp2_with (first|(go_at_call 33;(with_reducible refine (spec_l00In.calls (rd l1_1 x5_1) (wrap64 (x5_1 * a0_1)) (wrap64 ((wrap64 ((wrap64 (x5_1+1)) * a0_1)) - 1)) true _ A12.out).mono ?_);rintro e w' ⟨rfl,⟨nd,rfl⟩⟩;(try first|exact ⟨rfl,_,World.drewN_drewN _ _ _⟩|exact ⟨rfl,_,Eq.trans (World.drewN_drewN _ _ _) (congrArg (World.drewN _) (Nat.add_assoc _ _ _))⟩))))
        go_roundg k1
        case measure => have := HK1.out; omega
        case rel=>exact ⟨(wrap64 (x5_1+1)),(by first|rfl|(simp;done)|(simp [*];done)),H',⟨by have:=HK1.out;omega⟩,⟨by (with_reducible repeat (first|refine kN7_ ?_ _|refine kD7_ ?_|refine blk_alloc ?_ _));exact BK242.out⟩,⟨by (with_reducible repeat (first|refine kN7_ ?_ _|refine kD7_ ?_|refine blk_alloc ?_ _));exact BK243.out⟩,⟨by repeat (first|(with_reducible first|exact HB.out|apply bA7_|apply bN7_|apply bD7_|refine bS7_ ?_ GE242.out|refine bS7_ ?_ GE243.out)|exact HB.out)⟩⟩
       ·replace c13 := Bool.eq_false_iff.mpr c13
        subst c13
        have H1:(some false)=some r:=by rw [if_neg (show ¬ (false=true) by decide)] at H;exact H
        clear H
        have H := H1
        clear H1
        obtain rfl := Option.some.inj H
        have hnb17 := NB242_243.out
        have hnc17 := NB243_242.out
        have hcz18_0:wr.cell? ⟨gb242,0,none⟩=some (.int .i64 a0_0):=(blk_cell BK242.out 0).trans rfl
        have hcz18_1:wr.cell? ⟨gb242,1,none⟩=some (.int .i64 a0_1):=(blk_cell BK242.out 1).trans rfl
        have hcz18_2:wr.cell? ⟨gb242,2,none⟩=some (.int .i64 a0_2):=(blk_cell BK242.out 2).trans rfl
        have hfz18_0 := blk_frozen BK242.out 0
        have hfz18_1 := blk_frozen BK242.out 1
        have hfz18_2 := blk_frozen BK242.out 2
        have hcz19_0:wr.cell? ⟨gb243,0,none⟩=some (.int .i64 a1_0):=(blk_cell BK243.out 0).trans rfl
        have hcz19_1:wr.cell? ⟨gb243,1,none⟩=some (.slice A1_1 l1_1.length c1_1):=(blk_cell BK243.out 1).trans rfl
        have hcz19_2:wr.cell? ⟨gb243,2,none⟩=some (.int .i64 a1_2):=(blk_cell BK243.out 2).trans rfl
        have hcz19_3:wr.cell? ⟨gb243,3,none⟩=some (.int .i64 a1_3):=(blk_cell BK243.out 3).trans rfl
        have hcz19_4:wr.cell? ⟨gb243,4,none⟩=some (.slice A1_4 l1_4.length c1_4):=(blk_cell BK243.out 4).trans rfl
        have hcz19_5:wr.cell? ⟨gb243,5,none⟩=some (.slice A1_5 l1_5.length c1_5):=(blk_cell BK243.out 5).trans rfl
        have hfz19_0 := blk_frozen BK243.out 0
        have hfz19_1 := blk_frozen BK243.out 1
        have hfz19_2 := blk_frozen BK243.out 2
        have hfz19_3 := blk_frozen BK243.out 3
        have hfz19_4 := blk_frozen BK243.out 4
        have hfz19_5 := blk_frozen BK243.out 5
        have p244:0≤(x5_1:Int):=of_decide_eq_true (by first|(with_reducible assumption)|assumption)
        have q244:x5_1 < (l1_1.length:Int):=of_decide_eq_true (by first|(with_reducible assumption)|assumption)
        obtain ⟨ad244, e244, hx244_0⟩ := Kd.at_int HR1_1.out x5_1 p244 q244
        cases e244
        replace hx244_0:=(HB.out.cell (World.block_lt_of_cell? w _ hx244_0)).trans hx244_0
        replace p244 := eq_true p244
        replace q244 := eq_true q244
        go_wp2_with (first|(go_at_call 33;(with_reducible refine (spec_l00In.calls (rd l1_1 x5_1) (wrap64 (x5_1 * a0_1)) (wrap64 ((wrap64 ((wrap64 (x5_1+1)) * a0_1)) - 1)) false _ A12.out).mono ?_);rintro e w' ⟨rfl,⟨nd,rfl⟩⟩;(try first|exact ⟨rfl,_,World.drewN_drewN _ _ _⟩|exact ⟨rfl,_,Eq.trans (World.drewN_drewN _ _ _) (congrArg (World.drewN _) (Nat.add_assoc _ _ _))⟩)))
        repeat (go_quiet (first|(go_at_call 33;(with_reducible refine (spec_l00In.calls (rd l1_1 x5_1) (wrap64 (x5_1 * a0_1)) (wrap64 ((wrap64 ((wrap64 (x5_1+1)) * a0_1)) - 1)) false _ A12.out).mono ?_);rintro e w' ⟨rfl,⟨nd,rfl⟩⟩;(try first|exact ⟨rfl,_,World.drewN_drewN _ _ _⟩|exact ⟨rfl,_,Eq.trans (World.drewN_drewN _ _ _) (congrArg (World.drewN _) (Nat.add_assoc _ _ _))⟩)));try go_wp2_with (first|(go_at_call 33;(with_reducible refine (spec_l00In.calls (rd l1_1 x5_1) (wrap64 (x5_1 * a0_1)) (wrap64 ((wrap64 ((wrap64 (x5_1+1)) * a0_1)) - 1)) false _ A12.out).mono ?_);rintro e w' ⟨rfl,⟨nd,rfl⟩⟩;(try first|exact ⟨rfl,_,World.drewN_drewN _ _ _⟩|exact ⟨rfl,_,Eq.trans (World.drewN_drewN _ _ _) (congrArg (World.drewN _) (Nat.add_assoc _ _ _))⟩))))
        go_ret
        exact ⟨by first|rfl|(simp [errW_none,errW_some] <;> rfl)|(simp [*,errW_none,errW_some] <;> rfl),by repeat (first|(with_reducible first|exact HB.out|apply bA7_|apply bN7_|apply bD7_|refine bS7_ ?_ GE242.out|refine bS7_ ?_ GE243.out)|exact HB.out)⟩
      ·rw [if_neg c11] at H
       exact absurd H (by simp)
     ·rw [if_neg c10] at H
      exact absurd H (by simp)
    ·rw [if_neg c9] at H
     have c9b0 : decide (x5_1 < a0_0) = false := decide_eq_false c9
     clear c9
     obtain rfl := Option.some.inj H
     have hnb20 := NB242_243.out
     have hnc20 := NB243_242.out
     have hcz21_0:wr.cell? ⟨gb242,0,none⟩=some (.int .i64 a0_0):=(blk_cell BK242.out 0).trans rfl
     have hcz21_1:wr.cell? ⟨gb242,1,none⟩=some (.int .i64 a0_1):=(blk_cell BK242.out 1).trans rfl
     have hcz21_2:wr.cell? ⟨gb242,2,none⟩=some (.int .i64 a0_2):=(blk_cell BK242.out 2).trans rfl
     have hfz21_0 := blk_frozen BK242.out 0
     have hfz21_1 := blk_frozen BK242.out 1
     have hfz21_2 := blk_frozen BK242.out 2
     go_wp2
     repeat (go_quiet (fail); try go_wp2)
     go_ret
     exact ⟨by first|rfl|(simp [errW_none,errW_some] <;> rfl)|(simp [*,errW_none,errW_some] <;> rfl),by repeat (first|(with_reducible first|exact HB.out|apply bA7_|apply bN7_|apply bD7_|refine bS7_ ?_ GE242.out|refine bS7_ ?_ GE243.out)|exact HB.out)⟩
 ·rw [if_neg c3] at H
  have c3b0 : ((l1_1.length : Int) == a0_0) = false := beq_eq_false_iff_ne.mpr c3
  have c3b1 : ((l1_1.length : Int) != a0_0) = true := bne_iff_ne.mpr c3
  obtain rfl := Option.some.inj H
  go_enter Try.func16, Try.ntmps16
  go_wp2_with (first|((with_reducible refine gate_dst (N:=2) rfl ?_);refine box_event ?hg (N:=2) ?hd (cs:=#[.int .i64 a0_0,.int .i64 a0_1,.int .i64 a0_2]) (t:=32) ?hr ?_;(case hd=>rfl);(case hg=>rfl);(case hr=>first|(go_simp;done)|(go_simp;rfl));intro gb242 hg w22 hbox hb;have n0_:=mk7_ (bT7_ (by repeat (first|(with_reducible first|exact HB.out|apply bA7_|apply bN7_|apply bD7_)|exact HB.out)) hb);have n1_:=mk7_ (hbox);have n2_:=mk7_ ((by rw [hg];exact (bZ7_ (by repeat (first|(with_reducible first|exact HB.out|apply bA7_|apply bN7_|apply bD7_)|exact HB.out))):w.heap.size≤gb242));have n3_:=mk7_ ((by rw [hg];exact (bZ7_ (by repeat (first|(with_reducible first|exact HB.out|apply bA7_|apply bN7_|apply bD7_)|exact HB.out))):w.heap.size≤gb242));clear HB;have HB:=n0_;have BK242:=n1_;have GW242:=n2_;have GE242:=n3_;clear n0_ n1_ n2_ n3_;clear hb hbox hg)|((with_reducible refine gate_dst (N:=3) rfl ?_);refine box_event ?hg (N:=3) ?hd (cs:=#[.int .i64 a1_0,.slice A1_1 l1_1.length c1_1,.int .i64 a1_2,.int .i64 a1_3,.slice A1_4 l1_4.length c1_4,.slice A1_5 l1_5.length c1_5]) (t:=50) ?hr ?_;(case hd=>rfl);(case hg=>rfl);(case hr=>first|(go_simp;done)|(go_simp;rfl));intro gb243 hg w23 hbox hb;have n0_:=mk7_ (blk_below (g:=gb242) (o:=.cells #[.int .i64 a0_0,.int .i64 a0_1,.int .i64 a0_2] 32 (0,0)) (by (with_reducible repeat (first|refine kN7_ ?_ _|refine kD7_ ?_|refine blk_alloc ?_ _));exact BK242.out) hb);have n1_:=mk7_ (bT7_ (by repeat (first|(with_reducible first|exact HB.out|apply bA7_|apply bN7_|apply bD7_|refine bS7_ ?_ GE242.out)|exact HB.out)) hb);have n2_:=mk7_ (hbox);have n3_:=mk7_ ((by rw [hg];exact (bZ7_ (by repeat (first|(with_reducible first|exact HB.out|apply bA7_|apply bN7_|apply bD7_|refine bS7_ ?_ GE242.out)|exact HB.out))):w.heap.size≤gb243));have n4_:=mk7_ ((by rw [hg];exact (bZ7_ (by repeat (first|(with_reducible first|exact HB.out|apply bA7_|apply bN7_|apply bD7_|refine bS7_ ?_ GE242.out)|exact HB.out))):w.heap.size≤gb243));have n5_:=mk7_ ((by rw [hg];exact Nat.ne_of_lt (blk_lt (g:=gb242) (o:=.cells #[.int .i64 a0_0,.int .i64 a0_1,.int .i64 a0_2] 32 (0,0)) (by (with_reducible repeat (first|refine kN7_ ?_ _|refine kD7_ ?_|refine blk_alloc ?_ _));exact BK242.out)):gb242≠gb243));have n6_:=mk7_ ((by rw [hg];exact Nat.ne_of_gt (blk_lt (g:=gb242) (o:=.cells #[.int .i64 a0_0,.int .i64 a0_1,.int .i64 a0_2] 32 (0,0)) (by (with_reducible repeat (first|refine kN7_ ?_ _|refine kD7_ ?_|refine blk_alloc ?_ _));exact BK242.out)):gb243≠gb242));clear BK242;clear HB;have BK242:=n0_;have HB:=n1_;have BK243:=n2_;have GW243:=n3_;have GE243:=n4_;have NB242_243:=n5_;have NB243_242:=n6_;clear n0_ n1_ n2_ n3_ n4_ n5_ n6_;clear hb hbox hg;have hnb24:=NB243_242.out;have hnc24:=NB242_243.out;have hcz25_0:w23.cell? ⟨gb243,0,none⟩=some (.int .i64 a1_0):=(blk_cell BK243.out 0).trans rfl;have hcz25_1:w23.cell? ⟨gb243,1,none⟩=some (.slice A1_1 l1_1.length c1_1):=(blk_cell BK243.out 1).trans rfl;have hcz25_2:w23.cell? ⟨gb243,2,none⟩=some (.int .i64 a1_2):=(blk_cell BK243.out 2).trans rfl;have hcz25_3:w23.cell? ⟨gb243,3,none⟩=some (.int .i64 a1_3):=(blk_cell BK243.out 3).trans rfl;have hcz25_4:w23.cell? ⟨gb243,4,none⟩=some (.slice A1_4 l1_4.length c1_4):=(blk_cell BK243.out 4).trans rfl;have hcz25_5:w23.cell? ⟨gb243,5,none⟩=some (.slice A1_5 l1_5.length c1_5):=(blk_cell BK243.out 5).trans rfl;have hfz25_0:=fZ7_ BK243.out 0;have hfz25_1:=fZ7_ BK243.out 1;have hfz25_2:=fZ7_ BK243.out 2;have hfz25_3:=fZ7_ BK243.out 3;have hfz25_4:=fZ7_ BK243.out 4;have hfz25_5:=fZ7_ BK243.out 5;have hcz26_0:w23.cell? ⟨gb242,0,none⟩=some (.int .i64 a0_0):=(blk_cell BK242.out 0).trans rfl;have hcz26_1:w23.cell? ⟨gb242,1,none⟩=some (.int .i64 a0_1):=(blk_cell BK242.out 1).trans rfl;have hcz26_2:w23.cell? ⟨gb242,2,none⟩=some (.int .i64 a0_2):=(blk_cell BK242.out 2).trans rfl;have hfz26_0:=fZ7_ BK242.out 0;have hfz26_1:=fZ7_ BK242.out 1;have hfz26_2:=fZ7_ BK242.out 2))
  repeat (go_quiet (first|((with_reducible refine gate_dst (N:=2) rfl ?_);refine box_event ?hg (N:=2) ?hd (cs:=#[.int .i64 a0_0,.int .i64 a0_1,.int .i64 a0_2]) (t:=32) ?hr ?_;(case hd=>rfl);(case hg=>rfl);(case hr=>first|(go_simp;done)|(go_simp;rfl));intro gb242 hg w22 hbox hb;have n0_:=mk7_ (bT7_ (by repeat (first|(with_reducible first|exact HB.out|apply bA7_|apply bN7_|apply bD7_)|exact HB.out)) hb);have n1_:=mk7_ (hbox);have n2_:=mk7_ ((by rw [hg];exact (bZ7_ (by repeat (first|(with_reducible first|exact HB.out|apply bA7_|apply bN7_|apply bD7_)|exact HB.out))):w.heap.size≤gb242));have n3_:=mk7_ ((by rw [hg];exact (bZ7_ (by repeat (first|(with_reducible first|exact HB.out|apply bA7_|apply bN7_|apply bD7_)|exact HB.out))):w.heap.size≤gb242));clear HB;have HB:=n0_;have BK242:=n1_;have GW242:=n2_;have GE242:=n3_;clear n0_ n1_ n2_ n3_;clear hb hbox hg)|((with_reducible refine gate_dst (N:=3) rfl ?_);refine box_event ?hg (N:=3) ?hd (cs:=#[.int .i64 a1_0,.slice A1_1 l1_1.length c1_1,.int .i64 a1_2,.int .i64 a1_3,.slice A1_4 l1_4.length c1_4,.slice A1_5 l1_5.length c1_5]) (t:=50) ?hr ?_;(case hd=>rfl);(case hg=>rfl);(case hr=>first|(go_simp;done)|(go_simp;rfl));intro gb243 hg w23 hbox hb;have n0_:=mk7_ (blk_below (g:=gb242) (o:=.cells #[.int .i64 a0_0,.int .i64 a0_1,.int .i64 a0_2] 32 (0,0)) (by (with_reducible repeat (first|refine kN7_ ?_ _|refine kD7_ ?_|refine blk_alloc ?_ _));exact BK242.out) hb);have n1_:=mk7_ (bT7_ (by repeat (first|(with_reducible first|exact HB.out|apply bA7_|apply bN7_|apply bD7_|refine bS7_ ?_ GE242.out)|exact HB.out)) hb);have n2_:=mk7_ (hbox);have n3_:=mk7_ ((by rw [hg];exact (bZ7_ (by repeat (first|(with_reducible first|exact HB.out|apply bA7_|apply bN7_|apply bD7_|refine bS7_ ?_ GE242.out)|exact HB.out))):w.heap.size≤gb243));have n4_:=mk7_ ((by rw [hg];exact (bZ7_ (by repeat (first|(with_reducible first|exact HB.out|apply bA7_|apply bN7_|apply bD7_|refine bS7_ ?_ GE242.out)|exact HB.out))):w.heap.size≤gb243));have n5_:=mk7_ ((by rw [hg];exact Nat.ne_of_lt (blk_lt (g:=gb242) (o:=.cells #[.int .i64 a0_0,.int .i64 a0_1,.int .i64 a0_2] 32 (0,0)) (by (with_reducible repeat (first|refine kN7_ ?_ _|refine kD7_ ?_|refine blk_alloc ?_ _));exact BK242.out)):gb242≠gb243));have n6_:=mk7_ ((by rw [hg];exact Nat.ne_of_gt (blk_lt (g:=gb242) (o:=.cells #[.int .i64 a0_0,.int .i64 a0_1,.int .i64 a0_2] 32 (0,0)) (by (with_reducible repeat (first|refine kN7_ ?_ _|refine kD7_ ?_|refine blk_alloc ?_ _));exact BK242.out)):gb243≠gb242));clear BK242;clear HB;have BK242:=n0_;have HB:=n1_;have BK243:=n2_;have GW243:=n3_;have GE243:=n4_;have NB242_243:=n5_;have NB243_242:=n6_;clear n0_ n1_ n2_ n3_ n4_ n5_ n6_;clear hb hbox hg;have hnb24:=NB243_242.out;have hnc24:=NB242_243.out;have hcz25_0:w23.cell? ⟨gb243,0,none⟩=some (.int .i64 a1_0):=(blk_cell BK243.out 0).trans rfl;have hcz25_1:w23.cell? ⟨gb243,1,none⟩=some (.slice A1_1 l1_1.length c1_1):=(blk_cell BK243.out 1).trans rfl;have hcz25_2:w23.cell? ⟨gb243,2,none⟩=some (.int .i64 a1_2):=(blk_cell BK243.out 2).trans rfl;have hcz25_3:w23.cell? ⟨gb243,3,none⟩=some (.int .i64 a1_3):=(blk_cell BK243.out 3).trans rfl;have hcz25_4:w23.cell? ⟨gb243,4,none⟩=some (.slice A1_4 l1_4.length c1_4):=(blk_cell BK243.out 4).trans rfl;have hcz25_5:w23.cell? ⟨gb243,5,none⟩=some (.slice A1_5 l1_5.length c1_5):=(blk_cell BK243.out 5).trans rfl;have hfz25_0:=fZ7_ BK243.out 0;have hfz25_1:=fZ7_ BK243.out 1;have hfz25_2:=fZ7_ BK243.out 2;have hfz25_3:=fZ7_ BK243.out 3;have hfz25_4:=fZ7_ BK243.out 4;have hfz25_5:=fZ7_ BK243.out 5;have hcz26_0:w23.cell? ⟨gb242,0,none⟩=some (.int .i64 a0_0):=(blk_cell BK242.out 0).trans rfl;have hcz26_1:w23.cell? ⟨gb242,1,none⟩=some (.int .i64 a0_1):=(blk_cell BK242.out 1).trans rfl;have hcz26_2:w23.cell? ⟨gb242,2,none⟩=some (.int .i64 a0_2):=(blk_cell BK242.out 2).trans rfl;have hfz26_0:=fZ7_ BK242.out 0;have hfz26_1:=fZ7_ BK242.out 1;have hfz26_2:=fZ7_ BK242.out 2));try go_wp2_with (first|((with_reducible refine gate_dst (N:=2) rfl ?_);refine box_event ?hg (N:=2) ?hd (cs:=#[.int .i64 a0_0,.int .i64 a0_1,.int .i64 a0_2]) (t:=32) ?hr ?_;(case hd=>rfl);(case hg=>rfl);(case hr=>first|(go_simp;done)|(go_simp;rfl));intro gb242 hg w22 hbox hb;have n0_:=mk7_ (bT7_ (by repeat (first|(with_reducible first|exact HB.out|apply bA7_|apply bN7_|apply bD7_)|exact HB.out)) hb);have n1_:=mk7_ (hbox);have n2_:=mk7_ ((by rw [hg];exact (bZ7_ (by repeat (first|(with_reducible first|exact HB.out|apply bA7_|apply bN7_|apply bD7_)|exact HB.out))):w.heap.size≤gb242));have n3_:=mk7_ ((by rw [hg];exact (bZ7_ (by repeat (first|(with_reducible first|exact HB.out|apply bA7_|apply bN7_|apply bD7_)|exact HB.out))):w.heap.size≤gb242));clear HB;have HB:=n0_;have BK242:=n1_;have GW242:=n2_;have GE242:=n3_;clear n0_ n1_ n2_ n3_;clear hb hbox hg)|((with_reducible refine gate_dst (N:=3) rfl ?_);refine box_event ?hg (N:=3) ?hd (cs:=#[.int .i64 a1_0,.slice A1_1 l1_1.length c1_1,.int .i64 a1_2,.int .i64 a1_3,.slice A1_4 l1_4.length c1_4,.slice A1_5 l1_5.length c1_5]) (t:=50) ?hr ?_;(case hd=>rfl);(case hg=>rfl);(case hr=>first|(go_simp;done)|(go_simp;rfl));intro gb243 hg w23 hbox hb;have n0_:=mk7_ (blk_below (g:=gb242) (o:=.cells #[.int .i64 a0_0,.int .i64 a0_1,.int .i64 a0_2] 32 (0,0)) (by (with_reducible repeat (first|refine kN7_ ?_ _|refine kD7_ ?_|refine blk_alloc ?_ _));exact BK242.out) hb);have n1_:=mk7_ (bT7_ (by repeat (first|(with_reducible first|exact HB.out|apply bA7_|apply bN7_|apply bD7_|refine bS7_ ?_ GE242.out)|exact HB.out)) hb);have n2_:=mk7_ (hbox);have n3_:=mk7_ ((by rw [hg];exact (bZ7_ (by repeat (first|(with_reducible first|exact HB.out|apply bA7_|apply bN7_|apply bD7_|refine bS7_ ?_ GE242.out)|exact HB.out))):w.heap.size≤gb243));have n4_:=mk7_ ((by rw [hg];exact (bZ7_ (by repeat (first|(with_reducible first|exact HB.out|apply bA7_|apply bN7_|apply bD7_|refine bS7_ ?_ GE242.out)|exact HB.out))):w.heap.size≤gb243));have n5_:=mk7_ ((by rw [hg];exact Nat.ne_of_lt (blk_lt (g:=gb242) (o:=.cells #[.int .i64 a0_0,.int .i64 a0_1,.int .i64 a0_2] 32 (0,0)) (by (with_reducible repeat (first|refine kN7_ ?_ _|refine kD7_ ?_|refine blk_alloc ?_ _));exact BK242.out)):gb242≠gb243));have n6_:=mk7_ ((by rw [hg];exact Nat.ne_of_gt (blk_lt (g:=gb242) (o:=.cells #[.int .i64 a0_0,.int .i64 a0_1,.int .i64 a0_2] 32 (0,0)) (by (with_reducible repeat (first|refine kN7_ ?_ _|refine kD7_ ?_|refine blk_alloc ?_ _));exact BK242.out)):gb243≠gb242));clear BK242;clear HB;have BK242:=n0_;have HB:=n1_;have BK243:=n2_;have GW243:=n3_;have GE243:=n4_;have NB242_243:=n5_;have NB243_242:=n6_;clear n0_ n1_ n2_ n3_ n4_ n5_ n6_;clear hb hbox hg;have hnb24:=NB243_242.out;have hnc24:=NB242_243.out;have hcz25_0:w23.cell? ⟨gb243,0,none⟩=some (.int .i64 a1_0):=(blk_cell BK243.out 0).trans rfl;have hcz25_1:w23.cell? ⟨gb243,1,none⟩=some (.slice A1_1 l1_1.length c1_1):=(blk_cell BK243.out 1).trans rfl;have hcz25_2:w23.cell? ⟨gb243,2,none⟩=some (.int .i64 a1_2):=(blk_cell BK243.out 2).trans rfl;have hcz25_3:w23.cell? ⟨gb243,3,none⟩=some (.int .i64 a1_3):=(blk_cell BK243.out 3).trans rfl;have hcz25_4:w23.cell? ⟨gb243,4,none⟩=some (.slice A1_4 l1_4.length c1_4):=(blk_cell BK243.out 4).trans rfl;have hcz25_5:w23.cell? ⟨gb243,5,none⟩=some (.slice A1_5 l1_5.length c1_5):=(blk_cell BK243.out 5).trans rfl;have hfz25_0:=fZ7_ BK243.out 0;have hfz25_1:=fZ7_ BK243.out 1;have hfz25_2:=fZ7_ BK243.out 2;have hfz25_3:=fZ7_ BK243.out 3;have hfz25_4:=fZ7_ BK243.out 4;have hfz25_5:=fZ7_ BK243.out 5;have hcz26_0:w23.cell? ⟨gb242,0,none⟩=some (.int .i64 a0_0):=(blk_cell BK242.out 0).trans rfl;have hcz26_1:w23.cell? ⟨gb242,1,none⟩=some (.int .i64 a0_1):=(blk_cell BK242.out 1).trans rfl;have hcz26_2:w23.cell? ⟨gb242,2,none⟩=some (.int .i64 a0_2):=(blk_cell BK242.out 2).trans rfl;have hfz26_0:=fZ7_ BK242.out 0;have hfz26_1:=fZ7_ BK242.out 1;have hfz26_2:=fZ7_ BK242.out 2)))
  go_ret
  exact ⟨by first|rfl|(simp [errW_none,errW_some] <;> rfl)|(simp [*,errW_none,errW_some] <;> rfl),by repeat (first|(with_reducible first|exact HB.out|apply bA7_|apply bN7_|apply bD7_|refine bS7_ ?_ GE242.out|refine bS7_ ?_ GE243.out)|exact HB.out)⟩

def spec_l16Sum.l0 : Nat → List Int → Int → Int → Option (Int)
 | 0, _, _, _ => none
 | k+1,x0,x3,x4=>if x4 < (x0.length:Int) then (if 0≤x4 then (spec_l16Sum.l0 k x0 (wrap64 (x3+(rd x0 x4))) (wrap64 (x4+1))) else (none)) else (some x3)
def spec_l16Sum.f (k : Nat) (l0 : List Int) : Option (Int) := spec_l16Sum.l0 k l0 0 0
set_option maxHeartbeats 8000000 in
set_option maxRecDepth 100000 in
theorem spec_l16Sum.calls (k:Nat) (A0:Option Addr) (c0:Nat) (l0:List Int) (r:Int) (w:World) (hr0:Kd.C (Kd.int .i64) w A0 l0.length l0) (hc0:l0.length≤c0) (h:spec_l16Sum.f k l0=some r) :
  Calls Try.prog 35 #[.slice A0 l0.length c0] w fun e w'=>e=.returned (.int .i64 r)∧Drawn0 w w':=by
 have HR0 := Aside0.mk hr0
 have HC0 := Aside0.mk hc0
 clear hr0 hc0
 have H : (spec_l16Sum.l0 k l0 0 0) = some r := h
 clear h
 have H' := Aside0.mk H
 clear H
 go_enter Try.func35, Try.ntmps35
 go_wp2
 go_loopg [3,4] k (fun kq v3 v4 w'=>∃ (x3_1:Int) (x4_1:Int),v3=.int .i64 x3_1∧v4=.int .i64 x4_1∧Aside0 (spec_l16Sum.l0 kq l0 x3_1 x4_1=some r)∧Aside0 (kq≤k)∧Drawn0 w w')
 case atStart=>exact ⟨(0),(0),(by first|rfl|(simp;done)|(simp [*];done)),(by first|rfl|(simp;done)|(simp [*];done)),H',⟨Nat.le_refl _⟩,by repeat (first|exact Drawn0.refl _|apply Drawn0.step)⟩
 case round =>
  clear H'
  obtain ⟨x3_1, x4_1, rfl, rfl, HA, HK1, ⟨m1, rfl⟩⟩ := hrel
  cases gk with
  | zero => exact absurd HA.out (by simp [spec_l16Sum.l0])
  | succ k1 =>
   have H := HA.out
   clear HA
   simp only [spec_l16Sum.l0] at H
   by_cases c2 : x4_1 < (l0.length : Int)
   ·rw [if_pos c2] at H
    have c2b0 : decide (x4_1 < (l0.length : Int)) = true := decide_eq_true c2
    clear c2
    by_cases c3 : 0 ≤ x4_1
    ·rw [if_pos c3] at H
     have c3b0 : decide (0 ≤ x4_1) = true := decide_eq_true c3
     clear c3
     have H' := Aside0.mk H
     clear H
     have p246:0≤(x4_1:Int):=of_decide_eq_true (by first|(with_reducible assumption)|assumption)
     have q246:x4_1 < (l0.length:Int):=of_decide_eq_true (by first|(with_reducible assumption)|assumption)
     obtain ⟨ad246, e246, hx246_0⟩ := Kd.at_int HR0.out x4_1 p246 q246
     cases e246
     replace p246 := eq_true p246
     replace q246 := eq_true q246
     go_wp2
     go_roundg k1
     case measure => have := HK1.out; omega
     case rel=>exact ⟨(wrap64 (x3_1+(rd l0 x4_1))),(wrap64 (x4_1+1)),(by first|rfl|(simp;done)|(simp [*];done)),(by first|rfl|(simp;done)|(simp [*];done)),H',⟨by have:=HK1.out;omega⟩,by repeat (first|exact Drawn0.refl _|apply Drawn0.step)⟩
    ·rw [if_neg c3] at H
     exact absurd H (by simp)
   ·rw [if_neg c2] at H
    have c2b0 : decide (x4_1 < (l0.length : Int)) = false := decide_eq_false c2
    clear c2
    obtain rfl := Option.some.inj H
    go_wp2
    go_ret
    exact ⟨by first|rfl|(simp;done)|(simp [*];done),by repeat (first|exact Drawn0.refl _|apply Drawn0.step)⟩

end Go.Proofs.Ytdjbphffibcbeaa.Q
