/- The program's functions as Lean functions,and for each the proof that the machine's call comes to what its function says. Conditions: those that stand before each theorem. -/
import Derived.Test.YtdjbphffibcbeaaQ0
namespace Go.Proofs.Ytdjbphffibcbeaa.Q
open Go.RowKit Go.Proofs.YtdjbphffibcbeaaW.PrintWords Go.Proofs.YtdjbphffibcbeaaW.PrintLast Go.Proofs.YtdjbphffibcbeaaW.PrintMore
abbrev kN9_ := @blk_drewN
abbrev kD9_ := @blk_drew
abbrev rN9_ := @Kd.R_drewN
abbrev bA9_ := @below_alloc
abbrev bN9_ := @pw_below_drewN
abbrev bD9_ := @below_drew1
abbrev bS9_ := @below_set
abbrev mk9_ := @Aside0.mk
abbrev fZ9_ := @blk_frozen
abbrev sB9_ := @Kd.S_below
abbrev bT9_ := @below_step
abbrev bZ9_ := @below_size
set_option linter.unusedVariables false
set_option linter.unusedSimpArgs false

mutual
def spec_l16State.j0:Nat→Int→Int→Int→Int→List (S68)→Int→Int→Bool→Int→Int→List Int→Int→Int→List Int→List ByteArray→Option (Bool)
 | 0, _, _, _, _, _, _, _, _, _, _, _, _, _, _, _ => none
 | k+1,x5,x254000,x254001,x254002,x254003,x254004,x254005,x254006,x254007,x255000,x255001,x255002,x255003,x255004,x255005=>spec_l16State.l0 k x5 0 x254000 x254001 x254002 x254003 x254004 x254005 x254006 x254007 x255000 x255001 x255002 x255003 x255004 x255005
def spec_l16State.l0:Nat→Int→Int→Int→Int→Int→List (S68)→Int→Int→Bool→Int→Int→List Int→Int→Int→List Int→List ByteArray→Option (Bool)
 | 0, _, _, _, _, _, _, _, _, _, _, _, _, _, _, _, _ => none
 | k+1,x5,x6,x254000,x254001,x254002,x254003,x254004,x254005,x254006,x254007,x255000,x255001,x255002,x255003,x255004,x255005=>if x6 < (x255001.length:Int) then (if 0≤x6 then (if 0≤(rd x255001 x6) then (if (rd x255001 x6) < (x254003.length:Int) then (if ((rd_T68 x254003 (rd x255001 x6)).f1)=x5 then (spec_l16State.l0 k x5 (wrap64 (x6+1)) x254000 x254001 x254002 x254003 x254004 x254005 x254006 x254007 x255000 x255001 x255002 x255003 x255004 x255005) else (some false)) else (none)) else (none)) else (none)) else (some true)
end
def spec_l16State.f (k:Nat) (a0_0:Int) (a0_1:Int) (a0_2:Int) (l0_3:List (S68)) (a0_4:Int) (a0_5:Int) (a0_6:Bool) (a0_7:Int) (a1_0:Int) (l1_1:List Int) (a1_2:Int) (a1_3:Int) (l1_4:List Int) (l1_5:List ByteArray):Option (Bool):=if a1_0=3 then (some ((l1_5.length:Int) == 0)) else (if a1_0=4 then (if (l1_4.length:Int)=0 then (some ((l1_5.length:Int) == 0)) else (some false)) else (if a1_0=1 then (if (l1_4.length:Int) > 0 then (some false) else (if (l1_5.length:Int) > 0 then (some false) else (spec_l16State.j0 k (l1_4.length:Int) a0_0 a0_1 a0_2 l0_3 a0_4 a0_5 a0_6 a0_7 a1_0 l1_1 a1_2 a1_3 l1_4 l1_5))) else (if a1_0=2 then (if (l1_4.length:Int)=0 then (if (l1_5.length:Int)=0 then (some false) else (if (l1_4.length:Int) ≥ a0_2 then (some false) else (spec_l16State.j0 k (l1_4.length:Int) a0_0 a0_1 a0_2 l0_3 a0_4 a0_5 a0_6 a0_7 a1_0 l1_1 a1_2 a1_3 l1_4 l1_5))) else (if (l1_4.length:Int) ≥ a0_2 then (some false) else (spec_l16State.j0 k (l1_4.length:Int) a0_0 a0_1 a0_2 l0_3 a0_4 a0_5 a0_6 a0_7 a1_0 l1_1 a1_2 a1_3 l1_4 l1_5))) else (some false))))
set_option maxHeartbeats 8000000 in
set_option maxRecDepth 100000 in
theorem spec_l16State.calls (k:Nat) (a0_0:Int) (a0_1:Int) (a0_2:Int) (A0_3:Option Addr) (c0_3:Nat) (l0_3:List (S68)) (a0_4:Int) (a0_5:Int) (a0_6:Bool) (a0_7:Int) (a1_0:Int) (A1_1:Option Addr) (c1_1:Nat) (l1_1:List Int) (a1_2:Int) (a1_3:Int) (A1_4:Option Addr) (c1_4:Nat) (l1_4:List Int) (A1_5:Option Addr) (c1_5:Nat) (l1_5:List ByteArray) (r:Bool) (w:World) (hr0_3:Kd.C k68 w A0_3 l0_3.length l0_3) (hc0_3:l0_3.length≤c0_3) (hr1_1:Kd.C (Kd.int .i64) w A1_1 l1_1.length l1_1) (hc1_1:l1_1.length≤c1_1) (hr1_4:Kd.C (Kd.int .i64) w A1_4 l1_4.length l1_4) (hc1_4:l1_4.length≤c1_4) (hr1_5:Kd.C Kd.string w A1_5 l1_5.length l1_5) (hc1_5:l1_5.length≤c1_5) (h:spec_l16State.f k a0_0 a0_1 a0_2 l0_3 a0_4 a0_5 a0_6 a0_7 a1_0 l1_1 a1_2 a1_3 l1_4 l1_5=some r) :
  Calls Try.prog 18 #[.agg #[.int .i64 a0_0,.int .i64 a0_1,.int .i64 a0_2,.slice A0_3 l0_3.length c0_3,.int .i64 a0_4,.int .i64 a0_5,.bool a0_6,.int .i64 a0_7],.agg #[.int .i64 a1_0,.slice A1_1 l1_1.length c1_1,.int .i64 a1_2,.int .i64 a1_3,.slice A1_4 l1_4.length c1_4,.slice A1_5 l1_5.length c1_5]] w fun e w'=>e=.returned (.bool r)∧Below w.heap.size w w':=by
 have hu35 := Try.underlying35
 have hu50 := Try.underlying50
 have HR0_3 := Aside0.mk hr0_3
 have HC0_3 := Aside0.mk hc0_3
 clear hr0_3 hc0_3
 have HR1_1 := Aside0.mk hr1_1
 have HC1_1 := Aside0.mk hc1_1
 clear hr1_1 hc1_1
 have HR1_4 := Aside0.mk hr1_4
 have HC1_4 := Aside0.mk hc1_4
 clear hr1_4 hc1_4
 have HR1_5 := Aside0.mk hr1_5
 have HC1_5 := Aside0.mk hc1_5
 clear hr1_5 hc1_5
 have HB := Aside0.mk (Below.refl w.heap.size w)
 have H:(if a1_0=3 then (some ((l1_5.length:Int) == 0)) else (if a1_0=4 then (if (l1_4.length:Int)=0 then (some ((l1_5.length:Int) == 0)) else (some false)) else (if a1_0=1 then (if (l1_4.length:Int) > 0 then (some false) else (if (l1_5.length:Int) > 0 then (some false) else (spec_l16State.j0 k (l1_4.length:Int) a0_0 a0_1 a0_2 l0_3 a0_4 a0_5 a0_6 a0_7 a1_0 l1_1 a1_2 a1_3 l1_4 l1_5))) else (if a1_0=2 then (if (l1_4.length:Int)=0 then (if (l1_5.length:Int)=0 then (some false) else (if (l1_4.length:Int) ≥ a0_2 then (some false) else (spec_l16State.j0 k (l1_4.length:Int) a0_0 a0_1 a0_2 l0_3 a0_4 a0_5 a0_6 a0_7 a1_0 l1_1 a1_2 a1_3 l1_4 l1_5))) else (if (l1_4.length:Int) ≥ a0_2 then (some false) else (spec_l16State.j0 k (l1_4.length:Int) a0_0 a0_1 a0_2 l0_3 a0_4 a0_5 a0_6 a0_7 a1_0 l1_1 a1_2 a1_3 l1_4 l1_5))) else (some false)))))=some r:=h
 clear h
 have HC3 := Aside0.mk H
 clear H
 go_enter Try.func18, Try.ntmps18
 go_upto_block 0 with (first|((with_reducible refine gate_dst (N:=2) rfl ?_);(try (refine gate_guard (by rfl) ?_;dsimp only));refine box_event ?hg (N:=2) ?hd (cs:=#[.int .i64 a0_0,.int .i64 a0_1,.int .i64 a0_2,.slice A0_3 l0_3.length c0_3,.int .i64 a0_4,.int .i64 a0_5,.bool a0_6,.int .i64 a0_7]) (t:=35) ?hr ?_;(case hd=>rfl);(case hg=>rfl);(case hr=>first|(go_simp;done)|(go_simp;rfl));intro gb253 hg w4 hbox hb;have n0_:=mk9_ (bT9_ (by repeat (first|(with_reducible first|exact HB.out|apply bA9_|apply bN9_|apply bD9_)|exact HB.out)) hb);have n1_:=mk9_ (hbox);have n2_:=mk9_ ((by rw [hg];exact (bZ9_ (by repeat (first|(with_reducible first|exact HB.out|apply bA9_|apply bN9_|apply bD9_)|exact HB.out))):w.heap.size≤gb253));have n3_:=mk9_ ((by rw [hg];exact (bZ9_ (by repeat (first|(with_reducible first|exact HB.out|apply bA9_|apply bN9_|apply bD9_)|exact HB.out))):w.heap.size≤gb253));clear HB;have HB:=n0_;have BK253:=n1_;have GW253:=n2_;have GE253:=n3_;clear n0_ n1_ n2_ n3_;clear hb hbox hg)|((with_reducible refine gate_dst (N:=3) rfl ?_);(try (refine gate_guard (by rfl) ?_;dsimp only));refine box_event ?hg (N:=3) ?hd (cs:=#[.int .i64 a1_0,.slice A1_1 l1_1.length c1_1,.int .i64 a1_2,.int .i64 a1_3,.slice A1_4 l1_4.length c1_4,.slice A1_5 l1_5.length c1_5]) (t:=50) ?hr ?_;(case hd=>rfl);(case hg=>rfl);(case hr=>first|(go_simp;done)|(go_simp;rfl));intro gb254 hg w5 hbox hb;have n0_:=mk9_ (blk_below (g:=gb253) (o:=.cells #[.int .i64 a0_0,.int .i64 a0_1,.int .i64 a0_2,.slice A0_3 l0_3.length c0_3,.int .i64 a0_4,.int .i64 a0_5,.bool a0_6,.int .i64 a0_7] 35 (0,0)) (by (with_reducible repeat (first|refine kN9_ ?_ _|refine kD9_ ?_|refine blk_alloc ?_ _));exact BK253.out) hb);have n1_:=mk9_ (bT9_ (by repeat (first|(with_reducible first|exact HB.out|apply bA9_|apply bN9_|apply bD9_|refine bS9_ ?_ GE253.out)|exact HB.out)) hb);have n2_:=mk9_ (hbox);have n3_:=mk9_ ((by rw [hg];exact (bZ9_ (by repeat (first|(with_reducible first|exact HB.out|apply bA9_|apply bN9_|apply bD9_|refine bS9_ ?_ GE253.out)|exact HB.out))):w.heap.size≤gb254));have n4_:=mk9_ ((by rw [hg];exact (bZ9_ (by repeat (first|(with_reducible first|exact HB.out|apply bA9_|apply bN9_|apply bD9_|refine bS9_ ?_ GE253.out)|exact HB.out))):w.heap.size≤gb254));have n5_:=mk9_ ((by rw [hg];exact Nat.ne_of_lt (blk_lt (g:=gb253) (o:=.cells #[.int .i64 a0_0,.int .i64 a0_1,.int .i64 a0_2,.slice A0_3 l0_3.length c0_3,.int .i64 a0_4,.int .i64 a0_5,.bool a0_6,.int .i64 a0_7] 35 (0,0)) (by (with_reducible repeat (first|refine kN9_ ?_ _|refine kD9_ ?_|refine blk_alloc ?_ _));exact BK253.out)):gb253≠gb254));have n6_:=mk9_ ((by rw [hg];exact Nat.ne_of_gt (blk_lt (g:=gb253) (o:=.cells #[.int .i64 a0_0,.int .i64 a0_1,.int .i64 a0_2,.slice A0_3 l0_3.length c0_3,.int .i64 a0_4,.int .i64 a0_5,.bool a0_6,.int .i64 a0_7] 35 (0,0)) (by (with_reducible repeat (first|refine kN9_ ?_ _|refine kD9_ ?_|refine blk_alloc ?_ _));exact BK253.out)):gb254≠gb253));clear BK253;clear HB;have BK253:=n0_;have HB:=n1_;have BK254:=n2_;have GW254:=n3_;have GE254:=n4_;have NB253_254:=n5_;have NB254_253:=n6_;clear n0_ n1_ n2_ n3_ n4_ n5_ n6_;clear hb hbox hg;have hnb6:=NB254_253.out;have hnc6:=NB253_254.out;have hcz7_0:w5.cell? ⟨gb254,0,none⟩=some (.int .i64 a1_0):=(blk_cell BK254.out 0).trans rfl;have hcz7_1:w5.cell? ⟨gb254,1,none⟩=some (.slice A1_1 l1_1.length c1_1):=(blk_cell BK254.out 1).trans rfl;have hcz7_2:w5.cell? ⟨gb254,2,none⟩=some (.int .i64 a1_2):=(blk_cell BK254.out 2).trans rfl;have hcz7_3:w5.cell? ⟨gb254,3,none⟩=some (.int .i64 a1_3):=(blk_cell BK254.out 3).trans rfl;have hcz7_4:w5.cell? ⟨gb254,4,none⟩=some (.slice A1_4 l1_4.length c1_4):=(blk_cell BK254.out 4).trans rfl;have hcz7_5:w5.cell? ⟨gb254,5,none⟩=some (.slice A1_5 l1_5.length c1_5):=(blk_cell BK254.out 5).trans rfl;have hfz7_0:=fZ9_ BK254.out 0;have hfz7_1:=fZ9_ BK254.out 1;have hfz7_2:=fZ9_ BK254.out 2;have hfz7_3:=fZ9_ BK254.out 3;have hfz7_4:=fZ9_ BK254.out 4;have hfz7_5:=fZ9_ BK254.out 5))
 repeat (go_quiet (first|((with_reducible refine gate_dst (N:=2) rfl ?_);(try (refine gate_guard (by rfl) ?_;dsimp only));refine box_event ?hg (N:=2) ?hd (cs:=#[.int .i64 a0_0,.int .i64 a0_1,.int .i64 a0_2,.slice A0_3 l0_3.length c0_3,.int .i64 a0_4,.int .i64 a0_5,.bool a0_6,.int .i64 a0_7]) (t:=35) ?hr ?_;(case hd=>rfl);(case hg=>rfl);(case hr=>first|(go_simp;done)|(go_simp;rfl));intro gb253 hg w4 hbox hb;have n0_:=mk9_ (bT9_ (by repeat (first|(with_reducible first|exact HB.out|apply bA9_|apply bN9_|apply bD9_)|exact HB.out)) hb);have n1_:=mk9_ (hbox);have n2_:=mk9_ ((by rw [hg];exact (bZ9_ (by repeat (first|(with_reducible first|exact HB.out|apply bA9_|apply bN9_|apply bD9_)|exact HB.out))):w.heap.size≤gb253));have n3_:=mk9_ ((by rw [hg];exact (bZ9_ (by repeat (first|(with_reducible first|exact HB.out|apply bA9_|apply bN9_|apply bD9_)|exact HB.out))):w.heap.size≤gb253));clear HB;have HB:=n0_;have BK253:=n1_;have GW253:=n2_;have GE253:=n3_;clear n0_ n1_ n2_ n3_;clear hb hbox hg)|((with_reducible refine gate_dst (N:=3) rfl ?_);(try (refine gate_guard (by rfl) ?_;dsimp only));refine box_event ?hg (N:=3) ?hd (cs:=#[.int .i64 a1_0,.slice A1_1 l1_1.length c1_1,.int .i64 a1_2,.int .i64 a1_3,.slice A1_4 l1_4.length c1_4,.slice A1_5 l1_5.length c1_5]) (t:=50) ?hr ?_;(case hd=>rfl);(case hg=>rfl);(case hr=>first|(go_simp;done)|(go_simp;rfl));intro gb254 hg w5 hbox hb;have n0_:=mk9_ (blk_below (g:=gb253) (o:=.cells #[.int .i64 a0_0,.int .i64 a0_1,.int .i64 a0_2,.slice A0_3 l0_3.length c0_3,.int .i64 a0_4,.int .i64 a0_5,.bool a0_6,.int .i64 a0_7] 35 (0,0)) (by (with_reducible repeat (first|refine kN9_ ?_ _|refine kD9_ ?_|refine blk_alloc ?_ _));exact BK253.out) hb);have n1_:=mk9_ (bT9_ (by repeat (first|(with_reducible first|exact HB.out|apply bA9_|apply bN9_|apply bD9_|refine bS9_ ?_ GE253.out)|exact HB.out)) hb);have n2_:=mk9_ (hbox);have n3_:=mk9_ ((by rw [hg];exact (bZ9_ (by repeat (first|(with_reducible first|exact HB.out|apply bA9_|apply bN9_|apply bD9_|refine bS9_ ?_ GE253.out)|exact HB.out))):w.heap.size≤gb254));have n4_:=mk9_ ((by rw [hg];exact (bZ9_ (by repeat (first|(with_reducible first|exact HB.out|apply bA9_|apply bN9_|apply bD9_|refine bS9_ ?_ GE253.out)|exact HB.out))):w.heap.size≤gb254));have n5_:=mk9_ ((by rw [hg];exact Nat.ne_of_lt (blk_lt (g:=gb253) (o:=.cells #[.int .i64 a0_0,.int .i64 a0_1,.int .i64 a0_2,.slice A0_3 l0_3.length c0_3,.int .i64 a0_4,.int .i64 a0_5,.bool a0_6,.int .i64 a0_7] 35 (0,0)) (by (with_reducible repeat (first|refine kN9_ ?_ _|refine kD9_ ?_|refine blk_alloc ?_ _));exact BK253.out)):gb253≠gb254));have n6_:=mk9_ ((by rw [hg];exact Nat.ne_of_gt (blk_lt (g:=gb253) (o:=.cells #[.int .i64 a0_0,.int .i64 a0_1,.int .i64 a0_2,.slice A0_3 l0_3.length c0_3,.int .i64 a0_4,.int .i64 a0_5,.bool a0_6,.int .i64 a0_7] 35 (0,0)) (by (with_reducible repeat (first|refine kN9_ ?_ _|refine kD9_ ?_|refine blk_alloc ?_ _));exact BK253.out)):gb254≠gb253));clear BK253;clear HB;have BK253:=n0_;have HB:=n1_;have BK254:=n2_;have GW254:=n3_;have GE254:=n4_;have NB253_254:=n5_;have NB254_253:=n6_;clear n0_ n1_ n2_ n3_ n4_ n5_ n6_;clear hb hbox hg;have hnb6:=NB254_253.out;have hnc6:=NB253_254.out;have hcz7_0:w5.cell? ⟨gb254,0,none⟩=some (.int .i64 a1_0):=(blk_cell BK254.out 0).trans rfl;have hcz7_1:w5.cell? ⟨gb254,1,none⟩=some (.slice A1_1 l1_1.length c1_1):=(blk_cell BK254.out 1).trans rfl;have hcz7_2:w5.cell? ⟨gb254,2,none⟩=some (.int .i64 a1_2):=(blk_cell BK254.out 2).trans rfl;have hcz7_3:w5.cell? ⟨gb254,3,none⟩=some (.int .i64 a1_3):=(blk_cell BK254.out 3).trans rfl;have hcz7_4:w5.cell? ⟨gb254,4,none⟩=some (.slice A1_4 l1_4.length c1_4):=(blk_cell BK254.out 4).trans rfl;have hcz7_5:w5.cell? ⟨gb254,5,none⟩=some (.slice A1_5 l1_5.length c1_5):=(blk_cell BK254.out 5).trans rfl;have hfz7_0:=fZ9_ BK254.out 0;have hfz7_1:=fZ9_ BK254.out 1;have hfz7_2:=fZ9_ BK254.out 2;have hfz7_3:=fZ9_ BK254.out 3;have hfz7_4:=fZ9_ BK254.out 4;have hfz7_5:=fZ9_ BK254.out 5));go_upto_block 0 with (first|((with_reducible refine gate_dst (N:=2) rfl ?_);(try (refine gate_guard (by rfl) ?_;dsimp only));refine box_event ?hg (N:=2) ?hd (cs:=#[.int .i64 a0_0,.int .i64 a0_1,.int .i64 a0_2,.slice A0_3 l0_3.length c0_3,.int .i64 a0_4,.int .i64 a0_5,.bool a0_6,.int .i64 a0_7]) (t:=35) ?hr ?_;(case hd=>rfl);(case hg=>rfl);(case hr=>first|(go_simp;done)|(go_simp;rfl));intro gb253 hg w4 hbox hb;have n0_:=mk9_ (bT9_ (by repeat (first|(with_reducible first|exact HB.out|apply bA9_|apply bN9_|apply bD9_)|exact HB.out)) hb);have n1_:=mk9_ (hbox);have n2_:=mk9_ ((by rw [hg];exact (bZ9_ (by repeat (first|(with_reducible first|exact HB.out|apply bA9_|apply bN9_|apply bD9_)|exact HB.out))):w.heap.size≤gb253));have n3_:=mk9_ ((by rw [hg];exact (bZ9_ (by repeat (first|(with_reducible first|exact HB.out|apply bA9_|apply bN9_|apply bD9_)|exact HB.out))):w.heap.size≤gb253));clear HB;have HB:=n0_;have BK253:=n1_;have GW253:=n2_;have GE253:=n3_;clear n0_ n1_ n2_ n3_;clear hb hbox hg)|((with_reducible refine gate_dst (N:=3) rfl ?_);(try (refine gate_guard (by rfl) ?_;dsimp only));refine box_event ?hg (N:=3) ?hd (cs:=#[.int .i64 a1_0,.slice A1_1 l1_1.length c1_1,.int .i64 a1_2,.int .i64 a1_3,.slice A1_4 l1_4.length c1_4,.slice A1_5 l1_5.length c1_5]) (t:=50) ?hr ?_;(case hd=>rfl);(case hg=>rfl);(case hr=>first|(go_simp;done)|(go_simp;rfl));intro gb254 hg w5 hbox hb;have n0_:=mk9_ (blk_below (g:=gb253) (o:=.cells #[.int .i64 a0_0,.int .i64 a0_1,.int .i64 a0_2,.slice A0_3 l0_3.length c0_3,.int .i64 a0_4,.int .i64 a0_5,.bool a0_6,.int .i64 a0_7] 35 (0,0)) (by (with_reducible repeat (first|refine kN9_ ?_ _|refine kD9_ ?_|refine blk_alloc ?_ _));exact BK253.out) hb);have n1_:=mk9_ (bT9_ (by repeat (first|(with_reducible first|exact HB.out|apply bA9_|apply bN9_|apply bD9_|refine bS9_ ?_ GE253.out)|exact HB.out)) hb);have n2_:=mk9_ (hbox);have n3_:=mk9_ ((by rw [hg];exact (bZ9_ (by repeat (first|(with_reducible first|exact HB.out|apply bA9_|apply bN9_|apply bD9_|refine bS9_ ?_ GE253.out)|exact HB.out))):w.heap.size≤gb254));have n4_:=mk9_ ((by rw [hg];exact (bZ9_ (by repeat (first|(with_reducible first|exact HB.out|apply bA9_|apply bN9_|apply bD9_|refine bS9_ ?_ GE253.out)|exact HB.out))):w.heap.size≤gb254));have n5_:=mk9_ ((by rw [hg];exact Nat.ne_of_lt (blk_lt (g:=gb253) (o:=.cells #[.int .i64 a0_0,.int .i64 a0_1,.int .i64 a0_2,.slice A0_3 l0_3.length c0_3,.int .i64 a0_4,.int .i64 a0_5,.bool a0_6,.int .i64 a0_7] 35 (0,0)) (by (with_reducible repeat (first|refine kN9_ ?_ _|refine kD9_ ?_|refine blk_alloc ?_ _));exact BK253.out)):gb253≠gb254));have n6_:=mk9_ ((by rw [hg];exact Nat.ne_of_gt (blk_lt (g:=gb253) (o:=.cells #[.int .i64 a0_0,.int .i64 a0_1,.int .i64 a0_2,.slice A0_3 l0_3.length c0_3,.int .i64 a0_4,.int .i64 a0_5,.bool a0_6,.int .i64 a0_7] 35 (0,0)) (by (with_reducible repeat (first|refine kN9_ ?_ _|refine kD9_ ?_|refine blk_alloc ?_ _));exact BK253.out)):gb254≠gb253));clear BK253;clear HB;have BK253:=n0_;have HB:=n1_;have BK254:=n2_;have GW254:=n3_;have GE254:=n4_;have NB253_254:=n5_;have NB254_253:=n6_;clear n0_ n1_ n2_ n3_ n4_ n5_ n6_;clear hb hbox hg;have hnb6:=NB254_253.out;have hnc6:=NB253_254.out;have hcz7_0:w5.cell? ⟨gb254,0,none⟩=some (.int .i64 a1_0):=(blk_cell BK254.out 0).trans rfl;have hcz7_1:w5.cell? ⟨gb254,1,none⟩=some (.slice A1_1 l1_1.length c1_1):=(blk_cell BK254.out 1).trans rfl;have hcz7_2:w5.cell? ⟨gb254,2,none⟩=some (.int .i64 a1_2):=(blk_cell BK254.out 2).trans rfl;have hcz7_3:w5.cell? ⟨gb254,3,none⟩=some (.int .i64 a1_3):=(blk_cell BK254.out 3).trans rfl;have hcz7_4:w5.cell? ⟨gb254,4,none⟩=some (.slice A1_4 l1_4.length c1_4):=(blk_cell BK254.out 4).trans rfl;have hcz7_5:w5.cell? ⟨gb254,5,none⟩=some (.slice A1_5 l1_5.length c1_5):=(blk_cell BK254.out 5).trans rfl;have hfz7_0:=fZ9_ BK254.out 0;have hfz7_1:=fZ9_ BK254.out 1;have hfz7_2:=fZ9_ BK254.out 2;have hfz7_3:=fZ9_ BK254.out 3;have hfz7_4:=fZ9_ BK254.out 4;have hfz7_5:=fZ9_ BK254.out 5)))
 (try simp only [Act.put, List.setIfInBounds_toArray, List.set_cons_zero, List.set_cons_succ])
 go_cut [] (fun wc=>∃ (kq:Nat),Aside0 (spec_l16State.j0 kq (l1_4.length:Int) a0_0 a0_1 a0_2 l0_3 a0_4 a0_5 a0_6 a0_7 a1_0 l1_1 a1_2 a1_3 l1_4 l1_5=some r)∧Aside0 (kq≤k)∧Aside0 (wc.heap[gb253]?=some (.cells #[.int .i64 a0_0,.int .i64 a0_1,.int .i64 a0_2,(.slice A0_3 l0_3.length c0_3),.int .i64 a0_4,.int .i64 a0_5,.bool a0_6,.int .i64 a0_7] 35 (0,0)))∧Aside0 (wc.heap[gb254]?=some (.cells #[.int .i64 a1_0,(.slice A1_1 l1_1.length c1_1),.int .i64 a1_2,.int .i64 a1_3,(.slice A1_4 l1_4.length c1_4),(.slice A1_5 l1_5.length c1_5)] 50 (0,0)))∧Aside0 (Below w.heap.size w wc))
 case first =>
  have H := HC3.out
  clear HC3
  by_cases c8 : a1_0 = 3
  ·rw [if_pos c8] at H
   have c8b0 : (a1_0 == 3) = true := beq_iff_eq.mpr c8
   have c8b1 : (a1_0 != 3) = false := bne_eq_false_iff_eq.mpr c8
   clear c8
   (first | rw [c8b0] | (simp only [i64_w, i32_w]; rw [c8b0]) | skip)
   obtain rfl := Option.some.inj H
   have hnb9 := NB254_253.out
   have hnc9 := NB253_254.out
   have hcz10_0:w5.cell? ⟨gb254,0,none⟩=some (.int .i64 a1_0):=(blk_cell BK254.out 0).trans rfl
   have hcz10_1:w5.cell? ⟨gb254,1,none⟩=some (.slice A1_1 l1_1.length c1_1):=(blk_cell BK254.out 1).trans rfl
   have hcz10_2:w5.cell? ⟨gb254,2,none⟩=some (.int .i64 a1_2):=(blk_cell BK254.out 2).trans rfl
   have hcz10_3:w5.cell? ⟨gb254,3,none⟩=some (.int .i64 a1_3):=(blk_cell BK254.out 3).trans rfl
   have hcz10_4:w5.cell? ⟨gb254,4,none⟩=some (.slice A1_4 l1_4.length c1_4):=(blk_cell BK254.out 4).trans rfl
   have hcz10_5:w5.cell? ⟨gb254,5,none⟩=some (.slice A1_5 l1_5.length c1_5):=(blk_cell BK254.out 5).trans rfl
   have hfz10_0 := blk_frozen BK254.out 0
   have hfz10_1 := blk_frozen BK254.out 1
   have hfz10_2 := blk_frozen BK254.out 2
   have hfz10_3 := blk_frozen BK254.out 3
   have hfz10_4 := blk_frozen BK254.out 4
   have hfz10_5 := blk_frozen BK254.out 5
   go_wp2
   repeat (go_quiet (fail); try go_wp2)
   go_ret
   exact ⟨by first|rfl|(simp [errW_none,errW_some] <;> rfl)|(simp [*,errW_none,errW_some] <;> rfl),by repeat (first|(with_reducible first|exact HB.out|apply bA9_|apply bN9_|apply bD9_|refine bS9_ ?_ GE253.out|refine bS9_ ?_ GE254.out)|exact HB.out)⟩
  ·rw [if_neg c8] at H
   have c8b0 : (a1_0 == 3) = false := beq_eq_false_iff_ne.mpr c8
   have c8b1 : (a1_0 != 3) = true := bne_iff_ne.mpr c8
   (first | rw [c8b0] | (simp only [i64_w, i32_w]; rw [c8b0]) | skip)
   by_cases c11 : a1_0 = 4
   ·rw [if_pos c11] at H
    have c11b0 : (a1_0 == 4) = true := beq_iff_eq.mpr c11
    have c11b1 : (a1_0 != 4) = false := bne_eq_false_iff_eq.mpr c11
    clear c11
    by_cases c12 : (l1_4.length : Int) = 0
    ·rw [if_pos c12] at H
     have c12b0 : ((l1_4.length : Int) == 0) = true := beq_iff_eq.mpr c12
     have c12b1 : ((l1_4.length : Int) != 0) = false := bne_eq_false_iff_eq.mpr c12
     clear c12
     obtain rfl := Option.some.inj H
     have hnb13 := NB254_253.out
     have hnc13 := NB253_254.out
     have hcz14_0:w5.cell? ⟨gb254,0,none⟩=some (.int .i64 a1_0):=(blk_cell BK254.out 0).trans rfl
     have hcz14_1:w5.cell? ⟨gb254,1,none⟩=some (.slice A1_1 l1_1.length c1_1):=(blk_cell BK254.out 1).trans rfl
     have hcz14_2:w5.cell? ⟨gb254,2,none⟩=some (.int .i64 a1_2):=(blk_cell BK254.out 2).trans rfl
     have hcz14_3:w5.cell? ⟨gb254,3,none⟩=some (.int .i64 a1_3):=(blk_cell BK254.out 3).trans rfl
     have hcz14_4:w5.cell? ⟨gb254,4,none⟩=some (.slice A1_4 l1_4.length c1_4):=(blk_cell BK254.out 4).trans rfl
     have hcz14_5:w5.cell? ⟨gb254,5,none⟩=some (.slice A1_5 l1_5.length c1_5):=(blk_cell BK254.out 5).trans rfl
     have hfz14_0 := blk_frozen BK254.out 0
     have hfz14_1 := blk_frozen BK254.out 1
     have hfz14_2 := blk_frozen BK254.out 2
     have hfz14_3 := blk_frozen BK254.out 3
     have hfz14_4 := blk_frozen BK254.out 4
     have hfz14_5 := blk_frozen BK254.out 5
     go_wp2
     repeat (go_quiet (fail); try go_wp2)
     go_ret
     exact ⟨by first|rfl|(simp [errW_none,errW_some] <;> rfl)|(simp [*,errW_none,errW_some] <;> rfl),by repeat (first|(with_reducible first|exact HB.out|apply bA9_|apply bN9_|apply bD9_|refine bS9_ ?_ GE253.out|refine bS9_ ?_ GE254.out)|exact HB.out)⟩
    ·rw [if_neg c12] at H
     have c12b0 : ((l1_4.length : Int) == 0) = false := beq_eq_false_iff_ne.mpr c12
     have c12b1 : ((l1_4.length : Int) != 0) = true := bne_iff_ne.mpr c12
     have c12b2 : ¬ (l1_4 = []) := fun h_ => c12 (by rw [h_]; rfl)
     obtain rfl := Option.some.inj H
     go_wp2
     repeat (go_quiet (fail); try go_wp2)
     go_ret
     exact ⟨by first|rfl|(simp [errW_none,errW_some] <;> rfl)|(simp [*,errW_none,errW_some] <;> rfl),by repeat (first|(with_reducible first|exact HB.out|apply bA9_|apply bN9_|apply bD9_|refine bS9_ ?_ GE253.out|refine bS9_ ?_ GE254.out)|exact HB.out)⟩
   ·rw [if_neg c11] at H
    have c11b0 : (a1_0 == 4) = false := beq_eq_false_iff_ne.mpr c11
    have c11b1 : (a1_0 != 4) = true := bne_iff_ne.mpr c11
    by_cases c15 : a1_0 = 1
    ·rw [if_pos c15] at H
     have c15b0 : (a1_0 == 1) = true := beq_iff_eq.mpr c15
     have c15b1 : (a1_0 != 1) = false := bne_eq_false_iff_eq.mpr c15
     clear c15
     by_cases c16 : (l1_4.length : Int) > 0
     ·rw [if_pos c16] at H
      have c16b0 : decide (0 < (l1_4.length : Int)) = true := decide_eq_true c16
      have c16b1 : decide (0 < l1_4.length) = true := decide_eq_true (by omega)
      clear c16
      obtain rfl := Option.some.inj H
      go_wp2
      repeat (go_quiet (fail); try go_wp2)
      go_ret
      exact ⟨by first|rfl|(simp [errW_none,errW_some] <;> rfl)|(simp [*,errW_none,errW_some] <;> rfl),by repeat (first|(with_reducible first|exact HB.out|apply bA9_|apply bN9_|apply bD9_|refine bS9_ ?_ GE253.out|refine bS9_ ?_ GE254.out)|exact HB.out)⟩
     ·rw [if_neg c16] at H
      have c16b0 : decide (0 < (l1_4.length : Int)) = false := decide_eq_false c16
      have c16b1 : decide (0 < l1_4.length) = false := decide_eq_false (by omega)
      clear c16
      by_cases c17 : (l1_5.length : Int) > 0
      ·rw [if_pos c17] at H
       have c17b0 : decide (0 < (l1_5.length : Int)) = true := decide_eq_true c17
       have c17b1 : decide (0 < l1_5.length) = true := decide_eq_true (by omega)
       clear c17
       obtain rfl := Option.some.inj H
       have hnb18 := NB254_253.out
       have hnc18 := NB253_254.out
       have hcz19_0:w5.cell? ⟨gb254,0,none⟩=some (.int .i64 a1_0):=(blk_cell BK254.out 0).trans rfl
       have hcz19_1:w5.cell? ⟨gb254,1,none⟩=some (.slice A1_1 l1_1.length c1_1):=(blk_cell BK254.out 1).trans rfl
       have hcz19_2:w5.cell? ⟨gb254,2,none⟩=some (.int .i64 a1_2):=(blk_cell BK254.out 2).trans rfl
       have hcz19_3:w5.cell? ⟨gb254,3,none⟩=some (.int .i64 a1_3):=(blk_cell BK254.out 3).trans rfl
       have hcz19_4:w5.cell? ⟨gb254,4,none⟩=some (.slice A1_4 l1_4.length c1_4):=(blk_cell BK254.out 4).trans rfl
       have hcz19_5:w5.cell? ⟨gb254,5,none⟩=some (.slice A1_5 l1_5.length c1_5):=(blk_cell BK254.out 5).trans rfl
       have hfz19_0 := blk_frozen BK254.out 0
       have hfz19_1 := blk_frozen BK254.out 1
       have hfz19_2 := blk_frozen BK254.out 2
       have hfz19_3 := blk_frozen BK254.out 3
       have hfz19_4 := blk_frozen BK254.out 4
       have hfz19_5 := blk_frozen BK254.out 5
       go_wp2
       repeat (go_quiet (fail); try go_wp2)
       go_ret
       exact ⟨by first|rfl|(simp [errW_none,errW_some] <;> rfl)|(simp [*,errW_none,errW_some] <;> rfl),by repeat (first|(with_reducible first|exact HB.out|apply bA9_|apply bN9_|apply bD9_|refine bS9_ ?_ GE253.out|refine bS9_ ?_ GE254.out)|exact HB.out)⟩
      ·rw [if_neg c17] at H
       have c17b0 : decide (0 < (l1_5.length : Int)) = false := decide_eq_false c17
       have c17b1 : decide (0 < l1_5.length) = false := decide_eq_false (by omega)
       clear c17
       have H' := Aside0.mk H
       clear H
       have hnb20 := NB254_253.out
       have hnc20 := NB253_254.out
       have hcz21_0:w5.cell? ⟨gb254,0,none⟩=some (.int .i64 a1_0):=(blk_cell BK254.out 0).trans rfl
       have hcz21_1:w5.cell? ⟨gb254,1,none⟩=some (.slice A1_1 l1_1.length c1_1):=(blk_cell BK254.out 1).trans rfl
       have hcz21_2:w5.cell? ⟨gb254,2,none⟩=some (.int .i64 a1_2):=(blk_cell BK254.out 2).trans rfl
       have hcz21_3:w5.cell? ⟨gb254,3,none⟩=some (.int .i64 a1_3):=(blk_cell BK254.out 3).trans rfl
       have hcz21_4:w5.cell? ⟨gb254,4,none⟩=some (.slice A1_4 l1_4.length c1_4):=(blk_cell BK254.out 4).trans rfl
       have hcz21_5:w5.cell? ⟨gb254,5,none⟩=some (.slice A1_5 l1_5.length c1_5):=(blk_cell BK254.out 5).trans rfl
       have hfz21_0 := blk_frozen BK254.out 0
       have hfz21_1 := blk_frozen BK254.out 1
       have hfz21_2 := blk_frozen BK254.out 2
       have hfz21_3 := blk_frozen BK254.out 3
       have hfz21_4 := blk_frozen BK254.out 4
       have hfz21_5 := blk_frozen BK254.out 5
       go_wp2
       repeat (go_quiet (fail); try go_wp2)
       go_meet
       case rel=>exact ⟨_,H',⟨by first|omega|exact Nat.le_refl _⟩,⟨by (with_reducible repeat (first|refine kN9_ ?_ _|refine kD9_ ?_|refine blk_alloc ?_ _));exact BK253.out⟩,⟨by (with_reducible repeat (first|refine kN9_ ?_ _|refine kD9_ ?_|refine blk_alloc ?_ _));exact BK254.out⟩,⟨by repeat (first|(with_reducible first|exact HB.out|apply bA9_|apply bN9_|apply bD9_|refine bS9_ ?_ GE253.out|refine bS9_ ?_ GE254.out)|exact HB.out)⟩⟩
    ·rw [if_neg c15] at H
     have c15b0 : (a1_0 == 1) = false := beq_eq_false_iff_ne.mpr c15
     have c15b1 : (a1_0 != 1) = true := bne_iff_ne.mpr c15
     by_cases c22 : a1_0 = 2
     ·rw [if_pos c22] at H
      have c22b0 : (a1_0 == 2) = true := beq_iff_eq.mpr c22
      have c22b1 : (a1_0 != 2) = false := bne_eq_false_iff_eq.mpr c22
      clear c22
      by_cases c23 : (l1_4.length : Int) = 0
      ·rw [if_pos c23] at H
       have c23b0 : ((l1_4.length : Int) == 0) = true := beq_iff_eq.mpr c23
       have c23b1 : ((l1_4.length : Int) != 0) = false := bne_eq_false_iff_eq.mpr c23
       clear c23
       by_cases c24 : (l1_5.length : Int) = 0
       ·rw [if_pos c24] at H
        have c24b0 : ((l1_5.length : Int) == 0) = true := beq_iff_eq.mpr c24
        have c24b1 : ((l1_5.length : Int) != 0) = false := bne_eq_false_iff_eq.mpr c24
        clear c24
        obtain rfl := Option.some.inj H
        have hnb25 := NB254_253.out
        have hnc25 := NB253_254.out
        have hcz26_0:w5.cell? ⟨gb254,0,none⟩=some (.int .i64 a1_0):=(blk_cell BK254.out 0).trans rfl
        have hcz26_1:w5.cell? ⟨gb254,1,none⟩=some (.slice A1_1 l1_1.length c1_1):=(blk_cell BK254.out 1).trans rfl
        have hcz26_2:w5.cell? ⟨gb254,2,none⟩=some (.int .i64 a1_2):=(blk_cell BK254.out 2).trans rfl
        have hcz26_3:w5.cell? ⟨gb254,3,none⟩=some (.int .i64 a1_3):=(blk_cell BK254.out 3).trans rfl
        have hcz26_4:w5.cell? ⟨gb254,4,none⟩=some (.slice A1_4 l1_4.length c1_4):=(blk_cell BK254.out 4).trans rfl
        have hcz26_5:w5.cell? ⟨gb254,5,none⟩=some (.slice A1_5 l1_5.length c1_5):=(blk_cell BK254.out 5).trans rfl
        have hfz26_0 := blk_frozen BK254.out 0
        have hfz26_1 := blk_frozen BK254.out 1
        have hfz26_2 := blk_frozen BK254.out 2
        have hfz26_3 := blk_frozen BK254.out 3
        have hfz26_4 := blk_frozen BK254.out 4
        have hfz26_5 := blk_frozen BK254.out 5
        go_wp2
        repeat (go_quiet (fail); try go_wp2)
        go_ret
        exact ⟨by first|rfl|(simp [errW_none,errW_some] <;> rfl)|(simp [*,errW_none,errW_some] <;> rfl),by repeat (first|(with_reducible first|exact HB.out|apply bA9_|apply bN9_|apply bD9_|refine bS9_ ?_ GE253.out|refine bS9_ ?_ GE254.out)|exact HB.out)⟩
       ·rw [if_neg c24] at H
        have c24b0 : ((l1_5.length : Int) == 0) = false := beq_eq_false_iff_ne.mpr c24
        have c24b1 : ((l1_5.length : Int) != 0) = true := bne_iff_ne.mpr c24
        have c24b2 : ¬ (l1_5 = []) := fun h_ => c24 (by rw [h_]; rfl)
        by_cases c27 : (l1_4.length : Int) ≥ a0_2
        ·rw [if_pos c27] at H
         have c27b0 : decide (a0_2 ≤ (l1_4.length : Int)) = true := decide_eq_true c27
         clear c27
         obtain rfl := Option.some.inj H
         have hnb28 := NB254_253.out
         have hnc28 := NB253_254.out
         have hcz29_0:w5.cell? ⟨gb254,0,none⟩=some (.int .i64 a1_0):=(blk_cell BK254.out 0).trans rfl
         have hcz29_1:w5.cell? ⟨gb254,1,none⟩=some (.slice A1_1 l1_1.length c1_1):=(blk_cell BK254.out 1).trans rfl
         have hcz29_2:w5.cell? ⟨gb254,2,none⟩=some (.int .i64 a1_2):=(blk_cell BK254.out 2).trans rfl
         have hcz29_3:w5.cell? ⟨gb254,3,none⟩=some (.int .i64 a1_3):=(blk_cell BK254.out 3).trans rfl
         have hcz29_4:w5.cell? ⟨gb254,4,none⟩=some (.slice A1_4 l1_4.length c1_4):=(blk_cell BK254.out 4).trans rfl
         have hcz29_5:w5.cell? ⟨gb254,5,none⟩=some (.slice A1_5 l1_5.length c1_5):=(blk_cell BK254.out 5).trans rfl
         have hfz29_0 := blk_frozen BK254.out 0
         have hfz29_1 := blk_frozen BK254.out 1
         have hfz29_2 := blk_frozen BK254.out 2
         have hfz29_3 := blk_frozen BK254.out 3
         have hfz29_4 := blk_frozen BK254.out 4
         have hfz29_5 := blk_frozen BK254.out 5
         have hcz30_0:w5.cell? ⟨gb253,0,none⟩=some (.int .i64 a0_0):=(blk_cell BK253.out 0).trans rfl
         have hcz30_1:w5.cell? ⟨gb253,1,none⟩=some (.int .i64 a0_1):=(blk_cell BK253.out 1).trans rfl
         have hcz30_2:w5.cell? ⟨gb253,2,none⟩=some (.int .i64 a0_2):=(blk_cell BK253.out 2).trans rfl
         have hcz30_3:w5.cell? ⟨gb253,3,none⟩=some (.slice A0_3 l0_3.length c0_3):=(blk_cell BK253.out 3).trans rfl
         have hcz30_4:w5.cell? ⟨gb253,4,none⟩=some (.int .i64 a0_4):=(blk_cell BK253.out 4).trans rfl
         have hcz30_5:w5.cell? ⟨gb253,5,none⟩=some (.int .i64 a0_5):=(blk_cell BK253.out 5).trans rfl
         have hcz30_6:w5.cell? ⟨gb253,6,none⟩=some (.bool a0_6):=(blk_cell BK253.out 6).trans rfl
         have hcz30_7:w5.cell? ⟨gb253,7,none⟩=some (.int .i64 a0_7):=(blk_cell BK253.out 7).trans rfl
         have hfz30_0 := blk_frozen BK253.out 0
         have hfz30_1 := blk_frozen BK253.out 1
         have hfz30_2 := blk_frozen BK253.out 2
         have hfz30_3 := blk_frozen BK253.out 3
         have hfz30_4 := blk_frozen BK253.out 4
         have hfz30_5 := blk_frozen BK253.out 5
         have hfz30_6 := blk_frozen BK253.out 6
         have hfz30_7 := blk_frozen BK253.out 7
         go_wp2
         repeat (go_quiet (fail); try go_wp2)
         go_ret
         exact ⟨by first|rfl|(simp [errW_none,errW_some] <;> rfl)|(simp [*,errW_none,errW_some] <;> rfl),by repeat (first|(with_reducible first|exact HB.out|apply bA9_|apply bN9_|apply bD9_|refine bS9_ ?_ GE253.out|refine bS9_ ?_ GE254.out)|exact HB.out)⟩
        ·rw [if_neg c27] at H
         have c27b0 : decide (a0_2 ≤ (l1_4.length : Int)) = false := decide_eq_false c27
         clear c27
         have H' := Aside0.mk H
         clear H
         have hnb31 := NB254_253.out
         have hnc31 := NB253_254.out
         have hcz32_0:w5.cell? ⟨gb254,0,none⟩=some (.int .i64 a1_0):=(blk_cell BK254.out 0).trans rfl
         have hcz32_1:w5.cell? ⟨gb254,1,none⟩=some (.slice A1_1 l1_1.length c1_1):=(blk_cell BK254.out 1).trans rfl
         have hcz32_2:w5.cell? ⟨gb254,2,none⟩=some (.int .i64 a1_2):=(blk_cell BK254.out 2).trans rfl
         have hcz32_3:w5.cell? ⟨gb254,3,none⟩=some (.int .i64 a1_3):=(blk_cell BK254.out 3).trans rfl
         have hcz32_4:w5.cell? ⟨gb254,4,none⟩=some (.slice A1_4 l1_4.length c1_4):=(blk_cell BK254.out 4).trans rfl
         have hcz32_5:w5.cell? ⟨gb254,5,none⟩=some (.slice A1_5 l1_5.length c1_5):=(blk_cell BK254.out 5).trans rfl
         have hfz32_0 := blk_frozen BK254.out 0
         have hfz32_1 := blk_frozen BK254.out 1
         have hfz32_2 := blk_frozen BK254.out 2
         have hfz32_3 := blk_frozen BK254.out 3
         have hfz32_4 := blk_frozen BK254.out 4
         have hfz32_5 := blk_frozen BK254.out 5
         have hcz33_0:w5.cell? ⟨gb253,0,none⟩=some (.int .i64 a0_0):=(blk_cell BK253.out 0).trans rfl
         have hcz33_1:w5.cell? ⟨gb253,1,none⟩=some (.int .i64 a0_1):=(blk_cell BK253.out 1).trans rfl
         have hcz33_2:w5.cell? ⟨gb253,2,none⟩=some (.int .i64 a0_2):=(blk_cell BK253.out 2).trans rfl
         have hcz33_3:w5.cell? ⟨gb253,3,none⟩=some (.slice A0_3 l0_3.length c0_3):=(blk_cell BK253.out 3).trans rfl
         have hcz33_4:w5.cell? ⟨gb253,4,none⟩=some (.int .i64 a0_4):=(blk_cell BK253.out 4).trans rfl
         have hcz33_5:w5.cell? ⟨gb253,5,none⟩=some (.int .i64 a0_5):=(blk_cell BK253.out 5).trans rfl
         have hcz33_6:w5.cell? ⟨gb253,6,none⟩=some (.bool a0_6):=(blk_cell BK253.out 6).trans rfl
         have hcz33_7:w5.cell? ⟨gb253,7,none⟩=some (.int .i64 a0_7):=(blk_cell BK253.out 7).trans rfl
         have hfz33_0 := blk_frozen BK253.out 0
         have hfz33_1 := blk_frozen BK253.out 1
         have hfz33_2 := blk_frozen BK253.out 2
         have hfz33_3 := blk_frozen BK253.out 3
         have hfz33_4 := blk_frozen BK253.out 4
         have hfz33_5 := blk_frozen BK253.out 5
         have hfz33_6 := blk_frozen BK253.out 6
         have hfz33_7 := blk_frozen BK253.out 7
         go_wp2
         repeat (go_quiet (fail); try go_wp2)
         go_meet
         case rel=>exact ⟨_,H',⟨by first|omega|exact Nat.le_refl _⟩,⟨by (with_reducible repeat (first|refine kN9_ ?_ _|refine kD9_ ?_|refine blk_alloc ?_ _));exact BK253.out⟩,⟨by (with_reducible repeat (first|refine kN9_ ?_ _|refine kD9_ ?_|refine blk_alloc ?_ _));exact BK254.out⟩,⟨by repeat (first|(with_reducible first|exact HB.out|apply bA9_|apply bN9_|apply bD9_|refine bS9_ ?_ GE253.out|refine bS9_ ?_ GE254.out)|exact HB.out)⟩⟩
      ·rw [if_neg c23] at H
       have c23b0 : ((l1_4.length : Int) == 0) = false := beq_eq_false_iff_ne.mpr c23
       have c23b1 : ((l1_4.length : Int) != 0) = true := bne_iff_ne.mpr c23
       have c23b2 : ¬ (l1_4 = []) := fun h_ => c23 (by rw [h_]; rfl)
       by_cases c34 : (l1_4.length : Int) ≥ a0_2
       ·rw [if_pos c34] at H
        have c34b0 : decide (a0_2 ≤ (l1_4.length : Int)) = true := decide_eq_true c34
        clear c34
        obtain rfl := Option.some.inj H
        have hnb35 := NB253_254.out
        have hnc35 := NB254_253.out
        have hcz36_0:w5.cell? ⟨gb253,0,none⟩=some (.int .i64 a0_0):=(blk_cell BK253.out 0).trans rfl
        have hcz36_1:w5.cell? ⟨gb253,1,none⟩=some (.int .i64 a0_1):=(blk_cell BK253.out 1).trans rfl
        have hcz36_2:w5.cell? ⟨gb253,2,none⟩=some (.int .i64 a0_2):=(blk_cell BK253.out 2).trans rfl
        have hcz36_3:w5.cell? ⟨gb253,3,none⟩=some (.slice A0_3 l0_3.length c0_3):=(blk_cell BK253.out 3).trans rfl
        have hcz36_4:w5.cell? ⟨gb253,4,none⟩=some (.int .i64 a0_4):=(blk_cell BK253.out 4).trans rfl
        have hcz36_5:w5.cell? ⟨gb253,5,none⟩=some (.int .i64 a0_5):=(blk_cell BK253.out 5).trans rfl
        have hcz36_6:w5.cell? ⟨gb253,6,none⟩=some (.bool a0_6):=(blk_cell BK253.out 6).trans rfl
        have hcz36_7:w5.cell? ⟨gb253,7,none⟩=some (.int .i64 a0_7):=(blk_cell BK253.out 7).trans rfl
        have hfz36_0 := blk_frozen BK253.out 0
        have hfz36_1 := blk_frozen BK253.out 1
        have hfz36_2 := blk_frozen BK253.out 2
        have hfz36_3 := blk_frozen BK253.out 3
        have hfz36_4 := blk_frozen BK253.out 4
        have hfz36_5 := blk_frozen BK253.out 5
        have hfz36_6 := blk_frozen BK253.out 6
        have hfz36_7 := blk_frozen BK253.out 7
        go_wp2
        repeat (go_quiet (fail); try go_wp2)
        go_ret
        exact ⟨by first|rfl|(simp [errW_none,errW_some] <;> rfl)|(simp [*,errW_none,errW_some] <;> rfl),by repeat (first|(with_reducible first|exact HB.out|apply bA9_|apply bN9_|apply bD9_|refine bS9_ ?_ GE253.out|refine bS9_ ?_ GE254.out)|exact HB.out)⟩
       ·rw [if_neg c34] at H
        have c34b0 : decide (a0_2 ≤ (l1_4.length : Int)) = false := decide_eq_false c34
        clear c34
        have H' := Aside0.mk H
        clear H
        have hnb37 := NB253_254.out
        have hnc37 := NB254_253.out
        have hcz38_0:w5.cell? ⟨gb253,0,none⟩=some (.int .i64 a0_0):=(blk_cell BK253.out 0).trans rfl
        have hcz38_1:w5.cell? ⟨gb253,1,none⟩=some (.int .i64 a0_1):=(blk_cell BK253.out 1).trans rfl
        have hcz38_2:w5.cell? ⟨gb253,2,none⟩=some (.int .i64 a0_2):=(blk_cell BK253.out 2).trans rfl
        have hcz38_3:w5.cell? ⟨gb253,3,none⟩=some (.slice A0_3 l0_3.length c0_3):=(blk_cell BK253.out 3).trans rfl
        have hcz38_4:w5.cell? ⟨gb253,4,none⟩=some (.int .i64 a0_4):=(blk_cell BK253.out 4).trans rfl
        have hcz38_5:w5.cell? ⟨gb253,5,none⟩=some (.int .i64 a0_5):=(blk_cell BK253.out 5).trans rfl
        have hcz38_6:w5.cell? ⟨gb253,6,none⟩=some (.bool a0_6):=(blk_cell BK253.out 6).trans rfl
        have hcz38_7:w5.cell? ⟨gb253,7,none⟩=some (.int .i64 a0_7):=(blk_cell BK253.out 7).trans rfl
        have hfz38_0 := blk_frozen BK253.out 0
        have hfz38_1 := blk_frozen BK253.out 1
        have hfz38_2 := blk_frozen BK253.out 2
        have hfz38_3 := blk_frozen BK253.out 3
        have hfz38_4 := blk_frozen BK253.out 4
        have hfz38_5 := blk_frozen BK253.out 5
        have hfz38_6 := blk_frozen BK253.out 6
        have hfz38_7 := blk_frozen BK253.out 7
        go_wp2
        repeat (go_quiet (fail); try go_wp2)
        go_meet
        case rel=>exact ⟨_,H',⟨by first|omega|exact Nat.le_refl _⟩,⟨by (with_reducible repeat (first|refine kN9_ ?_ _|refine kD9_ ?_|refine blk_alloc ?_ _));exact BK253.out⟩,⟨by (with_reducible repeat (first|refine kN9_ ?_ _|refine kD9_ ?_|refine blk_alloc ?_ _));exact BK254.out⟩,⟨by repeat (first|(with_reducible first|exact HB.out|apply bA9_|apply bN9_|apply bD9_|refine bS9_ ?_ GE253.out|refine bS9_ ?_ GE254.out)|exact HB.out)⟩⟩
     ·rw [if_neg c22] at H
      have c22b0 : (a1_0 == 2) = false := beq_eq_false_iff_ne.mpr c22
      have c22b1 : (a1_0 != 2) = true := bne_iff_ne.mpr c22
      obtain rfl := Option.some.inj H
      go_wp2
      repeat (go_quiet (fail); try go_wp2)
      go_ret
      exact ⟨by first|rfl|(simp [errW_none,errW_some] <;> rfl)|(simp [*,errW_none,errW_some] <;> rfl),by repeat (first|(with_reducible first|exact HB.out|apply bA9_|apply bN9_|apply bD9_|refine bS9_ ?_ GE253.out|refine bS9_ ?_ GE254.out)|exact HB.out)⟩
 case rest =>
  clear HC3
  try clear c1
  try clear c2
  try clear p2
  try clear c3
  try clear c6
  try clear c8
  try clear c8b0
  try clear c8b1
  try clear c9
  try clear c11
  try clear c11b0
  try clear c11b1
  try clear c12
  try clear c12b0
  try clear c12b1
  try clear c12b2
  try clear c13
  try clear c15
  try clear c15b0
  try clear c15b1
  try clear c16
  try clear c16b0
  try clear c16b1
  try clear c17
  try clear c17b0
  try clear c17b1
  try clear c18
  try clear c20
  try clear c22
  try clear c22b0
  try clear c22b1
  try clear c23
  try clear c23b0
  try clear c23b1
  try clear c23b2
  try clear c24
  try clear c24b0
  try clear c24b1
  try clear c24b2
  try clear c25
  try clear c27
  try clear c27b0
  try clear c28
  try clear c31
  try clear c34
  try clear c34b0
  try clear c35
  try clear c37
  try clear hcz10_0
  try clear hcz10_1
  try clear hcz10_2
  try clear hcz10_3
  try clear hcz10_4
  try clear hcz10_5
  try clear hcz14_0
  try clear hcz14_1
  try clear hcz14_2
  try clear hcz14_3
  try clear hcz14_4
  try clear hcz14_5
  try clear hcz19_0
  try clear hcz19_1
  try clear hcz19_2
  try clear hcz19_3
  try clear hcz19_4
  try clear hcz19_5
  try clear hcz21_0
  try clear hcz21_1
  try clear hcz21_2
  try clear hcz21_3
  try clear hcz21_4
  try clear hcz21_5
  try clear hcz26_0
  try clear hcz26_1
  try clear hcz26_2
  try clear hcz26_3
  try clear hcz26_4
  try clear hcz26_5
  try clear hcz29_0
  try clear hcz29_1
  try clear hcz29_2
  try clear hcz29_3
  try clear hcz29_4
  try clear hcz29_5
  try clear hcz30_0
  try clear hcz30_1
  try clear hcz30_2
  try clear hcz30_3
  try clear hcz30_4
  try clear hcz30_5
  try clear hcz30_6
  try clear hcz30_7
  try clear hcz32_0
  try clear hcz32_1
  try clear hcz32_2
  try clear hcz32_3
  try clear hcz32_4
  try clear hcz32_5
  try clear hcz33_0
  try clear hcz33_1
  try clear hcz33_2
  try clear hcz33_3
  try clear hcz33_4
  try clear hcz33_5
  try clear hcz33_6
  try clear hcz33_7
  try clear hcz36_0
  try clear hcz36_1
  try clear hcz36_2
  try clear hcz36_3
  try clear hcz36_4
  try clear hcz36_5
  try clear hcz36_6
  try clear hcz36_7
  try clear hcz38_0
  try clear hcz38_1
  try clear hcz38_2
  try clear hcz38_3
  try clear hcz38_4
  try clear hcz38_5
  try clear hcz38_6
  try clear hcz38_7
  try clear hcz7_0
  try clear hcz7_1
  try clear hcz7_2
  try clear hcz7_3
  try clear hcz7_4
  try clear hcz7_5
  try clear hfz10_0
  try clear hfz10_1
  try clear hfz10_2
  try clear hfz10_3
  try clear hfz10_4
  try clear hfz10_5
  try clear hfz14_0
  try clear hfz14_1
  try clear hfz14_2
  try clear hfz14_3
  try clear hfz14_4
  try clear hfz14_5
  try clear hfz19_0
  try clear hfz19_1
  try clear hfz19_2
  try clear hfz19_3
  try clear hfz19_4
  try clear hfz19_5
  try clear hfz21_0
  try clear hfz21_1
  try clear hfz21_2
  try clear hfz21_3
  try clear hfz21_4
  try clear hfz21_5
  try clear hfz26_0
  try clear hfz26_1
  try clear hfz26_2
  try clear hfz26_3
  try clear hfz26_4
  try clear hfz26_5
  try clear hfz29_0
  try clear hfz29_1
  try clear hfz29_2
  try clear hfz29_3
  try clear hfz29_4
  try clear hfz29_5
  try clear hfz30_0
  try clear hfz30_1
  try clear hfz30_2
  try clear hfz30_3
  try clear hfz30_4
  try clear hfz30_5
  try clear hfz30_6
  try clear hfz30_7
  try clear hfz32_0
  try clear hfz32_1
  try clear hfz32_2
  try clear hfz32_3
  try clear hfz32_4
  try clear hfz32_5
  try clear hfz33_0
  try clear hfz33_1
  try clear hfz33_2
  try clear hfz33_3
  try clear hfz33_4
  try clear hfz33_5
  try clear hfz33_6
  try clear hfz33_7
  try clear hfz36_0
  try clear hfz36_1
  try clear hfz36_2
  try clear hfz36_3
  try clear hfz36_4
  try clear hfz36_5
  try clear hfz36_6
  try clear hfz36_7
  try clear hfz38_0
  try clear hfz38_1
  try clear hfz38_2
  try clear hfz38_3
  try clear hfz38_4
  try clear hfz38_5
  try clear hfz38_6
  try clear hfz38_7
  try clear hfz7_0
  try clear hfz7_1
  try clear hfz7_2
  try clear hfz7_3
  try clear hfz7_4
  try clear hfz7_5
  obtain ⟨kq, HA, HJ2, BK253, BK254, HB⟩ := hcut
  cases kq with
  | zero => exact absurd HA.out (by simp [spec_l16State.j0])
  | succ kj2 =>
   have H := HA.out
   clear HA
   simp only [spec_l16State.j0] at H
   have H' := Aside0.mk H
   clear H
   go_wp2
   repeat (go_quiet (fail); try go_wp2)
   go_loopg [6] kj2 (fun kq v6 w'=>∃ (x6_2:Int),v6=.int .i64 x6_2∧Aside0 (spec_l16State.l0 kq (l1_4.length:Int) x6_2 a0_0 a0_1 a0_2 l0_3 a0_4 a0_5 a0_6 a0_7 a1_0 l1_1 a1_2 a1_3 l1_4 l1_5=some r)∧Aside0 (kq≤kj2)∧Aside0 (w'.heap[gb253]?=some (.cells #[.int .i64 a0_0,.int .i64 a0_1,.int .i64 a0_2,(.slice A0_3 l0_3.length c0_3),.int .i64 a0_4,.int .i64 a0_5,.bool a0_6,.int .i64 a0_7] 35 (0,0)))∧Aside0 (w'.heap[gb254]?=some (.cells #[.int .i64 a1_0,(.slice A1_1 l1_1.length c1_1),.int .i64 a1_2,.int .i64 a1_3,(.slice A1_4 l1_4.length c1_4),(.slice A1_5 l1_5.length c1_5)] 50 (0,0)))∧Aside0 (Below w.heap.size w w'))
   case atStart=>exact ⟨(0),(by first|rfl|(simp;done)|(simp [*];done)),H',⟨Nat.le_refl _⟩,⟨by (with_reducible repeat (first|refine kN9_ ?_ _|refine kD9_ ?_|refine blk_alloc ?_ _));exact BK253.out⟩,⟨by (with_reducible repeat (first|refine kN9_ ?_ _|refine kD9_ ?_|refine blk_alloc ?_ _));exact BK254.out⟩,⟨by repeat (first|(with_reducible first|exact HB.out|apply bA9_|apply bN9_|apply bD9_|refine bS9_ ?_ GE253.out|refine bS9_ ?_ GE254.out)|exact HB.out)⟩⟩
   case round =>
    clear H'
    try clear c1
    try clear c2
    try clear p2
    try clear c3
    try clear c6
    try clear c8
    try clear c8b0
    try clear c8b1
    try clear c9
    try clear c11
    try clear c11b0
    try clear c11b1
    try clear c12
    try clear c12b0
    try clear c12b1
    try clear c12b2
    try clear c13
    try clear c15
    try clear c15b0
    try clear c15b1
    try clear c16
    try clear c16b0
    try clear c16b1
    try clear c17
    try clear c17b0
    try clear c17b1
    try clear c18
    try clear c20
    try clear c22
    try clear c22b0
    try clear c22b1
    try clear c23
    try clear c23b0
    try clear c23b1
    try clear c23b2
    try clear c24
    try clear c24b0
    try clear c24b1
    try clear c24b2
    try clear c25
    try clear c27
    try clear c27b0
    try clear c28
    try clear c31
    try clear c34
    try clear c34b0
    try clear c35
    try clear c37
    try clear hcz10_0
    try clear hcz10_1
    try clear hcz10_2
    try clear hcz10_3
    try clear hcz10_4
    try clear hcz10_5
    try clear hcz14_0
    try clear hcz14_1
    try clear hcz14_2
    try clear hcz14_3
    try clear hcz14_4
    try clear hcz14_5
    try clear hcz19_0
    try clear hcz19_1
    try clear hcz19_2
    try clear hcz19_3
    try clear hcz19_4
    try clear hcz19_5
    try clear hcz21_0
    try clear hcz21_1
    try clear hcz21_2
    try clear hcz21_3
    try clear hcz21_4
    try clear hcz21_5
    try clear hcz26_0
    try clear hcz26_1
    try clear hcz26_2
    try clear hcz26_3
    try clear hcz26_4
    try clear hcz26_5
    try clear hcz29_0
    try clear hcz29_1
    try clear hcz29_2
    try clear hcz29_3
    try clear hcz29_4
    try clear hcz29_5
    try clear hcz30_0
    try clear hcz30_1
    try clear hcz30_2
    try clear hcz30_3
    try clear hcz30_4
    try clear hcz30_5
    try clear hcz30_6
    try clear hcz30_7
    try clear hcz32_0
    try clear hcz32_1
    try clear hcz32_2
    try clear hcz32_3
    try clear hcz32_4
    try clear hcz32_5
    try clear hcz33_0
    try clear hcz33_1
    try clear hcz33_2
    try clear hcz33_3
    try clear hcz33_4
    try clear hcz33_5
    try clear hcz33_6
    try clear hcz33_7
    try clear hcz36_0
    try clear hcz36_1
    try clear hcz36_2
    try clear hcz36_3
    try clear hcz36_4
    try clear hcz36_5
    try clear hcz36_6
    try clear hcz36_7
    try clear hcz38_0
    try clear hcz38_1
    try clear hcz38_2
    try clear hcz38_3
    try clear hcz38_4
    try clear hcz38_5
    try clear hcz38_6
    try clear hcz38_7
    try clear hcz7_0
    try clear hcz7_1
    try clear hcz7_2
    try clear hcz7_3
    try clear hcz7_4
    try clear hcz7_5
    try clear hfz10_0
    try clear hfz10_1
    try clear hfz10_2
    try clear hfz10_3
    try clear hfz10_4
    try clear hfz10_5
    try clear hfz14_0
    try clear hfz14_1
    try clear hfz14_2
    try clear hfz14_3
    try clear hfz14_4
    try clear hfz14_5
    try clear hfz19_0
    try clear hfz19_1
    try clear hfz19_2
    try clear hfz19_3
    try clear hfz19_4
    try clear hfz19_5
    try clear hfz21_0
    try clear hfz21_1
    try clear hfz21_2
    try clear hfz21_3
    try clear hfz21_4
    try clear hfz21_5
    try clear hfz26_0
    try clear hfz26_1
    try clear hfz26_2
    try clear hfz26_3
    try clear hfz26_4
    try clear hfz26_5
    try clear hfz29_0
    try clear hfz29_1
    try clear hfz29_2
    try clear hfz29_3
    try clear hfz29_4
    try clear hfz29_5
    try clear hfz30_0
    try clear hfz30_1
    try clear hfz30_2
    try clear hfz30_3
    try clear hfz30_4
    try clear hfz30_5
    try clear hfz30_6
    try clear hfz30_7
    try clear hfz32_0
    try clear hfz32_1
    try clear hfz32_2
    try clear hfz32_3
    try clear hfz32_4
    try clear hfz32_5
    try clear hfz33_0
    try clear hfz33_1
    try clear hfz33_2
    try clear hfz33_3
    try clear hfz33_4
    try clear hfz33_5
    try clear hfz33_6
    try clear hfz33_7
    try clear hfz36_0
    try clear hfz36_1
    try clear hfz36_2
    try clear hfz36_3
    try clear hfz36_4
    try clear hfz36_5
    try clear hfz36_6
    try clear hfz36_7
    try clear hfz38_0
    try clear hfz38_1
    try clear hfz38_2
    try clear hfz38_3
    try clear hfz38_4
    try clear hfz38_5
    try clear hfz38_6
    try clear hfz38_7
    try clear hfz7_0
    try clear hfz7_1
    try clear hfz7_2
    try clear hfz7_3
    try clear hfz7_4
    try clear hfz7_5
    try clear p2
    obtain ⟨x6_2, rfl, HA, HK2, BK253, BK254, HB⟩ := hrel
    cases gk with
    | zero => exact absurd HA.out (by simp [spec_l16State.l0])
    | succ k2 =>
     have H := HA.out
     clear HA
     simp only [spec_l16State.l0] at H
     by_cases c39 : x6_2 < (l1_1.length : Int)
     ·rw [if_pos c39] at H
      have c39b0 : decide (x6_2 < (l1_1.length : Int)) = true := decide_eq_true c39
      clear c39
      by_cases c40 : 0 ≤ x6_2
      ·rw [if_pos c40] at H
       have c40b0 : decide (0 ≤ x6_2) = true := decide_eq_true c40
       clear c40
       by_cases c41 : 0 ≤ (rd l1_1 x6_2)
       ·rw [if_pos c41] at H
        have c41b0 : decide (0 ≤ (rd l1_1 x6_2)) = true := decide_eq_true c41
        clear c41
        by_cases c42 : (rd l1_1 x6_2) < (l0_3.length : Int)
        ·rw [if_pos c42] at H
         have c42b0:decide ((rd l1_1 x6_2) < (l0_3.length:Int))=true:=decide_eq_true c42
         clear c42
         by_cases c43 : ((rd_T68 l0_3 (rd l1_1 x6_2)).f1) = (l1_4.length : Int)
         ·rw [if_pos c43] at H
          have c43b0:(((rd_T68 l0_3 (rd l1_1 x6_2)).f1) == (l1_4.length:Int))=true:=beq_iff_eq.mpr c43
          have c43b1:(((rd_T68 l0_3 (rd l1_1 x6_2)).f1) != (l1_4.length:Int))=false:=bne_eq_false_iff_eq.mpr c43
          clear c43
          have H' := Aside0.mk H
          clear H
          have hnb44 := NB254_253.out
          have hnc44 := NB253_254.out
          have hcz45_0:wr.cell? ⟨gb254,0,none⟩=some (.int .i64 a1_0):=(blk_cell BK254.out 0).trans rfl
          have hcz45_1:wr.cell? ⟨gb254,1,none⟩=some (.slice A1_1 l1_1.length c1_1):=(blk_cell BK254.out 1).trans rfl
          have hcz45_2:wr.cell? ⟨gb254,2,none⟩=some (.int .i64 a1_2):=(blk_cell BK254.out 2).trans rfl
          have hcz45_3:wr.cell? ⟨gb254,3,none⟩=some (.int .i64 a1_3):=(blk_cell BK254.out 3).trans rfl
          have hcz45_4:wr.cell? ⟨gb254,4,none⟩=some (.slice A1_4 l1_4.length c1_4):=(blk_cell BK254.out 4).trans rfl
          have hcz45_5:wr.cell? ⟨gb254,5,none⟩=some (.slice A1_5 l1_5.length c1_5):=(blk_cell BK254.out 5).trans rfl
          have hfz45_0 := blk_frozen BK254.out 0
          have hfz45_1 := blk_frozen BK254.out 1
          have hfz45_2 := blk_frozen BK254.out 2
          have hfz45_3 := blk_frozen BK254.out 3
          have hfz45_4 := blk_frozen BK254.out 4
          have hfz45_5 := blk_frozen BK254.out 5
          have hcz46_0:wr.cell? ⟨gb253,0,none⟩=some (.int .i64 a0_0):=(blk_cell BK253.out 0).trans rfl
          have hcz46_1:wr.cell? ⟨gb253,1,none⟩=some (.int .i64 a0_1):=(blk_cell BK253.out 1).trans rfl
          have hcz46_2:wr.cell? ⟨gb253,2,none⟩=some (.int .i64 a0_2):=(blk_cell BK253.out 2).trans rfl
          have hcz46_3:wr.cell? ⟨gb253,3,none⟩=some (.slice A0_3 l0_3.length c0_3):=(blk_cell BK253.out 3).trans rfl
          have hcz46_4:wr.cell? ⟨gb253,4,none⟩=some (.int .i64 a0_4):=(blk_cell BK253.out 4).trans rfl
          have hcz46_5:wr.cell? ⟨gb253,5,none⟩=some (.int .i64 a0_5):=(blk_cell BK253.out 5).trans rfl
          have hcz46_6:wr.cell? ⟨gb253,6,none⟩=some (.bool a0_6):=(blk_cell BK253.out 6).trans rfl
          have hcz46_7:wr.cell? ⟨gb253,7,none⟩=some (.int .i64 a0_7):=(blk_cell BK253.out 7).trans rfl
          have hfz46_0 := blk_frozen BK253.out 0
          have hfz46_1 := blk_frozen BK253.out 1
          have hfz46_2 := blk_frozen BK253.out 2
          have hfz46_3 := blk_frozen BK253.out 3
          have hfz46_4 := blk_frozen BK253.out 4
          have hfz46_5 := blk_frozen BK253.out 5
          have hfz46_6 := blk_frozen BK253.out 6
          have hfz46_7 := blk_frozen BK253.out 7
          have p255:0≤(x6_2:Int):=of_decide_eq_true (by first|(with_reducible assumption)|assumption)
          have q255:x6_2 < (l1_1.length:Int):=of_decide_eq_true (by first|(with_reducible assumption)|assumption)
          obtain ⟨ad255, e255, hx255_0⟩ := Kd.at_int HR1_1.out x6_2 p255 q255
          cases e255
          replace hx255_0:=(HB.out.cell (World.block_lt_of_cell? w _ hx255_0)).trans hx255_0
          replace p255 := eq_true p255
          replace q255 := eq_true q255
          have p256:0≤((rd l1_1 x6_2):Int):=of_decide_eq_true (by first|(with_reducible assumption)|assumption)
          have q256:(rd l1_1 x6_2) < (l0_3.length:Int):=of_decide_eq_true (by first|(with_reducible assumption)|assumption)
          obtain ⟨ad256,A256_3,c256_3,e256,hx256_0,hx256_1,hx256_2,hx256_3,hl256_3,hi256_3⟩:=at_T68 HR0_3.out (rd l1_1 x6_2) p256 q256
          cases e256
          replace hx256_0:=(HB.out.cell (World.block_lt_of_cell? w _ hx256_0)).trans hx256_0
          replace hx256_1:=(HB.out.cell (World.block_lt_of_cell? w _ hx256_1)).trans hx256_1
          replace hx256_2:=(HB.out.cell (World.block_lt_of_cell? w _ hx256_2)).trans hx256_2
          replace hx256_3:=(HB.out.cell (World.block_lt_of_cell? w _ hx256_3)).trans hx256_3
          have HR256_3 := Aside0.mk hi256_3
          have HC256_3 := Aside0.mk hl256_3
          clear hi256_3 hl256_3
          replace p256 := eq_true p256
          replace q256 := eq_true q256
          go_wp2
          repeat (go_quiet (fail); try go_wp2)
          go_roundg k2
          case measure => have := HJ2.out; have := HK2.out; omega
          case rel=>exact ⟨(wrap64 (x6_2+1)),(by first|rfl|(simp;done)|(simp [*];done)),H',⟨by have:=HJ2.out;have:=HK2.out;omega⟩,⟨by (with_reducible repeat (first|refine kN9_ ?_ _|refine kD9_ ?_|refine blk_alloc ?_ _));exact BK253.out⟩,⟨by (with_reducible repeat (first|refine kN9_ ?_ _|refine kD9_ ?_|refine blk_alloc ?_ _));exact BK254.out⟩,⟨by repeat (first|(with_reducible first|exact HB.out|apply bA9_|apply bN9_|apply bD9_|refine bS9_ ?_ GE253.out|refine bS9_ ?_ GE254.out)|exact HB.out)⟩⟩
         ·rw [if_neg c43] at H
          have c43b0:(((rd_T68 l0_3 (rd l1_1 x6_2)).f1) == (l1_4.length:Int))=false:=beq_eq_false_iff_ne.mpr c43
          have c43b1:(((rd_T68 l0_3 (rd l1_1 x6_2)).f1) != (l1_4.length:Int))=true:=bne_iff_ne.mpr c43
          obtain rfl := Option.some.inj H
          have hnb47 := NB254_253.out
          have hnc47 := NB253_254.out
          have hcz48_0:wr.cell? ⟨gb254,0,none⟩=some (.int .i64 a1_0):=(blk_cell BK254.out 0).trans rfl
          have hcz48_1:wr.cell? ⟨gb254,1,none⟩=some (.slice A1_1 l1_1.length c1_1):=(blk_cell BK254.out 1).trans rfl
          have hcz48_2:wr.cell? ⟨gb254,2,none⟩=some (.int .i64 a1_2):=(blk_cell BK254.out 2).trans rfl
          have hcz48_3:wr.cell? ⟨gb254,3,none⟩=some (.int .i64 a1_3):=(blk_cell BK254.out 3).trans rfl
          have hcz48_4:wr.cell? ⟨gb254,4,none⟩=some (.slice A1_4 l1_4.length c1_4):=(blk_cell BK254.out 4).trans rfl
          have hcz48_5:wr.cell? ⟨gb254,5,none⟩=some (.slice A1_5 l1_5.length c1_5):=(blk_cell BK254.out 5).trans rfl
          have hfz48_0 := blk_frozen BK254.out 0
          have hfz48_1 := blk_frozen BK254.out 1
          have hfz48_2 := blk_frozen BK254.out 2
          have hfz48_3 := blk_frozen BK254.out 3
          have hfz48_4 := blk_frozen BK254.out 4
          have hfz48_5 := blk_frozen BK254.out 5
          have hcz49_0:wr.cell? ⟨gb253,0,none⟩=some (.int .i64 a0_0):=(blk_cell BK253.out 0).trans rfl
          have hcz49_1:wr.cell? ⟨gb253,1,none⟩=some (.int .i64 a0_1):=(blk_cell BK253.out 1).trans rfl
          have hcz49_2:wr.cell? ⟨gb253,2,none⟩=some (.int .i64 a0_2):=(blk_cell BK253.out 2).trans rfl
          have hcz49_3:wr.cell? ⟨gb253,3,none⟩=some (.slice A0_3 l0_3.length c0_3):=(blk_cell BK253.out 3).trans rfl
          have hcz49_4:wr.cell? ⟨gb253,4,none⟩=some (.int .i64 a0_4):=(blk_cell BK253.out 4).trans rfl
          have hcz49_5:wr.cell? ⟨gb253,5,none⟩=some (.int .i64 a0_5):=(blk_cell BK253.out 5).trans rfl
          have hcz49_6:wr.cell? ⟨gb253,6,none⟩=some (.bool a0_6):=(blk_cell BK253.out 6).trans rfl
          have hcz49_7:wr.cell? ⟨gb253,7,none⟩=some (.int .i64 a0_7):=(blk_cell BK253.out 7).trans rfl
          have hfz49_0 := blk_frozen BK253.out 0
          have hfz49_1 := blk_frozen BK253.out 1
          have hfz49_2 := blk_frozen BK253.out 2
          have hfz49_3 := blk_frozen BK253.out 3
          have hfz49_4 := blk_frozen BK253.out 4
          have hfz49_5 := blk_frozen BK253.out 5
          have hfz49_6 := blk_frozen BK253.out 6
          have hfz49_7 := blk_frozen BK253.out 7
          have p255:0≤(x6_2:Int):=of_decide_eq_true (by first|(with_reducible assumption)|assumption)
          have q255:x6_2 < (l1_1.length:Int):=of_decide_eq_true (by first|(with_reducible assumption)|assumption)
          obtain ⟨ad255, e255, hx255_0⟩ := Kd.at_int HR1_1.out x6_2 p255 q255
          cases e255
          replace hx255_0:=(HB.out.cell (World.block_lt_of_cell? w _ hx255_0)).trans hx255_0
          replace p255 := eq_true p255
          replace q255 := eq_true q255
          have p256:0≤((rd l1_1 x6_2):Int):=of_decide_eq_true (by first|(with_reducible assumption)|assumption)
          have q256:(rd l1_1 x6_2) < (l0_3.length:Int):=of_decide_eq_true (by first|(with_reducible assumption)|assumption)
          obtain ⟨ad256,A256_3,c256_3,e256,hx256_0,hx256_1,hx256_2,hx256_3,hl256_3,hi256_3⟩:=at_T68 HR0_3.out (rd l1_1 x6_2) p256 q256
          cases e256
          replace hx256_0:=(HB.out.cell (World.block_lt_of_cell? w _ hx256_0)).trans hx256_0
          replace hx256_1:=(HB.out.cell (World.block_lt_of_cell? w _ hx256_1)).trans hx256_1
          replace hx256_2:=(HB.out.cell (World.block_lt_of_cell? w _ hx256_2)).trans hx256_2
          replace hx256_3:=(HB.out.cell (World.block_lt_of_cell? w _ hx256_3)).trans hx256_3
          have HR256_3 := Aside0.mk hi256_3
          have HC256_3 := Aside0.mk hl256_3
          clear hi256_3 hl256_3
          replace p256 := eq_true p256
          replace q256 := eq_true q256
          go_wp2
          repeat (go_quiet (fail); try go_wp2)
          go_ret
          exact ⟨by first|rfl|(simp [errW_none,errW_some] <;> rfl)|(simp [*,errW_none,errW_some] <;> rfl),by repeat (first|(with_reducible first|exact HB.out|apply bA9_|apply bN9_|apply bD9_|refine bS9_ ?_ GE253.out|refine bS9_ ?_ GE254.out)|exact HB.out)⟩
        ·rw [if_neg c42] at H
         exact absurd H (by simp)
       ·rw [if_neg c41] at H
        exact absurd H (by simp)
      ·rw [if_neg c40] at H
       exact absurd H (by simp)
     ·rw [if_neg c39] at H
      have c39b0 : decide (x6_2 < (l1_1.length : Int)) = false := decide_eq_false c39
      clear c39
      obtain rfl := Option.some.inj H
      have hnb50 := NB254_253.out
      have hnc50 := NB253_254.out
      have hcz51_0:wr.cell? ⟨gb254,0,none⟩=some (.int .i64 a1_0):=(blk_cell BK254.out 0).trans rfl
      have hcz51_1:wr.cell? ⟨gb254,1,none⟩=some (.slice A1_1 l1_1.length c1_1):=(blk_cell BK254.out 1).trans rfl
      have hcz51_2:wr.cell? ⟨gb254,2,none⟩=some (.int .i64 a1_2):=(blk_cell BK254.out 2).trans rfl
      have hcz51_3:wr.cell? ⟨gb254,3,none⟩=some (.int .i64 a1_3):=(blk_cell BK254.out 3).trans rfl
      have hcz51_4:wr.cell? ⟨gb254,4,none⟩=some (.slice A1_4 l1_4.length c1_4):=(blk_cell BK254.out 4).trans rfl
      have hcz51_5:wr.cell? ⟨gb254,5,none⟩=some (.slice A1_5 l1_5.length c1_5):=(blk_cell BK254.out 5).trans rfl
      have hfz51_0 := blk_frozen BK254.out 0
      have hfz51_1 := blk_frozen BK254.out 1
      have hfz51_2 := blk_frozen BK254.out 2
      have hfz51_3 := blk_frozen BK254.out 3
      have hfz51_4 := blk_frozen BK254.out 4
      have hfz51_5 := blk_frozen BK254.out 5
      go_wp2
      repeat (go_quiet (fail); try go_wp2)
      go_ret
      exact ⟨by first|rfl|(simp [errW_none,errW_some] <;> rfl)|(simp [*,errW_none,errW_some] <;> rfl),by repeat (first|(with_reducible first|exact HB.out|apply bA9_|apply bN9_|apply bD9_|refine bS9_ ?_ GE253.out|refine bS9_ ?_ GE254.out)|exact HB.out)⟩

end Go.Proofs.Ytdjbphffibcbeaa.Q
