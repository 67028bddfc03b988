/- The program's functions as Lean functions,and for each the proof that the machine's call comes to what its function says. Conditions: those that stand before each theorem. -/
import Derived.Test.YtdjbphffibcbeaaQ0
import Derived.Test.YtdjbphffibcbeaaQ2
namespace Go.Proofs.Ytdjbphffibcbeaa.Q
open Go.RowKit Go.Proofs.YtdjbphffibcbeaaW.PrintWords Go.Proofs.YtdjbphffibcbeaaW.PrintLast Go.Proofs.YtdjbphffibcbeaaW.PrintMore
abbrev kN3_ := @blk_drewN
abbrev kD3_ := @blk_drew
abbrev rN3_ := @Kd.R_drewN
abbrev bA3_ := @below_alloc
abbrev bN3_ := @pw_below_drewN
abbrev bD3_ := @below_drew1
abbrev bS3_ := @below_set
abbrev mk3_ := @Aside0.mk
abbrev fZ3_ := @blk_frozen
abbrev sB3_ := @Kd.S_below
abbrev bT3_ := @below_step
abbrev bZ3_ := @below_size
set_option linter.unusedVariables false
set_option linter.unusedSimpArgs false

def laws_eqBlock.f (k:Nat) (a0_0:Int) (a0_1:Int) (a0_2:Bool) (l0_3:List ByteArray) (a1_0:Int) (a1_1:Int) (a1_2:Bool) (l1_3:List ByteArray):Option (Bool):=if a0_0=a1_0 then (if a0_1=a1_1 then (if (a0_2 != a1_2)=true then (some false) else ((laws_eqStringS.f k l0_3 l1_3).bind fun t207=>(if t207=true then (some true) else (some false)))) else (some false)) else (some false)
set_option maxHeartbeats 8000000 in
set_option maxRecDepth 100000 in
theorem laws_eqBlock.calls (k:Nat) (a0_0:Int) (a0_1:Int) (a0_2:Bool) (A0_3:Option Addr) (c0_3:Nat) (l0_3:List ByteArray) (a1_0:Int) (a1_1:Int) (a1_2:Bool) (A1_3:Option Addr) (c1_3:Nat) (l1_3:List ByteArray) (r:Bool) (w:World) (hr0_3:Kd.C Kd.string w A0_3 l0_3.length l0_3) (hc0_3:l0_3.length≤c0_3) (hr1_3:Kd.C Kd.string w A1_3 l1_3.length l1_3) (hc1_3:l1_3.length≤c1_3) (h:laws_eqBlock.f k a0_0 a0_1 a0_2 l0_3 a1_0 a1_1 a1_2 l1_3=some r) :
  Calls Try.prog 64 #[.agg #[.int .i64 a0_0,.int .i64 a0_1,.bool a0_2,.slice A0_3 l0_3.length c0_3],.agg #[.int .i64 a1_0,.int .i64 a1_1,.bool a1_2,.slice A1_3 l1_3.length c1_3]] w fun e w'=>e=.returned (.bool r)∧Below w.heap.size w w':=by
 have hu68 := Try.underlying68
 have HR0_3 := Aside0.mk hr0_3
 have HC0_3 := Aside0.mk hc0_3
 clear hr0_3 hc0_3
 have HR1_3 := Aside0.mk hr1_3
 have HC1_3 := Aside0.mk hc1_3
 clear hr1_3 hc1_3
 have HB := Aside0.mk (Below.refl w.heap.size w)
 have H:(if a0_0=a1_0 then (if a0_1=a1_1 then (if (a0_2 != a1_2)=true then (some false) else ((laws_eqStringS.f k l0_3 l1_3).bind fun t207=>(if t207=true then (some true) else (some false)))) else (some false)) else (some false))=some r:=h
 clear h
 by_cases c3 : a0_0 = a1_0
 ·rw [if_pos c3] at H
  have c3b0 : (a0_0 == a1_0) = true := beq_iff_eq.mpr c3
  have c3b1 : (a0_0 != a1_0) = false := bne_eq_false_iff_eq.mpr c3
  clear c3
  by_cases c4 : a0_1 = a1_1
  ·rw [if_pos c4] at H
   have c4b0 : (a0_1 == a1_1) = true := beq_iff_eq.mpr c4
   have c4b1 : (a0_1 != a1_1) = false := bne_eq_false_iff_eq.mpr c4
   clear c4
   by_cases c5 : (a0_2 != a1_2) = true
   ·rw [if_pos c5] at H
    have c5b0 : (a0_2 != a1_2) = true := c5
    (try (have c5b1 : decide (a0_2 = a1_2) = false := by simpa using c5))
    (try (have c5b2 : (a0_2 == a1_2) = false := by simpa using c5))
    (try (have c5b3 : ¬ (a0_2 = a1_2) := by simpa using c5))
    clear c5
    obtain rfl := Option.some.inj H
    go_enter Try.func64, Try.ntmps64
    go_wp2_with (first|((with_reducible refine gate_dst (N:=2) rfl ?_);refine box_event ?hg (N:=2) ?hd (cs:=#[.int .i64 a0_0,.int .i64 a0_1,.bool a0_2,.slice A0_3 l0_3.length c0_3]) (t:=68) ?hr ?_;(case hd=>rfl);(case hg=>rfl);(case hr=>first|(go_simp;done)|(go_simp;rfl));intro gb205 hg w6 hbox hb;have n0_:=mk3_ (bT3_ (by repeat (first|(with_reducible first|exact HB.out|apply bA3_|apply bN3_|apply bD3_)|exact HB.out)) hb);have n1_:=mk3_ (hbox);have n2_:=mk3_ ((by rw [hg];exact (bZ3_ (by repeat (first|(with_reducible first|exact HB.out|apply bA3_|apply bN3_|apply bD3_)|exact HB.out))):w.heap.size≤gb205));have n3_:=mk3_ ((by rw [hg];exact (bZ3_ (by repeat (first|(with_reducible first|exact HB.out|apply bA3_|apply bN3_|apply bD3_)|exact HB.out))):w.heap.size≤gb205));clear HB;have HB:=n0_;have BK205:=n1_;have GW205:=n2_;have GE205:=n3_;clear n0_ n1_ n2_ n3_;clear hb hbox hg)|((with_reducible refine gate_dst (N:=3) rfl ?_);refine box_event ?hg (N:=3) ?hd (cs:=#[.int .i64 a1_0,.int .i64 a1_1,.bool a1_2,.slice A1_3 l1_3.length c1_3]) (t:=68) ?hr ?_;(case hd=>rfl);(case hg=>rfl);(case hr=>first|(go_simp;done)|(go_simp;rfl));intro gb206 hg w7 hbox hb;have n0_:=mk3_ (blk_below (g:=gb205) (o:=.cells #[.int .i64 a0_0,.int .i64 a0_1,.bool a0_2,.slice A0_3 l0_3.length c0_3] 68 (0,0)) (by (with_reducible repeat (first|refine kN3_ ?_ _|refine kD3_ ?_|refine blk_alloc ?_ _));exact BK205.out) hb);have n1_:=mk3_ (bT3_ (by repeat (first|(with_reducible first|exact HB.out|apply bA3_|apply bN3_|apply bD3_|refine bS3_ ?_ GE205.out)|exact HB.out)) hb);have n2_:=mk3_ (hbox);have n3_:=mk3_ ((by rw [hg];exact (bZ3_ (by repeat (first|(with_reducible first|exact HB.out|apply bA3_|apply bN3_|apply bD3_|refine bS3_ ?_ GE205.out)|exact HB.out))):w.heap.size≤gb206));have n4_:=mk3_ ((by rw [hg];exact (bZ3_ (by repeat (first|(with_reducible first|exact HB.out|apply bA3_|apply bN3_|apply bD3_|refine bS3_ ?_ GE205.out)|exact HB.out))):w.heap.size≤gb206));have n5_:=mk3_ ((by rw [hg];exact Nat.ne_of_lt (blk_lt (g:=gb205) (o:=.cells #[.int .i64 a0_0,.int .i64 a0_1,.bool a0_2,.slice A0_3 l0_3.length c0_3] 68 (0,0)) (by (with_reducible repeat (first|refine kN3_ ?_ _|refine kD3_ ?_|refine blk_alloc ?_ _));exact BK205.out)):gb205≠gb206));have n6_:=mk3_ ((by rw [hg];exact Nat.ne_of_gt (blk_lt (g:=gb205) (o:=.cells #[.int .i64 a0_0,.int .i64 a0_1,.bool a0_2,.slice A0_3 l0_3.length c0_3] 68 (0,0)) (by (with_reducible repeat (first|refine kN3_ ?_ _|refine kD3_ ?_|refine blk_alloc ?_ _));exact BK205.out)):gb206≠gb205));clear BK205;clear HB;have BK205:=n0_;have HB:=n1_;have BK206:=n2_;have GW206:=n3_;have GE206:=n4_;have NB205_206:=n5_;have NB206_205:=n6_;clear n0_ n1_ n2_ n3_ n4_ n5_ n6_;clear hb hbox hg;have hnb8:=NB205_206.out;have hnc8:=NB206_205.out;have hcz9_0:w7.cell? ⟨gb205,0,none⟩=some (.int .i64 a0_0):=(blk_cell BK205.out 0).trans rfl;have hcz9_1:w7.cell? ⟨gb205,1,none⟩=some (.int .i64 a0_1):=(blk_cell BK205.out 1).trans rfl;have hcz9_2:w7.cell? ⟨gb205,2,none⟩=some (.bool a0_2):=(blk_cell BK205.out 2).trans rfl;have hcz9_3:w7.cell? ⟨gb205,3,none⟩=some (.slice A0_3 l0_3.length c0_3):=(blk_cell BK205.out 3).trans rfl;have hfz9_0:=fZ3_ BK205.out 0;have hfz9_1:=fZ3_ BK205.out 1;have hfz9_2:=fZ3_ BK205.out 2;have hfz9_3:=fZ3_ BK205.out 3;have hcz10_0:w7.cell? ⟨gb206,0,none⟩=some (.int .i64 a1_0):=(blk_cell BK206.out 0).trans rfl;have hcz10_1:w7.cell? ⟨gb206,1,none⟩=some (.int .i64 a1_1):=(blk_cell BK206.out 1).trans rfl;have hcz10_2:w7.cell? ⟨gb206,2,none⟩=some (.bool a1_2):=(blk_cell BK206.out 2).trans rfl;have hcz10_3:w7.cell? ⟨gb206,3,none⟩=some (.slice A1_3 l1_3.length c1_3):=(blk_cell BK206.out 3).trans rfl;have hfz10_0:=fZ3_ BK206.out 0;have hfz10_1:=fZ3_ BK206.out 1;have hfz10_2:=fZ3_ BK206.out 2;have hfz10_3:=fZ3_ BK206.out 3))
    go_ret
    exact ⟨by first|rfl|(simp [errW_none,errW_some] <;> rfl)|(simp [*,errW_none,errW_some] <;> rfl),by repeat (first|(with_reducible first|exact HB.out|apply bA3_|apply bN3_|apply bD3_|refine bS3_ ?_ GE205.out|refine bS3_ ?_ GE206.out)|exact HB.out)⟩
   ·rw [if_neg c5] at H
    have c5b0 : (a0_2 != a1_2) = false := by simpa using c5
    (try (have c5b1 : decide (a0_2 = a1_2) = true := by simpa using c5))
    (try (have c5b2 : (a0_2 == a1_2) = true := by simpa using c5))
    clear c5
    replace H := Option.bind_eq_some_iff.mp H
    obtain ⟨t207, A110, H⟩ := H
    replace H : (if t207 = true then (some true) else (some false)) = some r := H
    have A11 := Aside0.mk A110
    clear A110
    by_cases c12 : t207 = true
    ·subst c12
     have H1 : (some true) = some r := by rw [if_pos rfl] at H; exact H
     clear H
     have H := H1
     clear H1
     obtain rfl := Option.some.inj H
     go_enter Try.func64, Try.ntmps64
     go_wp2_with (first|((with_reducible refine gate_dst (N:=2) rfl ?_);refine box_event ?hg (N:=2) ?hd (cs:=#[.int .i64 a0_0,.int .i64 a0_1,.bool a0_2,.slice A0_3 l0_3.length c0_3]) (t:=68) ?hr ?_;(case hd=>rfl);(case hg=>rfl);(case hr=>first|(go_simp;done)|(go_simp;rfl));intro gb205 hg w13 hbox hb;have n0_:=mk3_ (bT3_ (by repeat (first|(with_reducible first|exact HB.out|apply bA3_|apply bN3_|apply bD3_)|exact HB.out)) hb);have n1_:=mk3_ (hbox);have n2_:=mk3_ ((by rw [hg];exact (bZ3_ (by repeat (first|(with_reducible first|exact HB.out|apply bA3_|apply bN3_|apply bD3_)|exact HB.out))):w.heap.size≤gb205));have n3_:=mk3_ ((by rw [hg];exact (bZ3_ (by repeat (first|(with_reducible first|exact HB.out|apply bA3_|apply bN3_|apply bD3_)|exact HB.out))):w.heap.size≤gb205));clear HB;have HB:=n0_;have BK205:=n1_;have GW205:=n2_;have GE205:=n3_;clear n0_ n1_ n2_ n3_;clear hb hbox hg)|((with_reducible refine gate_dst (N:=3) rfl ?_);refine box_event ?hg (N:=3) ?hd (cs:=#[.int .i64 a1_0,.int .i64 a1_1,.bool a1_2,.slice A1_3 l1_3.length c1_3]) (t:=68) ?hr ?_;(case hd=>rfl);(case hg=>rfl);(case hr=>first|(go_simp;done)|(go_simp;rfl));intro gb206 hg w14 hbox hb;have n0_:=mk3_ (blk_below (g:=gb205) (o:=.cells #[.int .i64 a0_0,.int .i64 a0_1,.bool a0_2,.slice A0_3 l0_3.length c0_3] 68 (0,0)) (by (with_reducible repeat (first|refine kN3_ ?_ _|refine kD3_ ?_|refine blk_alloc ?_ _));exact BK205.out) hb);have n1_:=mk3_ (bT3_ (by repeat (first|(with_reducible first|exact HB.out|apply bA3_|apply bN3_|apply bD3_|refine bS3_ ?_ GE205.out)|exact HB.out)) hb);have n2_:=mk3_ (hbox);have n3_:=mk3_ ((by rw [hg];exact (bZ3_ (by repeat (first|(with_reducible first|exact HB.out|apply bA3_|apply bN3_|apply bD3_|refine bS3_ ?_ GE205.out)|exact HB.out))):w.heap.size≤gb206));have n4_:=mk3_ ((by rw [hg];exact (bZ3_ (by repeat (first|(with_reducible first|exact HB.out|apply bA3_|apply bN3_|apply bD3_|refine bS3_ ?_ GE205.out)|exact HB.out))):w.heap.size≤gb206));have n5_:=mk3_ ((by rw [hg];exact Nat.ne_of_lt (blk_lt (g:=gb205) (o:=.cells #[.int .i64 a0_0,.int .i64 a0_1,.bool a0_2,.slice A0_3 l0_3.length c0_3] 68 (0,0)) (by (with_reducible repeat (first|refine kN3_ ?_ _|refine kD3_ ?_|refine blk_alloc ?_ _));exact BK205.out)):gb205≠gb206));have n6_:=mk3_ ((by rw [hg];exact Nat.ne_of_gt (blk_lt (g:=gb205) (o:=.cells #[.int .i64 a0_0,.int .i64 a0_1,.bool a0_2,.slice A0_3 l0_3.length c0_3] 68 (0,0)) (by (with_reducible repeat (first|refine kN3_ ?_ _|refine kD3_ ?_|refine blk_alloc ?_ _));exact BK205.out)):gb206≠gb205));clear BK205;clear HB;have BK205:=n0_;have HB:=n1_;have BK206:=n2_;have GW206:=n3_;have GE206:=n4_;have NB205_206:=n5_;have NB206_205:=n6_;clear n0_ n1_ n2_ n3_ n4_ n5_ n6_;clear hb hbox hg;have hnb15:=NB205_206.out;have hnc15:=NB206_205.out;have hcz16_0:w14.cell? ⟨gb205,0,none⟩=some (.int .i64 a0_0):=(blk_cell BK205.out 0).trans rfl;have hcz16_1:w14.cell? ⟨gb205,1,none⟩=some (.int .i64 a0_1):=(blk_cell BK205.out 1).trans rfl;have hcz16_2:w14.cell? ⟨gb205,2,none⟩=some (.bool a0_2):=(blk_cell BK205.out 2).trans rfl;have hcz16_3:w14.cell? ⟨gb205,3,none⟩=some (.slice A0_3 l0_3.length c0_3):=(blk_cell BK205.out 3).trans rfl;have hfz16_0:=fZ3_ BK205.out 0;have hfz16_1:=fZ3_ BK205.out 1;have hfz16_2:=fZ3_ BK205.out 2;have hfz16_3:=fZ3_ BK205.out 3;have hcz17_0:w14.cell? ⟨gb206,0,none⟩=some (.int .i64 a1_0):=(blk_cell BK206.out 0).trans rfl;have hcz17_1:w14.cell? ⟨gb206,1,none⟩=some (.int .i64 a1_1):=(blk_cell BK206.out 1).trans rfl;have hcz17_2:w14.cell? ⟨gb206,2,none⟩=some (.bool a1_2):=(blk_cell BK206.out 2).trans rfl;have hcz17_3:w14.cell? ⟨gb206,3,none⟩=some (.slice A1_3 l1_3.length c1_3):=(blk_cell BK206.out 3).trans rfl;have hfz17_0:=fZ3_ BK206.out 0;have hfz17_1:=fZ3_ BK206.out 1;have hfz17_2:=fZ3_ BK206.out 2;have hfz17_3:=fZ3_ BK206.out 3)|((with_reducible refine gate_callee (f:=66) rfl ?_);refine goesL_ (some 24) rfl rfl Try.func66 (by kernel_rfl) rfl #[.slice A0_3 l0_3.length c0_3,.slice A1_3 l1_3.length c1_3] rfl (by (try simp only [List.map_toArray,List.map_cons,List.map_nil]);first|done|rfl|(simp only [List.length_drop,List.length_take];rfl)) ?_;(with_reducible refine (laws_eqStringS.calls k _ _ l0_3 _ _ l1_3 true _ ?side1 ?side2 ?side3 ?side4 A11.out).mono ?_);(case side1=>repeat (first|exact (Kd.C_below HR0_3.out HB.out)|(with_reducible refine Kd.C_alloc ?_ _)|(with_reducible refine Kd.C_drewN ?_ _)|(with_reducible refine Kd.C_drew ?_)));(case side2=>exact HC0_3.out);(case side3=>repeat (first|exact (Kd.C_below HR1_3.out HB.out)|(with_reducible refine Kd.C_alloc ?_ _)|(with_reducible refine Kd.C_drewN ?_ _)|(with_reducible refine Kd.C_drew ?_)));(case side4=>exact HC1_3.out);rintro e w' ⟨rfl,⟨nd,rfl⟩⟩;refine ⟨_,rfl,?_⟩))
     go_ret
     exact ⟨by first|rfl|(simp [errW_none,errW_some] <;> rfl)|(simp [*,errW_none,errW_some] <;> rfl),by repeat (first|(with_reducible first|exact HB.out|apply bA3_|apply bN3_|apply bD3_|refine bS3_ ?_ GE205.out|refine bS3_ ?_ GE206.out)|exact HB.out)⟩
    ·replace c12 := Bool.eq_false_iff.mpr c12
     subst c12
     have H1:(some false)=some r:=by rw [if_neg (show ¬ (false=true) by decide)] at H;exact H
     clear H
     have H := H1
     clear H1
     obtain rfl := Option.some.inj H
     go_enter Try.func64, Try.ntmps64
     go_wp2_with (first|((with_reducible refine gate_dst (N:=2) rfl ?_);refine box_event ?hg (N:=2) ?hd (cs:=#[.int .i64 a0_0,.int .i64 a0_1,.bool a0_2,.slice A0_3 l0_3.length c0_3]) (t:=68) ?hr ?_;(case hd=>rfl);(case hg=>rfl);(case hr=>first|(go_simp;done)|(go_simp;rfl));intro gb205 hg w18 hbox hb;have n0_:=mk3_ (bT3_ (by repeat (first|(with_reducible first|exact HB.out|apply bA3_|apply bN3_|apply bD3_)|exact HB.out)) hb);have n1_:=mk3_ (hbox);have n2_:=mk3_ ((by rw [hg];exact (bZ3_ (by repeat (first|(with_reducible first|exact HB.out|apply bA3_|apply bN3_|apply bD3_)|exact HB.out))):w.heap.size≤gb205));have n3_:=mk3_ ((by rw [hg];exact (bZ3_ (by repeat (first|(with_reducible first|exact HB.out|apply bA3_|apply bN3_|apply bD3_)|exact HB.out))):w.heap.size≤gb205));clear HB;have HB:=n0_;have BK205:=n1_;have GW205:=n2_;have GE205:=n3_;clear n0_ n1_ n2_ n3_;clear hb hbox hg)|((with_reducible refine gate_dst (N:=3) rfl ?_);refine box_event ?hg (N:=3) ?hd (cs:=#[.int .i64 a1_0,.int .i64 a1_1,.bool a1_2,.slice A1_3 l1_3.length c1_3]) (t:=68) ?hr ?_;(case hd=>rfl);(case hg=>rfl);(case hr=>first|(go_simp;done)|(go_simp;rfl));intro gb206 hg w19 hbox hb;have n0_:=mk3_ (blk_below (g:=gb205) (o:=.cells #[.int .i64 a0_0,.int .i64 a0_1,.bool a0_2,.slice A0_3 l0_3.length c0_3] 68 (0,0)) (by (with_reducible repeat (first|refine kN3_ ?_ _|refine kD3_ ?_|refine blk_alloc ?_ _));exact BK205.out) hb);have n1_:=mk3_ (bT3_ (by repeat (first|(with_reducible first|exact HB.out|apply bA3_|apply bN3_|apply bD3_|refine bS3_ ?_ GE205.out)|exact HB.out)) hb);have n2_:=mk3_ (hbox);have n3_:=mk3_ ((by rw [hg];exact (bZ3_ (by repeat (first|(with_reducible first|exact HB.out|apply bA3_|apply bN3_|apply bD3_|refine bS3_ ?_ GE205.out)|exact HB.out))):w.heap.size≤gb206));have n4_:=mk3_ ((by rw [hg];exact (bZ3_ (by repeat (first|(with_reducible first|exact HB.out|apply bA3_|apply bN3_|apply bD3_|refine bS3_ ?_ GE205.out)|exact HB.out))):w.heap.size≤gb206));have n5_:=mk3_ ((by rw [hg];exact Nat.ne_of_lt (blk_lt (g:=gb205) (o:=.cells #[.int .i64 a0_0,.int .i64 a0_1,.bool a0_2,.slice A0_3 l0_3.length c0_3] 68 (0,0)) (by (with_reducible repeat (first|refine kN3_ ?_ _|refine kD3_ ?_|refine blk_alloc ?_ _));exact BK205.out)):gb205≠gb206));have n6_:=mk3_ ((by rw [hg];exact Nat.ne_of_gt (blk_lt (g:=gb205) (o:=.cells #[.int .i64 a0_0,.int .i64 a0_1,.bool a0_2,.slice A0_3 l0_3.length c0_3] 68 (0,0)) (by (with_reducible repeat (first|refine kN3_ ?_ _|refine kD3_ ?_|refine blk_alloc ?_ _));exact BK205.out)):gb206≠gb205));clear BK205;clear HB;have BK205:=n0_;have HB:=n1_;have BK206:=n2_;have GW206:=n3_;have GE206:=n4_;have NB205_206:=n5_;have NB206_205:=n6_;clear n0_ n1_ n2_ n3_ n4_ n5_ n6_;clear hb hbox hg;have hnb20:=NB205_206.out;have hnc20:=NB206_205.out;have hcz21_0:w19.cell? ⟨gb205,0,none⟩=some (.int .i64 a0_0):=(blk_cell BK205.out 0).trans rfl;have hcz21_1:w19.cell? ⟨gb205,1,none⟩=some (.int .i64 a0_1):=(blk_cell BK205.out 1).trans rfl;have hcz21_2:w19.cell? ⟨gb205,2,none⟩=some (.bool a0_2):=(blk_cell BK205.out 2).trans rfl;have hcz21_3:w19.cell? ⟨gb205,3,none⟩=some (.slice A0_3 l0_3.length c0_3):=(blk_cell BK205.out 3).trans rfl;have hfz21_0:=fZ3_ BK205.out 0;have hfz21_1:=fZ3_ BK205.out 1;have hfz21_2:=fZ3_ BK205.out 2;have hfz21_3:=fZ3_ BK205.out 3;have hcz22_0:w19.cell? ⟨gb206,0,none⟩=some (.int .i64 a1_0):=(blk_cell BK206.out 0).trans rfl;have hcz22_1:w19.cell? ⟨gb206,1,none⟩=some (.int .i64 a1_1):=(blk_cell BK206.out 1).trans rfl;have hcz22_2:w19.cell? ⟨gb206,2,none⟩=some (.bool a1_2):=(blk_cell BK206.out 2).trans rfl;have hcz22_3:w19.cell? ⟨gb206,3,none⟩=some (.slice A1_3 l1_3.length c1_3):=(blk_cell BK206.out 3).trans rfl;have hfz22_0:=fZ3_ BK206.out 0;have hfz22_1:=fZ3_ BK206.out 1;have hfz22_2:=fZ3_ BK206.out 2;have hfz22_3:=fZ3_ BK206.out 3)|((with_reducible refine gate_callee (f:=66) rfl ?_);refine goesL_ (some 24) rfl rfl Try.func66 (by kernel_rfl) rfl #[.slice A0_3 l0_3.length c0_3,.slice A1_3 l1_3.length c1_3] rfl (by (try simp only [List.map_toArray,List.map_cons,List.map_nil]);first|done|rfl|(simp only [List.length_drop,List.length_take];rfl)) ?_;(with_reducible refine (laws_eqStringS.calls k _ _ l0_3 _ _ l1_3 false _ ?side1 ?side2 ?side3 ?side4 A11.out).mono ?_);(case side1=>repeat (first|exact (Kd.C_below HR0_3.out HB.out)|(with_reducible refine Kd.C_alloc ?_ _)|(with_reducible refine Kd.C_drewN ?_ _)|(with_reducible refine Kd.C_drew ?_)));(case side2=>exact HC0_3.out);(case side3=>repeat (first|exact (Kd.C_below HR1_3.out HB.out)|(with_reducible refine Kd.C_alloc ?_ _)|(with_reducible refine Kd.C_drewN ?_ _)|(with_reducible refine Kd.C_drew ?_)));(case side4=>exact HC1_3.out);rintro e w' ⟨rfl,⟨nd,rfl⟩⟩;refine ⟨_,rfl,?_⟩))
     go_ret
     exact ⟨by first|rfl|(simp [errW_none,errW_some] <;> rfl)|(simp [*,errW_none,errW_some] <;> rfl),by repeat (first|(with_reducible first|exact HB.out|apply bA3_|apply bN3_|apply bD3_|refine bS3_ ?_ GE205.out|refine bS3_ ?_ GE206.out)|exact HB.out)⟩
  ·rw [if_neg c4] at H
   have c4b0 : (a0_1 == a1_1) = false := beq_eq_false_iff_ne.mpr c4
   have c4b1 : (a0_1 != a1_1) = true := bne_iff_ne.mpr c4
   obtain rfl := Option.some.inj H
   go_enter Try.func64, Try.ntmps64
   go_wp2_with (first|((with_reducible refine gate_dst (N:=2) rfl ?_);refine box_event ?hg (N:=2) ?hd (cs:=#[.int .i64 a0_0,.int .i64 a0_1,.bool a0_2,.slice A0_3 l0_3.length c0_3]) (t:=68) ?hr ?_;(case hd=>rfl);(case hg=>rfl);(case hr=>first|(go_simp;done)|(go_simp;rfl));intro gb205 hg w23 hbox hb;have n0_:=mk3_ (bT3_ (by repeat (first|(with_reducible first|exact HB.out|apply bA3_|apply bN3_|apply bD3_)|exact HB.out)) hb);have n1_:=mk3_ (hbox);have n2_:=mk3_ ((by rw [hg];exact (bZ3_ (by repeat (first|(with_reducible first|exact HB.out|apply bA3_|apply bN3_|apply bD3_)|exact HB.out))):w.heap.size≤gb205));have n3_:=mk3_ ((by rw [hg];exact (bZ3_ (by repeat (first|(with_reducible first|exact HB.out|apply bA3_|apply bN3_|apply bD3_)|exact HB.out))):w.heap.size≤gb205));clear HB;have HB:=n0_;have BK205:=n1_;have GW205:=n2_;have GE205:=n3_;clear n0_ n1_ n2_ n3_;clear hb hbox hg)|((with_reducible refine gate_dst (N:=3) rfl ?_);refine box_event ?hg (N:=3) ?hd (cs:=#[.int .i64 a1_0,.int .i64 a1_1,.bool a1_2,.slice A1_3 l1_3.length c1_3]) (t:=68) ?hr ?_;(case hd=>rfl);(case hg=>rfl);(case hr=>first|(go_simp;done)|(go_simp;rfl));intro gb206 hg w24 hbox hb;have n0_:=mk3_ (blk_below (g:=gb205) (o:=.cells #[.int .i64 a0_0,.int .i64 a0_1,.bool a0_2,.slice A0_3 l0_3.length c0_3] 68 (0,0)) (by (with_reducible repeat (first|refine kN3_ ?_ _|refine kD3_ ?_|refine blk_alloc ?_ _));exact BK205.out) hb);have n1_:=mk3_ (bT3_ (by repeat (first|(with_reducible first|exact HB.out|apply bA3_|apply bN3_|apply bD3_|refine bS3_ ?_ GE205.out)|exact HB.out)) hb);have n2_:=mk3_ (hbox);have n3_:=mk3_ ((by rw [hg];exact (bZ3_ (by repeat (first|(with_reducible first|exact HB.out|apply bA3_|apply bN3_|apply bD3_|refine bS3_ ?_ GE205.out)|exact HB.out))):w.heap.size≤gb206));have n4_:=mk3_ ((by rw [hg];exact (bZ3_ (by repeat (first|(with_reducible first|exact HB.out|apply bA3_|apply bN3_|apply bD3_|refine bS3_ ?_ GE205.out)|exact HB.out))):w.heap.size≤gb206));have n5_:=mk3_ ((by rw [hg];exact Nat.ne_of_lt (blk_lt (g:=gb205) (o:=.cells #[.int .i64 a0_0,.int .i64 a0_1,.bool a0_2,.slice A0_3 l0_3.length c0_3] 68 (0,0)) (by (with_reducible repeat (first|refine kN3_ ?_ _|refine kD3_ ?_|refine blk_alloc ?_ _));exact BK205.out)):gb205≠gb206));have n6_:=mk3_ ((by rw [hg];exact Nat.ne_of_gt (blk_lt (g:=gb205) (o:=.cells #[.int .i64 a0_0,.int .i64 a0_1,.bool a0_2,.slice A0_3 l0_3.length c0_3] 68 (0,0)) (by (with_reducible repeat (first|refine kN3_ ?_ _|refine kD3_ ?_|refine blk_alloc ?_ _));exact BK205.out)):gb206≠gb205));clear BK205;clear HB;have BK205:=n0_;have HB:=n1_;have BK206:=n2_;have GW206:=n3_;have GE206:=n4_;have NB205_206:=n5_;have NB206_205:=n6_;clear n0_ n1_ n2_ n3_ n4_ n5_ n6_;clear hb hbox hg;have hnb25:=NB205_206.out;have hnc25:=NB206_205.out;have hcz26_0:w24.cell? ⟨gb205,0,none⟩=some (.int .i64 a0_0):=(blk_cell BK205.out 0).trans rfl;have hcz26_1:w24.cell? ⟨gb205,1,none⟩=some (.int .i64 a0_1):=(blk_cell BK205.out 1).trans rfl;have hcz26_2:w24.cell? ⟨gb205,2,none⟩=some (.bool a0_2):=(blk_cell BK205.out 2).trans rfl;have hcz26_3:w24.cell? ⟨gb205,3,none⟩=some (.slice A0_3 l0_3.length c0_3):=(blk_cell BK205.out 3).trans rfl;have hfz26_0:=fZ3_ BK205.out 0;have hfz26_1:=fZ3_ BK205.out 1;have hfz26_2:=fZ3_ BK205.out 2;have hfz26_3:=fZ3_ BK205.out 3;have hcz27_0:w24.cell? ⟨gb206,0,none⟩=some (.int .i64 a1_0):=(blk_cell BK206.out 0).trans rfl;have hcz27_1:w24.cell? ⟨gb206,1,none⟩=some (.int .i64 a1_1):=(blk_cell BK206.out 1).trans rfl;have hcz27_2:w24.cell? ⟨gb206,2,none⟩=some (.bool a1_2):=(blk_cell BK206.out 2).trans rfl;have hcz27_3:w24.cell? ⟨gb206,3,none⟩=some (.slice A1_3 l1_3.length c1_3):=(blk_cell BK206.out 3).trans rfl;have hfz27_0:=fZ3_ BK206.out 0;have hfz27_1:=fZ3_ BK206.out 1;have hfz27_2:=fZ3_ BK206.out 2;have hfz27_3:=fZ3_ BK206.out 3))
   go_ret
   exact ⟨by first|rfl|(simp [errW_none,errW_some] <;> rfl)|(simp [*,errW_none,errW_some] <;> rfl),by repeat (first|(with_reducible first|exact HB.out|apply bA3_|apply bN3_|apply bD3_|refine bS3_ ?_ GE205.out|refine bS3_ ?_ GE206.out)|exact HB.out)⟩
 ·rw [if_neg c3] at H
  have c3b0 : (a0_0 == a1_0) = false := beq_eq_false_iff_ne.mpr c3
  have c3b1 : (a0_0 != a1_0) = true := bne_iff_ne.mpr c3
  obtain rfl := Option.some.inj H
  go_enter Try.func64, Try.ntmps64
  go_wp2_with (first|((with_reducible refine gate_dst (N:=2) rfl ?_);refine box_event ?hg (N:=2) ?hd (cs:=#[.int .i64 a0_0,.int .i64 a0_1,.bool a0_2,.slice A0_3 l0_3.length c0_3]) (t:=68) ?hr ?_;(case hd=>rfl);(case hg=>rfl);(case hr=>first|(go_simp;done)|(go_simp;rfl));intro gb205 hg w28 hbox hb;have n0_:=mk3_ (bT3_ (by repeat (first|(with_reducible first|exact HB.out|apply bA3_|apply bN3_|apply bD3_)|exact HB.out)) hb);have n1_:=mk3_ (hbox);have n2_:=mk3_ ((by rw [hg];exact (bZ3_ (by repeat (first|(with_reducible first|exact HB.out|apply bA3_|apply bN3_|apply bD3_)|exact HB.out))):w.heap.size≤gb205));have n3_:=mk3_ ((by rw [hg];exact (bZ3_ (by repeat (first|(with_reducible first|exact HB.out|apply bA3_|apply bN3_|apply bD3_)|exact HB.out))):w.heap.size≤gb205));clear HB;have HB:=n0_;have BK205:=n1_;have GW205:=n2_;have GE205:=n3_;clear n0_ n1_ n2_ n3_;clear hb hbox hg)|((with_reducible refine gate_dst (N:=3) rfl ?_);refine box_event ?hg (N:=3) ?hd (cs:=#[.int .i64 a1_0,.int .i64 a1_1,.bool a1_2,.slice A1_3 l1_3.length c1_3]) (t:=68) ?hr ?_;(case hd=>rfl);(case hg=>rfl);(case hr=>first|(go_simp;done)|(go_simp;rfl));intro gb206 hg w29 hbox hb;have n0_:=mk3_ (blk_below (g:=gb205) (o:=.cells #[.int .i64 a0_0,.int .i64 a0_1,.bool a0_2,.slice A0_3 l0_3.length c0_3] 68 (0,0)) (by (with_reducible repeat (first|refine kN3_ ?_ _|refine kD3_ ?_|refine blk_alloc ?_ _));exact BK205.out) hb);have n1_:=mk3_ (bT3_ (by repeat (first|(with_reducible first|exact HB.out|apply bA3_|apply bN3_|apply bD3_|refine bS3_ ?_ GE205.out)|exact HB.out)) hb);have n2_:=mk3_ (hbox);have n3_:=mk3_ ((by rw [hg];exact (bZ3_ (by repeat (first|(with_reducible first|exact HB.out|apply bA3_|apply bN3_|apply bD3_|refine bS3_ ?_ GE205.out)|exact HB.out))):w.heap.size≤gb206));have n4_:=mk3_ ((by rw [hg];exact (bZ3_ (by repeat (first|(with_reducible first|exact HB.out|apply bA3_|apply bN3_|apply bD3_|refine bS3_ ?_ GE205.out)|exact HB.out))):w.heap.size≤gb206));have n5_:=mk3_ ((by rw [hg];exact Nat.ne_of_lt (blk_lt (g:=gb205) (o:=.cells #[.int .i64 a0_0,.int .i64 a0_1,.bool a0_2,.slice A0_3 l0_3.length c0_3] 68 (0,0)) (by (with_reducible repeat (first|refine kN3_ ?_ _|refine kD3_ ?_|refine blk_alloc ?_ _));exact BK205.out)):gb205≠gb206));have n6_:=mk3_ ((by rw [hg];exact Nat.ne_of_gt (blk_lt (g:=gb205) (o:=.cells #[.int .i64 a0_0,.int .i64 a0_1,.bool a0_2,.slice A0_3 l0_3.length c0_3] 68 (0,0)) (by (with_reducible repeat (first|refine kN3_ ?_ _|refine kD3_ ?_|refine blk_alloc ?_ _));exact BK205.out)):gb206≠gb205));clear BK205;clear HB;have BK205:=n0_;have HB:=n1_;have BK206:=n2_;have GW206:=n3_;have GE206:=n4_;have NB205_206:=n5_;have NB206_205:=n6_;clear n0_ n1_ n2_ n3_ n4_ n5_ n6_;clear hb hbox hg;have hnb30:=NB205_206.out;have hnc30:=NB206_205.out;have hcz31_0:w29.cell? ⟨gb205,0,none⟩=some (.int .i64 a0_0):=(blk_cell BK205.out 0).trans rfl;have hcz31_1:w29.cell? ⟨gb205,1,none⟩=some (.int .i64 a0_1):=(blk_cell BK205.out 1).trans rfl;have hcz31_2:w29.cell? ⟨gb205,2,none⟩=some (.bool a0_2):=(blk_cell BK205.out 2).trans rfl;have hcz31_3:w29.cell? ⟨gb205,3,none⟩=some (.slice A0_3 l0_3.length c0_3):=(blk_cell BK205.out 3).trans rfl;have hfz31_0:=fZ3_ BK205.out 0;have hfz31_1:=fZ3_ BK205.out 1;have hfz31_2:=fZ3_ BK205.out 2;have hfz31_3:=fZ3_ BK205.out 3;have hcz32_0:w29.cell? ⟨gb206,0,none⟩=some (.int .i64 a1_0):=(blk_cell BK206.out 0).trans rfl;have hcz32_1:w29.cell? ⟨gb206,1,none⟩=some (.int .i64 a1_1):=(blk_cell BK206.out 1).trans rfl;have hcz32_2:w29.cell? ⟨gb206,2,none⟩=some (.bool a1_2):=(blk_cell BK206.out 2).trans rfl;have hcz32_3:w29.cell? ⟨gb206,3,none⟩=some (.slice A1_3 l1_3.length c1_3):=(blk_cell BK206.out 3).trans rfl;have hfz32_0:=fZ3_ BK206.out 0;have hfz32_1:=fZ3_ BK206.out 1;have hfz32_2:=fZ3_ BK206.out 2;have hfz32_3:=fZ3_ BK206.out 3))
  go_ret
  exact ⟨by first|rfl|(simp [errW_none,errW_some] <;> rfl)|(simp [*,errW_none,errW_some] <;> rfl),by repeat (first|(with_reducible first|exact HB.out|apply bA3_|apply bN3_|apply bD3_|refine bS3_ ?_ GE205.out|refine bS3_ ?_ GE206.out)|exact HB.out)⟩

def laws_eqBlockS.l0 : Nat → List (S68) → List (S68) → Int → Option (Bool)
 | 0, _, _, _ => none
 | k+1,x0,x1,x5=>if x5 < (x0.length:Int) then (if 0≤x5 then (if x5 < (x1.length:Int) then ((laws_eqBlock.f k ((rd_T68 x0 x5).f0) ((rd_T68 x0 x5).f1) ((rd_T68 x0 x5).f2) ((rd_T68 x0 x5).f3) ((rd_T68 x1 x5).f0) ((rd_T68 x1 x5).f1) ((rd_T68 x1 x5).f2) ((rd_T68 x1 x5).f3)).bind fun t210=>(if t210=true then (laws_eqBlockS.l0 k x0 x1 (wrap64 (x5+1))) else (some false))) else (none)) else (none)) else (some true)
def laws_eqBlockS.f (k:Nat) (l0:List (S68)) (l1:List (S68)):Option (Bool):=if (l0.length:Int)=(l1.length:Int) then (laws_eqBlockS.l0 k l0 l1 0) else (some false)
def laws_eqBlockS.T6:Bool × List (List Nat × List Nat):=(true,[([],[]),([],[]),([0,1],[0,1]),([2],[2]),([],[]),([],[]),([4,5],[4,5]),([6],[6]),([3,7],[3,7]),([8],[8])])
def laws_eqBlockS.B6 : List Nat := [0, 0, 3, 7, 0, 0, 48, 112, 255, 511]
theorem laws_eqBlockS.tab6 : rtab .any (opsOf Try.f51 6) = laws_eqBlockS.T6 := by kernel_rfl
theorem laws_eqBlockS.bits6 : waitsOk laws_eqBlockS.T6.2 laws_eqBlockS.B6 = true := by kernel_rfl
set_option maxHeartbeats 8000000 in
set_option maxRecDepth 100000 in
theorem laws_eqBlockS.calls (k:Nat) (A0:Option Addr) (c0:Nat) (l0:List (S68)) (A1:Option Addr) (c1:Nat) (l1:List (S68)) (r:Bool) (w:World) (hr0:Kd.C k68 w A0 l0.length l0) (hc0:l0.length≤c0) (hr1:Kd.C k68 w A1 l1.length l1) (hc1:l1.length≤c1) (h:laws_eqBlockS.f k l0 l1=some r) :
  Calls Try.prog 51 #[.slice A0 l0.length c0,.slice A1 l1.length c1] w fun e w'=>e=.returned (.bool r)∧Below w.heap.size w w':=by
 have hu68 := Try.underlying68
 have HR0 := Aside0.mk hr0
 have HC0 := Aside0.mk hc0
 clear hr0 hc0
 have HR1 := Aside0.mk hr1
 have HC1 := Aside0.mk hc1
 clear hr1 hc1
 have HB := Aside0.mk (Below.refl w.heap.size w)
 have H:(if (l0.length:Int)=(l1.length:Int) then (laws_eqBlockS.l0 k l0 l1 0) else (some false))=some r:=h
 clear h
 by_cases c3 : (l0.length : Int) = (l1.length : Int)
 ·rw [if_pos c3] at H
  have c3b0 : ((l0.length : Int) == (l1.length : Int)) = true := beq_iff_eq.mpr c3
  have c3b1 : ((l0.length : Int) != (l1.length : Int)) = false := bne_eq_false_iff_eq.mpr c3
  have c3b2:(l0.length == l1.length)=true:=by first|simpa using c3|(simp at c3 ⊢;omega)
  clear c3
  have H' := Aside0.mk H
  clear H
  go_enter Try.func51, Try.ntmps51
  go_wp2
  go_loopg [5] k (fun kq v5 w'=>∃ (x5_1:Int),v5=.int .i64 x5_1∧Aside0 (laws_eqBlockS.l0 kq l0 l1 x5_1=some r)∧Aside0 (kq≤k)∧Aside0 (Below w.heap.size w w'))
  case atStart=>exact ⟨(0),(by first|rfl|(simp;done)|(simp [*];done)),H',⟨Nat.le_refl _⟩,⟨by repeat (first|(with_reducible first|exact HB.out|apply bA3_|apply bN3_|apply bD3_)|exact HB.out)⟩⟩
  case round =>
   clear H'
   try clear c1
   try clear p2
   try clear c3
   try clear c3b0
   try clear c3b1
   try clear c3b2
   obtain ⟨x5_1, rfl, HA, HK1, HB⟩ := hrel
   cases gk with
   | zero => exact absurd HA.out (by simp [laws_eqBlockS.l0])
   | succ k1 =>
    have H := HA.out
    clear HA
    simp only [laws_eqBlockS.l0] at H
    by_cases c4 : x5_1 < (l0.length : Int)
    ·rw [if_pos c4] at H
     have c4b0 : decide (x5_1 < (l0.length : Int)) = true := decide_eq_true c4
     clear c4
     by_cases c5 : 0 ≤ x5_1
     ·rw [if_pos c5] at H
      have c5b0 : decide (0 ≤ x5_1) = true := decide_eq_true c5
      clear c5
      by_cases c6 : x5_1 < (l1.length : Int)
      ·rw [if_pos c6] at H
       have c6b0 : decide (x5_1 < (l1.length : Int)) = true := decide_eq_true c6
       clear c6
       replace H := Option.bind_eq_some_iff.mp H
       obtain ⟨t210, A70, H⟩ := H
       replace H:(if t210=true then (laws_eqBlockS.l0 k1 l0 l1 (wrap64 (x5_1+1))) else (some false))=some r:=H
       have A7 := Aside0.mk A70
       clear A70
       by_cases c8 : t210 = true
       ·subst c8
        have H1:(laws_eqBlockS.l0 k1 l0 l1 (wrap64 (x5_1+1)))=some r:=by rw [if_pos rfl] at H;exact H
        clear H
        have H := H1
        clear H1
        have H' := Aside0.mk H
        clear H
        try go_wp2
        have n0_ := Aside0.mk (below_drew1 HB.out)
        clear HB
        have HB := n0_
        clear n0_
        have p208:0≤(x5_1:Int):=of_decide_eq_true (by first|(with_reducible assumption)|assumption)
        have q208:x5_1 < (l0.length:Int):=of_decide_eq_true (by first|(with_reducible assumption)|assumption)
        obtain ⟨ad208,A208_3,c208_3,e208,hx208_0,hx208_1,hx208_2,hx208_3,hl208_3,hi208_3⟩:=at_T68 HR0.out x5_1 p208 q208
        have hw208_3 := hx208_3
        have hw208_2 := hx208_2
        have hw208_1 := hx208_1
        have hw208_0 := hx208_0
        cases e208
        replace hx208_0:=(HB.out.cell (World.block_lt_of_cell? w _ hx208_0)).trans hx208_0
        replace hx208_1:=(HB.out.cell (World.block_lt_of_cell? w _ hx208_1)).trans hx208_1
        replace hx208_2:=(HB.out.cell (World.block_lt_of_cell? w _ hx208_2)).trans hx208_2
        replace hx208_3:=(HB.out.cell (World.block_lt_of_cell? w _ hx208_3)).trans hx208_3
        have HR208_3 := Aside0.mk hi208_3
        have HC208_3 := Aside0.mk hl208_3
        clear hi208_3 hl208_3
        replace p208 := eq_true p208
        replace q208 := eq_true q208
        have p209:0≤(x5_1:Int):=of_decide_eq_true (by first|(with_reducible assumption)|assumption)
        have q209:x5_1 < (l1.length:Int):=of_decide_eq_true (by first|(with_reducible assumption)|assumption)
        obtain ⟨ad209,A209_3,c209_3,e209,hx209_0,hx209_1,hx209_2,hx209_3,hl209_3,hi209_3⟩:=at_T68 HR1.out x5_1 p209 q209
        have hw209_3 := hx209_3
        have hw209_2 := hx209_2
        have hw209_1 := hx209_1
        have hw209_0 := hx209_0
        cases e209
        replace hx209_0:=(HB.out.cell (World.block_lt_of_cell? w _ hx209_0)).trans hx209_0
        replace hx209_1:=(HB.out.cell (World.block_lt_of_cell? w _ hx209_1)).trans hx209_1
        replace hx209_2:=(HB.out.cell (World.block_lt_of_cell? w _ hx209_2)).trans hx209_2
        replace hx209_3:=(HB.out.cell (World.block_lt_of_cell? w _ hx209_3)).trans hx209_3
        have HR209_3 := Aside0.mk hi209_3
        have HC209_3 := Aside0.mk hl209_3
        clear hi209_3 hl209_3
        replace p209 := eq_true p209
        replace q209 := eq_true q209
        refine start_ (n:=10) (S:=fun w'=>w'.cell? (ad208.add ((x5_1).toNat * 4))=some (.int .i64 ((rd_T68 l0 x5_1).f0))∧w'.cell? ⟨(ad208.add ((x5_1).toNat * 4)).block,(ad208.add ((x5_1).toNat * 4)).off+1,none⟩=some (.int .i64 ((rd_T68 l0 x5_1).f1))∧w'.cell? ⟨(ad208.add ((x5_1).toNat * 4)).block,(ad208.add ((x5_1).toNat * 4)).off+2,none⟩=some (.bool ((rd_T68 l0 x5_1).f2))∧w'.cell? ⟨(ad208.add ((x5_1).toNat * 4)).block,(ad208.add ((x5_1).toNat * 4)).off+3,none⟩=some (.slice A208_3 ((rd_T68 l0 x5_1).f3).length c208_3)∧w'.cell? (ad209.add ((x5_1).toNat * 4))=some (.int .i64 ((rd_T68 l1 x5_1).f0))∧w'.cell? ⟨(ad209.add ((x5_1).toNat * 4)).block,(ad209.add ((x5_1).toNat * 4)).off+1,none⟩=some (.int .i64 ((rd_T68 l1 x5_1).f1))∧w'.cell? ⟨(ad209.add ((x5_1).toNat * 4)).block,(ad209.add ((x5_1).toNat * 4)).off+2,none⟩=some (.bool ((rd_T68 l1 x5_1).f2))∧w'.cell? ⟨(ad209.add ((x5_1).toNat * 4)).block,(ad209.add ((x5_1).toNat * 4)).off+3,none⟩=some (.slice A209_3 ((rd_T68 l1 x5_1).f3).length c209_3)) (ds:=[]) #[false,false,false,false,false,false,false,false,false,false] (by kernel_rfl) rfl rfl ⟨((HB.out.cell (World.block_lt_of_cell? w _ hw208_0)).trans hw208_0),((HB.out.cell (World.block_lt_of_cell? w _ hw208_1)).trans hw208_1),((HB.out.cell (World.block_lt_of_cell? w _ hw208_2)).trans hw208_2),((HB.out.cell (World.block_lt_of_cell? w _ hw208_3)).trans hw208_3),((HB.out.cell (World.block_lt_of_cell? w _ hw209_0)).trans hw209_0),((HB.out.cell (World.block_lt_of_cell? w _ hw209_1)).trans hw209_1),((HB.out.cell (World.block_lt_of_cell? w _ hw209_2)).trans hw209_2),((HB.out.cell (World.block_lt_of_cell? w _ hw209_3)).trans hw209_3)⟩ (fun hHeld=>?_);refine with_tabW laws_eqBlockS.tab6 laws_eqBlockS.bits6 (fun HT_ HW_=>?_)
        generalize wr.drew=w9 at HB HR208_3 HR209_3 hx208_0 hx208_1 hx208_2 hx208_3 hx209_0 hx209_1 hx209_2 hx209_3 hHeld ⊢
        refine pure_ (i:=0) (N:=some 17) (v:=?_) (a':=?_) #[true,false,false,false,false,false,false,false,false,false] rfl rfl (any_of HT_.out (by kernel_rfl)) (fun _ _ _ h=>h) (Or.inl ⟨by rfl,?_⟩) ?_ ?_
        rotate_left
        ·intro w'
         go_simp
         with_reducible rfl
        rotate_left
        ·simp only [Act.put,List.setIfInBounds_toArray,List.set_cons_zero,List.set_cons_succ,i64_w,i32_w]
         rfl
        refine pure_ (i:=1) (N:=some 18) (v:=?_) (a':=?_) #[true,true,false,false,false,false,false,false,false,false] rfl rfl (any_of HT_.out (by kernel_rfl)) (fun _ _ _ h=>h) (Or.inl ⟨by rfl,?_⟩) ?_ ?_
        rotate_left
        ·intro w'
         go_simp
         with_reducible rfl
        rotate_left
        ·simp only [Act.put,List.setIfInBounds_toArray,List.set_cons_zero,List.set_cons_succ,i64_w,i32_w]
         rfl
        refine pure_ (i:=2) (N:=some 19) (v:=?_) (a':=?_) #[true,true,true,false,false,false,false,false,false,false] rfl rfl (any_of HT_.out (by kernel_rfl)) (fun _ _ _ h=>h) (Or.inl ⟨by rfl,?_⟩) ?_ ?_
        rotate_left
        ·intro w'
         go_simp
         with_reducible rfl
        rotate_left
        ·simp only [Act.put,List.setIfInBounds_toArray,List.set_cons_zero,List.set_cons_succ,i64_w,i32_w]
         rfl
        refine pure_ (i:=4) (N:=some 21) (v:=?_) (a':=?_) #[true,true,true,false,true,false,false,false,false,false] rfl rfl (any_of HT_.out (by kernel_rfl)) (fun _ _ _ h=>h) (Or.inl ⟨by rfl,?_⟩) ?_ ?_
        rotate_left
        ·intro w'
         go_simp
         with_reducible rfl
        rotate_left
        ·simp only [Act.put,List.setIfInBounds_toArray,List.set_cons_zero,List.set_cons_succ,i64_w,i32_w]
         rfl
        refine pure_ (i:=5) (N:=some 22) (v:=?_) (a':=?_) #[true,true,true,false,true,true,false,false,false,false] rfl rfl (any_of HT_.out (by kernel_rfl)) (fun _ _ _ h=>h) (Or.inl ⟨by rfl,?_⟩) ?_ ?_
        rotate_left
        ·intro w'
         go_simp
         with_reducible rfl
        rotate_left
        ·simp only [Act.put,List.setIfInBounds_toArray,List.set_cons_zero,List.set_cons_succ,i64_w,i32_w]
         rfl
        refine pure_ (i:=6) (N:=some 23) (v:=?_) (a':=?_) #[true,true,true,false,true,true,true,false,false,false] rfl rfl (any_of HT_.out (by kernel_rfl)) (fun _ _ _ h=>h) (Or.inl ⟨by rfl,?_⟩) ?_ ?_
        rotate_left
        ·intro w'
         go_simp
         with_reducible rfl
        rotate_left
        ·simp only [Act.put,List.setIfInBounds_toArray,List.set_cons_zero,List.set_cons_succ,i64_w,i32_w]
         rfl
        refine take_ (i:=3) (N:=some 20) (v:=?_) (a':=?_) #[true,true,true,true,true,true,true,false,false,false] rfl rfl (take_ofW HT_.out HW_.out (by kernel_rfl)) (fun _ _ _ h=>h) (Or.inl ⟨by rfl,?_⟩) hHeld ?_ ?_
        rotate_left
        ·rintro w' ⟨s0, s1, s2, s3, s4, s5, s6, s7⟩
         go_simp
         with_reducible rfl
        rotate_left
        ·simp only [Act.put,List.setIfInBounds_toArray,List.set_cons_zero,List.set_cons_succ,i64_w,i32_w]
         rfl
        refine take_ (i:=7) (N:=some 24) (v:=?_) (a':=?_) #[true,true,true,true,true,true,true,true,false,false] rfl rfl (take_ofW HT_.out HW_.out (by kernel_rfl)) (fun _ _ _ h=>h) (Or.inl ⟨by rfl,?_⟩) hHeld ?_ ?_
        rotate_left
        ·rintro w' ⟨s0, s1, s2, s3, s4, s5, s6, s7⟩
         go_simp
         with_reducible rfl
        rotate_left
        ·simp only [Act.put,List.setIfInBounds_toArray,List.set_cons_zero,List.set_cons_succ,i64_w,i32_w]
         rfl
        refine one_ (i:=8) (N:=some 25) #[true,true,true,true,true,true,true,true,true,false] rfl rfl (one_of HT_.out (by kernel_rfl)) (by decide) (fun K hK=>?_)
        refine goes_ Try.func64 (by kernel_rfl) rfl #[.agg #[.int .i64 ((rd_T68 l0 x5_1).f0),.int .i64 ((rd_T68 l0 x5_1).f1),.bool ((rd_T68 l0 x5_1).f2),.slice A208_3 ((rd_T68 l0 x5_1).f3).length c208_3],.agg #[.int .i64 ((rd_T68 l1 x5_1).f0),.int .i64 ((rd_T68 l1 x5_1).f1),.bool ((rd_T68 l1 x5_1).f2),.slice A209_3 ((rd_T68 l1 x5_1).f3).length c209_3]] (by rfl) rfl rfl (by (try simp only [List.map_toArray,List.map_cons,List.map_nil]);first|done|rfl|(simp only [List.length_drop,List.length_take];rfl)) ?_
        with_reducible refine (laws_eqBlock.calls k1 ((rd_T68 l0 x5_1).f0) ((rd_T68 l0 x5_1).f1) ((rd_T68 l0 x5_1).f2) _ _ ((rd_T68 l0 x5_1).f3) ((rd_T68 l1 x5_1).f0) ((rd_T68 l1 x5_1).f1) ((rd_T68 l1 x5_1).f2) _ _ ((rd_T68 l1 x5_1).f3) true _ ?side1 ?side2 ?side3 ?side4 A7.out).mono ?_
        (case side1=>repeat (first|exact (Kd.C_below HR208_3.out HB.out)|(with_reducible refine Kd.C_alloc ?_ _)|(with_reducible refine Kd.C_drewN ?_ _)|(with_reducible refine Kd.C_drew ?_)))
        (case side2 => exact HC208_3.out)
        (case side3=>repeat (first|exact (Kd.C_below HR209_3.out HB.out)|(with_reducible refine Kd.C_alloc ?_ _)|(with_reducible refine Kd.C_drewN ?_ _)|(with_reducible refine Kd.C_drew ?_)))
        (case side4 => exact HC209_3.out)
        rintro e w10 ⟨rfl, hb⟩
        refine ⟨_, rfl, ?_⟩
        have n0_:=mk3_ (bT3_ (by repeat (first|(with_reducible first|exact HB.out|apply bA3_|apply bN3_|apply bD3_)|exact HB.out)) hb)
        clear HB
        have HB := n0_
        clear n0_
        (try clear hb)
        (try clear hb2)
        (try clear hk)
        (try clear hi)
        refine hK.out _ _ ⟨((HB.out.cell (World.block_lt_of_cell? w _ hw208_0)).trans hw208_0),((HB.out.cell (World.block_lt_of_cell? w _ hw208_1)).trans hw208_1),((HB.out.cell (World.block_lt_of_cell? w _ hw208_2)).trans hw208_2),((HB.out.cell (World.block_lt_of_cell? w _ hw208_3)).trans hw208_3),((HB.out.cell (World.block_lt_of_cell? w _ hw209_0)).trans hw209_0),((HB.out.cell (World.block_lt_of_cell? w _ hw209_1)).trans hw209_1),((HB.out.cell (World.block_lt_of_cell? w _ hw209_2)).trans hw209_2),((HB.out.cell (World.block_lt_of_cell? w _ hw209_3)).trans hw209_3)⟩ (fun hHeld=>?_)
        clear hK K
        refine norm_ (a' := ?_) ?_ ?_
        rotate_left
        ·show Act.put _ (some 25) _ = _
         simp only [Act.put,List.setIfInBounds_toArray,List.set_cons_zero,List.set_cons_succ,i64_w,i32_w]
         rfl
        refine pure_ (i:=9) (N:=some 26) (v:=?_) (a':=?_) #[true,true,true,true,true,true,true,true,true,true] rfl rfl (any_of HT_.out (by kernel_rfl)) (fun _ _ _ h=>h) (Or.inl ⟨by rfl,?_⟩) ?_ ?_
        rotate_left
        ·intro w'
         go_simp
         with_reducible rfl
        rotate_left
        ·simp only [Act.put,List.setIfInBounds_toArray,List.set_cons_zero,List.set_cons_succ,i64_w,i32_w]
         rfl
        refine done_ (done_of HT_.out (by kernel_rfl)) ?_
        try go_wp2
        go_roundg k1
        case measure => have := HK1.out; omega
        case rel=>exact ⟨(wrap64 (x5_1+1)),(by first|rfl|(simp;done)|(simp [*];done)),H',⟨by have:=HK1.out;omega⟩,⟨by repeat (first|(with_reducible first|exact HB.out|apply bA3_|apply bN3_|apply bD3_)|exact HB.out)⟩⟩
       ·replace c8 := Bool.eq_false_iff.mpr c8
        subst c8
        have H1:(some false)=some r:=by rw [if_neg (show ¬ (false=true) by decide)] at H;exact H
        clear H
        have H := H1
        clear H1
        obtain rfl := Option.some.inj H
        try go_wp2
        have n0_ := Aside0.mk (below_drew1 HB.out)
        clear HB
        have HB := n0_
        clear n0_
        have p208:0≤(x5_1:Int):=of_decide_eq_true (by first|(with_reducible assumption)|assumption)
        have q208:x5_1 < (l0.length:Int):=of_decide_eq_true (by first|(with_reducible assumption)|assumption)
        obtain ⟨ad208,A208_3,c208_3,e208,hx208_0,hx208_1,hx208_2,hx208_3,hl208_3,hi208_3⟩:=at_T68 HR0.out x5_1 p208 q208
        have hw208_3 := hx208_3
        have hw208_2 := hx208_2
        have hw208_1 := hx208_1
        have hw208_0 := hx208_0
        cases e208
        replace hx208_0:=(HB.out.cell (World.block_lt_of_cell? w _ hx208_0)).trans hx208_0
        replace hx208_1:=(HB.out.cell (World.block_lt_of_cell? w _ hx208_1)).trans hx208_1
        replace hx208_2:=(HB.out.cell (World.block_lt_of_cell? w _ hx208_2)).trans hx208_2
        replace hx208_3:=(HB.out.cell (World.block_lt_of_cell? w _ hx208_3)).trans hx208_3
        have HR208_3 := Aside0.mk hi208_3
        have HC208_3 := Aside0.mk hl208_3
        clear hi208_3 hl208_3
        replace p208 := eq_true p208
        replace q208 := eq_true q208
        have p209:0≤(x5_1:Int):=of_decide_eq_true (by first|(with_reducible assumption)|assumption)
        have q209:x5_1 < (l1.length:Int):=of_decide_eq_true (by first|(with_reducible assumption)|assumption)
        obtain ⟨ad209,A209_3,c209_3,e209,hx209_0,hx209_1,hx209_2,hx209_3,hl209_3,hi209_3⟩:=at_T68 HR1.out x5_1 p209 q209
        have hw209_3 := hx209_3
        have hw209_2 := hx209_2
        have hw209_1 := hx209_1
        have hw209_0 := hx209_0
        cases e209
        replace hx209_0:=(HB.out.cell (World.block_lt_of_cell? w _ hx209_0)).trans hx209_0
        replace hx209_1:=(HB.out.cell (World.block_lt_of_cell? w _ hx209_1)).trans hx209_1
        replace hx209_2:=(HB.out.cell (World.block_lt_of_cell? w _ hx209_2)).trans hx209_2
        replace hx209_3:=(HB.out.cell (World.block_lt_of_cell? w _ hx209_3)).trans hx209_3
        have HR209_3 := Aside0.mk hi209_3
        have HC209_3 := Aside0.mk hl209_3
        clear hi209_3 hl209_3
        replace p209 := eq_true p209
        replace q209 := eq_true q209
        refine start_ (n:=10) (S:=fun w'=>w'.cell? (ad208.add ((x5_1).toNat * 4))=some (.int .i64 ((rd_T68 l0 x5_1).f0))∧w'.cell? ⟨(ad208.add ((x5_1).toNat * 4)).block,(ad208.add ((x5_1).toNat * 4)).off+1,none⟩=some (.int .i64 ((rd_T68 l0 x5_1).f1))∧w'.cell? ⟨(ad208.add ((x5_1).toNat * 4)).block,(ad208.add ((x5_1).toNat * 4)).off+2,none⟩=some (.bool ((rd_T68 l0 x5_1).f2))∧w'.cell? ⟨(ad208.add ((x5_1).toNat * 4)).block,(ad208.add ((x5_1).toNat * 4)).off+3,none⟩=some (.slice A208_3 ((rd_T68 l0 x5_1).f3).length c208_3)∧w'.cell? (ad209.add ((x5_1).toNat * 4))=some (.int .i64 ((rd_T68 l1 x5_1).f0))∧w'.cell? ⟨(ad209.add ((x5_1).toNat * 4)).block,(ad209.add ((x5_1).toNat * 4)).off+1,none⟩=some (.int .i64 ((rd_T68 l1 x5_1).f1))∧w'.cell? ⟨(ad209.add ((x5_1).toNat * 4)).block,(ad209.add ((x5_1).toNat * 4)).off+2,none⟩=some (.bool ((rd_T68 l1 x5_1).f2))∧w'.cell? ⟨(ad209.add ((x5_1).toNat * 4)).block,(ad209.add ((x5_1).toNat * 4)).off+3,none⟩=some (.slice A209_3 ((rd_T68 l1 x5_1).f3).length c209_3)) (ds:=[]) #[false,false,false,false,false,false,false,false,false,false] (by kernel_rfl) rfl rfl ⟨((HB.out.cell (World.block_lt_of_cell? w _ hw208_0)).trans hw208_0),((HB.out.cell (World.block_lt_of_cell? w _ hw208_1)).trans hw208_1),((HB.out.cell (World.block_lt_of_cell? w _ hw208_2)).trans hw208_2),((HB.out.cell (World.block_lt_of_cell? w _ hw208_3)).trans hw208_3),((HB.out.cell (World.block_lt_of_cell? w _ hw209_0)).trans hw209_0),((HB.out.cell (World.block_lt_of_cell? w _ hw209_1)).trans hw209_1),((HB.out.cell (World.block_lt_of_cell? w _ hw209_2)).trans hw209_2),((HB.out.cell (World.block_lt_of_cell? w _ hw209_3)).trans hw209_3)⟩ (fun hHeld=>?_);refine with_tabW laws_eqBlockS.tab6 laws_eqBlockS.bits6 (fun HT_ HW_=>?_)
        generalize wr.drew=w11 at HB HR208_3 HR209_3 hx208_0 hx208_1 hx208_2 hx208_3 hx209_0 hx209_1 hx209_2 hx209_3 hHeld ⊢
        refine pure_ (i:=0) (N:=some 17) (v:=?_) (a':=?_) #[true,false,false,false,false,false,false,false,false,false] rfl rfl (any_of HT_.out (by kernel_rfl)) (fun _ _ _ h=>h) (Or.inl ⟨by rfl,?_⟩) ?_ ?_
        rotate_left
        ·intro w'
         go_simp
         with_reducible rfl
        rotate_left
        ·simp only [Act.put,List.setIfInBounds_toArray,List.set_cons_zero,List.set_cons_succ,i64_w,i32_w]
         rfl
        refine pure_ (i:=1) (N:=some 18) (v:=?_) (a':=?_) #[true,true,false,false,false,false,false,false,false,false] rfl rfl (any_of HT_.out (by kernel_rfl)) (fun _ _ _ h=>h) (Or.inl ⟨by rfl,?_⟩) ?_ ?_
        rotate_left
        ·intro w'
         go_simp
         with_reducible rfl
        rotate_left
        ·simp only [Act.put,List.setIfInBounds_toArray,List.set_cons_zero,List.set_cons_succ,i64_w,i32_w]
         rfl
        refine pure_ (i:=2) (N:=some 19) (v:=?_) (a':=?_) #[true,true,true,false,false,false,false,false,false,false] rfl rfl (any_of HT_.out (by kernel_rfl)) (fun _ _ _ h=>h) (Or.inl ⟨by rfl,?_⟩) ?_ ?_
        rotate_left
        ·intro w'
         go_simp
         with_reducible rfl
        rotate_left
        ·simp only [Act.put,List.setIfInBounds_toArray,List.set_cons_zero,List.set_cons_succ,i64_w,i32_w]
         rfl
        refine pure_ (i:=4) (N:=some 21) (v:=?_) (a':=?_) #[true,true,true,false,true,false,false,false,false,false] rfl rfl (any_of HT_.out (by kernel_rfl)) (fun _ _ _ h=>h) (Or.inl ⟨by rfl,?_⟩) ?_ ?_
        rotate_left
        ·intro w'
         go_simp
         with_reducible rfl
        rotate_left
        ·simp only [Act.put,List.setIfInBounds_toArray,List.set_cons_zero,List.set_cons_succ,i64_w,i32_w]
         rfl
        refine pure_ (i:=5) (N:=some 22) (v:=?_) (a':=?_) #[true,true,true,false,true,true,false,false,false,false] rfl rfl (any_of HT_.out (by kernel_rfl)) (fun _ _ _ h=>h) (Or.inl ⟨by rfl,?_⟩) ?_ ?_
        rotate_left
        ·intro w'
         go_simp
         with_reducible rfl
        rotate_left
        ·simp only [Act.put,List.setIfInBounds_toArray,List.set_cons_zero,List.set_cons_succ,i64_w,i32_w]
         rfl
        refine pure_ (i:=6) (N:=some 23) (v:=?_) (a':=?_) #[true,true,true,false,true,true,true,false,false,false] rfl rfl (any_of HT_.out (by kernel_rfl)) (fun _ _ _ h=>h) (Or.inl ⟨by rfl,?_⟩) ?_ ?_
        rotate_left
        ·intro w'
         go_simp
         with_reducible rfl
        rotate_left
        ·simp only [Act.put,List.setIfInBounds_toArray,List.set_cons_zero,List.set_cons_succ,i64_w,i32_w]
         rfl
        refine take_ (i:=3) (N:=some 20) (v:=?_) (a':=?_) #[true,true,true,true,true,true,true,false,false,false] rfl rfl (take_ofW HT_.out HW_.out (by kernel_rfl)) (fun _ _ _ h=>h) (Or.inl ⟨by rfl,?_⟩) hHeld ?_ ?_
        rotate_left
        ·rintro w' ⟨s0, s1, s2, s3, s4, s5, s6, s7⟩
         go_simp
         with_reducible rfl
        rotate_left
        ·simp only [Act.put,List.setIfInBounds_toArray,List.set_cons_zero,List.set_cons_succ,i64_w,i32_w]
         rfl
        refine take_ (i:=7) (N:=some 24) (v:=?_) (a':=?_) #[true,true,true,true,true,true,true,true,false,false] rfl rfl (take_ofW HT_.out HW_.out (by kernel_rfl)) (fun _ _ _ h=>h) (Or.inl ⟨by rfl,?_⟩) hHeld ?_ ?_
        rotate_left
        ·rintro w' ⟨s0, s1, s2, s3, s4, s5, s6, s7⟩
         go_simp
         with_reducible rfl
        rotate_left
        ·simp only [Act.put,List.setIfInBounds_toArray,List.set_cons_zero,List.set_cons_succ,i64_w,i32_w]
         rfl
        refine one_ (i:=8) (N:=some 25) #[true,true,true,true,true,true,true,true,true,false] rfl rfl (one_of HT_.out (by kernel_rfl)) (by decide) (fun K hK=>?_)
        refine goes_ Try.func64 (by kernel_rfl) rfl #[.agg #[.int .i64 ((rd_T68 l0 x5_1).f0),.int .i64 ((rd_T68 l0 x5_1).f1),.bool ((rd_T68 l0 x5_1).f2),.slice A208_3 ((rd_T68 l0 x5_1).f3).length c208_3],.agg #[.int .i64 ((rd_T68 l1 x5_1).f0),.int .i64 ((rd_T68 l1 x5_1).f1),.bool ((rd_T68 l1 x5_1).f2),.slice A209_3 ((rd_T68 l1 x5_1).f3).length c209_3]] (by rfl) rfl rfl (by (try simp only [List.map_toArray,List.map_cons,List.map_nil]);first|done|rfl|(simp only [List.length_drop,List.length_take];rfl)) ?_
        with_reducible refine (laws_eqBlock.calls k1 ((rd_T68 l0 x5_1).f0) ((rd_T68 l0 x5_1).f1) ((rd_T68 l0 x5_1).f2) _ _ ((rd_T68 l0 x5_1).f3) ((rd_T68 l1 x5_1).f0) ((rd_T68 l1 x5_1).f1) ((rd_T68 l1 x5_1).f2) _ _ ((rd_T68 l1 x5_1).f3) false _ ?side1 ?side2 ?side3 ?side4 A7.out).mono ?_
        (case side1=>repeat (first|exact (Kd.C_below HR208_3.out HB.out)|(with_reducible refine Kd.C_alloc ?_ _)|(with_reducible refine Kd.C_drewN ?_ _)|(with_reducible refine Kd.C_drew ?_)))
        (case side2 => exact HC208_3.out)
        (case side3=>repeat (first|exact (Kd.C_below HR209_3.out HB.out)|(with_reducible refine Kd.C_alloc ?_ _)|(with_reducible refine Kd.C_drewN ?_ _)|(with_reducible refine Kd.C_drew ?_)))
        (case side4 => exact HC209_3.out)
        rintro e w12 ⟨rfl, hb⟩
        refine ⟨_, rfl, ?_⟩
        have n0_:=mk3_ (bT3_ (by repeat (first|(with_reducible first|exact HB.out|apply bA3_|apply bN3_|apply bD3_)|exact HB.out)) hb)
        clear HB
        have HB := n0_
        clear n0_
        (try clear hb)
        (try clear hb2)
        (try clear hk)
        (try clear hi)
        refine hK.out _ _ ⟨((HB.out.cell (World.block_lt_of_cell? w _ hw208_0)).trans hw208_0),((HB.out.cell (World.block_lt_of_cell? w _ hw208_1)).trans hw208_1),((HB.out.cell (World.block_lt_of_cell? w _ hw208_2)).trans hw208_2),((HB.out.cell (World.block_lt_of_cell? w _ hw208_3)).trans hw208_3),((HB.out.cell (World.block_lt_of_cell? w _ hw209_0)).trans hw209_0),((HB.out.cell (World.block_lt_of_cell? w _ hw209_1)).trans hw209_1),((HB.out.cell (World.block_lt_of_cell? w _ hw209_2)).trans hw209_2),((HB.out.cell (World.block_lt_of_cell? w _ hw209_3)).trans hw209_3)⟩ (fun hHeld=>?_)
        clear hK K
        refine norm_ (a' := ?_) ?_ ?_
        rotate_left
        ·show Act.put _ (some 25) _ = _
         simp only [Act.put,List.setIfInBounds_toArray,List.set_cons_zero,List.set_cons_succ,i64_w,i32_w]
         rfl
        refine pure_ (i:=9) (N:=some 26) (v:=?_) (a':=?_) #[true,true,true,true,true,true,true,true,true,true] rfl rfl (any_of HT_.out (by kernel_rfl)) (fun _ _ _ h=>h) (Or.inl ⟨by rfl,?_⟩) ?_ ?_
        rotate_left
        ·intro w'
         go_simp
         with_reducible rfl
        rotate_left
        ·simp only [Act.put,List.setIfInBounds_toArray,List.set_cons_zero,List.set_cons_succ,i64_w,i32_w]
         rfl
        refine done_ (done_of HT_.out (by kernel_rfl)) ?_
        try go_wp2
        go_ret
        exact ⟨by first|rfl|(simp [errW_none,errW_some] <;> rfl)|(simp [*,errW_none,errW_some] <;> rfl),by repeat (first|(with_reducible first|exact HB.out|apply bA3_|apply bN3_|apply bD3_)|exact HB.out)⟩
      ·rw [if_neg c6] at H
       exact absurd H (by simp)
     ·rw [if_neg c5] at H
      exact absurd H (by simp)
    ·rw [if_neg c4] at H
     have c4b0 : decide (x5_1 < (l0.length : Int)) = false := decide_eq_false c4
     clear c4
     obtain rfl := Option.some.inj H
     go_wp2
     go_ret
     exact ⟨by first|rfl|(simp [errW_none,errW_some] <;> rfl)|(simp [*,errW_none,errW_some] <;> rfl),by repeat (first|(with_reducible first|exact HB.out|apply bA3_|apply bN3_|apply bD3_)|exact HB.out)⟩
 ·rw [if_neg c3] at H
  have c3b0 : ((l0.length : Int) == (l1.length : Int)) = false := beq_eq_false_iff_ne.mpr c3
  have c3b1 : ((l0.length : Int) != (l1.length : Int)) = true := bne_iff_ne.mpr c3
  have c3b2:(l0.length == l1.length)=false:=by first|simpa using c3|(simp at c3 ⊢;omega)
  obtain rfl := Option.some.inj H
  go_enter Try.func51, Try.ntmps51
  go_wp2
  go_ret
  exact ⟨by first|rfl|(simp [errW_none,errW_some] <;> rfl)|(simp [*,errW_none,errW_some] <;> rfl),by repeat (first|(with_reducible first|exact HB.out|apply bA3_|apply bN3_|apply bD3_)|exact HB.out)⟩

def laws_eqFlash.f (k:Nat) (a0_0:Int) (a0_1:Int) (a0_2:Int) (l0_3:List (S68)) (a0_4:Int) (a0_5:Int) (a0_6:Bool) (a0_7:Int) (a1_0:Int) (a1_1:Int) (a1_2:Int) (l1_3:List (S68)) (a1_4:Int) (a1_5:Int) (a1_6:Bool) (a1_7:Int):Option (Bool):=(laws_eqGeometry.f a0_0 a0_1 a0_2 a1_0 a1_1 a1_2).bind fun t213=>(if t213=true then ((laws_eqBlockS.f k l0_3 l1_3).bind fun t214=>(if t214=true then (if a0_4=a1_4 then (if a0_5=a1_5 then (if (a0_6 != a1_6)=true then (some false) else (if a0_7=a1_7 then (some true) else (some false))) else (some false)) else (some false)) else (some false))) else (some false))
set_option maxHeartbeats 8000000 in
set_option maxRecDepth 100000 in
theorem laws_eqFlash.calls (k:Nat) (a0_0:Int) (a0_1:Int) (a0_2:Int) (A0_3:Option Addr) (c0_3:Nat) (l0_3:List (S68)) (a0_4:Int) (a0_5:Int) (a0_6:Bool) (a0_7:Int) (a1_0:Int) (a1_1:Int) (a1_2:Int) (A1_3:Option Addr) (c1_3:Nat) (l1_3:List (S68)) (a1_4:Int) (a1_5:Int) (a1_6:Bool) (a1_7:Int) (r:Bool) (w:World) (hr0_3:Kd.C k68 w A0_3 l0_3.length l0_3) (hc0_3:l0_3.length≤c0_3) (hr1_3:Kd.C k68 w A1_3 l1_3.length l1_3) (hc1_3:l1_3.length≤c1_3) (h:laws_eqFlash.f k a0_0 a0_1 a0_2 l0_3 a0_4 a0_5 a0_6 a0_7 a1_0 a1_1 a1_2 l1_3 a1_4 a1_5 a1_6 a1_7=some r) :
  Calls Try.prog 27 #[.agg #[.int .i64 a0_0,.int .i64 a0_1,.int .i64 a0_2,.slice A0_3 l0_3.length c0_3,.int .i64 a0_4,.int .i64 a0_5,.bool a0_6,.int .i64 a0_7],.agg #[.int .i64 a1_0,.int .i64 a1_1,.int .i64 a1_2,.slice A1_3 l1_3.length c1_3,.int .i64 a1_4,.int .i64 a1_5,.bool a1_6,.int .i64 a1_7]] w fun e w'=>e=.returned (.bool r)∧Below w.heap.size w w':=by
 have hu35 := Try.underlying35
 have hu32 := Try.underlying32
 have HR0_3 := Aside0.mk hr0_3
 have HC0_3 := Aside0.mk hc0_3
 clear hr0_3 hc0_3
 have HR1_3 := Aside0.mk hr1_3
 have HC1_3 := Aside0.mk hc1_3
 clear hr1_3 hc1_3
 have HB := Aside0.mk (Below.refl w.heap.size w)
 have H:((laws_eqGeometry.f a0_0 a0_1 a0_2 a1_0 a1_1 a1_2).bind fun t213=>(if t213=true then ((laws_eqBlockS.f k l0_3 l1_3).bind fun t214=>(if t214=true then (if a0_4=a1_4 then (if a0_5=a1_5 then (if (a0_6 != a1_6)=true then (some false) else (if a0_7=a1_7 then (some true) else (some false))) else (some false)) else (some false)) else (some false))) else (some false)))=some r:=h
 clear h
 replace H := Option.bind_eq_some_iff.mp H
 obtain ⟨t213, A30, H⟩ := H
 replace H:(if t213=true then ((laws_eqBlockS.f k l0_3 l1_3).bind fun t214=>(if t214=true then (if a0_4=a1_4 then (if a0_5=a1_5 then (if (a0_6 != a1_6)=true then (some false) else (if a0_7=a1_7 then (some true) else (some false))) else (some false)) else (some false)) else (some false))) else (some false))=some r:=H
 have A3 := Aside0.mk A30
 clear A30
 by_cases c4 : t213 = true
 ·subst c4
  have H1:((laws_eqBlockS.f k l0_3 l1_3).bind fun t214=>(if t214=true then (if a0_4=a1_4 then (if a0_5=a1_5 then (if (a0_6 != a1_6)=true then (some false) else (if a0_7=a1_7 then (some true) else (some false))) else (some false)) else (some false)) else (some false)))=some r:=by rw [if_pos rfl] at H;exact H
  clear H
  have H := H1
  clear H1
  replace H := Option.bind_eq_some_iff.mp H
  obtain ⟨t214, A50, H⟩ := H
  replace H:(if t214=true then (if a0_4=a1_4 then (if a0_5=a1_5 then (if (a0_6 != a1_6)=true then (some false) else (if a0_7=a1_7 then (some true) else (some false))) else (some false)) else (some false)) else (some false))=some r:=H
  have A5 := Aside0.mk A50
  clear A50
  by_cases c6 : t214 = true
  ·subst c6
   have H1:(if a0_4=a1_4 then (if a0_5=a1_5 then (if (a0_6 != a1_6)=true then (some false) else (if a0_7=a1_7 then (some true) else (some false))) else (some false)) else (some false))=some r:=by rw [if_pos rfl] at H;exact H
   clear H
   have H := H1
   clear H1
   by_cases c7 : a0_4 = a1_4
   ·rw [if_pos c7] at H
    have c7b0 : (a0_4 == a1_4) = true := beq_iff_eq.mpr c7
    have c7b1 : (a0_4 != a1_4) = false := bne_eq_false_iff_eq.mpr c7
    clear c7
    by_cases c8 : a0_5 = a1_5
    ·rw [if_pos c8] at H
     have c8b0 : (a0_5 == a1_5) = true := beq_iff_eq.mpr c8
     have c8b1 : (a0_5 != a1_5) = false := bne_eq_false_iff_eq.mpr c8
     clear c8
     by_cases c9 : (a0_6 != a1_6) = true
     ·rw [if_pos c9] at H
      have c9b0 : (a0_6 != a1_6) = true := c9
      (try (have c9b1 : decide (a0_6 = a1_6) = false := by simpa using c9))
      (try (have c9b2 : (a0_6 == a1_6) = false := by simpa using c9))
      (try (have c9b3 : ¬ (a0_6 = a1_6) := by simpa using c9))
      clear c9
      obtain rfl := Option.some.inj H
      go_enter Try.func27, Try.ntmps27
      go_wp2_with (first|((with_reducible refine gate_dst (N:=2) rfl ?_);refine box_event ?hg (N:=2) ?hd (cs:=#[.int .i64 a0_0,.int .i64 a0_1,.int .i64 a0_2,.slice A0_3 l0_3.length c0_3,.int .i64 a0_4,.int .i64 a0_5,.bool a0_6,.int .i64 a0_7]) (t:=35) ?hr ?_;(case hd=>rfl);(case hg=>rfl);(case hr=>first|(go_simp;done)|(go_simp;rfl));intro gb211 hg w10 hbox hb;have n0_:=mk3_ (bT3_ (by repeat (first|(with_reducible first|exact HB.out|apply bA3_|apply bN3_|apply bD3_)|exact HB.out)) hb);have n1_:=mk3_ (hbox);have n2_:=mk3_ ((by rw [hg];exact (bZ3_ (by repeat (first|(with_reducible first|exact HB.out|apply bA3_|apply bN3_|apply bD3_)|exact HB.out))):w.heap.size≤gb211));have n3_:=mk3_ ((by rw [hg];exact (bZ3_ (by repeat (first|(with_reducible first|exact HB.out|apply bA3_|apply bN3_|apply bD3_)|exact HB.out))):w.heap.size≤gb211));clear HB;have HB:=n0_;have BK211:=n1_;have GW211:=n2_;have GE211:=n3_;clear n0_ n1_ n2_ n3_;clear hb hbox hg)|((with_reducible refine gate_dst (N:=3) rfl ?_);refine box_event ?hg (N:=3) ?hd (cs:=#[.int .i64 a1_0,.int .i64 a1_1,.int .i64 a1_2,.slice A1_3 l1_3.length c1_3,.int .i64 a1_4,.int .i64 a1_5,.bool a1_6,.int .i64 a1_7]) (t:=35) ?hr ?_;(case hd=>rfl);(case hg=>rfl);(case hr=>first|(go_simp;done)|(go_simp;rfl));intro gb212 hg w11 hbox hb;have n0_:=mk3_ (blk_below (g:=gb211) (o:=.cells #[.int .i64 a0_0,.int .i64 a0_1,.int .i64 a0_2,.slice A0_3 l0_3.length c0_3,.int .i64 a0_4,.int .i64 a0_5,.bool a0_6,.int .i64 a0_7] 35 (0,0)) (by (with_reducible repeat (first|refine kN3_ ?_ _|refine kD3_ ?_|refine blk_alloc ?_ _));exact BK211.out) hb);have n1_:=mk3_ (bT3_ (by repeat (first|(with_reducible first|exact HB.out|apply bA3_|apply bN3_|apply bD3_|refine bS3_ ?_ GE211.out)|exact HB.out)) hb);have n2_:=mk3_ (hbox);have n3_:=mk3_ ((by rw [hg];exact (bZ3_ (by repeat (first|(with_reducible first|exact HB.out|apply bA3_|apply bN3_|apply bD3_|refine bS3_ ?_ GE211.out)|exact HB.out))):w.heap.size≤gb212));have n4_:=mk3_ ((by rw [hg];exact (bZ3_ (by repeat (first|(with_reducible first|exact HB.out|apply bA3_|apply bN3_|apply bD3_|refine bS3_ ?_ GE211.out)|exact HB.out))):w.heap.size≤gb212));have n5_:=mk3_ ((by rw [hg];exact Nat.ne_of_lt (blk_lt (g:=gb211) (o:=.cells #[.int .i64 a0_0,.int .i64 a0_1,.int .i64 a0_2,.slice A0_3 l0_3.length c0_3,.int .i64 a0_4,.int .i64 a0_5,.bool a0_6,.int .i64 a0_7] 35 (0,0)) (by (with_reducible repeat (first|refine kN3_ ?_ _|refine kD3_ ?_|refine blk_alloc ?_ _));exact BK211.out)):gb211≠gb212));have n6_:=mk3_ ((by rw [hg];exact Nat.ne_of_gt (blk_lt (g:=gb211) (o:=.cells #[.int .i64 a0_0,.int .i64 a0_1,.int .i64 a0_2,.slice A0_3 l0_3.length c0_3,.int .i64 a0_4,.int .i64 a0_5,.bool a0_6,.int .i64 a0_7] 35 (0,0)) (by (with_reducible repeat (first|refine kN3_ ?_ _|refine kD3_ ?_|refine blk_alloc ?_ _));exact BK211.out)):gb212≠gb211));clear BK211;clear HB;have BK211:=n0_;have HB:=n1_;have BK212:=n2_;have GW212:=n3_;have GE212:=n4_;have NB211_212:=n5_;have NB212_211:=n6_;clear n0_ n1_ n2_ n3_ n4_ n5_ n6_;clear hb hbox hg;have hnb12:=NB211_212.out;have hnc12:=NB212_211.out;have hcz13_0:w11.cell? ⟨gb211,0,none⟩=some (.int .i64 a0_0):=(blk_cell BK211.out 0).trans rfl;have hcz13_1:w11.cell? ⟨gb211,1,none⟩=some (.int .i64 a0_1):=(blk_cell BK211.out 1).trans rfl;have hcz13_2:w11.cell? ⟨gb211,2,none⟩=some (.int .i64 a0_2):=(blk_cell BK211.out 2).trans rfl;have hcz13_3:w11.cell? ⟨gb211,3,none⟩=some (.slice A0_3 l0_3.length c0_3):=(blk_cell BK211.out 3).trans rfl;have hcz13_4:w11.cell? ⟨gb211,4,none⟩=some (.int .i64 a0_4):=(blk_cell BK211.out 4).trans rfl;have hcz13_5:w11.cell? ⟨gb211,5,none⟩=some (.int .i64 a0_5):=(blk_cell BK211.out 5).trans rfl;have hcz13_6:w11.cell? ⟨gb211,6,none⟩=some (.bool a0_6):=(blk_cell BK211.out 6).trans rfl;have hcz13_7:w11.cell? ⟨gb211,7,none⟩=some (.int .i64 a0_7):=(blk_cell BK211.out 7).trans rfl;have hfz13_0:=fZ3_ BK211.out 0;have hfz13_1:=fZ3_ BK211.out 1;have hfz13_2:=fZ3_ BK211.out 2;have hfz13_3:=fZ3_ BK211.out 3;have hfz13_4:=fZ3_ BK211.out 4;have hfz13_5:=fZ3_ BK211.out 5;have hfz13_6:=fZ3_ BK211.out 6;have hfz13_7:=fZ3_ BK211.out 7;have hcz14_0:w11.cell? ⟨gb212,0,none⟩=some (.int .i64 a1_0):=(blk_cell BK212.out 0).trans rfl;have hcz14_1:w11.cell? ⟨gb212,1,none⟩=some (.int .i64 a1_1):=(blk_cell BK212.out 1).trans rfl;have hcz14_2:w11.cell? ⟨gb212,2,none⟩=some (.int .i64 a1_2):=(blk_cell BK212.out 2).trans rfl;have hcz14_3:w11.cell? ⟨gb212,3,none⟩=some (.slice A1_3 l1_3.length c1_3):=(blk_cell BK212.out 3).trans rfl;have hcz14_4:w11.cell? ⟨gb212,4,none⟩=some (.int .i64 a1_4):=(blk_cell BK212.out 4).trans rfl;have hcz14_5:w11.cell? ⟨gb212,5,none⟩=some (.int .i64 a1_5):=(blk_cell BK212.out 5).trans rfl;have hcz14_6:w11.cell? ⟨gb212,6,none⟩=some (.bool a1_6):=(blk_cell BK212.out 6).trans rfl;have hcz14_7:w11.cell? ⟨gb212,7,none⟩=some (.int .i64 a1_7):=(blk_cell BK212.out 7).trans rfl;have hfz14_0:=fZ3_ BK212.out 0;have hfz14_1:=fZ3_ BK212.out 1;have hfz14_2:=fZ3_ BK212.out 2;have hfz14_3:=fZ3_ BK212.out 3;have hfz14_4:=fZ3_ BK212.out 4;have hfz14_5:=fZ3_ BK212.out 5;have hfz14_6:=fZ3_ BK212.out 6;have hfz14_7:=fZ3_ BK212.out 7)|((with_reducible refine gate_callee (f:=50) rfl ?_);refine goesL_ (some 9) rfl rfl Try.func50 (by kernel_rfl) rfl #[.agg #[.int .i64 a0_0,.int .i64 a0_1,.int .i64 a0_2],.agg #[.int .i64 a1_0,.int .i64 a1_1,.int .i64 a1_2]] rfl (by (try simp only [List.map_toArray,List.map_cons,List.map_nil]);first|done|rfl|(simp only [List.length_drop,List.length_take];rfl)) ?_;(with_reducible refine (laws_eqGeometry.calls a0_0 a0_1 a0_2 a1_0 a1_1 a1_2 true _ A3.out).mono ?_);rintro e w15 ⟨rfl,hb⟩;refine ⟨_,rfl,?_⟩;have n0_:=mk3_ (blk_below (g:=gb211) (o:=.cells #[.int .i64 a0_0,.int .i64 a0_1,.int .i64 a0_2,.slice A0_3 l0_3.length c0_3,.int .i64 a0_4,.int .i64 a0_5,.bool a0_6,.int .i64 a0_7] 35 (0,0)) (by (with_reducible repeat (first|refine kN3_ ?_ _|refine kD3_ ?_|refine blk_alloc ?_ _));exact BK211.out) hb);have n1_:=mk3_ (blk_below (g:=gb212) (o:=.cells #[.int .i64 a1_0,.int .i64 a1_1,.int .i64 a1_2,.slice A1_3 l1_3.length c1_3,.int .i64 a1_4,.int .i64 a1_5,.bool a1_6,.int .i64 a1_7] 35 (0,0)) (by (with_reducible repeat (first|refine kN3_ ?_ _|refine kD3_ ?_|refine blk_alloc ?_ _));exact BK212.out) hb);have n2_:=mk3_ (bT3_ (by repeat (first|(with_reducible first|exact HB.out|apply bA3_|apply bN3_|apply bD3_|refine bS3_ ?_ GE211.out|refine bS3_ ?_ GE212.out)|exact HB.out)) hb);clear BK211;clear BK212;clear HB;have BK211:=n0_;have BK212:=n1_;have HB:=n2_;clear n0_ n1_ n2_;(try clear hb);(try clear hb2);(try clear hk);(try clear hi);have hcz16_0:w15.cell? ⟨gb211,0,none⟩=some (.int .i64 a0_0):=(blk_cell BK211.out 0).trans rfl;have hcz16_1:w15.cell? ⟨gb211,1,none⟩=some (.int .i64 a0_1):=(blk_cell BK211.out 1).trans rfl;have hcz16_2:w15.cell? ⟨gb211,2,none⟩=some (.int .i64 a0_2):=(blk_cell BK211.out 2).trans rfl;have hcz16_3:w15.cell? ⟨gb211,3,none⟩=some (.slice A0_3 l0_3.length c0_3):=(blk_cell BK211.out 3).trans rfl;have hcz16_4:w15.cell? ⟨gb211,4,none⟩=some (.int .i64 a0_4):=(blk_cell BK211.out 4).trans rfl;have hcz16_5:w15.cell? ⟨gb211,5,none⟩=some (.int .i64 a0_5):=(blk_cell BK211.out 5).trans rfl;have hcz16_6:w15.cell? ⟨gb211,6,none⟩=some (.bool a0_6):=(blk_cell BK211.out 6).trans rfl;have hcz16_7:w15.cell? ⟨gb211,7,none⟩=some (.int .i64 a0_7):=(blk_cell BK211.out 7).trans rfl;have hfz16_0:=fZ3_ BK211.out 0;have hfz16_1:=fZ3_ BK211.out 1;have hfz16_2:=fZ3_ BK211.out 2;have hfz16_3:=fZ3_ BK211.out 3;have hfz16_4:=fZ3_ BK211.out 4;have hfz16_5:=fZ3_ BK211.out 5;have hfz16_6:=fZ3_ BK211.out 6;have hfz16_7:=fZ3_ BK211.out 7;have hcz17_0:w15.cell? ⟨gb212,0,none⟩=some (.int .i64 a1_0):=(blk_cell BK212.out 0).trans rfl;have hcz17_1:w15.cell? ⟨gb212,1,none⟩=some (.int .i64 a1_1):=(blk_cell BK212.out 1).trans rfl;have hcz17_2:w15.cell? ⟨gb212,2,none⟩=some (.int .i64 a1_2):=(blk_cell BK212.out 2).trans rfl;have hcz17_3:w15.cell? ⟨gb212,3,none⟩=some (.slice A1_3 l1_3.length c1_3):=(blk_cell BK212.out 3).trans rfl;have hcz17_4:w15.cell? ⟨gb212,4,none⟩=some (.int .i64 a1_4):=(blk_cell BK212.out 4).trans rfl;have hcz17_5:w15.cell? ⟨gb212,5,none⟩=some (.int .i64 a1_5):=(blk_cell BK212.out 5).trans rfl;have hcz17_6:w15.cell? ⟨gb212,6,none⟩=some (.bool a1_6):=(blk_cell BK212.out 6).trans rfl;have hcz17_7:w15.cell? ⟨gb212,7,none⟩=some (.int .i64 a1_7):=(blk_cell BK212.out 7).trans rfl;have hfz17_0:=fZ3_ BK212.out 0;have hfz17_1:=fZ3_ BK212.out 1;have hfz17_2:=fZ3_ BK212.out 2;have hfz17_3:=fZ3_ BK212.out 3;have hfz17_4:=fZ3_ BK212.out 4;have hfz17_5:=fZ3_ BK212.out 5;have hfz17_6:=fZ3_ BK212.out 6;have hfz17_7:=fZ3_ BK212.out 7)|((with_reducible refine gate_callee (f:=51) rfl ?_);refine goesL_ (some 15) rfl rfl Try.func51 (by kernel_rfl) rfl #[.slice A0_3 l0_3.length c0_3,.slice A1_3 l1_3.length c1_3] rfl (by (try simp only [List.map_toArray,List.map_cons,List.map_nil]);first|done|rfl|(simp only [List.length_drop,List.length_take];rfl)) ?_;(with_reducible refine (laws_eqBlockS.calls k _ _ l0_3 _ _ l1_3 true _ ?side1 ?side2 ?side3 ?side4 A5.out).mono ?_);(case side1=>repeat (first|exact (Kd.C_below HR0_3.out HB.out)|(with_reducible refine Kd.C_alloc ?_ _)|(with_reducible refine Kd.C_drewN ?_ _)|(with_reducible refine Kd.C_drew ?_)));(case side2=>exact HC0_3.out);(case side3=>repeat (first|exact (Kd.C_below HR1_3.out HB.out)|(with_reducible refine Kd.C_alloc ?_ _)|(with_reducible refine Kd.C_drewN ?_ _)|(with_reducible refine Kd.C_drew ?_)));(case side4=>exact HC1_3.out);rintro e w18 ⟨rfl,hb⟩;refine ⟨_,rfl,?_⟩;have n0_:=mk3_ (blk_below (g:=gb211) (o:=.cells #[.int .i64 a0_0,.int .i64 a0_1,.int .i64 a0_2,.slice A0_3 l0_3.length c0_3,.int .i64 a0_4,.int .i64 a0_5,.bool a0_6,.int .i64 a0_7] 35 (0,0)) (by (with_reducible repeat (first|refine kN3_ ?_ _|refine kD3_ ?_|refine blk_alloc ?_ _));exact BK211.out) hb);have n1_:=mk3_ (blk_below (g:=gb212) (o:=.cells #[.int .i64 a1_0,.int .i64 a1_1,.int .i64 a1_2,.slice A1_3 l1_3.length c1_3,.int .i64 a1_4,.int .i64 a1_5,.bool a1_6,.int .i64 a1_7] 35 (0,0)) (by (with_reducible repeat (first|refine kN3_ ?_ _|refine kD3_ ?_|refine blk_alloc ?_ _));exact BK212.out) hb);have n2_:=mk3_ (bT3_ (by repeat (first|(with_reducible first|exact HB.out|apply bA3_|apply bN3_|apply bD3_|refine bS3_ ?_ GE211.out|refine bS3_ ?_ GE212.out)|exact HB.out)) hb);clear BK211;clear BK212;clear HB;have BK211:=n0_;have BK212:=n1_;have HB:=n2_;clear n0_ n1_ n2_;(try clear hb);(try clear hb2);(try clear hk);(try clear hi);have hcz19_0:w18.cell? ⟨gb211,0,none⟩=some (.int .i64 a0_0):=(blk_cell BK211.out 0).trans rfl;have hcz19_1:w18.cell? ⟨gb211,1,none⟩=some (.int .i64 a0_1):=(blk_cell BK211.out 1).trans rfl;have hcz19_2:w18.cell? ⟨gb211,2,none⟩=some (.int .i64 a0_2):=(blk_cell BK211.out 2).trans rfl;have hcz19_3:w18.cell? ⟨gb211,3,none⟩=some (.slice A0_3 l0_3.length c0_3):=(blk_cell BK211.out 3).trans rfl;have hcz19_4:w18.cell? ⟨gb211,4,none⟩=some (.int .i64 a0_4):=(blk_cell BK211.out 4).trans rfl;have hcz19_5:w18.cell? ⟨gb211,5,none⟩=some (.int .i64 a0_5):=(blk_cell BK211.out 5).trans rfl;have hcz19_6:w18.cell? ⟨gb211,6,none⟩=some (.bool a0_6):=(blk_cell BK211.out 6).trans rfl;have hcz19_7:w18.cell? ⟨gb211,7,none⟩=some (.int .i64 a0_7):=(blk_cell BK211.out 7).trans rfl;have hfz19_0:=fZ3_ BK211.out 0;have hfz19_1:=fZ3_ BK211.out 1;have hfz19_2:=fZ3_ BK211.out 2;have hfz19_3:=fZ3_ BK211.out 3;have hfz19_4:=fZ3_ BK211.out 4;have hfz19_5:=fZ3_ BK211.out 5;have hfz19_6:=fZ3_ BK211.out 6;have hfz19_7:=fZ3_ BK211.out 7;have hcz20_0:w18.cell? ⟨gb212,0,none⟩=some (.int .i64 a1_0):=(blk_cell BK212.out 0).trans rfl;have hcz20_1:w18.cell? ⟨gb212,1,none⟩=some (.int .i64 a1_1):=(blk_cell BK212.out 1).trans rfl;have hcz20_2:w18.cell? ⟨gb212,2,none⟩=some (.int .i64 a1_2):=(blk_cell BK212.out 2).trans rfl;have hcz20_3:w18.cell? ⟨gb212,3,none⟩=some (.slice A1_3 l1_3.length c1_3):=(blk_cell BK212.out 3).trans rfl;have hcz20_4:w18.cell? ⟨gb212,4,none⟩=some (.int .i64 a1_4):=(blk_cell BK212.out 4).trans rfl;have hcz20_5:w18.cell? ⟨gb212,5,none⟩=some (.int .i64 a1_5):=(blk_cell BK212.out 5).trans rfl;have hcz20_6:w18.cell? ⟨gb212,6,none⟩=some (.bool a1_6):=(blk_cell BK212.out 6).trans rfl;have hcz20_7:w18.cell? ⟨gb212,7,none⟩=some (.int .i64 a1_7):=(blk_cell BK212.out 7).trans rfl;have hfz20_0:=fZ3_ BK212.out 0;have hfz20_1:=fZ3_ BK212.out 1;have hfz20_2:=fZ3_ BK212.out 2;have hfz20_3:=fZ3_ BK212.out 3;have hfz20_4:=fZ3_ BK212.out 4;have hfz20_5:=fZ3_ BK212.out 5;have hfz20_6:=fZ3_ BK212.out 6;have hfz20_7:=fZ3_ BK212.out 7))
      go_ret
      exact ⟨by first|rfl|(simp [errW_none,errW_some] <;> rfl)|(simp [*,errW_none,errW_some] <;> rfl),by repeat (first|(with_reducible first|exact HB.out|apply bA3_|apply bN3_|apply bD3_|refine bS3_ ?_ GE211.out|refine bS3_ ?_ GE212.out)|exact HB.out)⟩
     ·rw [if_neg c9] at H
      have c9b0 : (a0_6 != a1_6) = false := by simpa using c9
      (try (have c9b1 : decide (a0_6 = a1_6) = true := by simpa using c9))
      (try (have c9b2 : (a0_6 == a1_6) = true := by simpa using c9))
      clear c9
      by_cases c21 : a0_7 = a1_7
      ·rw [if_pos c21] at H
       have c21b0 : (a0_7 == a1_7) = true := beq_iff_eq.mpr c21
       have c21b1 : (a0_7 != a1_7) = false := bne_eq_false_iff_eq.mpr c21
       clear c21
       obtain rfl := Option.some.inj H
       go_enter Try.func27, Try.ntmps27
       go_wp2_with (first|((with_reducible refine gate_dst (N:=2) rfl ?_);refine box_event ?hg (N:=2) ?hd (cs:=#[.int .i64 a0_0,.int .i64 a0_1,.int .i64 a0_2,.slice A0_3 l0_3.length c0_3,.int .i64 a0_4,.int .i64 a0_5,.bool a0_6,.int .i64 a0_7]) (t:=35) ?hr ?_;(case hd=>rfl);(case hg=>rfl);(case hr=>first|(go_simp;done)|(go_simp;rfl));intro gb211 hg w22 hbox hb;have n0_:=mk3_ (bT3_ (by repeat (first|(with_reducible first|exact HB.out|apply bA3_|apply bN3_|apply bD3_)|exact HB.out)) hb);have n1_:=mk3_ (hbox);have n2_:=mk3_ ((by rw [hg];exact (bZ3_ (by repeat (first|(with_reducible first|exact HB.out|apply bA3_|apply bN3_|apply bD3_)|exact HB.out))):w.heap.size≤gb211));have n3_:=mk3_ ((by rw [hg];exact (bZ3_ (by repeat (first|(with_reducible first|exact HB.out|apply bA3_|apply bN3_|apply bD3_)|exact HB.out))):w.heap.size≤gb211));clear HB;have HB:=n0_;have BK211:=n1_;have GW211:=n2_;have GE211:=n3_;clear n0_ n1_ n2_ n3_;clear hb hbox hg)|((with_reducible refine gate_dst (N:=3) rfl ?_);refine box_event ?hg (N:=3) ?hd (cs:=#[.int .i64 a1_0,.int .i64 a1_1,.int .i64 a1_2,.slice A1_3 l1_3.length c1_3,.int .i64 a1_4,.int .i64 a1_5,.bool a1_6,.int .i64 a1_7]) (t:=35) ?hr ?_;(case hd=>rfl);(case hg=>rfl);(case hr=>first|(go_simp;done)|(go_simp;rfl));intro gb212 hg w23 hbox hb;have n0_:=mk3_ (blk_below (g:=gb211) (o:=.cells #[.int .i64 a0_0,.int .i64 a0_1,.int .i64 a0_2,.slice A0_3 l0_3.length c0_3,.int .i64 a0_4,.int .i64 a0_5,.bool a0_6,.int .i64 a0_7] 35 (0,0)) (by (with_reducible repeat (first|refine kN3_ ?_ _|refine kD3_ ?_|refine blk_alloc ?_ _));exact BK211.out) hb);have n1_:=mk3_ (bT3_ (by repeat (first|(with_reducible first|exact HB.out|apply bA3_|apply bN3_|apply bD3_|refine bS3_ ?_ GE211.out)|exact HB.out)) hb);have n2_:=mk3_ (hbox);have n3_:=mk3_ ((by rw [hg];exact (bZ3_ (by repeat (first|(with_reducible first|exact HB.out|apply bA3_|apply bN3_|apply bD3_|refine bS3_ ?_ GE211.out)|exact HB.out))):w.heap.size≤gb212));have n4_:=mk3_ ((by rw [hg];exact (bZ3_ (by repeat (first|(with_reducible first|exact HB.out|apply bA3_|apply bN3_|apply bD3_|refine bS3_ ?_ GE211.out)|exact HB.out))):w.heap.size≤gb212));have n5_:=mk3_ ((by rw [hg];exact Nat.ne_of_lt (blk_lt (g:=gb211) (o:=.cells #[.int .i64 a0_0,.int .i64 a0_1,.int .i64 a0_2,.slice A0_3 l0_3.length c0_3,.int .i64 a0_4,.int .i64 a0_5,.bool a0_6,.int .i64 a0_7] 35 (0,0)) (by (with_reducible repeat (first|refine kN3_ ?_ _|refine kD3_ ?_|refine blk_alloc ?_ _));exact BK211.out)):gb211≠gb212));have n6_:=mk3_ ((by rw [hg];exact Nat.ne_of_gt (blk_lt (g:=gb211) (o:=.cells #[.int .i64 a0_0,.int .i64 a0_1,.int .i64 a0_2,.slice A0_3 l0_3.length c0_3,.int .i64 a0_4,.int .i64 a0_5,.bool a0_6,.int .i64 a0_7] 35 (0,0)) (by (with_reducible repeat (first|refine kN3_ ?_ _|refine kD3_ ?_|refine blk_alloc ?_ _));exact BK211.out)):gb212≠gb211));clear BK211;clear HB;have BK211:=n0_;have HB:=n1_;have BK212:=n2_;have GW212:=n3_;have GE212:=n4_;have NB211_212:=n5_;have NB212_211:=n6_;clear n0_ n1_ n2_ n3_ n4_ n5_ n6_;clear hb hbox hg;have hnb24:=NB211_212.out;have hnc24:=NB212_211.out;have hcz25_0:w23.cell? ⟨gb211,0,none⟩=some (.int .i64 a0_0):=(blk_cell BK211.out 0).trans rfl;have hcz25_1:w23.cell? ⟨gb211,1,none⟩=some (.int .i64 a0_1):=(blk_cell BK211.out 1).trans rfl;have hcz25_2:w23.cell? ⟨gb211,2,none⟩=some (.int .i64 a0_2):=(blk_cell BK211.out 2).trans rfl;have hcz25_3:w23.cell? ⟨gb211,3,none⟩=some (.slice A0_3 l0_3.length c0_3):=(blk_cell BK211.out 3).trans rfl;have hcz25_4:w23.cell? ⟨gb211,4,none⟩=some (.int .i64 a0_4):=(blk_cell BK211.out 4).trans rfl;have hcz25_5:w23.cell? ⟨gb211,5,none⟩=some (.int .i64 a0_5):=(blk_cell BK211.out 5).trans rfl;have hcz25_6:w23.cell? ⟨gb211,6,none⟩=some (.bool a0_6):=(blk_cell BK211.out 6).trans rfl;have hcz25_7:w23.cell? ⟨gb211,7,none⟩=some (.int .i64 a0_7):=(blk_cell BK211.out 7).trans rfl;have hfz25_0:=fZ3_ BK211.out 0;have hfz25_1:=fZ3_ BK211.out 1;have hfz25_2:=fZ3_ BK211.out 2;have hfz25_3:=fZ3_ BK211.out 3;have hfz25_4:=fZ3_ BK211.out 4;have hfz25_5:=fZ3_ BK211.out 5;have hfz25_6:=fZ3_ BK211.out 6;have hfz25_7:=fZ3_ BK211.out 7;have hcz26_0:w23.cell? ⟨gb212,0,none⟩=some (.int .i64 a1_0):=(blk_cell BK212.out 0).trans rfl;have hcz26_1:w23.cell? ⟨gb212,1,none⟩=some (.int .i64 a1_1):=(blk_cell BK212.out 1).trans rfl;have hcz26_2:w23.cell? ⟨gb212,2,none⟩=some (.int .i64 a1_2):=(blk_cell BK212.out 2).trans rfl;have hcz26_3:w23.cell? ⟨gb212,3,none⟩=some (.slice A1_3 l1_3.length c1_3):=(blk_cell BK212.out 3).trans rfl;have hcz26_4:w23.cell? ⟨gb212,4,none⟩=some (.int .i64 a1_4):=(blk_cell BK212.out 4).trans rfl;have hcz26_5:w23.cell? ⟨gb212,5,none⟩=some (.int .i64 a1_5):=(blk_cell BK212.out 5).trans rfl;have hcz26_6:w23.cell? ⟨gb212,6,none⟩=some (.bool a1_6):=(blk_cell BK212.out 6).trans rfl;have hcz26_7:w23.cell? ⟨gb212,7,none⟩=some (.int .i64 a1_7):=(blk_cell BK212.out 7).trans rfl;have hfz26_0:=fZ3_ BK212.out 0;have hfz26_1:=fZ3_ BK212.out 1;have hfz26_2:=fZ3_ BK212.out 2;have hfz26_3:=fZ3_ BK212.out 3;have hfz26_4:=fZ3_ BK212.out 4;have hfz26_5:=fZ3_ BK212.out 5;have hfz26_6:=fZ3_ BK212.out 6;have hfz26_7:=fZ3_ BK212.out 7)|((with_reducible refine gate_callee (f:=50) rfl ?_);refine goesL_ (some 9) rfl rfl Try.func50 (by kernel_rfl) rfl #[.agg #[.int .i64 a0_0,.int .i64 a0_1,.int .i64 a0_2],.agg #[.int .i64 a1_0,.int .i64 a1_1,.int .i64 a1_2]] rfl (by (try simp only [List.map_toArray,List.map_cons,List.map_nil]);first|done|rfl|(simp only [List.length_drop,List.length_take];rfl)) ?_;(with_reducible refine (laws_eqGeometry.calls a0_0 a0_1 a0_2 a1_0 a1_1 a1_2 true _ A3.out).mono ?_);rintro e w27 ⟨rfl,hb⟩;refine ⟨_,rfl,?_⟩;have n0_:=mk3_ (blk_below (g:=gb211) (o:=.cells #[.int .i64 a0_0,.int .i64 a0_1,.int .i64 a0_2,.slice A0_3 l0_3.length c0_3,.int .i64 a0_4,.int .i64 a0_5,.bool a0_6,.int .i64 a0_7] 35 (0,0)) (by (with_reducible repeat (first|refine kN3_ ?_ _|refine kD3_ ?_|refine blk_alloc ?_ _));exact BK211.out) hb);have n1_:=mk3_ (blk_below (g:=gb212) (o:=.cells #[.int .i64 a1_0,.int .i64 a1_1,.int .i64 a1_2,.slice A1_3 l1_3.length c1_3,.int .i64 a1_4,.int .i64 a1_5,.bool a1_6,.int .i64 a1_7] 35 (0,0)) (by (with_reducible repeat (first|refine kN3_ ?_ _|refine kD3_ ?_|refine blk_alloc ?_ _));exact BK212.out) hb);have n2_:=mk3_ (bT3_ (by repeat (first|(with_reducible first|exact HB.out|apply bA3_|apply bN3_|apply bD3_|refine bS3_ ?_ GE211.out|refine bS3_ ?_ GE212.out)|exact HB.out)) hb);clear BK211;clear BK212;clear HB;have BK211:=n0_;have BK212:=n1_;have HB:=n2_;clear n0_ n1_ n2_;(try clear hb);(try clear hb2);(try clear hk);(try clear hi);have hcz28_0:w27.cell? ⟨gb211,0,none⟩=some (.int .i64 a0_0):=(blk_cell BK211.out 0).trans rfl;have hcz28_1:w27.cell? ⟨gb211,1,none⟩=some (.int .i64 a0_1):=(blk_cell BK211.out 1).trans rfl;have hcz28_2:w27.cell? ⟨gb211,2,none⟩=some (.int .i64 a0_2):=(blk_cell BK211.out 2).trans rfl;have hcz28_3:w27.cell? ⟨gb211,3,none⟩=some (.slice A0_3 l0_3.length c0_3):=(blk_cell BK211.out 3).trans rfl;have hcz28_4:w27.cell? ⟨gb211,4,none⟩=some (.int .i64 a0_4):=(blk_cell BK211.out 4).trans rfl;have hcz28_5:w27.cell? ⟨gb211,5,none⟩=some (.int .i64 a0_5):=(blk_cell BK211.out 5).trans rfl;have hcz28_6:w27.cell? ⟨gb211,6,none⟩=some (.bool a0_6):=(blk_cell BK211.out 6).trans rfl;have hcz28_7:w27.cell? ⟨gb211,7,none⟩=some (.int .i64 a0_7):=(blk_cell BK211.out 7).trans rfl;have hfz28_0:=fZ3_ BK211.out 0;have hfz28_1:=fZ3_ BK211.out 1;have hfz28_2:=fZ3_ BK211.out 2;have hfz28_3:=fZ3_ BK211.out 3;have hfz28_4:=fZ3_ BK211.out 4;have hfz28_5:=fZ3_ BK211.out 5;have hfz28_6:=fZ3_ BK211.out 6;have hfz28_7:=fZ3_ BK211.out 7;have hcz29_0:w27.cell? ⟨gb212,0,none⟩=some (.int .i64 a1_0):=(blk_cell BK212.out 0).trans rfl;have hcz29_1:w27.cell? ⟨gb212,1,none⟩=some (.int .i64 a1_1):=(blk_cell BK212.out 1).trans rfl;have hcz29_2:w27.cell? ⟨gb212,2,none⟩=some (.int .i64 a1_2):=(blk_cell BK212.out 2).trans rfl;have hcz29_3:w27.cell? ⟨gb212,3,none⟩=some (.slice A1_3 l1_3.length c1_3):=(blk_cell BK212.out 3).trans rfl;have hcz29_4:w27.cell? ⟨gb212,4,none⟩=some (.int .i64 a1_4):=(blk_cell BK212.out 4).trans rfl;have hcz29_5:w27.cell? ⟨gb212,5,none⟩=some (.int .i64 a1_5):=(blk_cell BK212.out 5).trans rfl;have hcz29_6:w27.cell? ⟨gb212,6,none⟩=some (.bool a1_6):=(blk_cell BK212.out 6).trans rfl;have hcz29_7:w27.cell? ⟨gb212,7,none⟩=some (.int .i64 a1_7):=(blk_cell BK212.out 7).trans rfl;have hfz29_0:=fZ3_ BK212.out 0;have hfz29_1:=fZ3_ BK212.out 1;have hfz29_2:=fZ3_ BK212.out 2;have hfz29_3:=fZ3_ BK212.out 3;have hfz29_4:=fZ3_ BK212.out 4;have hfz29_5:=fZ3_ BK212.out 5;have hfz29_6:=fZ3_ BK212.out 6;have hfz29_7:=fZ3_ BK212.out 7)|((with_reducible refine gate_callee (f:=51) rfl ?_);refine goesL_ (some 15) rfl rfl Try.func51 (by kernel_rfl) rfl #[.slice A0_3 l0_3.length c0_3,.slice A1_3 l1_3.length c1_3] rfl (by (try simp only [List.map_toArray,List.map_cons,List.map_nil]);first|done|rfl|(simp only [List.length_drop,List.length_take];rfl)) ?_;(with_reducible refine (laws_eqBlockS.calls k _ _ l0_3 _ _ l1_3 true _ ?side1 ?side2 ?side3 ?side4 A5.out).mono ?_);(case side1=>repeat (first|exact (Kd.C_below HR0_3.out HB.out)|(with_reducible refine Kd.C_alloc ?_ _)|(with_reducible refine Kd.C_drewN ?_ _)|(with_reducible refine Kd.C_drew ?_)));(case side2=>exact HC0_3.out);(case side3=>repeat (first|exact (Kd.C_below HR1_3.out HB.out)|(with_reducible refine Kd.C_alloc ?_ _)|(with_reducible refine Kd.C_drewN ?_ _)|(with_reducible refine Kd.C_drew ?_)));(case side4=>exact HC1_3.out);rintro e w30 ⟨rfl,hb⟩;refine ⟨_,rfl,?_⟩;have n0_:=mk3_ (blk_below (g:=gb211) (o:=.cells #[.int .i64 a0_0,.int .i64 a0_1,.int .i64 a0_2,.slice A0_3 l0_3.length c0_3,.int .i64 a0_4,.int .i64 a0_5,.bool a0_6,.int .i64 a0_7] 35 (0,0)) (by (with_reducible repeat (first|refine kN3_ ?_ _|refine kD3_ ?_|refine blk_alloc ?_ _));exact BK211.out) hb);have n1_:=mk3_ (blk_below (g:=gb212) (o:=.cells #[.int .i64 a1_0,.int .i64 a1_1,.int .i64 a1_2,.slice A1_3 l1_3.length c1_3,.int .i64 a1_4,.int .i64 a1_5,.bool a1_6,.int .i64 a1_7] 35 (0,0)) (by (with_reducible repeat (first|refine kN3_ ?_ _|refine kD3_ ?_|refine blk_alloc ?_ _));exact BK212.out) hb);have n2_:=mk3_ (bT3_ (by repeat (first|(with_reducible first|exact HB.out|apply bA3_|apply bN3_|apply bD3_|refine bS3_ ?_ GE211.out|refine bS3_ ?_ GE212.out)|exact HB.out)) hb);clear BK211;clear BK212;clear HB;have BK211:=n0_;have BK212:=n1_;have HB:=n2_;clear n0_ n1_ n2_;(try clear hb);(try clear hb2);(try clear hk);(try clear hi);have hcz31_0:w30.cell? ⟨gb211,0,none⟩=some (.int .i64 a0_0):=(blk_cell BK211.out 0).trans rfl;have hcz31_1:w30.cell? ⟨gb211,1,none⟩=some (.int .i64 a0_1):=(blk_cell BK211.out 1).trans rfl;have hcz31_2:w30.cell? ⟨gb211,2,none⟩=some (.int .i64 a0_2):=(blk_cell BK211.out 2).trans rfl;have hcz31_3:w30.cell? ⟨gb211,3,none⟩=some (.slice A0_3 l0_3.length c0_3):=(blk_cell BK211.out 3).trans rfl;have hcz31_4:w30.cell? ⟨gb211,4,none⟩=some (.int .i64 a0_4):=(blk_cell BK211.out 4).trans rfl;have hcz31_5:w30.cell? ⟨gb211,5,none⟩=some (.int .i64 a0_5):=(blk_cell BK211.out 5).trans rfl;have hcz31_6:w30.cell? ⟨gb211,6,none⟩=some (.bool a0_6):=(blk_cell BK211.out 6).trans rfl;have hcz31_7:w30.cell? ⟨gb211,7,none⟩=some (.int .i64 a0_7):=(blk_cell BK211.out 7).trans rfl;have hfz31_0:=fZ3_ BK211.out 0;have hfz31_1:=fZ3_ BK211.out 1;have hfz31_2:=fZ3_ BK211.out 2;have hfz31_3:=fZ3_ BK211.out 3;have hfz31_4:=fZ3_ BK211.out 4;have hfz31_5:=fZ3_ BK211.out 5;have hfz31_6:=fZ3_ BK211.out 6;have hfz31_7:=fZ3_ BK211.out 7;have hcz32_0:w30.cell? ⟨gb212,0,none⟩=some (.int .i64 a1_0):=(blk_cell BK212.out 0).trans rfl;have hcz32_1:w30.cell? ⟨gb212,1,none⟩=some (.int .i64 a1_1):=(blk_cell BK212.out 1).trans rfl;have hcz32_2:w30.cell? ⟨gb212,2,none⟩=some (.int .i64 a1_2):=(blk_cell BK212.out 2).trans rfl;have hcz32_3:w30.cell? ⟨gb212,3,none⟩=some (.slice A1_3 l1_3.length c1_3):=(blk_cell BK212.out 3).trans rfl;have hcz32_4:w30.cell? ⟨gb212,4,none⟩=some (.int .i64 a1_4):=(blk_cell BK212.out 4).trans rfl;have hcz32_5:w30.cell? ⟨gb212,5,none⟩=some (.int .i64 a1_5):=(blk_cell BK212.out 5).trans rfl;have hcz32_6:w30.cell? ⟨gb212,6,none⟩=some (.bool a1_6):=(blk_cell BK212.out 6).trans rfl;have hcz32_7:w30.cell? ⟨gb212,7,none⟩=some (.int .i64 a1_7):=(blk_cell BK212.out 7).trans rfl;have hfz32_0:=fZ3_ BK212.out 0;have hfz32_1:=fZ3_ BK212.out 1;have hfz32_2:=fZ3_ BK212.out 2;have hfz32_3:=fZ3_ BK212.out 3;have hfz32_4:=fZ3_ BK212.out 4;have hfz32_5:=fZ3_ BK212.out 5;have hfz32_6:=fZ3_ BK212.out 6;have hfz32_7:=fZ3_ BK212.out 7))
       go_ret
       exact ⟨by first|rfl|(simp [errW_none,errW_some] <;> rfl)|(simp [*,errW_none,errW_some] <;> rfl),by repeat (first|(with_reducible first|exact HB.out|apply bA3_|apply bN3_|apply bD3_|refine bS3_ ?_ GE211.out|refine bS3_ ?_ GE212.out)|exact HB.out)⟩
      ·rw [if_neg c21] at H
       have c21b0 : (a0_7 == a1_7) = false := beq_eq_false_iff_ne.mpr c21
       have c21b1 : (a0_7 != a1_7) = true := bne_iff_ne.mpr c21
       obtain rfl := Option.some.inj H
       go_enter Try.func27, Try.ntmps27
       go_wp2_with (first|((with_reducible refine gate_dst (N:=2) rfl ?_);refine box_event ?hg (N:=2) ?hd (cs:=#[.int .i64 a0_0,.int .i64 a0_1,.int .i64 a0_2,.slice A0_3 l0_3.length c0_3,.int .i64 a0_4,.int .i64 a0_5,.bool a0_6,.int .i64 a0_7]) (t:=35) ?hr ?_;(case hd=>rfl);(case hg=>rfl);(case hr=>first|(go_simp;done)|(go_simp;rfl));intro gb211 hg w33 hbox hb;have n0_:=mk3_ (bT3_ (by repeat (first|(with_reducible first|exact HB.out|apply bA3_|apply bN3_|apply bD3_)|exact HB.out)) hb);have n1_:=mk3_ (hbox);have n2_:=mk3_ ((by rw [hg];exact (bZ3_ (by repeat (first|(with_reducible first|exact HB.out|apply bA3_|apply bN3_|apply bD3_)|exact HB.out))):w.heap.size≤gb211));have n3_:=mk3_ ((by rw [hg];exact (bZ3_ (by repeat (first|(with_reducible first|exact HB.out|apply bA3_|apply bN3_|apply bD3_)|exact HB.out))):w.heap.size≤gb211));clear HB;have HB:=n0_;have BK211:=n1_;have GW211:=n2_;have GE211:=n3_;clear n0_ n1_ n2_ n3_;clear hb hbox hg)|((with_reducible refine gate_dst (N:=3) rfl ?_);refine box_event ?hg (N:=3) ?hd (cs:=#[.int .i64 a1_0,.int .i64 a1_1,.int .i64 a1_2,.slice A1_3 l1_3.length c1_3,.int .i64 a1_4,.int .i64 a1_5,.bool a1_6,.int .i64 a1_7]) (t:=35) ?hr ?_;(case hd=>rfl);(case hg=>rfl);(case hr=>first|(go_simp;done)|(go_simp;rfl));intro gb212 hg w34 hbox hb;have n0_:=mk3_ (blk_below (g:=gb211) (o:=.cells #[.int .i64 a0_0,.int .i64 a0_1,.int .i64 a0_2,.slice A0_3 l0_3.length c0_3,.int .i64 a0_4,.int .i64 a0_5,.bool a0_6,.int .i64 a0_7] 35 (0,0)) (by (with_reducible repeat (first|refine kN3_ ?_ _|refine kD3_ ?_|refine blk_alloc ?_ _));exact BK211.out) hb);have n1_:=mk3_ (bT3_ (by repeat (first|(with_reducible first|exact HB.out|apply bA3_|apply bN3_|apply bD3_|refine bS3_ ?_ GE211.out)|exact HB.out)) hb);have n2_:=mk3_ (hbox);have n3_:=mk3_ ((by rw [hg];exact (bZ3_ (by repeat (first|(with_reducible first|exact HB.out|apply bA3_|apply bN3_|apply bD3_|refine bS3_ ?_ GE211.out)|exact HB.out))):w.heap.size≤gb212));have n4_:=mk3_ ((by rw [hg];exact (bZ3_ (by repeat (first|(with_reducible first|exact HB.out|apply bA3_|apply bN3_|apply bD3_|refine bS3_ ?_ GE211.out)|exact HB.out))):w.heap.size≤gb212));have n5_:=mk3_ ((by rw [hg];exact Nat.ne_of_lt (blk_lt (g:=gb211) (o:=.cells #[.int .i64 a0_0,.int .i64 a0_1,.int .i64 a0_2,.slice A0_3 l0_3.length c0_3,.int .i64 a0_4,.int .i64 a0_5,.bool a0_6,.int .i64 a0_7] 35 (0,0)) (by (with_reducible repeat (first|refine kN3_ ?_ _|refine kD3_ ?_|refine blk_alloc ?_ _));exact BK211.out)):gb211≠gb212));have n6_:=mk3_ ((by rw [hg];exact Nat.ne_of_gt (blk_lt (g:=gb211) (o:=.cells #[.int .i64 a0_0,.int .i64 a0_1,.int .i64 a0_2,.slice A0_3 l0_3.length c0_3,.int .i64 a0_4,.int .i64 a0_5,.bool a0_6,.int .i64 a0_7] 35 (0,0)) (by (with_reducible repeat (first|refine kN3_ ?_ _|refine kD3_ ?_|refine blk_alloc ?_ _));exact BK211.out)):gb212≠gb211));clear BK211;clear HB;have BK211:=n0_;have HB:=n1_;have BK212:=n2_;have GW212:=n3_;have GE212:=n4_;have NB211_212:=n5_;have NB212_211:=n6_;clear n0_ n1_ n2_ n3_ n4_ n5_ n6_;clear hb hbox hg;have hnb35:=NB211_212.out;have hnc35:=NB212_211.out;have hcz36_0:w34.cell? ⟨gb211,0,none⟩=some (.int .i64 a0_0):=(blk_cell BK211.out 0).trans rfl;have hcz36_1:w34.cell? ⟨gb211,1,none⟩=some (.int .i64 a0_1):=(blk_cell BK211.out 1).trans rfl;have hcz36_2:w34.cell? ⟨gb211,2,none⟩=some (.int .i64 a0_2):=(blk_cell BK211.out 2).trans rfl;have hcz36_3:w34.cell? ⟨gb211,3,none⟩=some (.slice A0_3 l0_3.length c0_3):=(blk_cell BK211.out 3).trans rfl;have hcz36_4:w34.cell? ⟨gb211,4,none⟩=some (.int .i64 a0_4):=(blk_cell BK211.out 4).trans rfl;have hcz36_5:w34.cell? ⟨gb211,5,none⟩=some (.int .i64 a0_5):=(blk_cell BK211.out 5).trans rfl;have hcz36_6:w34.cell? ⟨gb211,6,none⟩=some (.bool a0_6):=(blk_cell BK211.out 6).trans rfl;have hcz36_7:w34.cell? ⟨gb211,7,none⟩=some (.int .i64 a0_7):=(blk_cell BK211.out 7).trans rfl;have hfz36_0:=fZ3_ BK211.out 0;have hfz36_1:=fZ3_ BK211.out 1;have hfz36_2:=fZ3_ BK211.out 2;have hfz36_3:=fZ3_ BK211.out 3;have hfz36_4:=fZ3_ BK211.out 4;have hfz36_5:=fZ3_ BK211.out 5;have hfz36_6:=fZ3_ BK211.out 6;have hfz36_7:=fZ3_ BK211.out 7;have hcz37_0:w34.cell? ⟨gb212,0,none⟩=some (.int .i64 a1_0):=(blk_cell BK212.out 0).trans rfl;have hcz37_1:w34.cell? ⟨gb212,1,none⟩=some (.int .i64 a1_1):=(blk_cell BK212.out 1).trans rfl;have hcz37_2:w34.cell? ⟨gb212,2,none⟩=some (.int .i64 a1_2):=(blk_cell BK212.out 2).trans rfl;have hcz37_3:w34.cell? ⟨gb212,3,none⟩=some (.slice A1_3 l1_3.length c1_3):=(blk_cell BK212.out 3).trans rfl;have hcz37_4:w34.cell? ⟨gb212,4,none⟩=some (.int .i64 a1_4):=(blk_cell BK212.out 4).trans rfl;have hcz37_5:w34.cell? ⟨gb212,5,none⟩=some (.int .i64 a1_5):=(blk_cell BK212.out 5).trans rfl;have hcz37_6:w34.cell? ⟨gb212,6,none⟩=some (.bool a1_6):=(blk_cell BK212.out 6).trans rfl;have hcz37_7:w34.cell? ⟨gb212,7,none⟩=some (.int .i64 a1_7):=(blk_cell BK212.out 7).trans rfl;have hfz37_0:=fZ3_ BK212.out 0;have hfz37_1:=fZ3_ BK212.out 1;have hfz37_2:=fZ3_ BK212.out 2;have hfz37_3:=fZ3_ BK212.out 3;have hfz37_4:=fZ3_ BK212.out 4;have hfz37_5:=fZ3_ BK212.out 5;have hfz37_6:=fZ3_ BK212.out 6;have hfz37_7:=fZ3_ BK212.out 7)|((with_reducible refine gate_callee (f:=50) rfl ?_);refine goesL_ (some 9) rfl rfl Try.func50 (by kernel_rfl) rfl #[.agg #[.int .i64 a0_0,.int .i64 a0_1,.int .i64 a0_2],.agg #[.int .i64 a1_0,.int .i64 a1_1,.int .i64 a1_2]] rfl (by (try simp only [List.map_toArray,List.map_cons,List.map_nil]);first|done|rfl|(simp only [List.length_drop,List.length_take];rfl)) ?_;(with_reducible refine (laws_eqGeometry.calls a0_0 a0_1 a0_2 a1_0 a1_1 a1_2 true _ A3.out).mono ?_);rintro e w38 ⟨rfl,hb⟩;refine ⟨_,rfl,?_⟩;have n0_:=mk3_ (blk_below (g:=gb211) (o:=.cells #[.int .i64 a0_0,.int .i64 a0_1,.int .i64 a0_2,.slice A0_3 l0_3.length c0_3,.int .i64 a0_4,.int .i64 a0_5,.bool a0_6,.int .i64 a0_7] 35 (0,0)) (by (with_reducible repeat (first|refine kN3_ ?_ _|refine kD3_ ?_|refine blk_alloc ?_ _));exact BK211.out) hb);have n1_:=mk3_ (blk_below (g:=gb212) (o:=.cells #[.int .i64 a1_0,.int .i64 a1_1,.int .i64 a1_2,.slice A1_3 l1_3.length c1_3,.int .i64 a1_4,.int .i64 a1_5,.bool a1_6,.int .i64 a1_7] 35 (0,0)) (by (with_reducible repeat (first|refine kN3_ ?_ _|refine kD3_ ?_|refine blk_alloc ?_ _));exact BK212.out) hb);have n2_:=mk3_ (bT3_ (by repeat (first|(with_reducible first|exact HB.out|apply bA3_|apply bN3_|apply bD3_|refine bS3_ ?_ GE211.out|refine bS3_ ?_ GE212.out)|exact HB.out)) hb);clear BK211;clear BK212;clear HB;have BK211:=n0_;have BK212:=n1_;have HB:=n2_;clear n0_ n1_ n2_;(try clear hb);(try clear hb2);(try clear hk);(try clear hi);have hcz39_0:w38.cell? ⟨gb211,0,none⟩=some (.int .i64 a0_0):=(blk_cell BK211.out 0).trans rfl;have hcz39_1:w38.cell? ⟨gb211,1,none⟩=some (.int .i64 a0_1):=(blk_cell BK211.out 1).trans rfl;have hcz39_2:w38.cell? ⟨gb211,2,none⟩=some (.int .i64 a0_2):=(blk_cell BK211.out 2).trans rfl;have hcz39_3:w38.cell? ⟨gb211,3,none⟩=some (.slice A0_3 l0_3.length c0_3):=(blk_cell BK211.out 3).trans rfl;have hcz39_4:w38.cell? ⟨gb211,4,none⟩=some (.int .i64 a0_4):=(blk_cell BK211.out 4).trans rfl;have hcz39_5:w38.cell? ⟨gb211,5,none⟩=some (.int .i64 a0_5):=(blk_cell BK211.out 5).trans rfl;have hcz39_6:w38.cell? ⟨gb211,6,none⟩=some (.bool a0_6):=(blk_cell BK211.out 6).trans rfl;have hcz39_7:w38.cell? ⟨gb211,7,none⟩=some (.int .i64 a0_7):=(blk_cell BK211.out 7).trans rfl;have hfz39_0:=fZ3_ BK211.out 0;have hfz39_1:=fZ3_ BK211.out 1;have hfz39_2:=fZ3_ BK211.out 2;have hfz39_3:=fZ3_ BK211.out 3;have hfz39_4:=fZ3_ BK211.out 4;have hfz39_5:=fZ3_ BK211.out 5;have hfz39_6:=fZ3_ BK211.out 6;have hfz39_7:=fZ3_ BK211.out 7;have hcz40_0:w38.cell? ⟨gb212,0,none⟩=some (.int .i64 a1_0):=(blk_cell BK212.out 0).trans rfl;have hcz40_1:w38.cell? ⟨gb212,1,none⟩=some (.int .i64 a1_1):=(blk_cell BK212.out 1).trans rfl;have hcz40_2:w38.cell? ⟨gb212,2,none⟩=some (.int .i64 a1_2):=(blk_cell BK212.out 2).trans rfl;have hcz40_3:w38.cell? ⟨gb212,3,none⟩=some (.slice A1_3 l1_3.length c1_3):=(blk_cell BK212.out 3).trans rfl;have hcz40_4:w38.cell? ⟨gb212,4,none⟩=some (.int .i64 a1_4):=(blk_cell BK212.out 4).trans rfl;have hcz40_5:w38.cell? ⟨gb212,5,none⟩=some (.int .i64 a1_5):=(blk_cell BK212.out 5).trans rfl;have hcz40_6:w38.cell? ⟨gb212,6,none⟩=some (.bool a1_6):=(blk_cell BK212.out 6).trans rfl;have hcz40_7:w38.cell? ⟨gb212,7,none⟩=some (.int .i64 a1_7):=(blk_cell BK212.out 7).trans rfl;have hfz40_0:=fZ3_ BK212.out 0;have hfz40_1:=fZ3_ BK212.out 1;have hfz40_2:=fZ3_ BK212.out 2;have hfz40_3:=fZ3_ BK212.out 3;have hfz40_4:=fZ3_ BK212.out 4;have hfz40_5:=fZ3_ BK212.out 5;have hfz40_6:=fZ3_ BK212.out 6;have hfz40_7:=fZ3_ BK212.out 7)|((with_reducible refine gate_callee (f:=51) rfl ?_);refine goesL_ (some 15) rfl rfl Try.func51 (by kernel_rfl) rfl #[.slice A0_3 l0_3.length c0_3,.slice A1_3 l1_3.length c1_3] rfl (by (try simp only [List.map_toArray,List.map_cons,List.map_nil]);first|done|rfl|(simp only [List.length_drop,List.length_take];rfl)) ?_;(with_reducible refine (laws_eqBlockS.calls k _ _ l0_3 _ _ l1_3 true _ ?side1 ?side2 ?side3 ?side4 A5.out).mono ?_);(case side1=>repeat (first|exact (Kd.C_below HR0_3.out HB.out)|(with_reducible refine Kd.C_alloc ?_ _)|(with_reducible refine Kd.C_drewN ?_ _)|(with_reducible refine Kd.C_drew ?_)));(case side2=>exact HC0_3.out);(case side3=>repeat (first|exact (Kd.C_below HR1_3.out HB.out)|(with_reducible refine Kd.C_alloc ?_ _)|(with_reducible refine Kd.C_drewN ?_ _)|(with_reducible refine Kd.C_drew ?_)));(case side4=>exact HC1_3.out);rintro e w41 ⟨rfl,hb⟩;refine ⟨_,rfl,?_⟩;have n0_:=mk3_ (blk_below (g:=gb211) (o:=.cells #[.int .i64 a0_0,.int .i64 a0_1,.int .i64 a0_2,.slice A0_3 l0_3.length c0_3,.int .i64 a0_4,.int .i64 a0_5,.bool a0_6,.int .i64 a0_7] 35 (0,0)) (by (with_reducible repeat (first|refine kN3_ ?_ _|refine kD3_ ?_|refine blk_alloc ?_ _));exact BK211.out) hb);have n1_:=mk3_ (blk_below (g:=gb212) (o:=.cells #[.int .i64 a1_0,.int .i64 a1_1,.int .i64 a1_2,.slice A1_3 l1_3.length c1_3,.int .i64 a1_4,.int .i64 a1_5,.bool a1_6,.int .i64 a1_7] 35 (0,0)) (by (with_reducible repeat (first|refine kN3_ ?_ _|refine kD3_ ?_|refine blk_alloc ?_ _));exact BK212.out) hb);have n2_:=mk3_ (bT3_ (by repeat (first|(with_reducible first|exact HB.out|apply bA3_|apply bN3_|apply bD3_|refine bS3_ ?_ GE211.out|refine bS3_ ?_ GE212.out)|exact HB.out)) hb);clear BK211;clear BK212;clear HB;have BK211:=n0_;have BK212:=n1_;have HB:=n2_;clear n0_ n1_ n2_;(try clear hb);(try clear hb2);(try clear hk);(try clear hi);have hcz42_0:w41.cell? ⟨gb211,0,none⟩=some (.int .i64 a0_0):=(blk_cell BK211.out 0).trans rfl;have hcz42_1:w41.cell? ⟨gb211,1,none⟩=some (.int .i64 a0_1):=(blk_cell BK211.out 1).trans rfl;have hcz42_2:w41.cell? ⟨gb211,2,none⟩=some (.int .i64 a0_2):=(blk_cell BK211.out 2).trans rfl;have hcz42_3:w41.cell? ⟨gb211,3,none⟩=some (.slice A0_3 l0_3.length c0_3):=(blk_cell BK211.out 3).trans rfl;have hcz42_4:w41.cell? ⟨gb211,4,none⟩=some (.int .i64 a0_4):=(blk_cell BK211.out 4).trans rfl;have hcz42_5:w41.cell? ⟨gb211,5,none⟩=some (.int .i64 a0_5):=(blk_cell BK211.out 5).trans rfl;have hcz42_6:w41.cell? ⟨gb211,6,none⟩=some (.bool a0_6):=(blk_cell BK211.out 6).trans rfl;have hcz42_7:w41.cell? ⟨gb211,7,none⟩=some (.int .i64 a0_7):=(blk_cell BK211.out 7).trans rfl;have hfz42_0:=fZ3_ BK211.out 0;have hfz42_1:=fZ3_ BK211.out 1;have hfz42_2:=fZ3_ BK211.out 2;have hfz42_3:=fZ3_ BK211.out 3;have hfz42_4:=fZ3_ BK211.out 4;have hfz42_5:=fZ3_ BK211.out 5;have hfz42_6:=fZ3_ BK211.out 6;have hfz42_7:=fZ3_ BK211.out 7;have hcz43_0:w41.cell? ⟨gb212,0,none⟩=some (.int .i64 a1_0):=(blk_cell BK212.out 0).trans rfl;have hcz43_1:w41.cell? ⟨gb212,1,none⟩=some (.int .i64 a1_1):=(blk_cell BK212.out 1).trans rfl;have hcz43_2:w41.cell? ⟨gb212,2,none⟩=some (.int .i64 a1_2):=(blk_cell BK212.out 2).trans rfl;have hcz43_3:w41.cell? ⟨gb212,3,none⟩=some (.slice A1_3 l1_3.length c1_3):=(blk_cell BK212.out 3).trans rfl;have hcz43_4:w41.cell? ⟨gb212,4,none⟩=some (.int .i64 a1_4):=(blk_cell BK212.out 4).trans rfl;have hcz43_5:w41.cell? ⟨gb212,5,none⟩=some (.int .i64 a1_5):=(blk_cell BK212.out 5).trans rfl;have hcz43_6:w41.cell? ⟨gb212,6,none⟩=some (.bool a1_6):=(blk_cell BK212.out 6).trans rfl;have hcz43_7:w41.cell? ⟨gb212,7,none⟩=some (.int .i64 a1_7):=(blk_cell BK212.out 7).trans rfl;have hfz43_0:=fZ3_ BK212.out 0;have hfz43_1:=fZ3_ BK212.out 1;have hfz43_2:=fZ3_ BK212.out 2;have hfz43_3:=fZ3_ BK212.out 3;have hfz43_4:=fZ3_ BK212.out 4;have hfz43_5:=fZ3_ BK212.out 5;have hfz43_6:=fZ3_ BK212.out 6;have hfz43_7:=fZ3_ BK212.out 7))
       go_ret
       exact ⟨by first|rfl|(simp [errW_none,errW_some] <;> rfl)|(simp [*,errW_none,errW_some] <;> rfl),by repeat (first|(with_reducible first|exact HB.out|apply bA3_|apply bN3_|apply bD3_|refine bS3_ ?_ GE211.out|refine bS3_ ?_ GE212.out)|exact HB.out)⟩
    ·rw [if_neg c8] at H
     have c8b0 : (a0_5 == a1_5) = false := beq_eq_false_iff_ne.mpr c8
     have c8b1 : (a0_5 != a1_5) = true := bne_iff_ne.mpr c8
     obtain rfl := Option.some.inj H
     go_enter Try.func27, Try.ntmps27
     go_wp2_with (first|((with_reducible refine gate_dst (N:=2) rfl ?_);refine box_event ?hg (N:=2) ?hd (cs:=#[.int .i64 a0_0,.int .i64 a0_1,.int .i64 a0_2,.slice A0_3 l0_3.length c0_3,.int .i64 a0_4,.int .i64 a0_5,.bool a0_6,.int .i64 a0_7]) (t:=35) ?hr ?_;(case hd=>rfl);(case hg=>rfl);(case hr=>first|(go_simp;done)|(go_simp;rfl));intro gb211 hg w44 hbox hb;have n0_:=mk3_ (bT3_ (by repeat (first|(with_reducible first|exact HB.out|apply bA3_|apply bN3_|apply bD3_)|exact HB.out)) hb);have n1_:=mk3_ (hbox);have n2_:=mk3_ ((by rw [hg];exact (bZ3_ (by repeat (first|(with_reducible first|exact HB.out|apply bA3_|apply bN3_|apply bD3_)|exact HB.out))):w.heap.size≤gb211));have n3_:=mk3_ ((by rw [hg];exact (bZ3_ (by repeat (first|(with_reducible first|exact HB.out|apply bA3_|apply bN3_|apply bD3_)|exact HB.out))):w.heap.size≤gb211));clear HB;have HB:=n0_;have BK211:=n1_;have GW211:=n2_;have GE211:=n3_;clear n0_ n1_ n2_ n3_;clear hb hbox hg)|((with_reducible refine gate_dst (N:=3) rfl ?_);refine box_event ?hg (N:=3) ?hd (cs:=#[.int .i64 a1_0,.int .i64 a1_1,.int .i64 a1_2,.slice A1_3 l1_3.length c1_3,.int .i64 a1_4,.int .i64 a1_5,.bool a1_6,.int .i64 a1_7]) (t:=35) ?hr ?_;(case hd=>rfl);(case hg=>rfl);(case hr=>first|(go_simp;done)|(go_simp;rfl));intro gb212 hg w45 hbox hb;have n0_:=mk3_ (blk_below (g:=gb211) (o:=.cells #[.int .i64 a0_0,.int .i64 a0_1,.int .i64 a0_2,.slice A0_3 l0_3.length c0_3,.int .i64 a0_4,.int .i64 a0_5,.bool a0_6,.int .i64 a0_7] 35 (0,0)) (by (with_reducible repeat (first|refine kN3_ ?_ _|refine kD3_ ?_|refine blk_alloc ?_ _));exact BK211.out) hb);have n1_:=mk3_ (bT3_ (by repeat (first|(with_reducible first|exact HB.out|apply bA3_|apply bN3_|apply bD3_|refine bS3_ ?_ GE211.out)|exact HB.out)) hb);have n2_:=mk3_ (hbox);have n3_:=mk3_ ((by rw [hg];exact (bZ3_ (by repeat (first|(with_reducible first|exact HB.out|apply bA3_|apply bN3_|apply bD3_|refine bS3_ ?_ GE211.out)|exact HB.out))):w.heap.size≤gb212));have n4_:=mk3_ ((by rw [hg];exact (bZ3_ (by repeat (first|(with_reducible first|exact HB.out|apply bA3_|apply bN3_|apply bD3_|refine bS3_ ?_ GE211.out)|exact HB.out))):w.heap.size≤gb212));have n5_:=mk3_ ((by rw [hg];exact Nat.ne_of_lt (blk_lt (g:=gb211) (o:=.cells #[.int .i64 a0_0,.int .i64 a0_1,.int .i64 a0_2,.slice A0_3 l0_3.length c0_3,.int .i64 a0_4,.int .i64 a0_5,.bool a0_6,.int .i64 a0_7] 35 (0,0)) (by (with_reducible repeat (first|refine kN3_ ?_ _|refine kD3_ ?_|refine blk_alloc ?_ _));exact BK211.out)):gb211≠gb212));have n6_:=mk3_ ((by rw [hg];exact Nat.ne_of_gt (blk_lt (g:=gb211) (o:=.cells #[.int .i64 a0_0,.int .i64 a0_1,.int .i64 a0_2,.slice A0_3 l0_3.length c0_3,.int .i64 a0_4,.int .i64 a0_5,.bool a0_6,.int .i64 a0_7] 35 (0,0)) (by (with_reducible repeat (first|refine kN3_ ?_ _|refine kD3_ ?_|refine blk_alloc ?_ _));exact BK211.out)):gb212≠gb211));clear BK211;clear HB;have BK211:=n0_;have HB:=n1_;have BK212:=n2_;have GW212:=n3_;have GE212:=n4_;have NB211_212:=n5_;have NB212_211:=n6_;clear n0_ n1_ n2_ n3_ n4_ n5_ n6_;clear hb hbox hg;have hnb46:=NB211_212.out;have hnc46:=NB212_211.out;have hcz47_0:w45.cell? ⟨gb211,0,none⟩=some (.int .i64 a0_0):=(blk_cell BK211.out 0).trans rfl;have hcz47_1:w45.cell? ⟨gb211,1,none⟩=some (.int .i64 a0_1):=(blk_cell BK211.out 1).trans rfl;have hcz47_2:w45.cell? ⟨gb211,2,none⟩=some (.int .i64 a0_2):=(blk_cell BK211.out 2).trans rfl;have hcz47_3:w45.cell? ⟨gb211,3,none⟩=some (.slice A0_3 l0_3.length c0_3):=(blk_cell BK211.out 3).trans rfl;have hcz47_4:w45.cell? ⟨gb211,4,none⟩=some (.int .i64 a0_4):=(blk_cell BK211.out 4).trans rfl;have hcz47_5:w45.cell? ⟨gb211,5,none⟩=some (.int .i64 a0_5):=(blk_cell BK211.out 5).trans rfl;have hcz47_6:w45.cell? ⟨gb211,6,none⟩=some (.bool a0_6):=(blk_cell BK211.out 6).trans rfl;have hcz47_7:w45.cell? ⟨gb211,7,none⟩=some (.int .i64 a0_7):=(blk_cell BK211.out 7).trans rfl;have hfz47_0:=fZ3_ BK211.out 0;have hfz47_1:=fZ3_ BK211.out 1;have hfz47_2:=fZ3_ BK211.out 2;have hfz47_3:=fZ3_ BK211.out 3;have hfz47_4:=fZ3_ BK211.out 4;have hfz47_5:=fZ3_ BK211.out 5;have hfz47_6:=fZ3_ BK211.out 6;have hfz47_7:=fZ3_ BK211.out 7;have hcz48_0:w45.cell? ⟨gb212,0,none⟩=some (.int .i64 a1_0):=(blk_cell BK212.out 0).trans rfl;have hcz48_1:w45.cell? ⟨gb212,1,none⟩=some (.int .i64 a1_1):=(blk_cell BK212.out 1).trans rfl;have hcz48_2:w45.cell? ⟨gb212,2,none⟩=some (.int .i64 a1_2):=(blk_cell BK212.out 2).trans rfl;have hcz48_3:w45.cell? ⟨gb212,3,none⟩=some (.slice A1_3 l1_3.length c1_3):=(blk_cell BK212.out 3).trans rfl;have hcz48_4:w45.cell? ⟨gb212,4,none⟩=some (.int .i64 a1_4):=(blk_cell BK212.out 4).trans rfl;have hcz48_5:w45.cell? ⟨gb212,5,none⟩=some (.int .i64 a1_5):=(blk_cell BK212.out 5).trans rfl;have hcz48_6:w45.cell? ⟨gb212,6,none⟩=some (.bool a1_6):=(blk_cell BK212.out 6).trans rfl;have hcz48_7:w45.cell? ⟨gb212,7,none⟩=some (.int .i64 a1_7):=(blk_cell BK212.out 7).trans rfl;have hfz48_0:=fZ3_ BK212.out 0;have hfz48_1:=fZ3_ BK212.out 1;have hfz48_2:=fZ3_ BK212.out 2;have hfz48_3:=fZ3_ BK212.out 3;have hfz48_4:=fZ3_ BK212.out 4;have hfz48_5:=fZ3_ BK212.out 5;have hfz48_6:=fZ3_ BK212.out 6;have hfz48_7:=fZ3_ BK212.out 7)|((with_reducible refine gate_callee (f:=50) rfl ?_);refine goesL_ (some 9) rfl rfl Try.func50 (by kernel_rfl) rfl #[.agg #[.int .i64 a0_0,.int .i64 a0_1,.int .i64 a0_2],.agg #[.int .i64 a1_0,.int .i64 a1_1,.int .i64 a1_2]] rfl (by (try simp only [List.map_toArray,List.map_cons,List.map_nil]);first|done|rfl|(simp only [List.length_drop,List.length_take];rfl)) ?_;(with_reducible refine (laws_eqGeometry.calls a0_0 a0_1 a0_2 a1_0 a1_1 a1_2 true _ A3.out).mono ?_);rintro e w49 ⟨rfl,hb⟩;refine ⟨_,rfl,?_⟩;have n0_:=mk3_ (blk_below (g:=gb211) (o:=.cells #[.int .i64 a0_0,.int .i64 a0_1,.int .i64 a0_2,.slice A0_3 l0_3.length c0_3,.int .i64 a0_4,.int .i64 a0_5,.bool a0_6,.int .i64 a0_7] 35 (0,0)) (by (with_reducible repeat (first|refine kN3_ ?_ _|refine kD3_ ?_|refine blk_alloc ?_ _));exact BK211.out) hb);have n1_:=mk3_ (blk_below (g:=gb212) (o:=.cells #[.int .i64 a1_0,.int .i64 a1_1,.int .i64 a1_2,.slice A1_3 l1_3.length c1_3,.int .i64 a1_4,.int .i64 a1_5,.bool a1_6,.int .i64 a1_7] 35 (0,0)) (by (with_reducible repeat (first|refine kN3_ ?_ _|refine kD3_ ?_|refine blk_alloc ?_ _));exact BK212.out) hb);have n2_:=mk3_ (bT3_ (by repeat (first|(with_reducible first|exact HB.out|apply bA3_|apply bN3_|apply bD3_|refine bS3_ ?_ GE211.out|refine bS3_ ?_ GE212.out)|exact HB.out)) hb);clear BK211;clear BK212;clear HB;have BK211:=n0_;have BK212:=n1_;have HB:=n2_;clear n0_ n1_ n2_;(try clear hb);(try clear hb2);(try clear hk);(try clear hi);have hcz50_0:w49.cell? ⟨gb211,0,none⟩=some (.int .i64 a0_0):=(blk_cell BK211.out 0).trans rfl;have hcz50_1:w49.cell? ⟨gb211,1,none⟩=some (.int .i64 a0_1):=(blk_cell BK211.out 1).trans rfl;have hcz50_2:w49.cell? ⟨gb211,2,none⟩=some (.int .i64 a0_2):=(blk_cell BK211.out 2).trans rfl;have hcz50_3:w49.cell? ⟨gb211,3,none⟩=some (.slice A0_3 l0_3.length c0_3):=(blk_cell BK211.out 3).trans rfl;have hcz50_4:w49.cell? ⟨gb211,4,none⟩=some (.int .i64 a0_4):=(blk_cell BK211.out 4).trans rfl;have hcz50_5:w49.cell? ⟨gb211,5,none⟩=some (.int .i64 a0_5):=(blk_cell BK211.out 5).trans rfl;have hcz50_6:w49.cell? ⟨gb211,6,none⟩=some (.bool a0_6):=(blk_cell BK211.out 6).trans rfl;have hcz50_7:w49.cell? ⟨gb211,7,none⟩=some (.int .i64 a0_7):=(blk_cell BK211.out 7).trans rfl;have hfz50_0:=fZ3_ BK211.out 0;have hfz50_1:=fZ3_ BK211.out 1;have hfz50_2:=fZ3_ BK211.out 2;have hfz50_3:=fZ3_ BK211.out 3;have hfz50_4:=fZ3_ BK211.out 4;have hfz50_5:=fZ3_ BK211.out 5;have hfz50_6:=fZ3_ BK211.out 6;have hfz50_7:=fZ3_ BK211.out 7;have hcz51_0:w49.cell? ⟨gb212,0,none⟩=some (.int .i64 a1_0):=(blk_cell BK212.out 0).trans rfl;have hcz51_1:w49.cell? ⟨gb212,1,none⟩=some (.int .i64 a1_1):=(blk_cell BK212.out 1).trans rfl;have hcz51_2:w49.cell? ⟨gb212,2,none⟩=some (.int .i64 a1_2):=(blk_cell BK212.out 2).trans rfl;have hcz51_3:w49.cell? ⟨gb212,3,none⟩=some (.slice A1_3 l1_3.length c1_3):=(blk_cell BK212.out 3).trans rfl;have hcz51_4:w49.cell? ⟨gb212,4,none⟩=some (.int .i64 a1_4):=(blk_cell BK212.out 4).trans rfl;have hcz51_5:w49.cell? ⟨gb212,5,none⟩=some (.int .i64 a1_5):=(blk_cell BK212.out 5).trans rfl;have hcz51_6:w49.cell? ⟨gb212,6,none⟩=some (.bool a1_6):=(blk_cell BK212.out 6).trans rfl;have hcz51_7:w49.cell? ⟨gb212,7,none⟩=some (.int .i64 a1_7):=(blk_cell BK212.out 7).trans rfl;have hfz51_0:=fZ3_ BK212.out 0;have hfz51_1:=fZ3_ BK212.out 1;have hfz51_2:=fZ3_ BK212.out 2;have hfz51_3:=fZ3_ BK212.out 3;have hfz51_4:=fZ3_ BK212.out 4;have hfz51_5:=fZ3_ BK212.out 5;have hfz51_6:=fZ3_ BK212.out 6;have hfz51_7:=fZ3_ BK212.out 7)|((with_reducible refine gate_callee (f:=51) rfl ?_);refine goesL_ (some 15) rfl rfl Try.func51 (by kernel_rfl) rfl #[.slice A0_3 l0_3.length c0_3,.slice A1_3 l1_3.length c1_3] rfl (by (try simp only [List.map_toArray,List.map_cons,List.map_nil]);first|done|rfl|(simp only [List.length_drop,List.length_take];rfl)) ?_;(with_reducible refine (laws_eqBlockS.calls k _ _ l0_3 _ _ l1_3 true _ ?side1 ?side2 ?side3 ?side4 A5.out).mono ?_);(case side1=>repeat (first|exact (Kd.C_below HR0_3.out HB.out)|(with_reducible refine Kd.C_alloc ?_ _)|(with_reducible refine Kd.C_drewN ?_ _)|(with_reducible refine Kd.C_drew ?_)));(case side2=>exact HC0_3.out);(case side3=>repeat (first|exact (Kd.C_below HR1_3.out HB.out)|(with_reducible refine Kd.C_alloc ?_ _)|(with_reducible refine Kd.C_drewN ?_ _)|(with_reducible refine Kd.C_drew ?_)));(case side4=>exact HC1_3.out);rintro e w52 ⟨rfl,hb⟩;refine ⟨_,rfl,?_⟩;have n0_:=mk3_ (blk_below (g:=gb211) (o:=.cells #[.int .i64 a0_0,.int .i64 a0_1,.int .i64 a0_2,.slice A0_3 l0_3.length c0_3,.int .i64 a0_4,.int .i64 a0_5,.bool a0_6,.int .i64 a0_7] 35 (0,0)) (by (with_reducible repeat (first|refine kN3_ ?_ _|refine kD3_ ?_|refine blk_alloc ?_ _));exact BK211.out) hb);have n1_:=mk3_ (blk_below (g:=gb212) (o:=.cells #[.int .i64 a1_0,.int .i64 a1_1,.int .i64 a1_2,.slice A1_3 l1_3.length c1_3,.int .i64 a1_4,.int .i64 a1_5,.bool a1_6,.int .i64 a1_7] 35 (0,0)) (by (with_reducible repeat (first|refine kN3_ ?_ _|refine kD3_ ?_|refine blk_alloc ?_ _));exact BK212.out) hb);have n2_:=mk3_ (bT3_ (by repeat (first|(with_reducible first|exact HB.out|apply bA3_|apply bN3_|apply bD3_|refine bS3_ ?_ GE211.out|refine bS3_ ?_ GE212.out)|exact HB.out)) hb);clear BK211;clear BK212;clear HB;have BK211:=n0_;have BK212:=n1_;have HB:=n2_;clear n0_ n1_ n2_;(try clear hb);(try clear hb2);(try clear hk);(try clear hi);have hcz53_0:w52.cell? ⟨gb211,0,none⟩=some (.int .i64 a0_0):=(blk_cell BK211.out 0).trans rfl;have hcz53_1:w52.cell? ⟨gb211,1,none⟩=some (.int .i64 a0_1):=(blk_cell BK211.out 1).trans rfl;have hcz53_2:w52.cell? ⟨gb211,2,none⟩=some (.int .i64 a0_2):=(blk_cell BK211.out 2).trans rfl;have hcz53_3:w52.cell? ⟨gb211,3,none⟩=some (.slice A0_3 l0_3.length c0_3):=(blk_cell BK211.out 3).trans rfl;have hcz53_4:w52.cell? ⟨gb211,4,none⟩=some (.int .i64 a0_4):=(blk_cell BK211.out 4).trans rfl;have hcz53_5:w52.cell? ⟨gb211,5,none⟩=some (.int .i64 a0_5):=(blk_cell BK211.out 5).trans rfl;have hcz53_6:w52.cell? ⟨gb211,6,none⟩=some (.bool a0_6):=(blk_cell BK211.out 6).trans rfl;have hcz53_7:w52.cell? ⟨gb211,7,none⟩=some (.int .i64 a0_7):=(blk_cell BK211.out 7).trans rfl;have hfz53_0:=fZ3_ BK211.out 0;have hfz53_1:=fZ3_ BK211.out 1;have hfz53_2:=fZ3_ BK211.out 2;have hfz53_3:=fZ3_ BK211.out 3;have hfz53_4:=fZ3_ BK211.out 4;have hfz53_5:=fZ3_ BK211.out 5;have hfz53_6:=fZ3_ BK211.out 6;have hfz53_7:=fZ3_ BK211.out 7;have hcz54_0:w52.cell? ⟨gb212,0,none⟩=some (.int .i64 a1_0):=(blk_cell BK212.out 0).trans rfl;have hcz54_1:w52.cell? ⟨gb212,1,none⟩=some (.int .i64 a1_1):=(blk_cell BK212.out 1).trans rfl;have hcz54_2:w52.cell? ⟨gb212,2,none⟩=some (.int .i64 a1_2):=(blk_cell BK212.out 2).trans rfl;have hcz54_3:w52.cell? ⟨gb212,3,none⟩=some (.slice A1_3 l1_3.length c1_3):=(blk_cell BK212.out 3).trans rfl;have hcz54_4:w52.cell? ⟨gb212,4,none⟩=some (.int .i64 a1_4):=(blk_cell BK212.out 4).trans rfl;have hcz54_5:w52.cell? ⟨gb212,5,none⟩=some (.int .i64 a1_5):=(blk_cell BK212.out 5).trans rfl;have hcz54_6:w52.cell? ⟨gb212,6,none⟩=some (.bool a1_6):=(blk_cell BK212.out 6).trans rfl;have hcz54_7:w52.cell? ⟨gb212,7,none⟩=some (.int .i64 a1_7):=(blk_cell BK212.out 7).trans rfl;have hfz54_0:=fZ3_ BK212.out 0;have hfz54_1:=fZ3_ BK212.out 1;have hfz54_2:=fZ3_ BK212.out 2;have hfz54_3:=fZ3_ BK212.out 3;have hfz54_4:=fZ3_ BK212.out 4;have hfz54_5:=fZ3_ BK212.out 5;have hfz54_6:=fZ3_ BK212.out 6;have hfz54_7:=fZ3_ BK212.out 7))
     go_ret
     exact ⟨by first|rfl|(simp [errW_none,errW_some] <;> rfl)|(simp [*,errW_none,errW_some] <;> rfl),by repeat (first|(with_reducible first|exact HB.out|apply bA3_|apply bN3_|apply bD3_|refine bS3_ ?_ GE211.out|refine bS3_ ?_ GE212.out)|exact HB.out)⟩
   ·rw [if_neg c7] at H
    have c7b0 : (a0_4 == a1_4) = false := beq_eq_false_iff_ne.mpr c7
    have c7b1 : (a0_4 != a1_4) = true := bne_iff_ne.mpr c7
    obtain rfl := Option.some.inj H
    go_enter Try.func27, Try.ntmps27
    go_wp2_with (first|((with_reducible refine gate_dst (N:=2) rfl ?_);refine box_event ?hg (N:=2) ?hd (cs:=#[.int .i64 a0_0,.int .i64 a0_1,.int .i64 a0_2,.slice A0_3 l0_3.length c0_3,.int .i64 a0_4,.int .i64 a0_5,.bool a0_6,.int .i64 a0_7]) (t:=35) ?hr ?_;(case hd=>rfl);(case hg=>rfl);(case hr=>first|(go_simp;done)|(go_simp;rfl));intro gb211 hg w55 hbox hb;have n0_:=mk3_ (bT3_ (by repeat (first|(with_reducible first|exact HB.out|apply bA3_|apply bN3_|apply bD3_)|exact HB.out)) hb);have n1_:=mk3_ (hbox);have n2_:=mk3_ ((by rw [hg];exact (bZ3_ (by repeat (first|(with_reducible first|exact HB.out|apply bA3_|apply bN3_|apply bD3_)|exact HB.out))):w.heap.size≤gb211));have n3_:=mk3_ ((by rw [hg];exact (bZ3_ (by repeat (first|(with_reducible first|exact HB.out|apply bA3_|apply bN3_|apply bD3_)|exact HB.out))):w.heap.size≤gb211));clear HB;have HB:=n0_;have BK211:=n1_;have GW211:=n2_;have GE211:=n3_;clear n0_ n1_ n2_ n3_;clear hb hbox hg)|((with_reducible refine gate_dst (N:=3) rfl ?_);refine box_event ?hg (N:=3) ?hd (cs:=#[.int .i64 a1_0,.int .i64 a1_1,.int .i64 a1_2,.slice A1_3 l1_3.length c1_3,.int .i64 a1_4,.int .i64 a1_5,.bool a1_6,.int .i64 a1_7]) (t:=35) ?hr ?_;(case hd=>rfl);(case hg=>rfl);(case hr=>first|(go_simp;done)|(go_simp;rfl));intro gb212 hg w56 hbox hb;have n0_:=mk3_ (blk_below (g:=gb211) (o:=.cells #[.int .i64 a0_0,.int .i64 a0_1,.int .i64 a0_2,.slice A0_3 l0_3.length c0_3,.int .i64 a0_4,.int .i64 a0_5,.bool a0_6,.int .i64 a0_7] 35 (0,0)) (by (with_reducible repeat (first|refine kN3_ ?_ _|refine kD3_ ?_|refine blk_alloc ?_ _));exact BK211.out) hb);have n1_:=mk3_ (bT3_ (by repeat (first|(with_reducible first|exact HB.out|apply bA3_|apply bN3_|apply bD3_|refine bS3_ ?_ GE211.out)|exact HB.out)) hb);have n2_:=mk3_ (hbox);have n3_:=mk3_ ((by rw [hg];exact (bZ3_ (by repeat (first|(with_reducible first|exact HB.out|apply bA3_|apply bN3_|apply bD3_|refine bS3_ ?_ GE211.out)|exact HB.out))):w.heap.size≤gb212));have n4_:=mk3_ ((by rw [hg];exact (bZ3_ (by repeat (first|(with_reducible first|exact HB.out|apply bA3_|apply bN3_|apply bD3_|refine bS3_ ?_ GE211.out)|exact HB.out))):w.heap.size≤gb212));have n5_:=mk3_ ((by rw [hg];exact Nat.ne_of_lt (blk_lt (g:=gb211) (o:=.cells #[.int .i64 a0_0,.int .i64 a0_1,.int .i64 a0_2,.slice A0_3 l0_3.length c0_3,.int .i64 a0_4,.int .i64 a0_5,.bool a0_6,.int .i64 a0_7] 35 (0,0)) (by (with_reducible repeat (first|refine kN3_ ?_ _|refine kD3_ ?_|refine blk_alloc ?_ _));exact BK211.out)):gb211≠gb212));have n6_:=mk3_ ((by rw [hg];exact Nat.ne_of_gt (blk_lt (g:=gb211) (o:=.cells #[.int .i64 a0_0,.int .i64 a0_1,.int .i64 a0_2,.slice A0_3 l0_3.length c0_3,.int .i64 a0_4,.int .i64 a0_5,.bool a0_6,.int .i64 a0_7] 35 (0,0)) (by (with_reducible repeat (first|refine kN3_ ?_ _|refine kD3_ ?_|refine blk_alloc ?_ _));exact BK211.out)):gb212≠gb211));clear BK211;clear HB;have BK211:=n0_;have HB:=n1_;have BK212:=n2_;have GW212:=n3_;have GE212:=n4_;have NB211_212:=n5_;have NB212_211:=n6_;clear n0_ n1_ n2_ n3_ n4_ n5_ n6_;clear hb hbox hg;have hnb57:=NB211_212.out;have hnc57:=NB212_211.out;have hcz58_0:w56.cell? ⟨gb211,0,none⟩=some (.int .i64 a0_0):=(blk_cell BK211.out 0).trans rfl;have hcz58_1:w56.cell? ⟨gb211,1,none⟩=some (.int .i64 a0_1):=(blk_cell BK211.out 1).trans rfl;have hcz58_2:w56.cell? ⟨gb211,2,none⟩=some (.int .i64 a0_2):=(blk_cell BK211.out 2).trans rfl;have hcz58_3:w56.cell? ⟨gb211,3,none⟩=some (.slice A0_3 l0_3.length c0_3):=(blk_cell BK211.out 3).trans rfl;have hcz58_4:w56.cell? ⟨gb211,4,none⟩=some (.int .i64 a0_4):=(blk_cell BK211.out 4).trans rfl;have hcz58_5:w56.cell? ⟨gb211,5,none⟩=some (.int .i64 a0_5):=(blk_cell BK211.out 5).trans rfl;have hcz58_6:w56.cell? ⟨gb211,6,none⟩=some (.bool a0_6):=(blk_cell BK211.out 6).trans rfl;have hcz58_7:w56.cell? ⟨gb211,7,none⟩=some (.int .i64 a0_7):=(blk_cell BK211.out 7).trans rfl;have hfz58_0:=fZ3_ BK211.out 0;have hfz58_1:=fZ3_ BK211.out 1;have hfz58_2:=fZ3_ BK211.out 2;have hfz58_3:=fZ3_ BK211.out 3;have hfz58_4:=fZ3_ BK211.out 4;have hfz58_5:=fZ3_ BK211.out 5;have hfz58_6:=fZ3_ BK211.out 6;have hfz58_7:=fZ3_ BK211.out 7;have hcz59_0:w56.cell? ⟨gb212,0,none⟩=some (.int .i64 a1_0):=(blk_cell BK212.out 0).trans rfl;have hcz59_1:w56.cell? ⟨gb212,1,none⟩=some (.int .i64 a1_1):=(blk_cell BK212.out 1).trans rfl;have hcz59_2:w56.cell? ⟨gb212,2,none⟩=some (.int .i64 a1_2):=(blk_cell BK212.out 2).trans rfl;have hcz59_3:w56.cell? ⟨gb212,3,none⟩=some (.slice A1_3 l1_3.length c1_3):=(blk_cell BK212.out 3).trans rfl;have hcz59_4:w56.cell? ⟨gb212,4,none⟩=some (.int .i64 a1_4):=(blk_cell BK212.out 4).trans rfl;have hcz59_5:w56.cell? ⟨gb212,5,none⟩=some (.int .i64 a1_5):=(blk_cell BK212.out 5).trans rfl;have hcz59_6:w56.cell? ⟨gb212,6,none⟩=some (.bool a1_6):=(blk_cell BK212.out 6).trans rfl;have hcz59_7:w56.cell? ⟨gb212,7,none⟩=some (.int .i64 a1_7):=(blk_cell BK212.out 7).trans rfl;have hfz59_0:=fZ3_ BK212.out 0;have hfz59_1:=fZ3_ BK212.out 1;have hfz59_2:=fZ3_ BK212.out 2;have hfz59_3:=fZ3_ BK212.out 3;have hfz59_4:=fZ3_ BK212.out 4;have hfz59_5:=fZ3_ BK212.out 5;have hfz59_6:=fZ3_ BK212.out 6;have hfz59_7:=fZ3_ BK212.out 7)|((with_reducible refine gate_callee (f:=50) rfl ?_);refine goesL_ (some 9) rfl rfl Try.func50 (by kernel_rfl) rfl #[.agg #[.int .i64 a0_0,.int .i64 a0_1,.int .i64 a0_2],.agg #[.int .i64 a1_0,.int .i64 a1_1,.int .i64 a1_2]] rfl (by (try simp only [List.map_toArray,List.map_cons,List.map_nil]);first|done|rfl|(simp only [List.length_drop,List.length_take];rfl)) ?_;(with_reducible refine (laws_eqGeometry.calls a0_0 a0_1 a0_2 a1_0 a1_1 a1_2 true _ A3.out).mono ?_);rintro e w60 ⟨rfl,hb⟩;refine ⟨_,rfl,?_⟩;have n0_:=mk3_ (blk_below (g:=gb211) (o:=.cells #[.int .i64 a0_0,.int .i64 a0_1,.int .i64 a0_2,.slice A0_3 l0_3.length c0_3,.int .i64 a0_4,.int .i64 a0_5,.bool a0_6,.int .i64 a0_7] 35 (0,0)) (by (with_reducible repeat (first|refine kN3_ ?_ _|refine kD3_ ?_|refine blk_alloc ?_ _));exact BK211.out) hb);have n1_:=mk3_ (blk_below (g:=gb212) (o:=.cells #[.int .i64 a1_0,.int .i64 a1_1,.int .i64 a1_2,.slice A1_3 l1_3.length c1_3,.int .i64 a1_4,.int .i64 a1_5,.bool a1_6,.int .i64 a1_7] 35 (0,0)) (by (with_reducible repeat (first|refine kN3_ ?_ _|refine kD3_ ?_|refine blk_alloc ?_ _));exact BK212.out) hb);have n2_:=mk3_ (bT3_ (by repeat (first|(with_reducible first|exact HB.out|apply bA3_|apply bN3_|apply bD3_|refine bS3_ ?_ GE211.out|refine bS3_ ?_ GE212.out)|exact HB.out)) hb);clear BK211;clear BK212;clear HB;have BK211:=n0_;have BK212:=n1_;have HB:=n2_;clear n0_ n1_ n2_;(try clear hb);(try clear hb2);(try clear hk);(try clear hi);have hcz61_0:w60.cell? ⟨gb211,0,none⟩=some (.int .i64 a0_0):=(blk_cell BK211.out 0).trans rfl;have hcz61_1:w60.cell? ⟨gb211,1,none⟩=some (.int .i64 a0_1):=(blk_cell BK211.out 1).trans rfl;have hcz61_2:w60.cell? ⟨gb211,2,none⟩=some (.int .i64 a0_2):=(blk_cell BK211.out 2).trans rfl;have hcz61_3:w60.cell? ⟨gb211,3,none⟩=some (.slice A0_3 l0_3.length c0_3):=(blk_cell BK211.out 3).trans rfl;have hcz61_4:w60.cell? ⟨gb211,4,none⟩=some (.int .i64 a0_4):=(blk_cell BK211.out 4).trans rfl;have hcz61_5:w60.cell? ⟨gb211,5,none⟩=some (.int .i64 a0_5):=(blk_cell BK211.out 5).trans rfl;have hcz61_6:w60.cell? ⟨gb211,6,none⟩=some (.bool a0_6):=(blk_cell BK211.out 6).trans rfl;have hcz61_7:w60.cell? ⟨gb211,7,none⟩=some (.int .i64 a0_7):=(blk_cell BK211.out 7).trans rfl;have hfz61_0:=fZ3_ BK211.out 0;have hfz61_1:=fZ3_ BK211.out 1;have hfz61_2:=fZ3_ BK211.out 2;have hfz61_3:=fZ3_ BK211.out 3;have hfz61_4:=fZ3_ BK211.out 4;have hfz61_5:=fZ3_ BK211.out 5;have hfz61_6:=fZ3_ BK211.out 6;have hfz61_7:=fZ3_ BK211.out 7;have hcz62_0:w60.cell? ⟨gb212,0,none⟩=some (.int .i64 a1_0):=(blk_cell BK212.out 0).trans rfl;have hcz62_1:w60.cell? ⟨gb212,1,none⟩=some (.int .i64 a1_1):=(blk_cell BK212.out 1).trans rfl;have hcz62_2:w60.cell? ⟨gb212,2,none⟩=some (.int .i64 a1_2):=(blk_cell BK212.out 2).trans rfl;have hcz62_3:w60.cell? ⟨gb212,3,none⟩=some (.slice A1_3 l1_3.length c1_3):=(blk_cell BK212.out 3).trans rfl;have hcz62_4:w60.cell? ⟨gb212,4,none⟩=some (.int .i64 a1_4):=(blk_cell BK212.out 4).trans rfl;have hcz62_5:w60.cell? ⟨gb212,5,none⟩=some (.int .i64 a1_5):=(blk_cell BK212.out 5).trans rfl;have hcz62_6:w60.cell? ⟨gb212,6,none⟩=some (.bool a1_6):=(blk_cell BK212.out 6).trans rfl;have hcz62_7:w60.cell? ⟨gb212,7,none⟩=some (.int .i64 a1_7):=(blk_cell BK212.out 7).trans rfl;have hfz62_0:=fZ3_ BK212.out 0;have hfz62_1:=fZ3_ BK212.out 1;have hfz62_2:=fZ3_ BK212.out 2;have hfz62_3:=fZ3_ BK212.out 3;have hfz62_4:=fZ3_ BK212.out 4;have hfz62_5:=fZ3_ BK212.out 5;have hfz62_6:=fZ3_ BK212.out 6;have hfz62_7:=fZ3_ BK212.out 7)|((with_reducible refine gate_callee (f:=51) rfl ?_);refine goesL_ (some 15) rfl rfl Try.func51 (by kernel_rfl) rfl #[.slice A0_3 l0_3.length c0_3,.slice A1_3 l1_3.length c1_3] rfl (by (try simp only [List.map_toArray,List.map_cons,List.map_nil]);first|done|rfl|(simp only [List.length_drop,List.length_take];rfl)) ?_;(with_reducible refine (laws_eqBlockS.calls k _ _ l0_3 _ _ l1_3 true _ ?side1 ?side2 ?side3 ?side4 A5.out).mono ?_);(case side1=>repeat (first|exact (Kd.C_below HR0_3.out HB.out)|(with_reducible refine Kd.C_alloc ?_ _)|(with_reducible refine Kd.C_drewN ?_ _)|(with_reducible refine Kd.C_drew ?_)));(case side2=>exact HC0_3.out);(case side3=>repeat (first|exact (Kd.C_below HR1_3.out HB.out)|(with_reducible refine Kd.C_alloc ?_ _)|(with_reducible refine Kd.C_drewN ?_ _)|(with_reducible refine Kd.C_drew ?_)));(case side4=>exact HC1_3.out);rintro e w63 ⟨rfl,hb⟩;refine ⟨_,rfl,?_⟩;have n0_:=mk3_ (blk_below (g:=gb211) (o:=.cells #[.int .i64 a0_0,.int .i64 a0_1,.int .i64 a0_2,.slice A0_3 l0_3.length c0_3,.int .i64 a0_4,.int .i64 a0_5,.bool a0_6,.int .i64 a0_7] 35 (0,0)) (by (with_reducible repeat (first|refine kN3_ ?_ _|refine kD3_ ?_|refine blk_alloc ?_ _));exact BK211.out) hb);have n1_:=mk3_ (blk_below (g:=gb212) (o:=.cells #[.int .i64 a1_0,.int .i64 a1_1,.int .i64 a1_2,.slice A1_3 l1_3.length c1_3,.int .i64 a1_4,.int .i64 a1_5,.bool a1_6,.int .i64 a1_7] 35 (0,0)) (by (with_reducible repeat (first|refine kN3_ ?_ _|refine kD3_ ?_|refine blk_alloc ?_ _));exact BK212.out) hb);have n2_:=mk3_ (bT3_ (by repeat (first|(with_reducible first|exact HB.out|apply bA3_|apply bN3_|apply bD3_|refine bS3_ ?_ GE211.out|refine bS3_ ?_ GE212.out)|exact HB.out)) hb);clear BK211;clear BK212;clear HB;have BK211:=n0_;have BK212:=n1_;have HB:=n2_;clear n0_ n1_ n2_;(try clear hb);(try clear hb2);(try clear hk);(try clear hi);have hcz64_0:w63.cell? ⟨gb211,0,none⟩=some (.int .i64 a0_0):=(blk_cell BK211.out 0).trans rfl;have hcz64_1:w63.cell? ⟨gb211,1,none⟩=some (.int .i64 a0_1):=(blk_cell BK211.out 1).trans rfl;have hcz64_2:w63.cell? ⟨gb211,2,none⟩=some (.int .i64 a0_2):=(blk_cell BK211.out 2).trans rfl;have hcz64_3:w63.cell? ⟨gb211,3,none⟩=some (.slice A0_3 l0_3.length c0_3):=(blk_cell BK211.out 3).trans rfl;have hcz64_4:w63.cell? ⟨gb211,4,none⟩=some (.int .i64 a0_4):=(blk_cell BK211.out 4).trans rfl;have hcz64_5:w63.cell? ⟨gb211,5,none⟩=some (.int .i64 a0_5):=(blk_cell BK211.out 5).trans rfl;have hcz64_6:w63.cell? ⟨gb211,6,none⟩=some (.bool a0_6):=(blk_cell BK211.out 6).trans rfl;have hcz64_7:w63.cell? ⟨gb211,7,none⟩=some (.int .i64 a0_7):=(blk_cell BK211.out 7).trans rfl;have hfz64_0:=fZ3_ BK211.out 0;have hfz64_1:=fZ3_ BK211.out 1;have hfz64_2:=fZ3_ BK211.out 2;have hfz64_3:=fZ3_ BK211.out 3;have hfz64_4:=fZ3_ BK211.out 4;have hfz64_5:=fZ3_ BK211.out 5;have hfz64_6:=fZ3_ BK211.out 6;have hfz64_7:=fZ3_ BK211.out 7;have hcz65_0:w63.cell? ⟨gb212,0,none⟩=some (.int .i64 a1_0):=(blk_cell BK212.out 0).trans rfl;have hcz65_1:w63.cell? ⟨gb212,1,none⟩=some (.int .i64 a1_1):=(blk_cell BK212.out 1).trans rfl;have hcz65_2:w63.cell? ⟨gb212,2,none⟩=some (.int .i64 a1_2):=(blk_cell BK212.out 2).trans rfl;have hcz65_3:w63.cell? ⟨gb212,3,none⟩=some (.slice A1_3 l1_3.length c1_3):=(blk_cell BK212.out 3).trans rfl;have hcz65_4:w63.cell? ⟨gb212,4,none⟩=some (.int .i64 a1_4):=(blk_cell BK212.out 4).trans rfl;have hcz65_5:w63.cell? ⟨gb212,5,none⟩=some (.int .i64 a1_5):=(blk_cell BK212.out 5).trans rfl;have hcz65_6:w63.cell? ⟨gb212,6,none⟩=some (.bool a1_6):=(blk_cell BK212.out 6).trans rfl;have hcz65_7:w63.cell? ⟨gb212,7,none⟩=some (.int .i64 a1_7):=(blk_cell BK212.out 7).trans rfl;have hfz65_0:=fZ3_ BK212.out 0;have hfz65_1:=fZ3_ BK212.out 1;have hfz65_2:=fZ3_ BK212.out 2;have hfz65_3:=fZ3_ BK212.out 3;have hfz65_4:=fZ3_ BK212.out 4;have hfz65_5:=fZ3_ BK212.out 5;have hfz65_6:=fZ3_ BK212.out 6;have hfz65_7:=fZ3_ BK212.out 7))
    go_ret
    exact ⟨by first|rfl|(simp [errW_none,errW_some] <;> rfl)|(simp [*,errW_none,errW_some] <;> rfl),by repeat (first|(with_reducible first|exact HB.out|apply bA3_|apply bN3_|apply bD3_|refine bS3_ ?_ GE211.out|refine bS3_ ?_ GE212.out)|exact HB.out)⟩
  ·replace c6 := Bool.eq_false_iff.mpr c6
   subst c6
   have H1:(some false)=some r:=by rw [if_neg (show ¬ (false=true) by decide)] at H;exact H
   clear H
   have H := H1
   clear H1
   obtain rfl := Option.some.inj H
   go_enter Try.func27, Try.ntmps27
   go_wp2_with (first|((with_reducible refine gate_dst (N:=2) rfl ?_);refine box_event ?hg (N:=2) ?hd (cs:=#[.int .i64 a0_0,.int .i64 a0_1,.int .i64 a0_2,.slice A0_3 l0_3.length c0_3,.int .i64 a0_4,.int .i64 a0_5,.bool a0_6,.int .i64 a0_7]) (t:=35) ?hr ?_;(case hd=>rfl);(case hg=>rfl);(case hr=>first|(go_simp;done)|(go_simp;rfl));intro gb211 hg w66 hbox hb;have n0_:=mk3_ (bT3_ (by repeat (first|(with_reducible first|exact HB.out|apply bA3_|apply bN3_|apply bD3_)|exact HB.out)) hb);have n1_:=mk3_ (hbox);have n2_:=mk3_ ((by rw [hg];exact (bZ3_ (by repeat (first|(with_reducible first|exact HB.out|apply bA3_|apply bN3_|apply bD3_)|exact HB.out))):w.heap.size≤gb211));have n3_:=mk3_ ((by rw [hg];exact (bZ3_ (by repeat (first|(with_reducible first|exact HB.out|apply bA3_|apply bN3_|apply bD3_)|exact HB.out))):w.heap.size≤gb211));clear HB;have HB:=n0_;have BK211:=n1_;have GW211:=n2_;have GE211:=n3_;clear n0_ n1_ n2_ n3_;clear hb hbox hg)|((with_reducible refine gate_dst (N:=3) rfl ?_);refine box_event ?hg (N:=3) ?hd (cs:=#[.int .i64 a1_0,.int .i64 a1_1,.int .i64 a1_2,.slice A1_3 l1_3.length c1_3,.int .i64 a1_4,.int .i64 a1_5,.bool a1_6,.int .i64 a1_7]) (t:=35) ?hr ?_;(case hd=>rfl);(case hg=>rfl);(case hr=>first|(go_simp;done)|(go_simp;rfl));intro gb212 hg w67 hbox hb;have n0_:=mk3_ (blk_below (g:=gb211) (o:=.cells #[.int .i64 a0_0,.int .i64 a0_1,.int .i64 a0_2,.slice A0_3 l0_3.length c0_3,.int .i64 a0_4,.int .i64 a0_5,.bool a0_6,.int .i64 a0_7] 35 (0,0)) (by (with_reducible repeat (first|refine kN3_ ?_ _|refine kD3_ ?_|refine blk_alloc ?_ _));exact BK211.out) hb);have n1_:=mk3_ (bT3_ (by repeat (first|(with_reducible first|exact HB.out|apply bA3_|apply bN3_|apply bD3_|refine bS3_ ?_ GE211.out)|exact HB.out)) hb);have n2_:=mk3_ (hbox);have n3_:=mk3_ ((by rw [hg];exact (bZ3_ (by repeat (first|(with_reducible first|exact HB.out|apply bA3_|apply bN3_|apply bD3_|refine bS3_ ?_ GE211.out)|exact HB.out))):w.heap.size≤gb212));have n4_:=mk3_ ((by rw [hg];exact (bZ3_ (by repeat (first|(with_reducible first|exact HB.out|apply bA3_|apply bN3_|apply bD3_|refine bS3_ ?_ GE211.out)|exact HB.out))):w.heap.size≤gb212));have n5_:=mk3_ ((by rw [hg];exact Nat.ne_of_lt (blk_lt (g:=gb211) (o:=.cells #[.int .i64 a0_0,.int .i64 a0_1,.int .i64 a0_2,.slice A0_3 l0_3.length c0_3,.int .i64 a0_4,.int .i64 a0_5,.bool a0_6,.int .i64 a0_7] 35 (0,0)) (by (with_reducible repeat (first|refine kN3_ ?_ _|refine kD3_ ?_|refine blk_alloc ?_ _));exact BK211.out)):gb211≠gb212));have n6_:=mk3_ ((by rw [hg];exact Nat.ne_of_gt (blk_lt (g:=gb211) (o:=.cells #[.int .i64 a0_0,.int .i64 a0_1,.int .i64 a0_2,.slice A0_3 l0_3.length c0_3,.int .i64 a0_4,.int .i64 a0_5,.bool a0_6,.int .i64 a0_7] 35 (0,0)) (by (with_reducible repeat (first|refine kN3_ ?_ _|refine kD3_ ?_|refine blk_alloc ?_ _));exact BK211.out)):gb212≠gb211));clear BK211;clear HB;have BK211:=n0_;have HB:=n1_;have BK212:=n2_;have GW212:=n3_;have GE212:=n4_;have NB211_212:=n5_;have NB212_211:=n6_;clear n0_ n1_ n2_ n3_ n4_ n5_ n6_;clear hb hbox hg;have hnb68:=NB211_212.out;have hnc68:=NB212_211.out;have hcz69_0:w67.cell? ⟨gb211,0,none⟩=some (.int .i64 a0_0):=(blk_cell BK211.out 0).trans rfl;have hcz69_1:w67.cell? ⟨gb211,1,none⟩=some (.int .i64 a0_1):=(blk_cell BK211.out 1).trans rfl;have hcz69_2:w67.cell? ⟨gb211,2,none⟩=some (.int .i64 a0_2):=(blk_cell BK211.out 2).trans rfl;have hcz69_3:w67.cell? ⟨gb211,3,none⟩=some (.slice A0_3 l0_3.length c0_3):=(blk_cell BK211.out 3).trans rfl;have hcz69_4:w67.cell? ⟨gb211,4,none⟩=some (.int .i64 a0_4):=(blk_cell BK211.out 4).trans rfl;have hcz69_5:w67.cell? ⟨gb211,5,none⟩=some (.int .i64 a0_5):=(blk_cell BK211.out 5).trans rfl;have hcz69_6:w67.cell? ⟨gb211,6,none⟩=some (.bool a0_6):=(blk_cell BK211.out 6).trans rfl;have hcz69_7:w67.cell? ⟨gb211,7,none⟩=some (.int .i64 a0_7):=(blk_cell BK211.out 7).trans rfl;have hfz69_0:=fZ3_ BK211.out 0;have hfz69_1:=fZ3_ BK211.out 1;have hfz69_2:=fZ3_ BK211.out 2;have hfz69_3:=fZ3_ BK211.out 3;have hfz69_4:=fZ3_ BK211.out 4;have hfz69_5:=fZ3_ BK211.out 5;have hfz69_6:=fZ3_ BK211.out 6;have hfz69_7:=fZ3_ BK211.out 7;have hcz70_0:w67.cell? ⟨gb212,0,none⟩=some (.int .i64 a1_0):=(blk_cell BK212.out 0).trans rfl;have hcz70_1:w67.cell? ⟨gb212,1,none⟩=some (.int .i64 a1_1):=(blk_cell BK212.out 1).trans rfl;have hcz70_2:w67.cell? ⟨gb212,2,none⟩=some (.int .i64 a1_2):=(blk_cell BK212.out 2).trans rfl;have hcz70_3:w67.cell? ⟨gb212,3,none⟩=some (.slice A1_3 l1_3.length c1_3):=(blk_cell BK212.out 3).trans rfl;have hcz70_4:w67.cell? ⟨gb212,4,none⟩=some (.int .i64 a1_4):=(blk_cell BK212.out 4).trans rfl;have hcz70_5:w67.cell? ⟨gb212,5,none⟩=some (.int .i64 a1_5):=(blk_cell BK212.out 5).trans rfl;have hcz70_6:w67.cell? ⟨gb212,6,none⟩=some (.bool a1_6):=(blk_cell BK212.out 6).trans rfl;have hcz70_7:w67.cell? ⟨gb212,7,none⟩=some (.int .i64 a1_7):=(blk_cell BK212.out 7).trans rfl;have hfz70_0:=fZ3_ BK212.out 0;have hfz70_1:=fZ3_ BK212.out 1;have hfz70_2:=fZ3_ BK212.out 2;have hfz70_3:=fZ3_ BK212.out 3;have hfz70_4:=fZ3_ BK212.out 4;have hfz70_5:=fZ3_ BK212.out 5;have hfz70_6:=fZ3_ BK212.out 6;have hfz70_7:=fZ3_ BK212.out 7)|((with_reducible refine gate_callee (f:=50) rfl ?_);refine goesL_ (some 9) rfl rfl Try.func50 (by kernel_rfl) rfl #[.agg #[.int .i64 a0_0,.int .i64 a0_1,.int .i64 a0_2],.agg #[.int .i64 a1_0,.int .i64 a1_1,.int .i64 a1_2]] rfl (by (try simp only [List.map_toArray,List.map_cons,List.map_nil]);first|done|rfl|(simp only [List.length_drop,List.length_take];rfl)) ?_;(with_reducible refine (laws_eqGeometry.calls a0_0 a0_1 a0_2 a1_0 a1_1 a1_2 true _ A3.out).mono ?_);rintro e w71 ⟨rfl,hb⟩;refine ⟨_,rfl,?_⟩;have n0_:=mk3_ (blk_below (g:=gb211) (o:=.cells #[.int .i64 a0_0,.int .i64 a0_1,.int .i64 a0_2,.slice A0_3 l0_3.length c0_3,.int .i64 a0_4,.int .i64 a0_5,.bool a0_6,.int .i64 a0_7] 35 (0,0)) (by (with_reducible repeat (first|refine kN3_ ?_ _|refine kD3_ ?_|refine blk_alloc ?_ _));exact BK211.out) hb);have n1_:=mk3_ (blk_below (g:=gb212) (o:=.cells #[.int .i64 a1_0,.int .i64 a1_1,.int .i64 a1_2,.slice A1_3 l1_3.length c1_3,.int .i64 a1_4,.int .i64 a1_5,.bool a1_6,.int .i64 a1_7] 35 (0,0)) (by (with_reducible repeat (first|refine kN3_ ?_ _|refine kD3_ ?_|refine blk_alloc ?_ _));exact BK212.out) hb);have n2_:=mk3_ (bT3_ (by repeat (first|(with_reducible first|exact HB.out|apply bA3_|apply bN3_|apply bD3_|refine bS3_ ?_ GE211.out|refine bS3_ ?_ GE212.out)|exact HB.out)) hb);clear BK211;clear BK212;clear HB;have BK211:=n0_;have BK212:=n1_;have HB:=n2_;clear n0_ n1_ n2_;(try clear hb);(try clear hb2);(try clear hk);(try clear hi);have hcz72_0:w71.cell? ⟨gb211,0,none⟩=some (.int .i64 a0_0):=(blk_cell BK211.out 0).trans rfl;have hcz72_1:w71.cell? ⟨gb211,1,none⟩=some (.int .i64 a0_1):=(blk_cell BK211.out 1).trans rfl;have hcz72_2:w71.cell? ⟨gb211,2,none⟩=some (.int .i64 a0_2):=(blk_cell BK211.out 2).trans rfl;have hcz72_3:w71.cell? ⟨gb211,3,none⟩=some (.slice A0_3 l0_3.length c0_3):=(blk_cell BK211.out 3).trans rfl;have hcz72_4:w71.cell? ⟨gb211,4,none⟩=some (.int .i64 a0_4):=(blk_cell BK211.out 4).trans rfl;have hcz72_5:w71.cell? ⟨gb211,5,none⟩=some (.int .i64 a0_5):=(blk_cell BK211.out 5).trans rfl;have hcz72_6:w71.cell? ⟨gb211,6,none⟩=some (.bool a0_6):=(blk_cell BK211.out 6).trans rfl;have hcz72_7:w71.cell? ⟨gb211,7,none⟩=some (.int .i64 a0_7):=(blk_cell BK211.out 7).trans rfl;have hfz72_0:=fZ3_ BK211.out 0;have hfz72_1:=fZ3_ BK211.out 1;have hfz72_2:=fZ3_ BK211.out 2;have hfz72_3:=fZ3_ BK211.out 3;have hfz72_4:=fZ3_ BK211.out 4;have hfz72_5:=fZ3_ BK211.out 5;have hfz72_6:=fZ3_ BK211.out 6;have hfz72_7:=fZ3_ BK211.out 7;have hcz73_0:w71.cell? ⟨gb212,0,none⟩=some (.int .i64 a1_0):=(blk_cell BK212.out 0).trans rfl;have hcz73_1:w71.cell? ⟨gb212,1,none⟩=some (.int .i64 a1_1):=(blk_cell BK212.out 1).trans rfl;have hcz73_2:w71.cell? ⟨gb212,2,none⟩=some (.int .i64 a1_2):=(blk_cell BK212.out 2).trans rfl;have hcz73_3:w71.cell? ⟨gb212,3,none⟩=some (.slice A1_3 l1_3.length c1_3):=(blk_cell BK212.out 3).trans rfl;have hcz73_4:w71.cell? ⟨gb212,4,none⟩=some (.int .i64 a1_4):=(blk_cell BK212.out 4).trans rfl;have hcz73_5:w71.cell? ⟨gb212,5,none⟩=some (.int .i64 a1_5):=(blk_cell BK212.out 5).trans rfl;have hcz73_6:w71.cell? ⟨gb212,6,none⟩=some (.bool a1_6):=(blk_cell BK212.out 6).trans rfl;have hcz73_7:w71.cell? ⟨gb212,7,none⟩=some (.int .i64 a1_7):=(blk_cell BK212.out 7).trans rfl;have hfz73_0:=fZ3_ BK212.out 0;have hfz73_1:=fZ3_ BK212.out 1;have hfz73_2:=fZ3_ BK212.out 2;have hfz73_3:=fZ3_ BK212.out 3;have hfz73_4:=fZ3_ BK212.out 4;have hfz73_5:=fZ3_ BK212.out 5;have hfz73_6:=fZ3_ BK212.out 6;have hfz73_7:=fZ3_ BK212.out 7)|((with_reducible refine gate_callee (f:=51) rfl ?_);refine goesL_ (some 15) rfl rfl Try.func51 (by kernel_rfl) rfl #[.slice A0_3 l0_3.length c0_3,.slice A1_3 l1_3.length c1_3] rfl (by (try simp only [List.map_toArray,List.map_cons,List.map_nil]);first|done|rfl|(simp only [List.length_drop,List.length_take];rfl)) ?_;(with_reducible refine (laws_eqBlockS.calls k _ _ l0_3 _ _ l1_3 false _ ?side1 ?side2 ?side3 ?side4 A5.out).mono ?_);(case side1=>repeat (first|exact (Kd.C_below HR0_3.out HB.out)|(with_reducible refine Kd.C_alloc ?_ _)|(with_reducible refine Kd.C_drewN ?_ _)|(with_reducible refine Kd.C_drew ?_)));(case side2=>exact HC0_3.out);(case side3=>repeat (first|exact (Kd.C_below HR1_3.out HB.out)|(with_reducible refine Kd.C_alloc ?_ _)|(with_reducible refine Kd.C_drewN ?_ _)|(with_reducible refine Kd.C_drew ?_)));(case side4=>exact HC1_3.out);rintro e w74 ⟨rfl,hb⟩;refine ⟨_,rfl,?_⟩;have n0_:=mk3_ (blk_below (g:=gb211) (o:=.cells #[.int .i64 a0_0,.int .i64 a0_1,.int .i64 a0_2,.slice A0_3 l0_3.length c0_3,.int .i64 a0_4,.int .i64 a0_5,.bool a0_6,.int .i64 a0_7] 35 (0,0)) (by (with_reducible repeat (first|refine kN3_ ?_ _|refine kD3_ ?_|refine blk_alloc ?_ _));exact BK211.out) hb);have n1_:=mk3_ (blk_below (g:=gb212) (o:=.cells #[.int .i64 a1_0,.int .i64 a1_1,.int .i64 a1_2,.slice A1_3 l1_3.length c1_3,.int .i64 a1_4,.int .i64 a1_5,.bool a1_6,.int .i64 a1_7] 35 (0,0)) (by (with_reducible repeat (first|refine kN3_ ?_ _|refine kD3_ ?_|refine blk_alloc ?_ _));exact BK212.out) hb);have n2_:=mk3_ (bT3_ (by repeat (first|(with_reducible first|exact HB.out|apply bA3_|apply bN3_|apply bD3_|refine bS3_ ?_ GE211.out|refine bS3_ ?_ GE212.out)|exact HB.out)) hb);clear BK211;clear BK212;clear HB;have BK211:=n0_;have BK212:=n1_;have HB:=n2_;clear n0_ n1_ n2_;(try clear hb);(try clear hb2);(try clear hk);(try clear hi)))
   go_ret
   exact ⟨by first|rfl|(simp [errW_none,errW_some] <;> rfl)|(simp [*,errW_none,errW_some] <;> rfl),by repeat (first|(with_reducible first|exact HB.out|apply bA3_|apply bN3_|apply bD3_|refine bS3_ ?_ GE211.out|refine bS3_ ?_ GE212.out)|exact HB.out)⟩
 ·replace c4 := Bool.eq_false_iff.mpr c4
  subst c4
  have H1:(some false)=some r:=by rw [if_neg (show ¬ (false=true) by decide)] at H;exact H
  clear H
  have H := H1
  clear H1
  obtain rfl := Option.some.inj H
  go_enter Try.func27, Try.ntmps27
  go_wp2_with (first|((with_reducible refine gate_dst (N:=2) rfl ?_);refine box_event ?hg (N:=2) ?hd (cs:=#[.int .i64 a0_0,.int .i64 a0_1,.int .i64 a0_2,.slice A0_3 l0_3.length c0_3,.int .i64 a0_4,.int .i64 a0_5,.bool a0_6,.int .i64 a0_7]) (t:=35) ?hr ?_;(case hd=>rfl);(case hg=>rfl);(case hr=>first|(go_simp;done)|(go_simp;rfl));intro gb211 hg w75 hbox hb;have n0_:=mk3_ (bT3_ (by repeat (first|(with_reducible first|exact HB.out|apply bA3_|apply bN3_|apply bD3_)|exact HB.out)) hb);have n1_:=mk3_ (hbox);have n2_:=mk3_ ((by rw [hg];exact (bZ3_ (by repeat (first|(with_reducible first|exact HB.out|apply bA3_|apply bN3_|apply bD3_)|exact HB.out))):w.heap.size≤gb211));have n3_:=mk3_ ((by rw [hg];exact (bZ3_ (by repeat (first|(with_reducible first|exact HB.out|apply bA3_|apply bN3_|apply bD3_)|exact HB.out))):w.heap.size≤gb211));clear HB;have HB:=n0_;have BK211:=n1_;have GW211:=n2_;have GE211:=n3_;clear n0_ n1_ n2_ n3_;clear hb hbox hg)|((with_reducible refine gate_dst (N:=3) rfl ?_);refine box_event ?hg (N:=3) ?hd (cs:=#[.int .i64 a1_0,.int .i64 a1_1,.int .i64 a1_2,.slice A1_3 l1_3.length c1_3,.int .i64 a1_4,.int .i64 a1_5,.bool a1_6,.int .i64 a1_7]) (t:=35) ?hr ?_;(case hd=>rfl);(case hg=>rfl);(case hr=>first|(go_simp;done)|(go_simp;rfl));intro gb212 hg w76 hbox hb;have n0_:=mk3_ (blk_below (g:=gb211) (o:=.cells #[.int .i64 a0_0,.int .i64 a0_1,.int .i64 a0_2,.slice A0_3 l0_3.length c0_3,.int .i64 a0_4,.int .i64 a0_5,.bool a0_6,.int .i64 a0_7] 35 (0,0)) (by (with_reducible repeat (first|refine kN3_ ?_ _|refine kD3_ ?_|refine blk_alloc ?_ _));exact BK211.out) hb);have n1_:=mk3_ (bT3_ (by repeat (first|(with_reducible first|exact HB.out|apply bA3_|apply bN3_|apply bD3_|refine bS3_ ?_ GE211.out)|exact HB.out)) hb);have n2_:=mk3_ (hbox);have n3_:=mk3_ ((by rw [hg];exact (bZ3_ (by repeat (first|(with_reducible first|exact HB.out|apply bA3_|apply bN3_|apply bD3_|refine bS3_ ?_ GE211.out)|exact HB.out))):w.heap.size≤gb212));have n4_:=mk3_ ((by rw [hg];exact (bZ3_ (by repeat (first|(with_reducible first|exact HB.out|apply bA3_|apply bN3_|apply bD3_|refine bS3_ ?_ GE211.out)|exact HB.out))):w.heap.size≤gb212));have n5_:=mk3_ ((by rw [hg];exact Nat.ne_of_lt (blk_lt (g:=gb211) (o:=.cells #[.int .i64 a0_0,.int .i64 a0_1,.int .i64 a0_2,.slice A0_3 l0_3.length c0_3,.int .i64 a0_4,.int .i64 a0_5,.bool a0_6,.int .i64 a0_7] 35 (0,0)) (by (with_reducible repeat (first|refine kN3_ ?_ _|refine kD3_ ?_|refine blk_alloc ?_ _));exact BK211.out)):gb211≠gb212));have n6_:=mk3_ ((by rw [hg];exact Nat.ne_of_gt (blk_lt (g:=gb211) (o:=.cells #[.int .i64 a0_0,.int .i64 a0_1,.int .i64 a0_2,.slice A0_3 l0_3.length c0_3,.int .i64 a0_4,.int .i64 a0_5,.bool a0_6,.int .i64 a0_7] 35 (0,0)) (by (with_reducible repeat (first|refine kN3_ ?_ _|refine kD3_ ?_|refine blk_alloc ?_ _));exact BK211.out)):gb212≠gb211));clear BK211;clear HB;have BK211:=n0_;have HB:=n1_;have BK212:=n2_;have GW212:=n3_;have GE212:=n4_;have NB211_212:=n5_;have NB212_211:=n6_;clear n0_ n1_ n2_ n3_ n4_ n5_ n6_;clear hb hbox hg;have hnb77:=NB211_212.out;have hnc77:=NB212_211.out;have hcz78_0:w76.cell? ⟨gb211,0,none⟩=some (.int .i64 a0_0):=(blk_cell BK211.out 0).trans rfl;have hcz78_1:w76.cell? ⟨gb211,1,none⟩=some (.int .i64 a0_1):=(blk_cell BK211.out 1).trans rfl;have hcz78_2:w76.cell? ⟨gb211,2,none⟩=some (.int .i64 a0_2):=(blk_cell BK211.out 2).trans rfl;have hcz78_3:w76.cell? ⟨gb211,3,none⟩=some (.slice A0_3 l0_3.length c0_3):=(blk_cell BK211.out 3).trans rfl;have hcz78_4:w76.cell? ⟨gb211,4,none⟩=some (.int .i64 a0_4):=(blk_cell BK211.out 4).trans rfl;have hcz78_5:w76.cell? ⟨gb211,5,none⟩=some (.int .i64 a0_5):=(blk_cell BK211.out 5).trans rfl;have hcz78_6:w76.cell? ⟨gb211,6,none⟩=some (.bool a0_6):=(blk_cell BK211.out 6).trans rfl;have hcz78_7:w76.cell? ⟨gb211,7,none⟩=some (.int .i64 a0_7):=(blk_cell BK211.out 7).trans rfl;have hfz78_0:=fZ3_ BK211.out 0;have hfz78_1:=fZ3_ BK211.out 1;have hfz78_2:=fZ3_ BK211.out 2;have hfz78_3:=fZ3_ BK211.out 3;have hfz78_4:=fZ3_ BK211.out 4;have hfz78_5:=fZ3_ BK211.out 5;have hfz78_6:=fZ3_ BK211.out 6;have hfz78_7:=fZ3_ BK211.out 7;have hcz79_0:w76.cell? ⟨gb212,0,none⟩=some (.int .i64 a1_0):=(blk_cell BK212.out 0).trans rfl;have hcz79_1:w76.cell? ⟨gb212,1,none⟩=some (.int .i64 a1_1):=(blk_cell BK212.out 1).trans rfl;have hcz79_2:w76.cell? ⟨gb212,2,none⟩=some (.int .i64 a1_2):=(blk_cell BK212.out 2).trans rfl;have hcz79_3:w76.cell? ⟨gb212,3,none⟩=some (.slice A1_3 l1_3.length c1_3):=(blk_cell BK212.out 3).trans rfl;have hcz79_4:w76.cell? ⟨gb212,4,none⟩=some (.int .i64 a1_4):=(blk_cell BK212.out 4).trans rfl;have hcz79_5:w76.cell? ⟨gb212,5,none⟩=some (.int .i64 a1_5):=(blk_cell BK212.out 5).trans rfl;have hcz79_6:w76.cell? ⟨gb212,6,none⟩=some (.bool a1_6):=(blk_cell BK212.out 6).trans rfl;have hcz79_7:w76.cell? ⟨gb212,7,none⟩=some (.int .i64 a1_7):=(blk_cell BK212.out 7).trans rfl;have hfz79_0:=fZ3_ BK212.out 0;have hfz79_1:=fZ3_ BK212.out 1;have hfz79_2:=fZ3_ BK212.out 2;have hfz79_3:=fZ3_ BK212.out 3;have hfz79_4:=fZ3_ BK212.out 4;have hfz79_5:=fZ3_ BK212.out 5;have hfz79_6:=fZ3_ BK212.out 6;have hfz79_7:=fZ3_ BK212.out 7)|((with_reducible refine gate_callee (f:=50) rfl ?_);refine goesL_ (some 9) rfl rfl Try.func50 (by kernel_rfl) rfl #[.agg #[.int .i64 a0_0,.int .i64 a0_1,.int .i64 a0_2],.agg #[.int .i64 a1_0,.int .i64 a1_1,.int .i64 a1_2]] rfl (by (try simp only [List.map_toArray,List.map_cons,List.map_nil]);first|done|rfl|(simp only [List.length_drop,List.length_take];rfl)) ?_;(with_reducible refine (laws_eqGeometry.calls a0_0 a0_1 a0_2 a1_0 a1_1 a1_2 false _ A3.out).mono ?_);rintro e w80 ⟨rfl,hb⟩;refine ⟨_,rfl,?_⟩;have n0_:=mk3_ (blk_below (g:=gb211) (o:=.cells #[.int .i64 a0_0,.int .i64 a0_1,.int .i64 a0_2,.slice A0_3 l0_3.length c0_3,.int .i64 a0_4,.int .i64 a0_5,.bool a0_6,.int .i64 a0_7] 35 (0,0)) (by (with_reducible repeat (first|refine kN3_ ?_ _|refine kD3_ ?_|refine blk_alloc ?_ _));exact BK211.out) hb);have n1_:=mk3_ (blk_below (g:=gb212) (o:=.cells #[.int .i64 a1_0,.int .i64 a1_1,.int .i64 a1_2,.slice A1_3 l1_3.length c1_3,.int .i64 a1_4,.int .i64 a1_5,.bool a1_6,.int .i64 a1_7] 35 (0,0)) (by (with_reducible repeat (first|refine kN3_ ?_ _|refine kD3_ ?_|refine blk_alloc ?_ _));exact BK212.out) hb);have n2_:=mk3_ (bT3_ (by repeat (first|(with_reducible first|exact HB.out|apply bA3_|apply bN3_|apply bD3_|refine bS3_ ?_ GE211.out|refine bS3_ ?_ GE212.out)|exact HB.out)) hb);clear BK211;clear BK212;clear HB;have BK211:=n0_;have BK212:=n1_;have HB:=n2_;clear n0_ n1_ n2_;(try clear hb);(try clear hb2);(try clear hk);(try clear hi)))
  go_ret
  exact ⟨by first|rfl|(simp [errW_none,errW_some] <;> rfl)|(simp [*,errW_none,errW_some] <;> rfl),by repeat (first|(with_reducible first|exact HB.out|apply bA3_|apply bN3_|apply bD3_|refine bS3_ ?_ GE211.out|refine bS3_ ?_ GE212.out)|exact HB.out)⟩

def laws_eqInt64S.l0 : Nat → List Int → List Int → Int → Option (Bool)
 | 0, _, _, _ => none
 | k+1,x0,x1,x5=>if x5 < (x0.length:Int) then (if 0≤x5 then (if x5 < (x1.length:Int) then (if (rd x0 x5)=(rd x1 x5) then (laws_eqInt64S.l0 k x0 x1 (wrap64 (x5+1))) else (some false)) else (none)) else (none)) else (some true)
def laws_eqInt64S.f (k:Nat) (l0:List Int) (l1:List Int):Option (Bool):=if (l0.length:Int)=(l1.length:Int) then (laws_eqInt64S.l0 k l0 l1 0) else (some false)
set_option maxHeartbeats 8000000 in
set_option maxRecDepth 100000 in
theorem laws_eqInt64S.calls (k:Nat) (A0:Option Addr) (c0:Nat) (l0:List Int) (A1:Option Addr) (c1:Nat) (l1:List Int) (r:Bool) (w:World) (hr0:Kd.C (Kd.int .i64) w A0 l0.length l0) (hc0:l0.length≤c0) (hr1:Kd.C (Kd.int .i64) w A1 l1.length l1) (hc1:l1.length≤c1) (h:laws_eqInt64S.f k l0 l1=some r) :
  Calls Try.prog 65 #[.slice A0 l0.length c0,.slice A1 l1.length c1] w fun e w'=>e=.returned (.bool r)∧Drawn0 w w':=by
 have HR0 := Aside0.mk hr0
 have HC0 := Aside0.mk hc0
 clear hr0 hc0
 have HR1 := Aside0.mk hr1
 have HC1 := Aside0.mk hc1
 clear hr1 hc1
 have H:(if (l0.length:Int)=(l1.length:Int) then (laws_eqInt64S.l0 k l0 l1 0) else (some false))=some r:=h
 clear h
 by_cases c3 : (l0.length : Int) = (l1.length : Int)
 ·rw [if_pos c3] at H
  have c3b0 : ((l0.length : Int) == (l1.length : Int)) = true := beq_iff_eq.mpr c3
  have c3b1 : ((l0.length : Int) != (l1.length : Int)) = false := bne_eq_false_iff_eq.mpr c3
  have c3b2:(l0.length == l1.length)=true:=by first|simpa using c3|(simp at c3 ⊢;omega)
  clear c3
  have H' := Aside0.mk H
  clear H
  go_enter Try.func65, Try.ntmps65
  go_wp2
  repeat (go_quiet (fail); try go_wp2)
  go_loopg [5] k (fun kq v5 w'=>∃ (x5_1:Int),v5=.int .i64 x5_1∧Aside0 (laws_eqInt64S.l0 kq l0 l1 x5_1=some r)∧Aside0 (kq≤k)∧Drawn0 w w')
  case atStart=>exact ⟨(0),(by first|rfl|(simp;done)|(simp [*];done)),H',⟨Nat.le_refl _⟩,by repeat (first|exact Drawn0.refl _|apply Drawn0.step)⟩
  case round =>
   clear H'
   try clear c1
   try clear p2
   try clear c3
   try clear c3b0
   try clear c3b1
   try clear c3b2
   obtain ⟨x5_1, rfl, HA, HK1, ⟨m1, rfl⟩⟩ := hrel
   cases gk with
   | zero => exact absurd HA.out (by simp [laws_eqInt64S.l0])
   | succ k1 =>
    have H := HA.out
    clear HA
    simp only [laws_eqInt64S.l0] at H
    by_cases c4 : x5_1 < (l0.length : Int)
    ·rw [if_pos c4] at H
     have c4b0 : decide (x5_1 < (l0.length : Int)) = true := decide_eq_true c4
     clear c4
     by_cases c5 : 0 ≤ x5_1
     ·rw [if_pos c5] at H
      have c5b0 : decide (0 ≤ x5_1) = true := decide_eq_true c5
      clear c5
      by_cases c6 : x5_1 < (l1.length : Int)
      ·rw [if_pos c6] at H
       have c6b0 : decide (x5_1 < (l1.length : Int)) = true := decide_eq_true c6
       clear c6
       by_cases c7 : (rd l0 x5_1) = (rd l1 x5_1)
       ·rw [if_pos c7] at H
        have c7b0 : ((rd l0 x5_1) == (rd l1 x5_1)) = true := beq_iff_eq.mpr c7
        have c7b1 : ((rd l0 x5_1) != (rd l1 x5_1)) = false := bne_eq_false_iff_eq.mpr c7
        clear c7
        have H' := Aside0.mk H
        clear H
        have p215:0≤(x5_1:Int):=of_decide_eq_true (by first|(with_reducible assumption)|assumption)
        have q215:x5_1 < (l0.length:Int):=of_decide_eq_true (by first|(with_reducible assumption)|assumption)
        obtain ⟨ad215, e215, hx215_0⟩ := Kd.at_int HR0.out x5_1 p215 q215
        cases e215
        replace p215 := eq_true p215
        replace q215 := eq_true q215
        have p216:0≤(x5_1:Int):=of_decide_eq_true (by first|(with_reducible assumption)|assumption)
        have q216:x5_1 < (l1.length:Int):=of_decide_eq_true (by first|(with_reducible assumption)|assumption)
        obtain ⟨ad216, e216, hx216_0⟩ := Kd.at_int HR1.out x5_1 p216 q216
        cases e216
        replace p216 := eq_true p216
        replace q216 := eq_true q216
        go_wp2
        repeat (go_quiet (fail); try go_wp2)
        go_roundg k1
        case measure => have := HK1.out; omega
        case rel=>exact ⟨(wrap64 (x5_1+1)),(by first|rfl|(simp;done)|(simp [*];done)),H',⟨by have:=HK1.out;omega⟩,by repeat (first|exact Drawn0.refl _|apply Drawn0.step)⟩
       ·rw [if_neg c7] at H
        have c7b0 : ((rd l0 x5_1) == (rd l1 x5_1)) = false := beq_eq_false_iff_ne.mpr c7
        have c7b1 : ((rd l0 x5_1) != (rd l1 x5_1)) = true := bne_iff_ne.mpr c7
        obtain rfl := Option.some.inj H
        have p215:0≤(x5_1:Int):=of_decide_eq_true (by first|(with_reducible assumption)|assumption)
        have q215:x5_1 < (l0.length:Int):=of_decide_eq_true (by first|(with_reducible assumption)|assumption)
        obtain ⟨ad215, e215, hx215_0⟩ := Kd.at_int HR0.out x5_1 p215 q215
        cases e215
        replace p215 := eq_true p215
        replace q215 := eq_true q215
        have p216:0≤(x5_1:Int):=of_decide_eq_true (by first|(with_reducible assumption)|assumption)
        have q216:x5_1 < (l1.length:Int):=of_decide_eq_true (by first|(with_reducible assumption)|assumption)
        obtain ⟨ad216, e216, hx216_0⟩ := Kd.at_int HR1.out x5_1 p216 q216
        cases e216
        replace p216 := eq_true p216
        replace q216 := eq_true q216
        go_wp2
        repeat (go_quiet (fail); try go_wp2)
        go_ret
        exact ⟨by first|rfl|(simp;done)|(simp [*];done),by repeat (first|exact Drawn0.refl _|apply Drawn0.step)⟩
      ·rw [if_neg c6] at H
       exact absurd H (by simp)
     ·rw [if_neg c5] at H
      exact absurd H (by simp)
    ·rw [if_neg c4] at H
     have c4b0 : decide (x5_1 < (l0.length : Int)) = false := decide_eq_false c4
     clear c4
     obtain rfl := Option.some.inj H
     go_wp2
     repeat (go_quiet (fail); try go_wp2)
     go_ret
     exact ⟨by first|rfl|(simp;done)|(simp [*];done),by repeat (first|exact Drawn0.refl _|apply Drawn0.step)⟩
 ·rw [if_neg c3] at H
  have c3b0 : ((l0.length : Int) == (l1.length : Int)) = false := beq_eq_false_iff_ne.mpr c3
  have c3b1 : ((l0.length : Int) != (l1.length : Int)) = true := bne_iff_ne.mpr c3
  have c3b2:(l0.length == l1.length)=false:=by first|simpa using c3|(simp at c3 ⊢;omega)
  obtain rfl := Option.some.inj H
  go_enter Try.func65, Try.ntmps65
  go_wp2
  repeat (go_quiet (fail); try go_wp2)
  go_ret
  exact ⟨by first|rfl|(simp;done)|(simp [*];done),by repeat (first|exact Drawn0.refl _|apply Drawn0.step)⟩

end Go.Proofs.Ytdjbphffibcbeaa.Q
