/- The program's functions as Lean functions,and for each the proof that the machine's call comes to what its function says. Conditions: those that stand before each theorem. -/
import Derived.Test.YtdjbphffibcbeaaQ0
import Derived.Test.YtdjbphffibcbeaaQ2
import Derived.Test.YtdjbphffibcbeaaQ3
namespace Go.Proofs.Ytdjbphffibcbeaa.Q
open Go.RowKit Go.Proofs.YtdjbphffibcbeaaW.PrintWords Go.Proofs.YtdjbphffibcbeaaW.PrintLast Go.Proofs.YtdjbphffibcbeaaW.PrintMore
abbrev kN4_ := @blk_drewN
abbrev kD4_ := @blk_drew
abbrev rN4_ := @Kd.R_drewN
abbrev bA4_ := @below_alloc
abbrev bN4_ := @pw_below_drewN
abbrev bD4_ := @below_drew1
abbrev bS4_ := @below_set
abbrev mk4_ := @Aside0.mk
abbrev fZ4_ := @blk_frozen
abbrev sB4_ := @Kd.S_below
abbrev bT4_ := @below_step
abbrev bZ4_ := @below_size
set_option linter.unusedVariables false
set_option linter.unusedSimpArgs false

def laws_eqZone.f (k:Nat) (a0_0:Int) (l0_1:List Int) (a0_2:Int) (a0_3:Int) (l0_4:List Int) (l0_5:List ByteArray) (a1_0:Int) (l1_1:List Int) (a1_2:Int) (a1_3:Int) (l1_4:List Int) (l1_5:List ByteArray):Option (Bool):=if a0_0=a1_0 then ((laws_eqInt64S.f k l0_1 l1_1).bind fun t219=>(if t219=true then (if a0_2=a1_2 then (if a0_3=a1_3 then ((laws_eqInt64S.f k l0_4 l1_4).bind fun t220=>(if t220=true then ((laws_eqStringS.f k l0_5 l1_5).bind fun t221=>(if t221=true then (some true) else (some false))) else (some false))) else (some false)) else (some false)) else (some false))) else (some false)
set_option maxHeartbeats 8000000 in
set_option maxRecDepth 100000 in
theorem laws_eqZone.calls (k:Nat) (a0_0:Int) (A0_1:Option Addr) (c0_1:Nat) (l0_1:List Int) (a0_2:Int) (a0_3:Int) (A0_4:Option Addr) (c0_4:Nat) (l0_4:List Int) (A0_5:Option Addr) (c0_5:Nat) (l0_5:List ByteArray) (a1_0:Int) (A1_1:Option Addr) (c1_1:Nat) (l1_1:List Int) (a1_2:Int) (a1_3:Int) (A1_4:Option Addr) (c1_4:Nat) (l1_4:List Int) (A1_5:Option Addr) (c1_5:Nat) (l1_5:List ByteArray) (r:Bool) (w:World) (hr0_1:Kd.C (Kd.int .i64) w A0_1 l0_1.length l0_1) (hc0_1:l0_1.length≤c0_1) (hr0_4:Kd.C (Kd.int .i64) w A0_4 l0_4.length l0_4) (hc0_4:l0_4.length≤c0_4) (hr0_5:Kd.C Kd.string w A0_5 l0_5.length l0_5) (hc0_5:l0_5.length≤c0_5) (hr1_1:Kd.C (Kd.int .i64) w A1_1 l1_1.length l1_1) (hc1_1:l1_1.length≤c1_1) (hr1_4:Kd.C (Kd.int .i64) w A1_4 l1_4.length l1_4) (hc1_4:l1_4.length≤c1_4) (hr1_5:Kd.C Kd.string w A1_5 l1_5.length l1_5) (hc1_5:l1_5.length≤c1_5) (h:laws_eqZone.f k a0_0 l0_1 a0_2 a0_3 l0_4 l0_5 a1_0 l1_1 a1_2 a1_3 l1_4 l1_5=some r) :
  Calls Try.prog 52 #[.agg #[.int .i64 a0_0,.slice A0_1 l0_1.length c0_1,.int .i64 a0_2,.int .i64 a0_3,.slice A0_4 l0_4.length c0_4,.slice A0_5 l0_5.length c0_5],.agg #[.int .i64 a1_0,.slice A1_1 l1_1.length c1_1,.int .i64 a1_2,.int .i64 a1_3,.slice A1_4 l1_4.length c1_4,.slice A1_5 l1_5.length c1_5]] w fun e w'=>e=.returned (.bool r)∧Below w.heap.size w w':=by
 have hu50 := Try.underlying50
 have HR0_1 := Aside0.mk hr0_1
 have HC0_1 := Aside0.mk hc0_1
 clear hr0_1 hc0_1
 have HR0_4 := Aside0.mk hr0_4
 have HC0_4 := Aside0.mk hc0_4
 clear hr0_4 hc0_4
 have HR0_5 := Aside0.mk hr0_5
 have HC0_5 := Aside0.mk hc0_5
 clear hr0_5 hc0_5
 have HR1_1 := Aside0.mk hr1_1
 have HC1_1 := Aside0.mk hc1_1
 clear hr1_1 hc1_1
 have HR1_4 := Aside0.mk hr1_4
 have HC1_4 := Aside0.mk hc1_4
 clear hr1_4 hc1_4
 have HR1_5 := Aside0.mk hr1_5
 have HC1_5 := Aside0.mk hc1_5
 clear hr1_5 hc1_5
 have HB := Aside0.mk (Below.refl w.heap.size w)
 have H:(if a0_0=a1_0 then ((laws_eqInt64S.f k l0_1 l1_1).bind fun t219=>(if t219=true then (if a0_2=a1_2 then (if a0_3=a1_3 then ((laws_eqInt64S.f k l0_4 l1_4).bind fun t220=>(if t220=true then ((laws_eqStringS.f k l0_5 l1_5).bind fun t221=>(if t221=true then (some true) else (some false))) else (some false))) else (some false)) else (some false)) else (some false))) else (some false))=some r:=h
 clear h
 by_cases c3 : a0_0 = a1_0
 ·rw [if_pos c3] at H
  have c3b0 : (a0_0 == a1_0) = true := beq_iff_eq.mpr c3
  have c3b1 : (a0_0 != a1_0) = false := bne_eq_false_iff_eq.mpr c3
  clear c3
  replace H := Option.bind_eq_some_iff.mp H
  obtain ⟨t219, A40, H⟩ := H
  replace H:(if t219=true then (if a0_2=a1_2 then (if a0_3=a1_3 then ((laws_eqInt64S.f k l0_4 l1_4).bind fun t220=>(if t220=true then ((laws_eqStringS.f k l0_5 l1_5).bind fun t221=>(if t221=true then (some true) else (some false))) else (some false))) else (some false)) else (some false)) else (some false))=some r:=H
  have A4 := Aside0.mk A40
  clear A40
  by_cases c5 : t219 = true
  ·subst c5
   have H1:(if a0_2=a1_2 then (if a0_3=a1_3 then ((laws_eqInt64S.f k l0_4 l1_4).bind fun t220=>(if t220=true then ((laws_eqStringS.f k l0_5 l1_5).bind fun t221=>(if t221=true then (some true) else (some false))) else (some false))) else (some false)) else (some false))=some r:=by rw [if_pos rfl] at H;exact H
   clear H
   have H := H1
   clear H1
   by_cases c6 : a0_2 = a1_2
   ·rw [if_pos c6] at H
    have c6b0 : (a0_2 == a1_2) = true := beq_iff_eq.mpr c6
    have c6b1 : (a0_2 != a1_2) = false := bne_eq_false_iff_eq.mpr c6
    clear c6
    by_cases c7 : a0_3 = a1_3
    ·rw [if_pos c7] at H
     have c7b0 : (a0_3 == a1_3) = true := beq_iff_eq.mpr c7
     have c7b1 : (a0_3 != a1_3) = false := bne_eq_false_iff_eq.mpr c7
     clear c7
     replace H := Option.bind_eq_some_iff.mp H
     obtain ⟨t220, A80, H⟩ := H
     replace H:(if t220=true then ((laws_eqStringS.f k l0_5 l1_5).bind fun t221=>(if t221=true then (some true) else (some false))) else (some false))=some r:=H
     have A8 := Aside0.mk A80
     clear A80
     by_cases c9 : t220 = true
     ·subst c9
      have H1:((laws_eqStringS.f k l0_5 l1_5).bind fun t221=>(if t221=true then (some true) else (some false)))=some r:=by rw [if_pos rfl] at H;exact H
      clear H
      have H := H1
      clear H1
      replace H := Option.bind_eq_some_iff.mp H
      obtain ⟨t221, A100, H⟩ := H
      replace H : (if t221 = true then (some true) else (some false)) = some r := H
      have A10 := Aside0.mk A100
      clear A100
      by_cases c11 : t221 = true
      ·subst c11
       have H1 : (some true) = some r := by rw [if_pos rfl] at H; exact H
       clear H
       have H := H1
       clear H1
       obtain rfl := Option.some.inj H
       go_enter Try.func52, Try.ntmps52
       go_wp2_with (first|((with_reducible refine gate_dst (N:=2) rfl ?_);refine box_event ?hg (N:=2) ?hd (cs:=#[.int .i64 a0_0,.slice A0_1 l0_1.length c0_1,.int .i64 a0_2,.int .i64 a0_3,.slice A0_4 l0_4.length c0_4,.slice A0_5 l0_5.length c0_5]) (t:=50) ?hr ?_;(case hd=>rfl);(case hg=>rfl);(case hr=>first|(go_simp;done)|(go_simp;rfl));intro gb217 hg w12 hbox hb;have n0_:=mk4_ (bT4_ (by repeat (first|(with_reducible first|exact HB.out|apply bA4_|apply bN4_|apply bD4_)|exact HB.out)) hb);have n1_:=mk4_ (hbox);have n2_:=mk4_ ((by rw [hg];exact (bZ4_ (by repeat (first|(with_reducible first|exact HB.out|apply bA4_|apply bN4_|apply bD4_)|exact HB.out))):w.heap.size≤gb217));have n3_:=mk4_ ((by rw [hg];exact (bZ4_ (by repeat (first|(with_reducible first|exact HB.out|apply bA4_|apply bN4_|apply bD4_)|exact HB.out))):w.heap.size≤gb217));clear HB;have HB:=n0_;have BK217:=n1_;have GW217:=n2_;have GE217:=n3_;clear n0_ n1_ n2_ n3_;clear hb hbox hg)|((with_reducible refine gate_dst (N:=3) rfl ?_);refine box_event ?hg (N:=3) ?hd (cs:=#[.int .i64 a1_0,.slice A1_1 l1_1.length c1_1,.int .i64 a1_2,.int .i64 a1_3,.slice A1_4 l1_4.length c1_4,.slice A1_5 l1_5.length c1_5]) (t:=50) ?hr ?_;(case hd=>rfl);(case hg=>rfl);(case hr=>first|(go_simp;done)|(go_simp;rfl));intro gb218 hg w13 hbox hb;have n0_:=mk4_ (blk_below (g:=gb217) (o:=.cells #[.int .i64 a0_0,.slice A0_1 l0_1.length c0_1,.int .i64 a0_2,.int .i64 a0_3,.slice A0_4 l0_4.length c0_4,.slice A0_5 l0_5.length c0_5] 50 (0,0)) (by (with_reducible repeat (first|refine kN4_ ?_ _|refine kD4_ ?_|refine blk_alloc ?_ _));exact BK217.out) hb);have n1_:=mk4_ (bT4_ (by repeat (first|(with_reducible first|exact HB.out|apply bA4_|apply bN4_|apply bD4_|refine bS4_ ?_ GE217.out)|exact HB.out)) hb);have n2_:=mk4_ (hbox);have n3_:=mk4_ ((by rw [hg];exact (bZ4_ (by repeat (first|(with_reducible first|exact HB.out|apply bA4_|apply bN4_|apply bD4_|refine bS4_ ?_ GE217.out)|exact HB.out))):w.heap.size≤gb218));have n4_:=mk4_ ((by rw [hg];exact (bZ4_ (by repeat (first|(with_reducible first|exact HB.out|apply bA4_|apply bN4_|apply bD4_|refine bS4_ ?_ GE217.out)|exact HB.out))):w.heap.size≤gb218));have n5_:=mk4_ ((by rw [hg];exact Nat.ne_of_lt (blk_lt (g:=gb217) (o:=.cells #[.int .i64 a0_0,.slice A0_1 l0_1.length c0_1,.int .i64 a0_2,.int .i64 a0_3,.slice A0_4 l0_4.length c0_4,.slice A0_5 l0_5.length c0_5] 50 (0,0)) (by (with_reducible repeat (first|refine kN4_ ?_ _|refine kD4_ ?_|refine blk_alloc ?_ _));exact BK217.out)):gb217≠gb218));have n6_:=mk4_ ((by rw [hg];exact Nat.ne_of_gt (blk_lt (g:=gb217) (o:=.cells #[.int .i64 a0_0,.slice A0_1 l0_1.length c0_1,.int .i64 a0_2,.int .i64 a0_3,.slice A0_4 l0_4.length c0_4,.slice A0_5 l0_5.length c0_5] 50 (0,0)) (by (with_reducible repeat (first|refine kN4_ ?_ _|refine kD4_ ?_|refine blk_alloc ?_ _));exact BK217.out)):gb218≠gb217));clear BK217;clear HB;have BK217:=n0_;have HB:=n1_;have BK218:=n2_;have GW218:=n3_;have GE218:=n4_;have NB217_218:=n5_;have NB218_217:=n6_;clear n0_ n1_ n2_ n3_ n4_ n5_ n6_;clear hb hbox hg;have hnb14:=NB217_218.out;have hnc14:=NB218_217.out;have hcz15_0:w13.cell? ⟨gb217,0,none⟩=some (.int .i64 a0_0):=(blk_cell BK217.out 0).trans rfl;have hcz15_1:w13.cell? ⟨gb217,1,none⟩=some (.slice A0_1 l0_1.length c0_1):=(blk_cell BK217.out 1).trans rfl;have hcz15_2:w13.cell? ⟨gb217,2,none⟩=some (.int .i64 a0_2):=(blk_cell BK217.out 2).trans rfl;have hcz15_3:w13.cell? ⟨gb217,3,none⟩=some (.int .i64 a0_3):=(blk_cell BK217.out 3).trans rfl;have hcz15_4:w13.cell? ⟨gb217,4,none⟩=some (.slice A0_4 l0_4.length c0_4):=(blk_cell BK217.out 4).trans rfl;have hcz15_5:w13.cell? ⟨gb217,5,none⟩=some (.slice A0_5 l0_5.length c0_5):=(blk_cell BK217.out 5).trans rfl;have hfz15_0:=fZ4_ BK217.out 0;have hfz15_1:=fZ4_ BK217.out 1;have hfz15_2:=fZ4_ BK217.out 2;have hfz15_3:=fZ4_ BK217.out 3;have hfz15_4:=fZ4_ BK217.out 4;have hfz15_5:=fZ4_ BK217.out 5;have hcz16_0:w13.cell? ⟨gb218,0,none⟩=some (.int .i64 a1_0):=(blk_cell BK218.out 0).trans rfl;have hcz16_1:w13.cell? ⟨gb218,1,none⟩=some (.slice A1_1 l1_1.length c1_1):=(blk_cell BK218.out 1).trans rfl;have hcz16_2:w13.cell? ⟨gb218,2,none⟩=some (.int .i64 a1_2):=(blk_cell BK218.out 2).trans rfl;have hcz16_3:w13.cell? ⟨gb218,3,none⟩=some (.int .i64 a1_3):=(blk_cell BK218.out 3).trans rfl;have hcz16_4:w13.cell? ⟨gb218,4,none⟩=some (.slice A1_4 l1_4.length c1_4):=(blk_cell BK218.out 4).trans rfl;have hcz16_5:w13.cell? ⟨gb218,5,none⟩=some (.slice A1_5 l1_5.length c1_5):=(blk_cell BK218.out 5).trans rfl;have hfz16_0:=fZ4_ BK218.out 0;have hfz16_1:=fZ4_ BK218.out 1;have hfz16_2:=fZ4_ BK218.out 2;have hfz16_3:=fZ4_ BK218.out 3;have hfz16_4:=fZ4_ BK218.out 4;have hfz16_5:=fZ4_ BK218.out 5)|((with_reducible refine gate_callee (f:=65) rfl ?_);refine goesL_ (some 14) rfl rfl Try.func65 (by kernel_rfl) rfl #[.slice A0_1 l0_1.length c0_1,.slice A1_1 l1_1.length c1_1] rfl (by (try simp only [List.map_toArray,List.map_cons,List.map_nil]);first|done|rfl|(simp only [List.length_drop,List.length_take];rfl)) ?_;(with_reducible refine (laws_eqInt64S.calls k _ _ l0_1 _ _ l1_1 true _ ?side1 ?side2 ?side3 ?side4 A4.out).mono ?_);(case side1=>repeat (first|exact (Kd.C_below HR0_1.out HB.out)|(with_reducible refine Kd.C_alloc ?_ _)|(with_reducible refine Kd.C_drewN ?_ _)|(with_reducible refine Kd.C_drew ?_)));(case side2=>exact HC0_1.out);(case side3=>repeat (first|exact (Kd.C_below HR1_1.out HB.out)|(with_reducible refine Kd.C_alloc ?_ _)|(with_reducible refine Kd.C_drewN ?_ _)|(with_reducible refine Kd.C_drew ?_)));(case side4=>exact HC1_1.out);rintro e w' ⟨rfl,⟨nd,rfl⟩⟩;refine ⟨_,rfl,?_⟩)|((with_reducible refine gate_callee (f:=65) rfl ?_);refine goesL_ (some 30) rfl rfl Try.func65 (by kernel_rfl) rfl #[.slice A0_4 l0_4.length c0_4,.slice A1_4 l1_4.length c1_4] rfl (by (try simp only [List.map_toArray,List.map_cons,List.map_nil]);first|done|rfl|(simp only [List.length_drop,List.length_take];rfl)) ?_;(with_reducible refine (laws_eqInt64S.calls k _ _ l0_4 _ _ l1_4 true _ ?side1 ?side2 ?side3 ?side4 A8.out).mono ?_);(case side1=>repeat (first|exact (Kd.C_below HR0_4.out (by repeat (first|(with_reducible first|exact HB.out|apply bA4_|apply bN4_|apply bD4_|refine bS4_ ?_ GE217.out|refine bS4_ ?_ GE218.out)|exact HB.out)))|(with_reducible refine Kd.C_alloc ?_ _)|(with_reducible refine Kd.C_drewN ?_ _)|(with_reducible refine Kd.C_drew ?_)));(case side2=>exact HC0_4.out);(case side3=>repeat (first|exact (Kd.C_below HR1_4.out (by repeat (first|(with_reducible first|exact HB.out|apply bA4_|apply bN4_|apply bD4_|refine bS4_ ?_ GE217.out|refine bS4_ ?_ GE218.out)|exact HB.out)))|(with_reducible refine Kd.C_alloc ?_ _)|(with_reducible refine Kd.C_drewN ?_ _)|(with_reducible refine Kd.C_drew ?_)));(case side4=>exact HC1_4.out);rintro e w' ⟨rfl,⟨nd,rfl⟩⟩;refine ⟨_,rfl,?_⟩)|((with_reducible refine gate_callee (f:=66) rfl ?_);refine goesL_ (some 36) rfl rfl Try.func66 (by kernel_rfl) rfl #[.slice A0_5 l0_5.length c0_5,.slice A1_5 l1_5.length c1_5] rfl (by (try simp only [List.map_toArray,List.map_cons,List.map_nil]);first|done|rfl|(simp only [List.length_drop,List.length_take];rfl)) ?_;(with_reducible refine (laws_eqStringS.calls k _ _ l0_5 _ _ l1_5 true _ ?side1 ?side2 ?side3 ?side4 A10.out).mono ?_);(case side1=>repeat (first|exact (Kd.C_below HR0_5.out (by repeat (first|(with_reducible first|exact HB.out|apply bA4_|apply bN4_|apply bD4_|refine bS4_ ?_ GE217.out|refine bS4_ ?_ GE218.out)|exact HB.out)))|(with_reducible refine Kd.C_alloc ?_ _)|(with_reducible refine Kd.C_drewN ?_ _)|(with_reducible refine Kd.C_drew ?_)));(case side2=>exact HC0_5.out);(case side3=>repeat (first|exact (Kd.C_below HR1_5.out (by repeat (first|(with_reducible first|exact HB.out|apply bA4_|apply bN4_|apply bD4_|refine bS4_ ?_ GE217.out|refine bS4_ ?_ GE218.out)|exact HB.out)))|(with_reducible refine Kd.C_alloc ?_ _)|(with_reducible refine Kd.C_drewN ?_ _)|(with_reducible refine Kd.C_drew ?_)));(case side4=>exact HC1_5.out);rintro e w' ⟨rfl,⟨nd,rfl⟩⟩;refine ⟨_,rfl,?_⟩))
       go_ret
       exact ⟨by first|rfl|(simp [errW_none,errW_some] <;> rfl)|(simp [*,errW_none,errW_some] <;> rfl),by repeat (first|(with_reducible first|exact HB.out|apply bA4_|apply bN4_|apply bD4_|refine bS4_ ?_ GE217.out|refine bS4_ ?_ GE218.out)|exact HB.out)⟩
      ·replace c11 := Bool.eq_false_iff.mpr c11
       subst c11
       have H1:(some false)=some r:=by rw [if_neg (show ¬ (false=true) by decide)] at H;exact H
       clear H
       have H := H1
       clear H1
       obtain rfl := Option.some.inj H
       go_enter Try.func52, Try.ntmps52
       go_wp2_with (first|((with_reducible refine gate_dst (N:=2) rfl ?_);refine box_event ?hg (N:=2) ?hd (cs:=#[.int .i64 a0_0,.slice A0_1 l0_1.length c0_1,.int .i64 a0_2,.int .i64 a0_3,.slice A0_4 l0_4.length c0_4,.slice A0_5 l0_5.length c0_5]) (t:=50) ?hr ?_;(case hd=>rfl);(case hg=>rfl);(case hr=>first|(go_simp;done)|(go_simp;rfl));intro gb217 hg w17 hbox hb;have n0_:=mk4_ (bT4_ (by repeat (first|(with_reducible first|exact HB.out|apply bA4_|apply bN4_|apply bD4_)|exact HB.out)) hb);have n1_:=mk4_ (hbox);have n2_:=mk4_ ((by rw [hg];exact (bZ4_ (by repeat (first|(with_reducible first|exact HB.out|apply bA4_|apply bN4_|apply bD4_)|exact HB.out))):w.heap.size≤gb217));have n3_:=mk4_ ((by rw [hg];exact (bZ4_ (by repeat (first|(with_reducible first|exact HB.out|apply bA4_|apply bN4_|apply bD4_)|exact HB.out))):w.heap.size≤gb217));clear HB;have HB:=n0_;have BK217:=n1_;have GW217:=n2_;have GE217:=n3_;clear n0_ n1_ n2_ n3_;clear hb hbox hg)|((with_reducible refine gate_dst (N:=3) rfl ?_);refine box_event ?hg (N:=3) ?hd (cs:=#[.int .i64 a1_0,.slice A1_1 l1_1.length c1_1,.int .i64 a1_2,.int .i64 a1_3,.slice A1_4 l1_4.length c1_4,.slice A1_5 l1_5.length c1_5]) (t:=50) ?hr ?_;(case hd=>rfl);(case hg=>rfl);(case hr=>first|(go_simp;done)|(go_simp;rfl));intro gb218 hg w18 hbox hb;have n0_:=mk4_ (blk_below (g:=gb217) (o:=.cells #[.int .i64 a0_0,.slice A0_1 l0_1.length c0_1,.int .i64 a0_2,.int .i64 a0_3,.slice A0_4 l0_4.length c0_4,.slice A0_5 l0_5.length c0_5] 50 (0,0)) (by (with_reducible repeat (first|refine kN4_ ?_ _|refine kD4_ ?_|refine blk_alloc ?_ _));exact BK217.out) hb);have n1_:=mk4_ (bT4_ (by repeat (first|(with_reducible first|exact HB.out|apply bA4_|apply bN4_|apply bD4_|refine bS4_ ?_ GE217.out)|exact HB.out)) hb);have n2_:=mk4_ (hbox);have n3_:=mk4_ ((by rw [hg];exact (bZ4_ (by repeat (first|(with_reducible first|exact HB.out|apply bA4_|apply bN4_|apply bD4_|refine bS4_ ?_ GE217.out)|exact HB.out))):w.heap.size≤gb218));have n4_:=mk4_ ((by rw [hg];exact (bZ4_ (by repeat (first|(with_reducible first|exact HB.out|apply bA4_|apply bN4_|apply bD4_|refine bS4_ ?_ GE217.out)|exact HB.out))):w.heap.size≤gb218));have n5_:=mk4_ ((by rw [hg];exact Nat.ne_of_lt (blk_lt (g:=gb217) (o:=.cells #[.int .i64 a0_0,.slice A0_1 l0_1.length c0_1,.int .i64 a0_2,.int .i64 a0_3,.slice A0_4 l0_4.length c0_4,.slice A0_5 l0_5.length c0_5] 50 (0,0)) (by (with_reducible repeat (first|refine kN4_ ?_ _|refine kD4_ ?_|refine blk_alloc ?_ _));exact BK217.out)):gb217≠gb218));have n6_:=mk4_ ((by rw [hg];exact Nat.ne_of_gt (blk_lt (g:=gb217) (o:=.cells #[.int .i64 a0_0,.slice A0_1 l0_1.length c0_1,.int .i64 a0_2,.int .i64 a0_3,.slice A0_4 l0_4.length c0_4,.slice A0_5 l0_5.length c0_5] 50 (0,0)) (by (with_reducible repeat (first|refine kN4_ ?_ _|refine kD4_ ?_|refine blk_alloc ?_ _));exact BK217.out)):gb218≠gb217));clear BK217;clear HB;have BK217:=n0_;have HB:=n1_;have BK218:=n2_;have GW218:=n3_;have GE218:=n4_;have NB217_218:=n5_;have NB218_217:=n6_;clear n0_ n1_ n2_ n3_ n4_ n5_ n6_;clear hb hbox hg;have hnb19:=NB217_218.out;have hnc19:=NB218_217.out;have hcz20_0:w18.cell? ⟨gb217,0,none⟩=some (.int .i64 a0_0):=(blk_cell BK217.out 0).trans rfl;have hcz20_1:w18.cell? ⟨gb217,1,none⟩=some (.slice A0_1 l0_1.length c0_1):=(blk_cell BK217.out 1).trans rfl;have hcz20_2:w18.cell? ⟨gb217,2,none⟩=some (.int .i64 a0_2):=(blk_cell BK217.out 2).trans rfl;have hcz20_3:w18.cell? ⟨gb217,3,none⟩=some (.int .i64 a0_3):=(blk_cell BK217.out 3).trans rfl;have hcz20_4:w18.cell? ⟨gb217,4,none⟩=some (.slice A0_4 l0_4.length c0_4):=(blk_cell BK217.out 4).trans rfl;have hcz20_5:w18.cell? ⟨gb217,5,none⟩=some (.slice A0_5 l0_5.length c0_5):=(blk_cell BK217.out 5).trans rfl;have hfz20_0:=fZ4_ BK217.out 0;have hfz20_1:=fZ4_ BK217.out 1;have hfz20_2:=fZ4_ BK217.out 2;have hfz20_3:=fZ4_ BK217.out 3;have hfz20_4:=fZ4_ BK217.out 4;have hfz20_5:=fZ4_ BK217.out 5;have hcz21_0:w18.cell? ⟨gb218,0,none⟩=some (.int .i64 a1_0):=(blk_cell BK218.out 0).trans rfl;have hcz21_1:w18.cell? ⟨gb218,1,none⟩=some (.slice A1_1 l1_1.length c1_1):=(blk_cell BK218.out 1).trans rfl;have hcz21_2:w18.cell? ⟨gb218,2,none⟩=some (.int .i64 a1_2):=(blk_cell BK218.out 2).trans rfl;have hcz21_3:w18.cell? ⟨gb218,3,none⟩=some (.int .i64 a1_3):=(blk_cell BK218.out 3).trans rfl;have hcz21_4:w18.cell? ⟨gb218,4,none⟩=some (.slice A1_4 l1_4.length c1_4):=(blk_cell BK218.out 4).trans rfl;have hcz21_5:w18.cell? ⟨gb218,5,none⟩=some (.slice A1_5 l1_5.length c1_5):=(blk_cell BK218.out 5).trans rfl;have hfz21_0:=fZ4_ BK218.out 0;have hfz21_1:=fZ4_ BK218.out 1;have hfz21_2:=fZ4_ BK218.out 2;have hfz21_3:=fZ4_ BK218.out 3;have hfz21_4:=fZ4_ BK218.out 4;have hfz21_5:=fZ4_ BK218.out 5)|((with_reducible refine gate_callee (f:=65) rfl ?_);refine goesL_ (some 14) rfl rfl Try.func65 (by kernel_rfl) rfl #[.slice A0_1 l0_1.length c0_1,.slice A1_1 l1_1.length c1_1] rfl (by (try simp only [List.map_toArray,List.map_cons,List.map_nil]);first|done|rfl|(simp only [List.length_drop,List.length_take];rfl)) ?_;(with_reducible refine (laws_eqInt64S.calls k _ _ l0_1 _ _ l1_1 true _ ?side1 ?side2 ?side3 ?side4 A4.out).mono ?_);(case side1=>repeat (first|exact (Kd.C_below HR0_1.out HB.out)|(with_reducible refine Kd.C_alloc ?_ _)|(with_reducible refine Kd.C_drewN ?_ _)|(with_reducible refine Kd.C_drew ?_)));(case side2=>exact HC0_1.out);(case side3=>repeat (first|exact (Kd.C_below HR1_1.out HB.out)|(with_reducible refine Kd.C_alloc ?_ _)|(with_reducible refine Kd.C_drewN ?_ _)|(with_reducible refine Kd.C_drew ?_)));(case side4=>exact HC1_1.out);rintro e w' ⟨rfl,⟨nd,rfl⟩⟩;refine ⟨_,rfl,?_⟩)|((with_reducible refine gate_callee (f:=65) rfl ?_);refine goesL_ (some 30) rfl rfl Try.func65 (by kernel_rfl) rfl #[.slice A0_4 l0_4.length c0_4,.slice A1_4 l1_4.length c1_4] rfl (by (try simp only [List.map_toArray,List.map_cons,List.map_nil]);first|done|rfl|(simp only [List.length_drop,List.length_take];rfl)) ?_;(with_reducible refine (laws_eqInt64S.calls k _ _ l0_4 _ _ l1_4 true _ ?side1 ?side2 ?side3 ?side4 A8.out).mono ?_);(case side1=>repeat (first|exact (Kd.C_below HR0_4.out (by repeat (first|(with_reducible first|exact HB.out|apply bA4_|apply bN4_|apply bD4_|refine bS4_ ?_ GE217.out|refine bS4_ ?_ GE218.out)|exact HB.out)))|(with_reducible refine Kd.C_alloc ?_ _)|(with_reducible refine Kd.C_drewN ?_ _)|(with_reducible refine Kd.C_drew ?_)));(case side2=>exact HC0_4.out);(case side3=>repeat (first|exact (Kd.C_below HR1_4.out (by repeat (first|(with_reducible first|exact HB.out|apply bA4_|apply bN4_|apply bD4_|refine bS4_ ?_ GE217.out|refine bS4_ ?_ GE218.out)|exact HB.out)))|(with_reducible refine Kd.C_alloc ?_ _)|(with_reducible refine Kd.C_drewN ?_ _)|(with_reducible refine Kd.C_drew ?_)));(case side4=>exact HC1_4.out);rintro e w' ⟨rfl,⟨nd,rfl⟩⟩;refine ⟨_,rfl,?_⟩)|((with_reducible refine gate_callee (f:=66) rfl ?_);refine goesL_ (some 36) rfl rfl Try.func66 (by kernel_rfl) rfl #[.slice A0_5 l0_5.length c0_5,.slice A1_5 l1_5.length c1_5] rfl (by (try simp only [List.map_toArray,List.map_cons,List.map_nil]);first|done|rfl|(simp only [List.length_drop,List.length_take];rfl)) ?_;(with_reducible refine (laws_eqStringS.calls k _ _ l0_5 _ _ l1_5 false _ ?side1 ?side2 ?side3 ?side4 A10.out).mono ?_);(case side1=>repeat (first|exact (Kd.C_below HR0_5.out (by repeat (first|(with_reducible first|exact HB.out|apply bA4_|apply bN4_|apply bD4_|refine bS4_ ?_ GE217.out|refine bS4_ ?_ GE218.out)|exact HB.out)))|(with_reducible refine Kd.C_alloc ?_ _)|(with_reducible refine Kd.C_drewN ?_ _)|(with_reducible refine Kd.C_drew ?_)));(case side2=>exact HC0_5.out);(case side3=>repeat (first|exact (Kd.C_below HR1_5.out (by repeat (first|(with_reducible first|exact HB.out|apply bA4_|apply bN4_|apply bD4_|refine bS4_ ?_ GE217.out|refine bS4_ ?_ GE218.out)|exact HB.out)))|(with_reducible refine Kd.C_alloc ?_ _)|(with_reducible refine Kd.C_drewN ?_ _)|(with_reducible refine Kd.C_drew ?_)));(case side4=>exact HC1_5.out);rintro e w' ⟨rfl,⟨nd,rfl⟩⟩;refine ⟨_,rfl,?_⟩))
       go_ret
       exact ⟨by first|rfl|(simp [errW_none,errW_some] <;> rfl)|(simp [*,errW_none,errW_some] <;> rfl),by repeat (first|(with_reducible first|exact HB.out|apply bA4_|apply bN4_|apply bD4_|refine bS4_ ?_ GE217.out|refine bS4_ ?_ GE218.out)|exact HB.out)⟩
     ·replace c9 := Bool.eq_false_iff.mpr c9
      subst c9
      have H1:(some false)=some r:=by rw [if_neg (show ¬ (false=true) by decide)] at H;exact H
      clear H
      have H := H1
      clear H1
      obtain rfl := Option.some.inj H
      go_enter Try.func52, Try.ntmps52
      go_wp2_with (first|((with_reducible refine gate_dst (N:=2) rfl ?_);refine box_event ?hg (N:=2) ?hd (cs:=#[.int .i64 a0_0,.slice A0_1 l0_1.length c0_1,.int .i64 a0_2,.int .i64 a0_3,.slice A0_4 l0_4.length c0_4,.slice A0_5 l0_5.length c0_5]) (t:=50) ?hr ?_;(case hd=>rfl);(case hg=>rfl);(case hr=>first|(go_simp;done)|(go_simp;rfl));intro gb217 hg w22 hbox hb;have n0_:=mk4_ (bT4_ (by repeat (first|(with_reducible first|exact HB.out|apply bA4_|apply bN4_|apply bD4_)|exact HB.out)) hb);have n1_:=mk4_ (hbox);have n2_:=mk4_ ((by rw [hg];exact (bZ4_ (by repeat (first|(with_reducible first|exact HB.out|apply bA4_|apply bN4_|apply bD4_)|exact HB.out))):w.heap.size≤gb217));have n3_:=mk4_ ((by rw [hg];exact (bZ4_ (by repeat (first|(with_reducible first|exact HB.out|apply bA4_|apply bN4_|apply bD4_)|exact HB.out))):w.heap.size≤gb217));clear HB;have HB:=n0_;have BK217:=n1_;have GW217:=n2_;have GE217:=n3_;clear n0_ n1_ n2_ n3_;clear hb hbox hg)|((with_reducible refine gate_dst (N:=3) rfl ?_);refine box_event ?hg (N:=3) ?hd (cs:=#[.int .i64 a1_0,.slice A1_1 l1_1.length c1_1,.int .i64 a1_2,.int .i64 a1_3,.slice A1_4 l1_4.length c1_4,.slice A1_5 l1_5.length c1_5]) (t:=50) ?hr ?_;(case hd=>rfl);(case hg=>rfl);(case hr=>first|(go_simp;done)|(go_simp;rfl));intro gb218 hg w23 hbox hb;have n0_:=mk4_ (blk_below (g:=gb217) (o:=.cells #[.int .i64 a0_0,.slice A0_1 l0_1.length c0_1,.int .i64 a0_2,.int .i64 a0_3,.slice A0_4 l0_4.length c0_4,.slice A0_5 l0_5.length c0_5] 50 (0,0)) (by (with_reducible repeat (first|refine kN4_ ?_ _|refine kD4_ ?_|refine blk_alloc ?_ _));exact BK217.out) hb);have n1_:=mk4_ (bT4_ (by repeat (first|(with_reducible first|exact HB.out|apply bA4_|apply bN4_|apply bD4_|refine bS4_ ?_ GE217.out)|exact HB.out)) hb);have n2_:=mk4_ (hbox);have n3_:=mk4_ ((by rw [hg];exact (bZ4_ (by repeat (first|(with_reducible first|exact HB.out|apply bA4_|apply bN4_|apply bD4_|refine bS4_ ?_ GE217.out)|exact HB.out))):w.heap.size≤gb218));have n4_:=mk4_ ((by rw [hg];exact (bZ4_ (by repeat (first|(with_reducible first|exact HB.out|apply bA4_|apply bN4_|apply bD4_|refine bS4_ ?_ GE217.out)|exact HB.out))):w.heap.size≤gb218));have n5_:=mk4_ ((by rw [hg];exact Nat.ne_of_lt (blk_lt (g:=gb217) (o:=.cells #[.int .i64 a0_0,.slice A0_1 l0_1.length c0_1,.int .i64 a0_2,.int .i64 a0_3,.slice A0_4 l0_4.length c0_4,.slice A0_5 l0_5.length c0_5] 50 (0,0)) (by (with_reducible repeat (first|refine kN4_ ?_ _|refine kD4_ ?_|refine blk_alloc ?_ _));exact BK217.out)):gb217≠gb218));have n6_:=mk4_ ((by rw [hg];exact Nat.ne_of_gt (blk_lt (g:=gb217) (o:=.cells #[.int .i64 a0_0,.slice A0_1 l0_1.length c0_1,.int .i64 a0_2,.int .i64 a0_3,.slice A0_4 l0_4.length c0_4,.slice A0_5 l0_5.length c0_5] 50 (0,0)) (by (with_reducible repeat (first|refine kN4_ ?_ _|refine kD4_ ?_|refine blk_alloc ?_ _));exact BK217.out)):gb218≠gb217));clear BK217;clear HB;have BK217:=n0_;have HB:=n1_;have BK218:=n2_;have GW218:=n3_;have GE218:=n4_;have NB217_218:=n5_;have NB218_217:=n6_;clear n0_ n1_ n2_ n3_ n4_ n5_ n6_;clear hb hbox hg;have hnb24:=NB217_218.out;have hnc24:=NB218_217.out;have hcz25_0:w23.cell? ⟨gb217,0,none⟩=some (.int .i64 a0_0):=(blk_cell BK217.out 0).trans rfl;have hcz25_1:w23.cell? ⟨gb217,1,none⟩=some (.slice A0_1 l0_1.length c0_1):=(blk_cell BK217.out 1).trans rfl;have hcz25_2:w23.cell? ⟨gb217,2,none⟩=some (.int .i64 a0_2):=(blk_cell BK217.out 2).trans rfl;have hcz25_3:w23.cell? ⟨gb217,3,none⟩=some (.int .i64 a0_3):=(blk_cell BK217.out 3).trans rfl;have hcz25_4:w23.cell? ⟨gb217,4,none⟩=some (.slice A0_4 l0_4.length c0_4):=(blk_cell BK217.out 4).trans rfl;have hcz25_5:w23.cell? ⟨gb217,5,none⟩=some (.slice A0_5 l0_5.length c0_5):=(blk_cell BK217.out 5).trans rfl;have hfz25_0:=fZ4_ BK217.out 0;have hfz25_1:=fZ4_ BK217.out 1;have hfz25_2:=fZ4_ BK217.out 2;have hfz25_3:=fZ4_ BK217.out 3;have hfz25_4:=fZ4_ BK217.out 4;have hfz25_5:=fZ4_ BK217.out 5;have hcz26_0:w23.cell? ⟨gb218,0,none⟩=some (.int .i64 a1_0):=(blk_cell BK218.out 0).trans rfl;have hcz26_1:w23.cell? ⟨gb218,1,none⟩=some (.slice A1_1 l1_1.length c1_1):=(blk_cell BK218.out 1).trans rfl;have hcz26_2:w23.cell? ⟨gb218,2,none⟩=some (.int .i64 a1_2):=(blk_cell BK218.out 2).trans rfl;have hcz26_3:w23.cell? ⟨gb218,3,none⟩=some (.int .i64 a1_3):=(blk_cell BK218.out 3).trans rfl;have hcz26_4:w23.cell? ⟨gb218,4,none⟩=some (.slice A1_4 l1_4.length c1_4):=(blk_cell BK218.out 4).trans rfl;have hcz26_5:w23.cell? ⟨gb218,5,none⟩=some (.slice A1_5 l1_5.length c1_5):=(blk_cell BK218.out 5).trans rfl;have hfz26_0:=fZ4_ BK218.out 0;have hfz26_1:=fZ4_ BK218.out 1;have hfz26_2:=fZ4_ BK218.out 2;have hfz26_3:=fZ4_ BK218.out 3;have hfz26_4:=fZ4_ BK218.out 4;have hfz26_5:=fZ4_ BK218.out 5)|((with_reducible refine gate_callee (f:=65) rfl ?_);refine goesL_ (some 14) rfl rfl Try.func65 (by kernel_rfl) rfl #[.slice A0_1 l0_1.length c0_1,.slice A1_1 l1_1.length c1_1] rfl (by (try simp only [List.map_toArray,List.map_cons,List.map_nil]);first|done|rfl|(simp only [List.length_drop,List.length_take];rfl)) ?_;(with_reducible refine (laws_eqInt64S.calls k _ _ l0_1 _ _ l1_1 true _ ?side1 ?side2 ?side3 ?side4 A4.out).mono ?_);(case side1=>repeat (first|exact (Kd.C_below HR0_1.out HB.out)|(with_reducible refine Kd.C_alloc ?_ _)|(with_reducible refine Kd.C_drewN ?_ _)|(with_reducible refine Kd.C_drew ?_)));(case side2=>exact HC0_1.out);(case side3=>repeat (first|exact (Kd.C_below HR1_1.out HB.out)|(with_reducible refine Kd.C_alloc ?_ _)|(with_reducible refine Kd.C_drewN ?_ _)|(with_reducible refine Kd.C_drew ?_)));(case side4=>exact HC1_1.out);rintro e w' ⟨rfl,⟨nd,rfl⟩⟩;refine ⟨_,rfl,?_⟩)|((with_reducible refine gate_callee (f:=65) rfl ?_);refine goesL_ (some 30) rfl rfl Try.func65 (by kernel_rfl) rfl #[.slice A0_4 l0_4.length c0_4,.slice A1_4 l1_4.length c1_4] rfl (by (try simp only [List.map_toArray,List.map_cons,List.map_nil]);first|done|rfl|(simp only [List.length_drop,List.length_take];rfl)) ?_;(with_reducible refine (laws_eqInt64S.calls k _ _ l0_4 _ _ l1_4 false _ ?side1 ?side2 ?side3 ?side4 A8.out).mono ?_);(case side1=>repeat (first|exact (Kd.C_below HR0_4.out (by repeat (first|(with_reducible first|exact HB.out|apply bA4_|apply bN4_|apply bD4_|refine bS4_ ?_ GE217.out|refine bS4_ ?_ GE218.out)|exact HB.out)))|(with_reducible refine Kd.C_alloc ?_ _)|(with_reducible refine Kd.C_drewN ?_ _)|(with_reducible refine Kd.C_drew ?_)));(case side2=>exact HC0_4.out);(case side3=>repeat (first|exact (Kd.C_below HR1_4.out (by repeat (first|(with_reducible first|exact HB.out|apply bA4_|apply bN4_|apply bD4_|refine bS4_ ?_ GE217.out|refine bS4_ ?_ GE218.out)|exact HB.out)))|(with_reducible refine Kd.C_alloc ?_ _)|(with_reducible refine Kd.C_drewN ?_ _)|(with_reducible refine Kd.C_drew ?_)));(case side4=>exact HC1_4.out);rintro e w' ⟨rfl,⟨nd,rfl⟩⟩;refine ⟨_,rfl,?_⟩))
      go_ret
      exact ⟨by first|rfl|(simp [errW_none,errW_some] <;> rfl)|(simp [*,errW_none,errW_some] <;> rfl),by repeat (first|(with_reducible first|exact HB.out|apply bA4_|apply bN4_|apply bD4_|refine bS4_ ?_ GE217.out|refine bS4_ ?_ GE218.out)|exact HB.out)⟩
    ·rw [if_neg c7] at H
     have c7b0 : (a0_3 == a1_3) = false := beq_eq_false_iff_ne.mpr c7
     have c7b1 : (a0_3 != a1_3) = true := bne_iff_ne.mpr c7
     obtain rfl := Option.some.inj H
     go_enter Try.func52, Try.ntmps52
     go_wp2_with (first|((with_reducible refine gate_dst (N:=2) rfl ?_);refine box_event ?hg (N:=2) ?hd (cs:=#[.int .i64 a0_0,.slice A0_1 l0_1.length c0_1,.int .i64 a0_2,.int .i64 a0_3,.slice A0_4 l0_4.length c0_4,.slice A0_5 l0_5.length c0_5]) (t:=50) ?hr ?_;(case hd=>rfl);(case hg=>rfl);(case hr=>first|(go_simp;done)|(go_simp;rfl));intro gb217 hg w27 hbox hb;have n0_:=mk4_ (bT4_ (by repeat (first|(with_reducible first|exact HB.out|apply bA4_|apply bN4_|apply bD4_)|exact HB.out)) hb);have n1_:=mk4_ (hbox);have n2_:=mk4_ ((by rw [hg];exact (bZ4_ (by repeat (first|(with_reducible first|exact HB.out|apply bA4_|apply bN4_|apply bD4_)|exact HB.out))):w.heap.size≤gb217));have n3_:=mk4_ ((by rw [hg];exact (bZ4_ (by repeat (first|(with_reducible first|exact HB.out|apply bA4_|apply bN4_|apply bD4_)|exact HB.out))):w.heap.size≤gb217));clear HB;have HB:=n0_;have BK217:=n1_;have GW217:=n2_;have GE217:=n3_;clear n0_ n1_ n2_ n3_;clear hb hbox hg)|((with_reducible refine gate_dst (N:=3) rfl ?_);refine box_event ?hg (N:=3) ?hd (cs:=#[.int .i64 a1_0,.slice A1_1 l1_1.length c1_1,.int .i64 a1_2,.int .i64 a1_3,.slice A1_4 l1_4.length c1_4,.slice A1_5 l1_5.length c1_5]) (t:=50) ?hr ?_;(case hd=>rfl);(case hg=>rfl);(case hr=>first|(go_simp;done)|(go_simp;rfl));intro gb218 hg w28 hbox hb;have n0_:=mk4_ (blk_below (g:=gb217) (o:=.cells #[.int .i64 a0_0,.slice A0_1 l0_1.length c0_1,.int .i64 a0_2,.int .i64 a0_3,.slice A0_4 l0_4.length c0_4,.slice A0_5 l0_5.length c0_5] 50 (0,0)) (by (with_reducible repeat (first|refine kN4_ ?_ _|refine kD4_ ?_|refine blk_alloc ?_ _));exact BK217.out) hb);have n1_:=mk4_ (bT4_ (by repeat (first|(with_reducible first|exact HB.out|apply bA4_|apply bN4_|apply bD4_|refine bS4_ ?_ GE217.out)|exact HB.out)) hb);have n2_:=mk4_ (hbox);have n3_:=mk4_ ((by rw [hg];exact (bZ4_ (by repeat (first|(with_reducible first|exact HB.out|apply bA4_|apply bN4_|apply bD4_|refine bS4_ ?_ GE217.out)|exact HB.out))):w.heap.size≤gb218));have n4_:=mk4_ ((by rw [hg];exact (bZ4_ (by repeat (first|(with_reducible first|exact HB.out|apply bA4_|apply bN4_|apply bD4_|refine bS4_ ?_ GE217.out)|exact HB.out))):w.heap.size≤gb218));have n5_:=mk4_ ((by rw [hg];exact Nat.ne_of_lt (blk_lt (g:=gb217) (o:=.cells #[.int .i64 a0_0,.slice A0_1 l0_1.length c0_1,.int .i64 a0_2,.int .i64 a0_3,.slice A0_4 l0_4.length c0_4,.slice A0_5 l0_5.length c0_5] 50 (0,0)) (by (with_reducible repeat (first|refine kN4_ ?_ _|refine kD4_ ?_|refine blk_alloc ?_ _));exact BK217.out)):gb217≠gb218));have n6_:=mk4_ ((by rw [hg];exact Nat.ne_of_gt (blk_lt (g:=gb217) (o:=.cells #[.int .i64 a0_0,.slice A0_1 l0_1.length c0_1,.int .i64 a0_2,.int .i64 a0_3,.slice A0_4 l0_4.length c0_4,.slice A0_5 l0_5.length c0_5] 50 (0,0)) (by (with_reducible repeat (first|refine kN4_ ?_ _|refine kD4_ ?_|refine blk_alloc ?_ _));exact BK217.out)):gb218≠gb217));clear BK217;clear HB;have BK217:=n0_;have HB:=n1_;have BK218:=n2_;have GW218:=n3_;have GE218:=n4_;have NB217_218:=n5_;have NB218_217:=n6_;clear n0_ n1_ n2_ n3_ n4_ n5_ n6_;clear hb hbox hg;have hnb29:=NB217_218.out;have hnc29:=NB218_217.out;have hcz30_0:w28.cell? ⟨gb217,0,none⟩=some (.int .i64 a0_0):=(blk_cell BK217.out 0).trans rfl;have hcz30_1:w28.cell? ⟨gb217,1,none⟩=some (.slice A0_1 l0_1.length c0_1):=(blk_cell BK217.out 1).trans rfl;have hcz30_2:w28.cell? ⟨gb217,2,none⟩=some (.int .i64 a0_2):=(blk_cell BK217.out 2).trans rfl;have hcz30_3:w28.cell? ⟨gb217,3,none⟩=some (.int .i64 a0_3):=(blk_cell BK217.out 3).trans rfl;have hcz30_4:w28.cell? ⟨gb217,4,none⟩=some (.slice A0_4 l0_4.length c0_4):=(blk_cell BK217.out 4).trans rfl;have hcz30_5:w28.cell? ⟨gb217,5,none⟩=some (.slice A0_5 l0_5.length c0_5):=(blk_cell BK217.out 5).trans rfl;have hfz30_0:=fZ4_ BK217.out 0;have hfz30_1:=fZ4_ BK217.out 1;have hfz30_2:=fZ4_ BK217.out 2;have hfz30_3:=fZ4_ BK217.out 3;have hfz30_4:=fZ4_ BK217.out 4;have hfz30_5:=fZ4_ BK217.out 5;have hcz31_0:w28.cell? ⟨gb218,0,none⟩=some (.int .i64 a1_0):=(blk_cell BK218.out 0).trans rfl;have hcz31_1:w28.cell? ⟨gb218,1,none⟩=some (.slice A1_1 l1_1.length c1_1):=(blk_cell BK218.out 1).trans rfl;have hcz31_2:w28.cell? ⟨gb218,2,none⟩=some (.int .i64 a1_2):=(blk_cell BK218.out 2).trans rfl;have hcz31_3:w28.cell? ⟨gb218,3,none⟩=some (.int .i64 a1_3):=(blk_cell BK218.out 3).trans rfl;have hcz31_4:w28.cell? ⟨gb218,4,none⟩=some (.slice A1_4 l1_4.length c1_4):=(blk_cell BK218.out 4).trans rfl;have hcz31_5:w28.cell? ⟨gb218,5,none⟩=some (.slice A1_5 l1_5.length c1_5):=(blk_cell BK218.out 5).trans rfl;have hfz31_0:=fZ4_ BK218.out 0;have hfz31_1:=fZ4_ BK218.out 1;have hfz31_2:=fZ4_ BK218.out 2;have hfz31_3:=fZ4_ BK218.out 3;have hfz31_4:=fZ4_ BK218.out 4;have hfz31_5:=fZ4_ BK218.out 5)|((with_reducible refine gate_callee (f:=65) rfl ?_);refine goesL_ (some 14) rfl rfl Try.func65 (by kernel_rfl) rfl #[.slice A0_1 l0_1.length c0_1,.slice A1_1 l1_1.length c1_1] rfl (by (try simp only [List.map_toArray,List.map_cons,List.map_nil]);first|done|rfl|(simp only [List.length_drop,List.length_take];rfl)) ?_;(with_reducible refine (laws_eqInt64S.calls k _ _ l0_1 _ _ l1_1 true _ ?side1 ?side2 ?side3 ?side4 A4.out).mono ?_);(case side1=>repeat (first|exact (Kd.C_below HR0_1.out HB.out)|(with_reducible refine Kd.C_alloc ?_ _)|(with_reducible refine Kd.C_drewN ?_ _)|(with_reducible refine Kd.C_drew ?_)));(case side2=>exact HC0_1.out);(case side3=>repeat (first|exact (Kd.C_below HR1_1.out HB.out)|(with_reducible refine Kd.C_alloc ?_ _)|(with_reducible refine Kd.C_drewN ?_ _)|(with_reducible refine Kd.C_drew ?_)));(case side4=>exact HC1_1.out);rintro e w' ⟨rfl,⟨nd,rfl⟩⟩;refine ⟨_,rfl,?_⟩))
     go_ret
     exact ⟨by first|rfl|(simp [errW_none,errW_some] <;> rfl)|(simp [*,errW_none,errW_some] <;> rfl),by repeat (first|(with_reducible first|exact HB.out|apply bA4_|apply bN4_|apply bD4_|refine bS4_ ?_ GE217.out|refine bS4_ ?_ GE218.out)|exact HB.out)⟩
   ·rw [if_neg c6] at H
    have c6b0 : (a0_2 == a1_2) = false := beq_eq_false_iff_ne.mpr c6
    have c6b1 : (a0_2 != a1_2) = true := bne_iff_ne.mpr c6
    obtain rfl := Option.some.inj H
    go_enter Try.func52, Try.ntmps52
    go_wp2_with (first|((with_reducible refine gate_dst (N:=2) rfl ?_);refine box_event ?hg (N:=2) ?hd (cs:=#[.int .i64 a0_0,.slice A0_1 l0_1.length c0_1,.int .i64 a0_2,.int .i64 a0_3,.slice A0_4 l0_4.length c0_4,.slice A0_5 l0_5.length c0_5]) (t:=50) ?hr ?_;(case hd=>rfl);(case hg=>rfl);(case hr=>first|(go_simp;done)|(go_simp;rfl));intro gb217 hg w32 hbox hb;have n0_:=mk4_ (bT4_ (by repeat (first|(with_reducible first|exact HB.out|apply bA4_|apply bN4_|apply bD4_)|exact HB.out)) hb);have n1_:=mk4_ (hbox);have n2_:=mk4_ ((by rw [hg];exact (bZ4_ (by repeat (first|(with_reducible first|exact HB.out|apply bA4_|apply bN4_|apply bD4_)|exact HB.out))):w.heap.size≤gb217));have n3_:=mk4_ ((by rw [hg];exact (bZ4_ (by repeat (first|(with_reducible first|exact HB.out|apply bA4_|apply bN4_|apply bD4_)|exact HB.out))):w.heap.size≤gb217));clear HB;have HB:=n0_;have BK217:=n1_;have GW217:=n2_;have GE217:=n3_;clear n0_ n1_ n2_ n3_;clear hb hbox hg)|((with_reducible refine gate_dst (N:=3) rfl ?_);refine box_event ?hg (N:=3) ?hd (cs:=#[.int .i64 a1_0,.slice A1_1 l1_1.length c1_1,.int .i64 a1_2,.int .i64 a1_3,.slice A1_4 l1_4.length c1_4,.slice A1_5 l1_5.length c1_5]) (t:=50) ?hr ?_;(case hd=>rfl);(case hg=>rfl);(case hr=>first|(go_simp;done)|(go_simp;rfl));intro gb218 hg w33 hbox hb;have n0_:=mk4_ (blk_below (g:=gb217) (o:=.cells #[.int .i64 a0_0,.slice A0_1 l0_1.length c0_1,.int .i64 a0_2,.int .i64 a0_3,.slice A0_4 l0_4.length c0_4,.slice A0_5 l0_5.length c0_5] 50 (0,0)) (by (with_reducible repeat (first|refine kN4_ ?_ _|refine kD4_ ?_|refine blk_alloc ?_ _));exact BK217.out) hb);have n1_:=mk4_ (bT4_ (by repeat (first|(with_reducible first|exact HB.out|apply bA4_|apply bN4_|apply bD4_|refine bS4_ ?_ GE217.out)|exact HB.out)) hb);have n2_:=mk4_ (hbox);have n3_:=mk4_ ((by rw [hg];exact (bZ4_ (by repeat (first|(with_reducible first|exact HB.out|apply bA4_|apply bN4_|apply bD4_|refine bS4_ ?_ GE217.out)|exact HB.out))):w.heap.size≤gb218));have n4_:=mk4_ ((by rw [hg];exact (bZ4_ (by repeat (first|(with_reducible first|exact HB.out|apply bA4_|apply bN4_|apply bD4_|refine bS4_ ?_ GE217.out)|exact HB.out))):w.heap.size≤gb218));have n5_:=mk4_ ((by rw [hg];exact Nat.ne_of_lt (blk_lt (g:=gb217) (o:=.cells #[.int .i64 a0_0,.slice A0_1 l0_1.length c0_1,.int .i64 a0_2,.int .i64 a0_3,.slice A0_4 l0_4.length c0_4,.slice A0_5 l0_5.length c0_5] 50 (0,0)) (by (with_reducible repeat (first|refine kN4_ ?_ _|refine kD4_ ?_|refine blk_alloc ?_ _));exact BK217.out)):gb217≠gb218));have n6_:=mk4_ ((by rw [hg];exact Nat.ne_of_gt (blk_lt (g:=gb217) (o:=.cells #[.int .i64 a0_0,.slice A0_1 l0_1.length c0_1,.int .i64 a0_2,.int .i64 a0_3,.slice A0_4 l0_4.length c0_4,.slice A0_5 l0_5.length c0_5] 50 (0,0)) (by (with_reducible repeat (first|refine kN4_ ?_ _|refine kD4_ ?_|refine blk_alloc ?_ _));exact BK217.out)):gb218≠gb217));clear BK217;clear HB;have BK217:=n0_;have HB:=n1_;have BK218:=n2_;have GW218:=n3_;have GE218:=n4_;have NB217_218:=n5_;have NB218_217:=n6_;clear n0_ n1_ n2_ n3_ n4_ n5_ n6_;clear hb hbox hg;have hnb34:=NB217_218.out;have hnc34:=NB218_217.out;have hcz35_0:w33.cell? ⟨gb217,0,none⟩=some (.int .i64 a0_0):=(blk_cell BK217.out 0).trans rfl;have hcz35_1:w33.cell? ⟨gb217,1,none⟩=some (.slice A0_1 l0_1.length c0_1):=(blk_cell BK217.out 1).trans rfl;have hcz35_2:w33.cell? ⟨gb217,2,none⟩=some (.int .i64 a0_2):=(blk_cell BK217.out 2).trans rfl;have hcz35_3:w33.cell? ⟨gb217,3,none⟩=some (.int .i64 a0_3):=(blk_cell BK217.out 3).trans rfl;have hcz35_4:w33.cell? ⟨gb217,4,none⟩=some (.slice A0_4 l0_4.length c0_4):=(blk_cell BK217.out 4).trans rfl;have hcz35_5:w33.cell? ⟨gb217,5,none⟩=some (.slice A0_5 l0_5.length c0_5):=(blk_cell BK217.out 5).trans rfl;have hfz35_0:=fZ4_ BK217.out 0;have hfz35_1:=fZ4_ BK217.out 1;have hfz35_2:=fZ4_ BK217.out 2;have hfz35_3:=fZ4_ BK217.out 3;have hfz35_4:=fZ4_ BK217.out 4;have hfz35_5:=fZ4_ BK217.out 5;have hcz36_0:w33.cell? ⟨gb218,0,none⟩=some (.int .i64 a1_0):=(blk_cell BK218.out 0).trans rfl;have hcz36_1:w33.cell? ⟨gb218,1,none⟩=some (.slice A1_1 l1_1.length c1_1):=(blk_cell BK218.out 1).trans rfl;have hcz36_2:w33.cell? ⟨gb218,2,none⟩=some (.int .i64 a1_2):=(blk_cell BK218.out 2).trans rfl;have hcz36_3:w33.cell? ⟨gb218,3,none⟩=some (.int .i64 a1_3):=(blk_cell BK218.out 3).trans rfl;have hcz36_4:w33.cell? ⟨gb218,4,none⟩=some (.slice A1_4 l1_4.length c1_4):=(blk_cell BK218.out 4).trans rfl;have hcz36_5:w33.cell? ⟨gb218,5,none⟩=some (.slice A1_5 l1_5.length c1_5):=(blk_cell BK218.out 5).trans rfl;have hfz36_0:=fZ4_ BK218.out 0;have hfz36_1:=fZ4_ BK218.out 1;have hfz36_2:=fZ4_ BK218.out 2;have hfz36_3:=fZ4_ BK218.out 3;have hfz36_4:=fZ4_ BK218.out 4;have hfz36_5:=fZ4_ BK218.out 5)|((with_reducible refine gate_callee (f:=65) rfl ?_);refine goesL_ (some 14) rfl rfl Try.func65 (by kernel_rfl) rfl #[.slice A0_1 l0_1.length c0_1,.slice A1_1 l1_1.length c1_1] rfl (by (try simp only [List.map_toArray,List.map_cons,List.map_nil]);first|done|rfl|(simp only [List.length_drop,List.length_take];rfl)) ?_;(with_reducible refine (laws_eqInt64S.calls k _ _ l0_1 _ _ l1_1 true _ ?side1 ?side2 ?side3 ?side4 A4.out).mono ?_);(case side1=>repeat (first|exact (Kd.C_below HR0_1.out HB.out)|(with_reducible refine Kd.C_alloc ?_ _)|(with_reducible refine Kd.C_drewN ?_ _)|(with_reducible refine Kd.C_drew ?_)));(case side2=>exact HC0_1.out);(case side3=>repeat (first|exact (Kd.C_below HR1_1.out HB.out)|(with_reducible refine Kd.C_alloc ?_ _)|(with_reducible refine Kd.C_drewN ?_ _)|(with_reducible refine Kd.C_drew ?_)));(case side4=>exact HC1_1.out);rintro e w' ⟨rfl,⟨nd,rfl⟩⟩;refine ⟨_,rfl,?_⟩))
    go_ret
    exact ⟨by first|rfl|(simp [errW_none,errW_some] <;> rfl)|(simp [*,errW_none,errW_some] <;> rfl),by repeat (first|(with_reducible first|exact HB.out|apply bA4_|apply bN4_|apply bD4_|refine bS4_ ?_ GE217.out|refine bS4_ ?_ GE218.out)|exact HB.out)⟩
  ·replace c5 := Bool.eq_false_iff.mpr c5
   subst c5
   have H1:(some false)=some r:=by rw [if_neg (show ¬ (false=true) by decide)] at H;exact H
   clear H
   have H := H1
   clear H1
   obtain rfl := Option.some.inj H
   go_enter Try.func52, Try.ntmps52
   go_wp2_with (first|((with_reducible refine gate_dst (N:=2) rfl ?_);refine box_event ?hg (N:=2) ?hd (cs:=#[.int .i64 a0_0,.slice A0_1 l0_1.length c0_1,.int .i64 a0_2,.int .i64 a0_3,.slice A0_4 l0_4.length c0_4,.slice A0_5 l0_5.length c0_5]) (t:=50) ?hr ?_;(case hd=>rfl);(case hg=>rfl);(case hr=>first|(go_simp;done)|(go_simp;rfl));intro gb217 hg w37 hbox hb;have n0_:=mk4_ (bT4_ (by repeat (first|(with_reducible first|exact HB.out|apply bA4_|apply bN4_|apply bD4_)|exact HB.out)) hb);have n1_:=mk4_ (hbox);have n2_:=mk4_ ((by rw [hg];exact (bZ4_ (by repeat (first|(with_reducible first|exact HB.out|apply bA4_|apply bN4_|apply bD4_)|exact HB.out))):w.heap.size≤gb217));have n3_:=mk4_ ((by rw [hg];exact (bZ4_ (by repeat (first|(with_reducible first|exact HB.out|apply bA4_|apply bN4_|apply bD4_)|exact HB.out))):w.heap.size≤gb217));clear HB;have HB:=n0_;have BK217:=n1_;have GW217:=n2_;have GE217:=n3_;clear n0_ n1_ n2_ n3_;clear hb hbox hg)|((with_reducible refine gate_dst (N:=3) rfl ?_);refine box_event ?hg (N:=3) ?hd (cs:=#[.int .i64 a1_0,.slice A1_1 l1_1.length c1_1,.int .i64 a1_2,.int .i64 a1_3,.slice A1_4 l1_4.length c1_4,.slice A1_5 l1_5.length c1_5]) (t:=50) ?hr ?_;(case hd=>rfl);(case hg=>rfl);(case hr=>first|(go_simp;done)|(go_simp;rfl));intro gb218 hg w38 hbox hb;have n0_:=mk4_ (blk_below (g:=gb217) (o:=.cells #[.int .i64 a0_0,.slice A0_1 l0_1.length c0_1,.int .i64 a0_2,.int .i64 a0_3,.slice A0_4 l0_4.length c0_4,.slice A0_5 l0_5.length c0_5] 50 (0,0)) (by (with_reducible repeat (first|refine kN4_ ?_ _|refine kD4_ ?_|refine blk_alloc ?_ _));exact BK217.out) hb);have n1_:=mk4_ (bT4_ (by repeat (first|(with_reducible first|exact HB.out|apply bA4_|apply bN4_|apply bD4_|refine bS4_ ?_ GE217.out)|exact HB.out)) hb);have n2_:=mk4_ (hbox);have n3_:=mk4_ ((by rw [hg];exact (bZ4_ (by repeat (first|(with_reducible first|exact HB.out|apply bA4_|apply bN4_|apply bD4_|refine bS4_ ?_ GE217.out)|exact HB.out))):w.heap.size≤gb218));have n4_:=mk4_ ((by rw [hg];exact (bZ4_ (by repeat (first|(with_reducible first|exact HB.out|apply bA4_|apply bN4_|apply bD4_|refine bS4_ ?_ GE217.out)|exact HB.out))):w.heap.size≤gb218));have n5_:=mk4_ ((by rw [hg];exact Nat.ne_of_lt (blk_lt (g:=gb217) (o:=.cells #[.int .i64 a0_0,.slice A0_1 l0_1.length c0_1,.int .i64 a0_2,.int .i64 a0_3,.slice A0_4 l0_4.length c0_4,.slice A0_5 l0_5.length c0_5] 50 (0,0)) (by (with_reducible repeat (first|refine kN4_ ?_ _|refine kD4_ ?_|refine blk_alloc ?_ _));exact BK217.out)):gb217≠gb218));have n6_:=mk4_ ((by rw [hg];exact Nat.ne_of_gt (blk_lt (g:=gb217) (o:=.cells #[.int .i64 a0_0,.slice A0_1 l0_1.length c0_1,.int .i64 a0_2,.int .i64 a0_3,.slice A0_4 l0_4.length c0_4,.slice A0_5 l0_5.length c0_5] 50 (0,0)) (by (with_reducible repeat (first|refine kN4_ ?_ _|refine kD4_ ?_|refine blk_alloc ?_ _));exact BK217.out)):gb218≠gb217));clear BK217;clear HB;have BK217:=n0_;have HB:=n1_;have BK218:=n2_;have GW218:=n3_;have GE218:=n4_;have NB217_218:=n5_;have NB218_217:=n6_;clear n0_ n1_ n2_ n3_ n4_ n5_ n6_;clear hb hbox hg;have hnb39:=NB217_218.out;have hnc39:=NB218_217.out;have hcz40_0:w38.cell? ⟨gb217,0,none⟩=some (.int .i64 a0_0):=(blk_cell BK217.out 0).trans rfl;have hcz40_1:w38.cell? ⟨gb217,1,none⟩=some (.slice A0_1 l0_1.length c0_1):=(blk_cell BK217.out 1).trans rfl;have hcz40_2:w38.cell? ⟨gb217,2,none⟩=some (.int .i64 a0_2):=(blk_cell BK217.out 2).trans rfl;have hcz40_3:w38.cell? ⟨gb217,3,none⟩=some (.int .i64 a0_3):=(blk_cell BK217.out 3).trans rfl;have hcz40_4:w38.cell? ⟨gb217,4,none⟩=some (.slice A0_4 l0_4.length c0_4):=(blk_cell BK217.out 4).trans rfl;have hcz40_5:w38.cell? ⟨gb217,5,none⟩=some (.slice A0_5 l0_5.length c0_5):=(blk_cell BK217.out 5).trans rfl;have hfz40_0:=fZ4_ BK217.out 0;have hfz40_1:=fZ4_ BK217.out 1;have hfz40_2:=fZ4_ BK217.out 2;have hfz40_3:=fZ4_ BK217.out 3;have hfz40_4:=fZ4_ BK217.out 4;have hfz40_5:=fZ4_ BK217.out 5;have hcz41_0:w38.cell? ⟨gb218,0,none⟩=some (.int .i64 a1_0):=(blk_cell BK218.out 0).trans rfl;have hcz41_1:w38.cell? ⟨gb218,1,none⟩=some (.slice A1_1 l1_1.length c1_1):=(blk_cell BK218.out 1).trans rfl;have hcz41_2:w38.cell? ⟨gb218,2,none⟩=some (.int .i64 a1_2):=(blk_cell BK218.out 2).trans rfl;have hcz41_3:w38.cell? ⟨gb218,3,none⟩=some (.int .i64 a1_3):=(blk_cell BK218.out 3).trans rfl;have hcz41_4:w38.cell? ⟨gb218,4,none⟩=some (.slice A1_4 l1_4.length c1_4):=(blk_cell BK218.out 4).trans rfl;have hcz41_5:w38.cell? ⟨gb218,5,none⟩=some (.slice A1_5 l1_5.length c1_5):=(blk_cell BK218.out 5).trans rfl;have hfz41_0:=fZ4_ BK218.out 0;have hfz41_1:=fZ4_ BK218.out 1;have hfz41_2:=fZ4_ BK218.out 2;have hfz41_3:=fZ4_ BK218.out 3;have hfz41_4:=fZ4_ BK218.out 4;have hfz41_5:=fZ4_ BK218.out 5)|((with_reducible refine gate_callee (f:=65) rfl ?_);refine goesL_ (some 14) rfl rfl Try.func65 (by kernel_rfl) rfl #[.slice A0_1 l0_1.length c0_1,.slice A1_1 l1_1.length c1_1] rfl (by (try simp only [List.map_toArray,List.map_cons,List.map_nil]);first|done|rfl|(simp only [List.length_drop,List.length_take];rfl)) ?_;(with_reducible refine (laws_eqInt64S.calls k _ _ l0_1 _ _ l1_1 false _ ?side1 ?side2 ?side3 ?side4 A4.out).mono ?_);(case side1=>repeat (first|exact (Kd.C_below HR0_1.out HB.out)|(with_reducible refine Kd.C_alloc ?_ _)|(with_reducible refine Kd.C_drewN ?_ _)|(with_reducible refine Kd.C_drew ?_)));(case side2=>exact HC0_1.out);(case side3=>repeat (first|exact (Kd.C_below HR1_1.out HB.out)|(with_reducible refine Kd.C_alloc ?_ _)|(with_reducible refine Kd.C_drewN ?_ _)|(with_reducible refine Kd.C_drew ?_)));(case side4=>exact HC1_1.out);rintro e w' ⟨rfl,⟨nd,rfl⟩⟩;refine ⟨_,rfl,?_⟩))
   go_ret
   exact ⟨by first|rfl|(simp [errW_none,errW_some] <;> rfl)|(simp [*,errW_none,errW_some] <;> rfl),by repeat (first|(with_reducible first|exact HB.out|apply bA4_|apply bN4_|apply bD4_|refine bS4_ ?_ GE217.out|refine bS4_ ?_ GE218.out)|exact HB.out)⟩
 ·rw [if_neg c3] at H
  have c3b0 : (a0_0 == a1_0) = false := beq_eq_false_iff_ne.mpr c3
  have c3b1 : (a0_0 != a1_0) = true := bne_iff_ne.mpr c3
  obtain rfl := Option.some.inj H
  go_enter Try.func52, Try.ntmps52
  go_wp2_with (first|((with_reducible refine gate_dst (N:=2) rfl ?_);refine box_event ?hg (N:=2) ?hd (cs:=#[.int .i64 a0_0,.slice A0_1 l0_1.length c0_1,.int .i64 a0_2,.int .i64 a0_3,.slice A0_4 l0_4.length c0_4,.slice A0_5 l0_5.length c0_5]) (t:=50) ?hr ?_;(case hd=>rfl);(case hg=>rfl);(case hr=>first|(go_simp;done)|(go_simp;rfl));intro gb217 hg w42 hbox hb;have n0_:=mk4_ (bT4_ (by repeat (first|(with_reducible first|exact HB.out|apply bA4_|apply bN4_|apply bD4_)|exact HB.out)) hb);have n1_:=mk4_ (hbox);have n2_:=mk4_ ((by rw [hg];exact (bZ4_ (by repeat (first|(with_reducible first|exact HB.out|apply bA4_|apply bN4_|apply bD4_)|exact HB.out))):w.heap.size≤gb217));have n3_:=mk4_ ((by rw [hg];exact (bZ4_ (by repeat (first|(with_reducible first|exact HB.out|apply bA4_|apply bN4_|apply bD4_)|exact HB.out))):w.heap.size≤gb217));clear HB;have HB:=n0_;have BK217:=n1_;have GW217:=n2_;have GE217:=n3_;clear n0_ n1_ n2_ n3_;clear hb hbox hg)|((with_reducible refine gate_dst (N:=3) rfl ?_);refine box_event ?hg (N:=3) ?hd (cs:=#[.int .i64 a1_0,.slice A1_1 l1_1.length c1_1,.int .i64 a1_2,.int .i64 a1_3,.slice A1_4 l1_4.length c1_4,.slice A1_5 l1_5.length c1_5]) (t:=50) ?hr ?_;(case hd=>rfl);(case hg=>rfl);(case hr=>first|(go_simp;done)|(go_simp;rfl));intro gb218 hg w43 hbox hb;have n0_:=mk4_ (blk_below (g:=gb217) (o:=.cells #[.int .i64 a0_0,.slice A0_1 l0_1.length c0_1,.int .i64 a0_2,.int .i64 a0_3,.slice A0_4 l0_4.length c0_4,.slice A0_5 l0_5.length c0_5] 50 (0,0)) (by (with_reducible repeat (first|refine kN4_ ?_ _|refine kD4_ ?_|refine blk_alloc ?_ _));exact BK217.out) hb);have n1_:=mk4_ (bT4_ (by repeat (first|(with_reducible first|exact HB.out|apply bA4_|apply bN4_|apply bD4_|refine bS4_ ?_ GE217.out)|exact HB.out)) hb);have n2_:=mk4_ (hbox);have n3_:=mk4_ ((by rw [hg];exact (bZ4_ (by repeat (first|(with_reducible first|exact HB.out|apply bA4_|apply bN4_|apply bD4_|refine bS4_ ?_ GE217.out)|exact HB.out))):w.heap.size≤gb218));have n4_:=mk4_ ((by rw [hg];exact (bZ4_ (by repeat (first|(with_reducible first|exact HB.out|apply bA4_|apply bN4_|apply bD4_|refine bS4_ ?_ GE217.out)|exact HB.out))):w.heap.size≤gb218));have n5_:=mk4_ ((by rw [hg];exact Nat.ne_of_lt (blk_lt (g:=gb217) (o:=.cells #[.int .i64 a0_0,.slice A0_1 l0_1.length c0_1,.int .i64 a0_2,.int .i64 a0_3,.slice A0_4 l0_4.length c0_4,.slice A0_5 l0_5.length c0_5] 50 (0,0)) (by (with_reducible repeat (first|refine kN4_ ?_ _|refine kD4_ ?_|refine blk_alloc ?_ _));exact BK217.out)):gb217≠gb218));have n6_:=mk4_ ((by rw [hg];exact Nat.ne_of_gt (blk_lt (g:=gb217) (o:=.cells #[.int .i64 a0_0,.slice A0_1 l0_1.length c0_1,.int .i64 a0_2,.int .i64 a0_3,.slice A0_4 l0_4.length c0_4,.slice A0_5 l0_5.length c0_5] 50 (0,0)) (by (with_reducible repeat (first|refine kN4_ ?_ _|refine kD4_ ?_|refine blk_alloc ?_ _));exact BK217.out)):gb218≠gb217));clear BK217;clear HB;have BK217:=n0_;have HB:=n1_;have BK218:=n2_;have GW218:=n3_;have GE218:=n4_;have NB217_218:=n5_;have NB218_217:=n6_;clear n0_ n1_ n2_ n3_ n4_ n5_ n6_;clear hb hbox hg;have hnb44:=NB217_218.out;have hnc44:=NB218_217.out;have hcz45_0:w43.cell? ⟨gb217,0,none⟩=some (.int .i64 a0_0):=(blk_cell BK217.out 0).trans rfl;have hcz45_1:w43.cell? ⟨gb217,1,none⟩=some (.slice A0_1 l0_1.length c0_1):=(blk_cell BK217.out 1).trans rfl;have hcz45_2:w43.cell? ⟨gb217,2,none⟩=some (.int .i64 a0_2):=(blk_cell BK217.out 2).trans rfl;have hcz45_3:w43.cell? ⟨gb217,3,none⟩=some (.int .i64 a0_3):=(blk_cell BK217.out 3).trans rfl;have hcz45_4:w43.cell? ⟨gb217,4,none⟩=some (.slice A0_4 l0_4.length c0_4):=(blk_cell BK217.out 4).trans rfl;have hcz45_5:w43.cell? ⟨gb217,5,none⟩=some (.slice A0_5 l0_5.length c0_5):=(blk_cell BK217.out 5).trans rfl;have hfz45_0:=fZ4_ BK217.out 0;have hfz45_1:=fZ4_ BK217.out 1;have hfz45_2:=fZ4_ BK217.out 2;have hfz45_3:=fZ4_ BK217.out 3;have hfz45_4:=fZ4_ BK217.out 4;have hfz45_5:=fZ4_ BK217.out 5;have hcz46_0:w43.cell? ⟨gb218,0,none⟩=some (.int .i64 a1_0):=(blk_cell BK218.out 0).trans rfl;have hcz46_1:w43.cell? ⟨gb218,1,none⟩=some (.slice A1_1 l1_1.length c1_1):=(blk_cell BK218.out 1).trans rfl;have hcz46_2:w43.cell? ⟨gb218,2,none⟩=some (.int .i64 a1_2):=(blk_cell BK218.out 2).trans rfl;have hcz46_3:w43.cell? ⟨gb218,3,none⟩=some (.int .i64 a1_3):=(blk_cell BK218.out 3).trans rfl;have hcz46_4:w43.cell? ⟨gb218,4,none⟩=some (.slice A1_4 l1_4.length c1_4):=(blk_cell BK218.out 4).trans rfl;have hcz46_5:w43.cell? ⟨gb218,5,none⟩=some (.slice A1_5 l1_5.length c1_5):=(blk_cell BK218.out 5).trans rfl;have hfz46_0:=fZ4_ BK218.out 0;have hfz46_1:=fZ4_ BK218.out 1;have hfz46_2:=fZ4_ BK218.out 2;have hfz46_3:=fZ4_ BK218.out 3;have hfz46_4:=fZ4_ BK218.out 4;have hfz46_5:=fZ4_ BK218.out 5))
  go_ret
  exact ⟨by first|rfl|(simp [errW_none,errW_some] <;> rfl)|(simp [*,errW_none,errW_some] <;> rfl),by repeat (first|(with_reducible first|exact HB.out|apply bA4_|apply bN4_|apply bD4_|refine bS4_ ?_ GE217.out|refine bS4_ ?_ GE218.out)|exact HB.out)⟩

def laws_eqZoneS.l0 : Nat → List (S50) → List (S50) → Int → Option (Bool)
 | 0, _, _, _ => none
 | k+1,x0,x1,x5=>if x5 < (x0.length:Int) then (if 0≤x5 then (if x5 < (x1.length:Int) then ((laws_eqZone.f k ((rd_T50 x0 x5).f0) ((rd_T50 x0 x5).f1) ((rd_T50 x0 x5).f2) ((rd_T50 x0 x5).f3) ((rd_T50 x0 x5).f4) ((rd_T50 x0 x5).f5) ((rd_T50 x1 x5).f0) ((rd_T50 x1 x5).f1) ((rd_T50 x1 x5).f2) ((rd_T50 x1 x5).f3) ((rd_T50 x1 x5).f4) ((rd_T50 x1 x5).f5)).bind fun t224=>(if t224=true then (laws_eqZoneS.l0 k x0 x1 (wrap64 (x5+1))) else (some false))) else (none)) else (none)) else (some true)
def laws_eqZoneS.f (k:Nat) (l0:List (S50)) (l1:List (S50)):Option (Bool):=if (l0.length:Int)=(l1.length:Int) then (laws_eqZoneS.l0 k l0 l1 0) else (some false)
def laws_eqZoneS.T6:Bool × List (List Nat × List Nat):=(true,[([],[]),([],[]),([0,1],[0,1]),([2],[2]),([],[]),([],[]),([4,5],[4,5]),([6],[6]),([3,7],[3,7]),([8],[8])])
def laws_eqZoneS.B6 : List Nat := [0, 0, 3, 7, 0, 0, 48, 112, 255, 511]
theorem laws_eqZoneS.tab6 : rtab .any (opsOf Try.f28 6) = laws_eqZoneS.T6 := by kernel_rfl
theorem laws_eqZoneS.bits6 : waitsOk laws_eqZoneS.T6.2 laws_eqZoneS.B6 = true := by kernel_rfl
set_option maxHeartbeats 8000000 in
set_option maxRecDepth 100000 in
theorem laws_eqZoneS.calls (k:Nat) (A0:Option Addr) (c0:Nat) (l0:List (S50)) (A1:Option Addr) (c1:Nat) (l1:List (S50)) (r:Bool) (w:World) (hr0:Kd.C k50 w A0 l0.length l0) (hc0:l0.length≤c0) (hr1:Kd.C k50 w A1 l1.length l1) (hc1:l1.length≤c1) (h:laws_eqZoneS.f k l0 l1=some r) :
  Calls Try.prog 28 #[.slice A0 l0.length c0,.slice A1 l1.length c1] w fun e w'=>e=.returned (.bool r)∧Below w.heap.size w w':=by
 have hu50 := Try.underlying50
 have HR0 := Aside0.mk hr0
 have HC0 := Aside0.mk hc0
 clear hr0 hc0
 have HR1 := Aside0.mk hr1
 have HC1 := Aside0.mk hc1
 clear hr1 hc1
 have HB := Aside0.mk (Below.refl w.heap.size w)
 have H:(if (l0.length:Int)=(l1.length:Int) then (laws_eqZoneS.l0 k l0 l1 0) else (some false))=some r:=h
 clear h
 by_cases c3 : (l0.length : Int) = (l1.length : Int)
 ·rw [if_pos c3] at H
  have c3b0 : ((l0.length : Int) == (l1.length : Int)) = true := beq_iff_eq.mpr c3
  have c3b1 : ((l0.length : Int) != (l1.length : Int)) = false := bne_eq_false_iff_eq.mpr c3
  have c3b2:(l0.length == l1.length)=true:=by first|simpa using c3|(simp at c3 ⊢;omega)
  clear c3
  have H' := Aside0.mk H
  clear H
  go_enter Try.func28, Try.ntmps28
  go_wp2
  go_loopg [5] k (fun kq v5 w'=>∃ (x5_1:Int),v5=.int .i64 x5_1∧Aside0 (laws_eqZoneS.l0 kq l0 l1 x5_1=some r)∧Aside0 (kq≤k)∧Aside0 (Below w.heap.size w w'))
  case atStart=>exact ⟨(0),(by first|rfl|(simp;done)|(simp [*];done)),H',⟨Nat.le_refl _⟩,⟨by repeat (first|(with_reducible first|exact HB.out|apply bA4_|apply bN4_|apply bD4_)|exact HB.out)⟩⟩
  case round =>
   clear H'
   try clear c1
   try clear c2
   try clear p2
   try clear c3
   try clear c3b0
   try clear c3b1
   try clear c3b2
   obtain ⟨x5_1, rfl, HA, HK1, HB⟩ := hrel
   cases gk with
   | zero => exact absurd HA.out (by simp [laws_eqZoneS.l0])
   | succ k1 =>
    have H := HA.out
    clear HA
    simp only [laws_eqZoneS.l0] at H
    by_cases c4 : x5_1 < (l0.length : Int)
    ·rw [if_pos c4] at H
     have c4b0 : decide (x5_1 < (l0.length : Int)) = true := decide_eq_true c4
     clear c4
     by_cases c5 : 0 ≤ x5_1
     ·rw [if_pos c5] at H
      have c5b0 : decide (0 ≤ x5_1) = true := decide_eq_true c5
      clear c5
      by_cases c6 : x5_1 < (l1.length : Int)
      ·rw [if_pos c6] at H
       have c6b0 : decide (x5_1 < (l1.length : Int)) = true := decide_eq_true c6
       clear c6
       replace H := Option.bind_eq_some_iff.mp H
       obtain ⟨t224, A70, H⟩ := H
       replace H:(if t224=true then (laws_eqZoneS.l0 k1 l0 l1 (wrap64 (x5_1+1))) else (some false))=some r:=H
       have A7 := Aside0.mk A70
       clear A70
       by_cases c8 : t224 = true
       ·subst c8
        have H1:(laws_eqZoneS.l0 k1 l0 l1 (wrap64 (x5_1+1)))=some r:=by rw [if_pos rfl] at H;exact H
        clear H
        have H := H1
        clear H1
        have H' := Aside0.mk H
        clear H
        try go_wp2
        have n0_ := Aside0.mk (below_drew1 HB.out)
        clear HB
        have HB := n0_
        clear n0_
        have p222:0≤(x5_1:Int):=of_decide_eq_true (by first|(with_reducible assumption)|assumption)
        have q222:x5_1 < (l0.length:Int):=of_decide_eq_true (by first|(with_reducible assumption)|assumption)
        obtain ⟨ad222,A222_1,c222_1,A222_4,c222_4,A222_5,c222_5,e222,hx222_0,hx222_1,hx222_2,hx222_3,hx222_4,hx222_5,hl222_1,hi222_1,hl222_4,hi222_4,hl222_5,hi222_5⟩:=at_T50 HR0.out x5_1 p222 q222
        have hw222_5 := hx222_5
        have hw222_4 := hx222_4
        have hw222_3 := hx222_3
        have hw222_2 := hx222_2
        have hw222_1 := hx222_1
        have hw222_0 := hx222_0
        cases e222
        replace hx222_0:=(HB.out.cell (World.block_lt_of_cell? w _ hx222_0)).trans hx222_0
        replace hx222_1:=(HB.out.cell (World.block_lt_of_cell? w _ hx222_1)).trans hx222_1
        replace hx222_2:=(HB.out.cell (World.block_lt_of_cell? w _ hx222_2)).trans hx222_2
        replace hx222_3:=(HB.out.cell (World.block_lt_of_cell? w _ hx222_3)).trans hx222_3
        replace hx222_4:=(HB.out.cell (World.block_lt_of_cell? w _ hx222_4)).trans hx222_4
        replace hx222_5:=(HB.out.cell (World.block_lt_of_cell? w _ hx222_5)).trans hx222_5
        have HR222_1 := Aside0.mk hi222_1
        have HC222_1 := Aside0.mk hl222_1
        clear hi222_1 hl222_1
        have HR222_4 := Aside0.mk hi222_4
        have HC222_4 := Aside0.mk hl222_4
        clear hi222_4 hl222_4
        have HR222_5 := Aside0.mk hi222_5
        have HC222_5 := Aside0.mk hl222_5
        clear hi222_5 hl222_5
        replace p222 := eq_true p222
        replace q222 := eq_true q222
        have p223:0≤(x5_1:Int):=of_decide_eq_true (by first|(with_reducible assumption)|assumption)
        have q223:x5_1 < (l1.length:Int):=of_decide_eq_true (by first|(with_reducible assumption)|assumption)
        obtain ⟨ad223,A223_1,c223_1,A223_4,c223_4,A223_5,c223_5,e223,hx223_0,hx223_1,hx223_2,hx223_3,hx223_4,hx223_5,hl223_1,hi223_1,hl223_4,hi223_4,hl223_5,hi223_5⟩:=at_T50 HR1.out x5_1 p223 q223
        have hw223_5 := hx223_5
        have hw223_4 := hx223_4
        have hw223_3 := hx223_3
        have hw223_2 := hx223_2
        have hw223_1 := hx223_1
        have hw223_0 := hx223_0
        cases e223
        replace hx223_0:=(HB.out.cell (World.block_lt_of_cell? w _ hx223_0)).trans hx223_0
        replace hx223_1:=(HB.out.cell (World.block_lt_of_cell? w _ hx223_1)).trans hx223_1
        replace hx223_2:=(HB.out.cell (World.block_lt_of_cell? w _ hx223_2)).trans hx223_2
        replace hx223_3:=(HB.out.cell (World.block_lt_of_cell? w _ hx223_3)).trans hx223_3
        replace hx223_4:=(HB.out.cell (World.block_lt_of_cell? w _ hx223_4)).trans hx223_4
        replace hx223_5:=(HB.out.cell (World.block_lt_of_cell? w _ hx223_5)).trans hx223_5
        have HR223_1 := Aside0.mk hi223_1
        have HC223_1 := Aside0.mk hl223_1
        clear hi223_1 hl223_1
        have HR223_4 := Aside0.mk hi223_4
        have HC223_4 := Aside0.mk hl223_4
        clear hi223_4 hl223_4
        have HR223_5 := Aside0.mk hi223_5
        have HC223_5 := Aside0.mk hl223_5
        clear hi223_5 hl223_5
        replace p223 := eq_true p223
        replace q223 := eq_true q223
        refine start_ (n:=10) (S:=fun w'=>w'.cell? (ad222.add ((x5_1).toNat * 6))=some (.int .i64 ((rd_T50 l0 x5_1).f0))∧w'.cell? ⟨(ad222.add ((x5_1).toNat * 6)).block,(ad222.add ((x5_1).toNat * 6)).off+1,none⟩=some (.slice A222_1 ((rd_T50 l0 x5_1).f1).length c222_1)∧w'.cell? ⟨(ad222.add ((x5_1).toNat * 6)).block,(ad222.add ((x5_1).toNat * 6)).off+2,none⟩=some (.int .i64 ((rd_T50 l0 x5_1).f2))∧w'.cell? ⟨(ad222.add ((x5_1).toNat * 6)).block,(ad222.add ((x5_1).toNat * 6)).off+3,none⟩=some (.int .i64 ((rd_T50 l0 x5_1).f3))∧w'.cell? ⟨(ad222.add ((x5_1).toNat * 6)).block,(ad222.add ((x5_1).toNat * 6)).off+4,none⟩=some (.slice A222_4 ((rd_T50 l0 x5_1).f4).length c222_4)∧w'.cell? ⟨(ad222.add ((x5_1).toNat * 6)).block,(ad222.add ((x5_1).toNat * 6)).off+5,none⟩=some (.slice A222_5 ((rd_T50 l0 x5_1).f5).length c222_5)∧w'.cell? (ad223.add ((x5_1).toNat * 6))=some (.int .i64 ((rd_T50 l1 x5_1).f0))∧w'.cell? ⟨(ad223.add ((x5_1).toNat * 6)).block,(ad223.add ((x5_1).toNat * 6)).off+1,none⟩=some (.slice A223_1 ((rd_T50 l1 x5_1).f1).length c223_1)∧w'.cell? ⟨(ad223.add ((x5_1).toNat * 6)).block,(ad223.add ((x5_1).toNat * 6)).off+2,none⟩=some (.int .i64 ((rd_T50 l1 x5_1).f2))∧w'.cell? ⟨(ad223.add ((x5_1).toNat * 6)).block,(ad223.add ((x5_1).toNat * 6)).off+3,none⟩=some (.int .i64 ((rd_T50 l1 x5_1).f3))∧w'.cell? ⟨(ad223.add ((x5_1).toNat * 6)).block,(ad223.add ((x5_1).toNat * 6)).off+4,none⟩=some (.slice A223_4 ((rd_T50 l1 x5_1).f4).length c223_4)∧w'.cell? ⟨(ad223.add ((x5_1).toNat * 6)).block,(ad223.add ((x5_1).toNat * 6)).off+5,none⟩=some (.slice A223_5 ((rd_T50 l1 x5_1).f5).length c223_5)) (ds:=[]) #[false,false,false,false,false,false,false,false,false,false] (by kernel_rfl) rfl rfl ⟨((HB.out.cell (World.block_lt_of_cell? w _ hw222_0)).trans hw222_0),((HB.out.cell (World.block_lt_of_cell? w _ hw222_1)).trans hw222_1),((HB.out.cell (World.block_lt_of_cell? w _ hw222_2)).trans hw222_2),((HB.out.cell (World.block_lt_of_cell? w _ hw222_3)).trans hw222_3),((HB.out.cell (World.block_lt_of_cell? w _ hw222_4)).trans hw222_4),((HB.out.cell (World.block_lt_of_cell? w _ hw222_5)).trans hw222_5),((HB.out.cell (World.block_lt_of_cell? w _ hw223_0)).trans hw223_0),((HB.out.cell (World.block_lt_of_cell? w _ hw223_1)).trans hw223_1),((HB.out.cell (World.block_lt_of_cell? w _ hw223_2)).trans hw223_2),((HB.out.cell (World.block_lt_of_cell? w _ hw223_3)).trans hw223_3),((HB.out.cell (World.block_lt_of_cell? w _ hw223_4)).trans hw223_4),((HB.out.cell (World.block_lt_of_cell? w _ hw223_5)).trans hw223_5)⟩ (fun hHeld=>?_);refine with_tabW laws_eqZoneS.tab6 laws_eqZoneS.bits6 (fun HT_ HW_=>?_)
        generalize wr.drew=w9 at HB HR222_1 HR222_4 HR222_5 HR223_1 HR223_4 HR223_5 hx222_0 hx222_1 hx222_2 hx222_3 hx222_4 hx222_5 hx223_0 hx223_1 hx223_2 hx223_3 hx223_4 hx223_5 hHeld ⊢
        refine pure_ (i:=0) (N:=some 17) (v:=?_) (a':=?_) #[true,false,false,false,false,false,false,false,false,false] rfl rfl (any_of HT_.out (by kernel_rfl)) (fun _ _ _ h=>h) (Or.inl ⟨by rfl,?_⟩) ?_ ?_
        rotate_left
        ·intro w'
         go_simp
         with_reducible rfl
        rotate_left
        ·simp only [Act.put,List.setIfInBounds_toArray,List.set_cons_zero,List.set_cons_succ,i64_w,i32_w]
         rfl
        refine pure_ (i:=1) (N:=some 18) (v:=?_) (a':=?_) #[true,true,false,false,false,false,false,false,false,false] rfl rfl (any_of HT_.out (by kernel_rfl)) (fun _ _ _ h=>h) (Or.inl ⟨by rfl,?_⟩) ?_ ?_
        rotate_left
        ·intro w'
         go_simp
         with_reducible rfl
        rotate_left
        ·simp only [Act.put,List.setIfInBounds_toArray,List.set_cons_zero,List.set_cons_succ,i64_w,i32_w]
         rfl
        refine pure_ (i:=2) (N:=some 19) (v:=?_) (a':=?_) #[true,true,true,false,false,false,false,false,false,false] rfl rfl (any_of HT_.out (by kernel_rfl)) (fun _ _ _ h=>h) (Or.inl ⟨by rfl,?_⟩) ?_ ?_
        rotate_left
        ·intro w'
         go_simp
         with_reducible rfl
        rotate_left
        ·simp only [Act.put,List.setIfInBounds_toArray,List.set_cons_zero,List.set_cons_succ,i64_w,i32_w]
         rfl
        refine pure_ (i:=4) (N:=some 21) (v:=?_) (a':=?_) #[true,true,true,false,true,false,false,false,false,false] rfl rfl (any_of HT_.out (by kernel_rfl)) (fun _ _ _ h=>h) (Or.inl ⟨by rfl,?_⟩) ?_ ?_
        rotate_left
        ·intro w'
         go_simp
         with_reducible rfl
        rotate_left
        ·simp only [Act.put,List.setIfInBounds_toArray,List.set_cons_zero,List.set_cons_succ,i64_w,i32_w]
         rfl
        refine pure_ (i:=5) (N:=some 22) (v:=?_) (a':=?_) #[true,true,true,false,true,true,false,false,false,false] rfl rfl (any_of HT_.out (by kernel_rfl)) (fun _ _ _ h=>h) (Or.inl ⟨by rfl,?_⟩) ?_ ?_
        rotate_left
        ·intro w'
         go_simp
         with_reducible rfl
        rotate_left
        ·simp only [Act.put,List.setIfInBounds_toArray,List.set_cons_zero,List.set_cons_succ,i64_w,i32_w]
         rfl
        refine pure_ (i:=6) (N:=some 23) (v:=?_) (a':=?_) #[true,true,true,false,true,true,true,false,false,false] rfl rfl (any_of HT_.out (by kernel_rfl)) (fun _ _ _ h=>h) (Or.inl ⟨by rfl,?_⟩) ?_ ?_
        rotate_left
        ·intro w'
         go_simp
         with_reducible rfl
        rotate_left
        ·simp only [Act.put,List.setIfInBounds_toArray,List.set_cons_zero,List.set_cons_succ,i64_w,i32_w]
         rfl
        refine take_ (i:=3) (N:=some 20) (v:=?_) (a':=?_) #[true,true,true,true,true,true,true,false,false,false] rfl rfl (take_ofW HT_.out HW_.out (by kernel_rfl)) (fun _ _ _ h=>h) (Or.inl ⟨by rfl,?_⟩) hHeld ?_ ?_
        rotate_left
        ·rintro w' ⟨s0, s1, s2, s3, s4, s5, s6, s7, s8, s9, s10, s11⟩
         go_simp
         with_reducible rfl
        rotate_left
        ·simp only [Act.put,List.setIfInBounds_toArray,List.set_cons_zero,List.set_cons_succ,i64_w,i32_w]
         rfl
        refine take_ (i:=7) (N:=some 24) (v:=?_) (a':=?_) #[true,true,true,true,true,true,true,true,false,false] rfl rfl (take_ofW HT_.out HW_.out (by kernel_rfl)) (fun _ _ _ h=>h) (Or.inl ⟨by rfl,?_⟩) hHeld ?_ ?_
        rotate_left
        ·rintro w' ⟨s0, s1, s2, s3, s4, s5, s6, s7, s8, s9, s10, s11⟩
         go_simp
         with_reducible rfl
        rotate_left
        ·simp only [Act.put,List.setIfInBounds_toArray,List.set_cons_zero,List.set_cons_succ,i64_w,i32_w]
         rfl
        refine one_ (i:=8) (N:=some 25) #[true,true,true,true,true,true,true,true,true,false] rfl rfl (one_of HT_.out (by kernel_rfl)) (by decide) (fun K hK=>?_)
        refine goes_ Try.func52 (by kernel_rfl) rfl #[.agg #[.int .i64 ((rd_T50 l0 x5_1).f0),.slice A222_1 ((rd_T50 l0 x5_1).f1).length c222_1,.int .i64 ((rd_T50 l0 x5_1).f2),.int .i64 ((rd_T50 l0 x5_1).f3),.slice A222_4 ((rd_T50 l0 x5_1).f4).length c222_4,.slice A222_5 ((rd_T50 l0 x5_1).f5).length c222_5],.agg #[.int .i64 ((rd_T50 l1 x5_1).f0),.slice A223_1 ((rd_T50 l1 x5_1).f1).length c223_1,.int .i64 ((rd_T50 l1 x5_1).f2),.int .i64 ((rd_T50 l1 x5_1).f3),.slice A223_4 ((rd_T50 l1 x5_1).f4).length c223_4,.slice A223_5 ((rd_T50 l1 x5_1).f5).length c223_5]] (by rfl) rfl rfl (by (try simp only [List.map_toArray,List.map_cons,List.map_nil]);first|done|rfl|(simp only [List.length_drop,List.length_take];rfl)) ?_
        with_reducible refine (laws_eqZone.calls k1 ((rd_T50 l0 x5_1).f0) _ _ ((rd_T50 l0 x5_1).f1) ((rd_T50 l0 x5_1).f2) ((rd_T50 l0 x5_1).f3) _ _ ((rd_T50 l0 x5_1).f4) _ _ ((rd_T50 l0 x5_1).f5) ((rd_T50 l1 x5_1).f0) _ _ ((rd_T50 l1 x5_1).f1) ((rd_T50 l1 x5_1).f2) ((rd_T50 l1 x5_1).f3) _ _ ((rd_T50 l1 x5_1).f4) _ _ ((rd_T50 l1 x5_1).f5) true _ ?side1 ?side2 ?side3 ?side4 ?side5 ?side6 ?side7 ?side8 ?side9 ?side10 ?side11 ?side12 A7.out).mono ?_
        (case side1=>repeat (first|exact (Kd.C_below HR222_1.out HB.out)|(with_reducible refine Kd.C_alloc ?_ _)|(with_reducible refine Kd.C_drewN ?_ _)|(with_reducible refine Kd.C_drew ?_)))
        (case side2 => exact HC222_1.out)
        (case side3=>repeat (first|exact (Kd.C_below HR222_4.out HB.out)|(with_reducible refine Kd.C_alloc ?_ _)|(with_reducible refine Kd.C_drewN ?_ _)|(with_reducible refine Kd.C_drew ?_)))
        (case side4 => exact HC222_4.out)
        (case side5=>repeat (first|exact (Kd.C_below HR222_5.out HB.out)|(with_reducible refine Kd.C_alloc ?_ _)|(with_reducible refine Kd.C_drewN ?_ _)|(with_reducible refine Kd.C_drew ?_)))
        (case side6 => exact HC222_5.out)
        (case side7=>repeat (first|exact (Kd.C_below HR223_1.out HB.out)|(with_reducible refine Kd.C_alloc ?_ _)|(with_reducible refine Kd.C_drewN ?_ _)|(with_reducible refine Kd.C_drew ?_)))
        (case side8 => exact HC223_1.out)
        (case side9=>repeat (first|exact (Kd.C_below HR223_4.out HB.out)|(with_reducible refine Kd.C_alloc ?_ _)|(with_reducible refine Kd.C_drewN ?_ _)|(with_reducible refine Kd.C_drew ?_)))
        (case side10 => exact HC223_4.out)
        (case side11=>repeat (first|exact (Kd.C_below HR223_5.out HB.out)|(with_reducible refine Kd.C_alloc ?_ _)|(with_reducible refine Kd.C_drewN ?_ _)|(with_reducible refine Kd.C_drew ?_)))
        (case side12 => exact HC223_5.out)
        rintro e w10 ⟨rfl, hb⟩
        refine ⟨_, rfl, ?_⟩
        have n0_:=mk4_ (bT4_ (by repeat (first|(with_reducible first|exact HB.out|apply bA4_|apply bN4_|apply bD4_)|exact HB.out)) hb)
        clear HB
        have HB := n0_
        clear n0_
        (try clear hb)
        (try clear hb2)
        (try clear hk)
        (try clear hi)
        refine hK.out _ _ ⟨((HB.out.cell (World.block_lt_of_cell? w _ hw222_0)).trans hw222_0),((HB.out.cell (World.block_lt_of_cell? w _ hw222_1)).trans hw222_1),((HB.out.cell (World.block_lt_of_cell? w _ hw222_2)).trans hw222_2),((HB.out.cell (World.block_lt_of_cell? w _ hw222_3)).trans hw222_3),((HB.out.cell (World.block_lt_of_cell? w _ hw222_4)).trans hw222_4),((HB.out.cell (World.block_lt_of_cell? w _ hw222_5)).trans hw222_5),((HB.out.cell (World.block_lt_of_cell? w _ hw223_0)).trans hw223_0),((HB.out.cell (World.block_lt_of_cell? w _ hw223_1)).trans hw223_1),((HB.out.cell (World.block_lt_of_cell? w _ hw223_2)).trans hw223_2),((HB.out.cell (World.block_lt_of_cell? w _ hw223_3)).trans hw223_3),((HB.out.cell (World.block_lt_of_cell? w _ hw223_4)).trans hw223_4),((HB.out.cell (World.block_lt_of_cell? w _ hw223_5)).trans hw223_5)⟩ (fun hHeld=>?_)
        clear hK K
        refine norm_ (a' := ?_) ?_ ?_
        rotate_left
        ·show Act.put _ (some 25) _ = _
         simp only [Act.put,List.setIfInBounds_toArray,List.set_cons_zero,List.set_cons_succ,i64_w,i32_w]
         rfl
        refine pure_ (i:=9) (N:=some 26) (v:=?_) (a':=?_) #[true,true,true,true,true,true,true,true,true,true] rfl rfl (any_of HT_.out (by kernel_rfl)) (fun _ _ _ h=>h) (Or.inl ⟨by rfl,?_⟩) ?_ ?_
        rotate_left
        ·intro w'
         go_simp
         with_reducible rfl
        rotate_left
        ·simp only [Act.put,List.setIfInBounds_toArray,List.set_cons_zero,List.set_cons_succ,i64_w,i32_w]
         rfl
        refine done_ (done_of HT_.out (by kernel_rfl)) ?_
        try go_wp2
        go_roundg k1
        case measure => have := HK1.out; omega
        case rel=>exact ⟨(wrap64 (x5_1+1)),(by first|rfl|(simp;done)|(simp [*];done)),H',⟨by have:=HK1.out;omega⟩,⟨by repeat (first|(with_reducible first|exact HB.out|apply bA4_|apply bN4_|apply bD4_)|exact HB.out)⟩⟩
       ·replace c8 := Bool.eq_false_iff.mpr c8
        subst c8
        have H1:(some false)=some r:=by rw [if_neg (show ¬ (false=true) by decide)] at H;exact H
        clear H
        have H := H1
        clear H1
        obtain rfl := Option.some.inj H
        try go_wp2
        have n0_ := Aside0.mk (below_drew1 HB.out)
        clear HB
        have HB := n0_
        clear n0_
        have p222:0≤(x5_1:Int):=of_decide_eq_true (by first|(with_reducible assumption)|assumption)
        have q222:x5_1 < (l0.length:Int):=of_decide_eq_true (by first|(with_reducible assumption)|assumption)
        obtain ⟨ad222,A222_1,c222_1,A222_4,c222_4,A222_5,c222_5,e222,hx222_0,hx222_1,hx222_2,hx222_3,hx222_4,hx222_5,hl222_1,hi222_1,hl222_4,hi222_4,hl222_5,hi222_5⟩:=at_T50 HR0.out x5_1 p222 q222
        have hw222_5 := hx222_5
        have hw222_4 := hx222_4
        have hw222_3 := hx222_3
        have hw222_2 := hx222_2
        have hw222_1 := hx222_1
        have hw222_0 := hx222_0
        cases e222
        replace hx222_0:=(HB.out.cell (World.block_lt_of_cell? w _ hx222_0)).trans hx222_0
        replace hx222_1:=(HB.out.cell (World.block_lt_of_cell? w _ hx222_1)).trans hx222_1
        replace hx222_2:=(HB.out.cell (World.block_lt_of_cell? w _ hx222_2)).trans hx222_2
        replace hx222_3:=(HB.out.cell (World.block_lt_of_cell? w _ hx222_3)).trans hx222_3
        replace hx222_4:=(HB.out.cell (World.block_lt_of_cell? w _ hx222_4)).trans hx222_4
        replace hx222_5:=(HB.out.cell (World.block_lt_of_cell? w _ hx222_5)).trans hx222_5
        have HR222_1 := Aside0.mk hi222_1
        have HC222_1 := Aside0.mk hl222_1
        clear hi222_1 hl222_1
        have HR222_4 := Aside0.mk hi222_4
        have HC222_4 := Aside0.mk hl222_4
        clear hi222_4 hl222_4
        have HR222_5 := Aside0.mk hi222_5
        have HC222_5 := Aside0.mk hl222_5
        clear hi222_5 hl222_5
        replace p222 := eq_true p222
        replace q222 := eq_true q222
        have p223:0≤(x5_1:Int):=of_decide_eq_true (by first|(with_reducible assumption)|assumption)
        have q223:x5_1 < (l1.length:Int):=of_decide_eq_true (by first|(with_reducible assumption)|assumption)
        obtain ⟨ad223,A223_1,c223_1,A223_4,c223_4,A223_5,c223_5,e223,hx223_0,hx223_1,hx223_2,hx223_3,hx223_4,hx223_5,hl223_1,hi223_1,hl223_4,hi223_4,hl223_5,hi223_5⟩:=at_T50 HR1.out x5_1 p223 q223
        have hw223_5 := hx223_5
        have hw223_4 := hx223_4
        have hw223_3 := hx223_3
        have hw223_2 := hx223_2
        have hw223_1 := hx223_1
        have hw223_0 := hx223_0
        cases e223
        replace hx223_0:=(HB.out.cell (World.block_lt_of_cell? w _ hx223_0)).trans hx223_0
        replace hx223_1:=(HB.out.cell (World.block_lt_of_cell? w _ hx223_1)).trans hx223_1
        replace hx223_2:=(HB.out.cell (World.block_lt_of_cell? w _ hx223_2)).trans hx223_2
        replace hx223_3:=(HB.out.cell (World.block_lt_of_cell? w _ hx223_3)).trans hx223_3
        replace hx223_4:=(HB.out.cell (World.block_lt_of_cell? w _ hx223_4)).trans hx223_4
        replace hx223_5:=(HB.out.cell (World.block_lt_of_cell? w _ hx223_5)).trans hx223_5
        have HR223_1 := Aside0.mk hi223_1
        have HC223_1 := Aside0.mk hl223_1
        clear hi223_1 hl223_1
        have HR223_4 := Aside0.mk hi223_4
        have HC223_4 := Aside0.mk hl223_4
        clear hi223_4 hl223_4
        have HR223_5 := Aside0.mk hi223_5
        have HC223_5 := Aside0.mk hl223_5
        clear hi223_5 hl223_5
        replace p223 := eq_true p223
        replace q223 := eq_true q223
        refine start_ (n:=10) (S:=fun w'=>w'.cell? (ad222.add ((x5_1).toNat * 6))=some (.int .i64 ((rd_T50 l0 x5_1).f0))∧w'.cell? ⟨(ad222.add ((x5_1).toNat * 6)).block,(ad222.add ((x5_1).toNat * 6)).off+1,none⟩=some (.slice A222_1 ((rd_T50 l0 x5_1).f1).length c222_1)∧w'.cell? ⟨(ad222.add ((x5_1).toNat * 6)).block,(ad222.add ((x5_1).toNat * 6)).off+2,none⟩=some (.int .i64 ((rd_T50 l0 x5_1).f2))∧w'.cell? ⟨(ad222.add ((x5_1).toNat * 6)).block,(ad222.add ((x5_1).toNat * 6)).off+3,none⟩=some (.int .i64 ((rd_T50 l0 x5_1).f3))∧w'.cell? ⟨(ad222.add ((x5_1).toNat * 6)).block,(ad222.add ((x5_1).toNat * 6)).off+4,none⟩=some (.slice A222_4 ((rd_T50 l0 x5_1).f4).length c222_4)∧w'.cell? ⟨(ad222.add ((x5_1).toNat * 6)).block,(ad222.add ((x5_1).toNat * 6)).off+5,none⟩=some (.slice A222_5 ((rd_T50 l0 x5_1).f5).length c222_5)∧w'.cell? (ad223.add ((x5_1).toNat * 6))=some (.int .i64 ((rd_T50 l1 x5_1).f0))∧w'.cell? ⟨(ad223.add ((x5_1).toNat * 6)).block,(ad223.add ((x5_1).toNat * 6)).off+1,none⟩=some (.slice A223_1 ((rd_T50 l1 x5_1).f1).length c223_1)∧w'.cell? ⟨(ad223.add ((x5_1).toNat * 6)).block,(ad223.add ((x5_1).toNat * 6)).off+2,none⟩=some (.int .i64 ((rd_T50 l1 x5_1).f2))∧w'.cell? ⟨(ad223.add ((x5_1).toNat * 6)).block,(ad223.add ((x5_1).toNat * 6)).off+3,none⟩=some (.int .i64 ((rd_T50 l1 x5_1).f3))∧w'.cell? ⟨(ad223.add ((x5_1).toNat * 6)).block,(ad223.add ((x5_1).toNat * 6)).off+4,none⟩=some (.slice A223_4 ((rd_T50 l1 x5_1).f4).length c223_4)∧w'.cell? ⟨(ad223.add ((x5_1).toNat * 6)).block,(ad223.add ((x5_1).toNat * 6)).off+5,none⟩=some (.slice A223_5 ((rd_T50 l1 x5_1).f5).length c223_5)) (ds:=[]) #[false,false,false,false,false,false,false,false,false,false] (by kernel_rfl) rfl rfl ⟨((HB.out.cell (World.block_lt_of_cell? w _ hw222_0)).trans hw222_0),((HB.out.cell (World.block_lt_of_cell? w _ hw222_1)).trans hw222_1),((HB.out.cell (World.block_lt_of_cell? w _ hw222_2)).trans hw222_2),((HB.out.cell (World.block_lt_of_cell? w _ hw222_3)).trans hw222_3),((HB.out.cell (World.block_lt_of_cell? w _ hw222_4)).trans hw222_4),((HB.out.cell (World.block_lt_of_cell? w _ hw222_5)).trans hw222_5),((HB.out.cell (World.block_lt_of_cell? w _ hw223_0)).trans hw223_0),((HB.out.cell (World.block_lt_of_cell? w _ hw223_1)).trans hw223_1),((HB.out.cell (World.block_lt_of_cell? w _ hw223_2)).trans hw223_2),((HB.out.cell (World.block_lt_of_cell? w _ hw223_3)).trans hw223_3),((HB.out.cell (World.block_lt_of_cell? w _ hw223_4)).trans hw223_4),((HB.out.cell (World.block_lt_of_cell? w _ hw223_5)).trans hw223_5)⟩ (fun hHeld=>?_);refine with_tabW laws_eqZoneS.tab6 laws_eqZoneS.bits6 (fun HT_ HW_=>?_)
        generalize wr.drew=w11 at HB HR222_1 HR222_4 HR222_5 HR223_1 HR223_4 HR223_5 hx222_0 hx222_1 hx222_2 hx222_3 hx222_4 hx222_5 hx223_0 hx223_1 hx223_2 hx223_3 hx223_4 hx223_5 hHeld ⊢
        refine pure_ (i:=0) (N:=some 17) (v:=?_) (a':=?_) #[true,false,false,false,false,false,false,false,false,false] rfl rfl (any_of HT_.out (by kernel_rfl)) (fun _ _ _ h=>h) (Or.inl ⟨by rfl,?_⟩) ?_ ?_
        rotate_left
        ·intro w'
         go_simp
         with_reducible rfl
        rotate_left
        ·simp only [Act.put,List.setIfInBounds_toArray,List.set_cons_zero,List.set_cons_succ,i64_w,i32_w]
         rfl
        refine pure_ (i:=1) (N:=some 18) (v:=?_) (a':=?_) #[true,true,false,false,false,false,false,false,false,false] rfl rfl (any_of HT_.out (by kernel_rfl)) (fun _ _ _ h=>h) (Or.inl ⟨by rfl,?_⟩) ?_ ?_
        rotate_left
        ·intro w'
         go_simp
         with_reducible rfl
        rotate_left
        ·simp only [Act.put,List.setIfInBounds_toArray,List.set_cons_zero,List.set_cons_succ,i64_w,i32_w]
         rfl
        refine pure_ (i:=2) (N:=some 19) (v:=?_) (a':=?_) #[true,true,true,false,false,false,false,false,false,false] rfl rfl (any_of HT_.out (by kernel_rfl)) (fun _ _ _ h=>h) (Or.inl ⟨by rfl,?_⟩) ?_ ?_
        rotate_left
        ·intro w'
         go_simp
         with_reducible rfl
        rotate_left
        ·simp only [Act.put,List.setIfInBounds_toArray,List.set_cons_zero,List.set_cons_succ,i64_w,i32_w]
         rfl
        refine pure_ (i:=4) (N:=some 21) (v:=?_) (a':=?_) #[true,true,true,false,true,false,false,false,false,false] rfl rfl (any_of HT_.out (by kernel_rfl)) (fun _ _ _ h=>h) (Or.inl ⟨by rfl,?_⟩) ?_ ?_
        rotate_left
        ·intro w'
         go_simp
         with_reducible rfl
        rotate_left
        ·simp only [Act.put,List.setIfInBounds_toArray,List.set_cons_zero,List.set_cons_succ,i64_w,i32_w]
         rfl
        refine pure_ (i:=5) (N:=some 22) (v:=?_) (a':=?_) #[true,true,true,false,true,true,false,false,false,false] rfl rfl (any_of HT_.out (by kernel_rfl)) (fun _ _ _ h=>h) (Or.inl ⟨by rfl,?_⟩) ?_ ?_
        rotate_left
        ·intro w'
         go_simp
         with_reducible rfl
        rotate_left
        ·simp only [Act.put,List.setIfInBounds_toArray,List.set_cons_zero,List.set_cons_succ,i64_w,i32_w]
         rfl
        refine pure_ (i:=6) (N:=some 23) (v:=?_) (a':=?_) #[true,true,true,false,true,true,true,false,false,false] rfl rfl (any_of HT_.out (by kernel_rfl)) (fun _ _ _ h=>h) (Or.inl ⟨by rfl,?_⟩) ?_ ?_
        rotate_left
        ·intro w'
         go_simp
         with_reducible rfl
        rotate_left
        ·simp only [Act.put,List.setIfInBounds_toArray,List.set_cons_zero,List.set_cons_succ,i64_w,i32_w]
         rfl
        refine take_ (i:=3) (N:=some 20) (v:=?_) (a':=?_) #[true,true,true,true,true,true,true,false,false,false] rfl rfl (take_ofW HT_.out HW_.out (by kernel_rfl)) (fun _ _ _ h=>h) (Or.inl ⟨by rfl,?_⟩) hHeld ?_ ?_
        rotate_left
        ·rintro w' ⟨s0, s1, s2, s3, s4, s5, s6, s7, s8, s9, s10, s11⟩
         go_simp
         with_reducible rfl
        rotate_left
        ·simp only [Act.put,List.setIfInBounds_toArray,List.set_cons_zero,List.set_cons_succ,i64_w,i32_w]
         rfl
        refine take_ (i:=7) (N:=some 24) (v:=?_) (a':=?_) #[true,true,true,true,true,true,true,true,false,false] rfl rfl (take_ofW HT_.out HW_.out (by kernel_rfl)) (fun _ _ _ h=>h) (Or.inl ⟨by rfl,?_⟩) hHeld ?_ ?_
        rotate_left
        ·rintro w' ⟨s0, s1, s2, s3, s4, s5, s6, s7, s8, s9, s10, s11⟩
         go_simp
         with_reducible rfl
        rotate_left
        ·simp only [Act.put,List.setIfInBounds_toArray,List.set_cons_zero,List.set_cons_succ,i64_w,i32_w]
         rfl
        refine one_ (i:=8) (N:=some 25) #[true,true,true,true,true,true,true,true,true,false] rfl rfl (one_of HT_.out (by kernel_rfl)) (by decide) (fun K hK=>?_)
        refine goes_ Try.func52 (by kernel_rfl) rfl #[.agg #[.int .i64 ((rd_T50 l0 x5_1).f0),.slice A222_1 ((rd_T50 l0 x5_1).f1).length c222_1,.int .i64 ((rd_T50 l0 x5_1).f2),.int .i64 ((rd_T50 l0 x5_1).f3),.slice A222_4 ((rd_T50 l0 x5_1).f4).length c222_4,.slice A222_5 ((rd_T50 l0 x5_1).f5).length c222_5],.agg #[.int .i64 ((rd_T50 l1 x5_1).f0),.slice A223_1 ((rd_T50 l1 x5_1).f1).length c223_1,.int .i64 ((rd_T50 l1 x5_1).f2),.int .i64 ((rd_T50 l1 x5_1).f3),.slice A223_4 ((rd_T50 l1 x5_1).f4).length c223_4,.slice A223_5 ((rd_T50 l1 x5_1).f5).length c223_5]] (by rfl) rfl rfl (by (try simp only [List.map_toArray,List.map_cons,List.map_nil]);first|done|rfl|(simp only [List.length_drop,List.length_take];rfl)) ?_
        with_reducible refine (laws_eqZone.calls k1 ((rd_T50 l0 x5_1).f0) _ _ ((rd_T50 l0 x5_1).f1) ((rd_T50 l0 x5_1).f2) ((rd_T50 l0 x5_1).f3) _ _ ((rd_T50 l0 x5_1).f4) _ _ ((rd_T50 l0 x5_1).f5) ((rd_T50 l1 x5_1).f0) _ _ ((rd_T50 l1 x5_1).f1) ((rd_T50 l1 x5_1).f2) ((rd_T50 l1 x5_1).f3) _ _ ((rd_T50 l1 x5_1).f4) _ _ ((rd_T50 l1 x5_1).f5) false _ ?side1 ?side2 ?side3 ?side4 ?side5 ?side6 ?side7 ?side8 ?side9 ?side10 ?side11 ?side12 A7.out).mono ?_
        (case side1=>repeat (first|exact (Kd.C_below HR222_1.out HB.out)|(with_reducible refine Kd.C_alloc ?_ _)|(with_reducible refine Kd.C_drewN ?_ _)|(with_reducible refine Kd.C_drew ?_)))
        (case side2 => exact HC222_1.out)
        (case side3=>repeat (first|exact (Kd.C_below HR222_4.out HB.out)|(with_reducible refine Kd.C_alloc ?_ _)|(with_reducible refine Kd.C_drewN ?_ _)|(with_reducible refine Kd.C_drew ?_)))
        (case side4 => exact HC222_4.out)
        (case side5=>repeat (first|exact (Kd.C_below HR222_5.out HB.out)|(with_reducible refine Kd.C_alloc ?_ _)|(with_reducible refine Kd.C_drewN ?_ _)|(with_reducible refine Kd.C_drew ?_)))
        (case side6 => exact HC222_5.out)
        (case side7=>repeat (first|exact (Kd.C_below HR223_1.out HB.out)|(with_reducible refine Kd.C_alloc ?_ _)|(with_reducible refine Kd.C_drewN ?_ _)|(with_reducible refine Kd.C_drew ?_)))
        (case side8 => exact HC223_1.out)
        (case side9=>repeat (first|exact (Kd.C_below HR223_4.out HB.out)|(with_reducible refine Kd.C_alloc ?_ _)|(with_reducible refine Kd.C_drewN ?_ _)|(with_reducible refine Kd.C_drew ?_)))
        (case side10 => exact HC223_4.out)
        (case side11=>repeat (first|exact (Kd.C_below HR223_5.out HB.out)|(with_reducible refine Kd.C_alloc ?_ _)|(with_reducible refine Kd.C_drewN ?_ _)|(with_reducible refine Kd.C_drew ?_)))
        (case side12 => exact HC223_5.out)
        rintro e w12 ⟨rfl, hb⟩
        refine ⟨_, rfl, ?_⟩
        have n0_:=mk4_ (bT4_ (by repeat (first|(with_reducible first|exact HB.out|apply bA4_|apply bN4_|apply bD4_)|exact HB.out)) hb)
        clear HB
        have HB := n0_
        clear n0_
        (try clear hb)
        (try clear hb2)
        (try clear hk)
        (try clear hi)
        refine hK.out _ _ ⟨((HB.out.cell (World.block_lt_of_cell? w _ hw222_0)).trans hw222_0),((HB.out.cell (World.block_lt_of_cell? w _ hw222_1)).trans hw222_1),((HB.out.cell (World.block_lt_of_cell? w _ hw222_2)).trans hw222_2),((HB.out.cell (World.block_lt_of_cell? w _ hw222_3)).trans hw222_3),((HB.out.cell (World.block_lt_of_cell? w _ hw222_4)).trans hw222_4),((HB.out.cell (World.block_lt_of_cell? w _ hw222_5)).trans hw222_5),((HB.out.cell (World.block_lt_of_cell? w _ hw223_0)).trans hw223_0),((HB.out.cell (World.block_lt_of_cell? w _ hw223_1)).trans hw223_1),((HB.out.cell (World.block_lt_of_cell? w _ hw223_2)).trans hw223_2),((HB.out.cell (World.block_lt_of_cell? w _ hw223_3)).trans hw223_3),((HB.out.cell (World.block_lt_of_cell? w _ hw223_4)).trans hw223_4),((HB.out.cell (World.block_lt_of_cell? w _ hw223_5)).trans hw223_5)⟩ (fun hHeld=>?_)
        clear hK K
        refine norm_ (a' := ?_) ?_ ?_
        rotate_left
        ·show Act.put _ (some 25) _ = _
         simp only [Act.put,List.setIfInBounds_toArray,List.set_cons_zero,List.set_cons_succ,i64_w,i32_w]
         rfl
        refine pure_ (i:=9) (N:=some 26) (v:=?_) (a':=?_) #[true,true,true,true,true,true,true,true,true,true] rfl rfl (any_of HT_.out (by kernel_rfl)) (fun _ _ _ h=>h) (Or.inl ⟨by rfl,?_⟩) ?_ ?_
        rotate_left
        ·intro w'
         go_simp
         with_reducible rfl
        rotate_left
        ·simp only [Act.put,List.setIfInBounds_toArray,List.set_cons_zero,List.set_cons_succ,i64_w,i32_w]
         rfl
        refine done_ (done_of HT_.out (by kernel_rfl)) ?_
        try go_wp2
        go_ret
        exact ⟨by first|rfl|(simp [errW_none,errW_some] <;> rfl)|(simp [*,errW_none,errW_some] <;> rfl),by repeat (first|(with_reducible first|exact HB.out|apply bA4_|apply bN4_|apply bD4_)|exact HB.out)⟩
      ·rw [if_neg c6] at H
       exact absurd H (by simp)
     ·rw [if_neg c5] at H
      exact absurd H (by simp)
    ·rw [if_neg c4] at H
     have c4b0 : decide (x5_1 < (l0.length : Int)) = false := decide_eq_false c4
     clear c4
     obtain rfl := Option.some.inj H
     go_wp2
     go_ret
     exact ⟨by first|rfl|(simp [errW_none,errW_some] <;> rfl)|(simp [*,errW_none,errW_some] <;> rfl),by repeat (first|(with_reducible first|exact HB.out|apply bA4_|apply bN4_|apply bD4_)|exact HB.out)⟩
 ·rw [if_neg c3] at H
  have c3b0 : ((l0.length : Int) == (l1.length : Int)) = false := beq_eq_false_iff_ne.mpr c3
  have c3b1 : ((l0.length : Int) != (l1.length : Int)) = true := bne_iff_ne.mpr c3
  have c3b2:(l0.length == l1.length)=false:=by first|simpa using c3|(simp at c3 ⊢;omega)
  obtain rfl := Option.some.inj H
  go_enter Try.func28, Try.ntmps28
  go_wp2
  go_ret
  exact ⟨by first|rfl|(simp [errW_none,errW_some] <;> rfl)|(simp [*,errW_none,errW_some] <;> rfl),by repeat (first|(with_reducible first|exact HB.out|apply bA4_|apply bN4_|apply bD4_)|exact HB.out)⟩

def laws_eqDevice.f (k:Nat) (a0_0:Int) (a0_1:Int) (a0_2:Int) (l0_3:List (S68)) (a0_4:Int) (a0_5:Int) (a0_6:Bool) (a0_7:Int) (l0_8:List (S50)) (a1_0:Int) (a1_1:Int) (a1_2:Int) (l1_3:List (S68)) (a1_4:Int) (a1_5:Int) (a1_6:Bool) (a1_7:Int) (l1_8:List (S50)):Option (Bool):=(laws_eqFlash.f k a0_0 a0_1 a0_2 l0_3 a0_4 a0_5 a0_6 a0_7 a1_0 a1_1 a1_2 l1_3 a1_4 a1_5 a1_6 a1_7).bind fun t227=>(if t227=true then ((laws_eqZoneS.f k l0_8 l1_8).bind fun t228=>(if t228=true then (some true) else (some false))) else (some false))
set_option maxHeartbeats 8000000 in
set_option maxRecDepth 100000 in
theorem laws_eqDevice.calls (k:Nat) (a0_0:Int) (a0_1:Int) (a0_2:Int) (A0_3:Option Addr) (c0_3:Nat) (l0_3:List (S68)) (a0_4:Int) (a0_5:Int) (a0_6:Bool) (a0_7:Int) (A0_8:Option Addr) (c0_8:Nat) (l0_8:List (S50)) (a1_0:Int) (a1_1:Int) (a1_2:Int) (A1_3:Option Addr) (c1_3:Nat) (l1_3:List (S68)) (a1_4:Int) (a1_5:Int) (a1_6:Bool) (a1_7:Int) (A1_8:Option Addr) (c1_8:Nat) (l1_8:List (S50)) (r:Bool) (w:World) (hr0_3:Kd.C k68 w A0_3 l0_3.length l0_3) (hc0_3:l0_3.length≤c0_3) (hr0_8:Kd.C k50 w A0_8 l0_8.length l0_8) (hc0_8:l0_8.length≤c0_8) (hr1_3:Kd.C k68 w A1_3 l1_3.length l1_3) (hc1_3:l1_3.length≤c1_3) (hr1_8:Kd.C k50 w A1_8 l1_8.length l1_8) (hc1_8:l1_8.length≤c1_8) (h:laws_eqDevice.f k a0_0 a0_1 a0_2 l0_3 a0_4 a0_5 a0_6 a0_7 l0_8 a1_0 a1_1 a1_2 l1_3 a1_4 a1_5 a1_6 a1_7 l1_8=some r) :
  Calls Try.prog 9 #[.agg #[.int .i64 a0_0,.int .i64 a0_1,.int .i64 a0_2,.slice A0_3 l0_3.length c0_3,.int .i64 a0_4,.int .i64 a0_5,.bool a0_6,.int .i64 a0_7,.slice A0_8 l0_8.length c0_8],.agg #[.int .i64 a1_0,.int .i64 a1_1,.int .i64 a1_2,.slice A1_3 l1_3.length c1_3,.int .i64 a1_4,.int .i64 a1_5,.bool a1_6,.int .i64 a1_7,.slice A1_8 l1_8.length c1_8]] w fun e w'=>e=.returned (.bool r)∧Below w.heap.size w w':=by
 have hu38 := Try.underlying38
 have hu35 := Try.underlying35
 have HR0_3 := Aside0.mk hr0_3
 have HC0_3 := Aside0.mk hc0_3
 clear hr0_3 hc0_3
 have HR0_8 := Aside0.mk hr0_8
 have HC0_8 := Aside0.mk hc0_8
 clear hr0_8 hc0_8
 have HR1_3 := Aside0.mk hr1_3
 have HC1_3 := Aside0.mk hc1_3
 clear hr1_3 hc1_3
 have HR1_8 := Aside0.mk hr1_8
 have HC1_8 := Aside0.mk hc1_8
 clear hr1_8 hc1_8
 have HB := Aside0.mk (Below.refl w.heap.size w)
 have H:((laws_eqFlash.f k a0_0 a0_1 a0_2 l0_3 a0_4 a0_5 a0_6 a0_7 a1_0 a1_1 a1_2 l1_3 a1_4 a1_5 a1_6 a1_7).bind fun t227=>(if t227=true then ((laws_eqZoneS.f k l0_8 l1_8).bind fun t228=>(if t228=true then (some true) else (some false))) else (some false)))=some r:=h
 clear h
 replace H := Option.bind_eq_some_iff.mp H
 obtain ⟨t227, A30, H⟩ := H
 replace H:(if t227=true then ((laws_eqZoneS.f k l0_8 l1_8).bind fun t228=>(if t228=true then (some true) else (some false))) else (some false))=some r:=H
 have A3 := Aside0.mk A30
 clear A30
 by_cases c4 : t227 = true
 ·subst c4
  have H1:((laws_eqZoneS.f k l0_8 l1_8).bind fun t228=>(if t228=true then (some true) else (some false)))=some r:=by rw [if_pos rfl] at H;exact H
  clear H
  have H := H1
  clear H1
  replace H := Option.bind_eq_some_iff.mp H
  obtain ⟨t228, A50, H⟩ := H
  replace H : (if t228 = true then (some true) else (some false)) = some r := H
  have A5 := Aside0.mk A50
  clear A50
  by_cases c6 : t228 = true
  ·subst c6
   have H1 : (some true) = some r := by rw [if_pos rfl] at H; exact H
   clear H
   have H := H1
   clear H1
   obtain rfl := Option.some.inj H
   go_enter Try.func9, Try.ntmps9
   go_wp2_with (first|((with_reducible refine gate_dst (N:=2) rfl ?_);refine box_event ?hg (N:=2) ?hd (cs:=#[.int .i64 a0_0,.int .i64 a0_1,.int .i64 a0_2,.slice A0_3 l0_3.length c0_3,.int .i64 a0_4,.int .i64 a0_5,.bool a0_6,.int .i64 a0_7,.slice A0_8 l0_8.length c0_8]) (t:=38) ?hr ?_;(case hd=>rfl);(case hg=>rfl);(case hr=>first|(go_simp;done)|(go_simp;rfl));intro gb225 hg w7 hbox hb;have n0_:=mk4_ (bT4_ (by repeat (first|(with_reducible first|exact HB.out|apply bA4_|apply bN4_|apply bD4_)|exact HB.out)) hb);have n1_:=mk4_ (hbox);have n2_:=mk4_ ((by rw [hg];exact (bZ4_ (by repeat (first|(with_reducible first|exact HB.out|apply bA4_|apply bN4_|apply bD4_)|exact HB.out))):w.heap.size≤gb225));have n3_:=mk4_ ((by rw [hg];exact (bZ4_ (by repeat (first|(with_reducible first|exact HB.out|apply bA4_|apply bN4_|apply bD4_)|exact HB.out))):w.heap.size≤gb225));clear HB;have HB:=n0_;have BK225:=n1_;have GW225:=n2_;have GE225:=n3_;clear n0_ n1_ n2_ n3_;clear hb hbox hg)|((with_reducible refine gate_dst (N:=3) rfl ?_);refine box_event ?hg (N:=3) ?hd (cs:=#[.int .i64 a1_0,.int .i64 a1_1,.int .i64 a1_2,.slice A1_3 l1_3.length c1_3,.int .i64 a1_4,.int .i64 a1_5,.bool a1_6,.int .i64 a1_7,.slice A1_8 l1_8.length c1_8]) (t:=38) ?hr ?_;(case hd=>rfl);(case hg=>rfl);(case hr=>first|(go_simp;done)|(go_simp;rfl));intro gb226 hg w8 hbox hb;have n0_:=mk4_ (blk_below (g:=gb225) (o:=.cells #[.int .i64 a0_0,.int .i64 a0_1,.int .i64 a0_2,.slice A0_3 l0_3.length c0_3,.int .i64 a0_4,.int .i64 a0_5,.bool a0_6,.int .i64 a0_7,.slice A0_8 l0_8.length c0_8] 38 (0,0)) (by (with_reducible repeat (first|refine kN4_ ?_ _|refine kD4_ ?_|refine blk_alloc ?_ _));exact BK225.out) hb);have n1_:=mk4_ (bT4_ (by repeat (first|(with_reducible first|exact HB.out|apply bA4_|apply bN4_|apply bD4_|refine bS4_ ?_ GE225.out)|exact HB.out)) hb);have n2_:=mk4_ (hbox);have n3_:=mk4_ ((by rw [hg];exact (bZ4_ (by repeat (first|(with_reducible first|exact HB.out|apply bA4_|apply bN4_|apply bD4_|refine bS4_ ?_ GE225.out)|exact HB.out))):w.heap.size≤gb226));have n4_:=mk4_ ((by rw [hg];exact (bZ4_ (by repeat (first|(with_reducible first|exact HB.out|apply bA4_|apply bN4_|apply bD4_|refine bS4_ ?_ GE225.out)|exact HB.out))):w.heap.size≤gb226));have n5_:=mk4_ ((by rw [hg];exact Nat.ne_of_lt (blk_lt (g:=gb225) (o:=.cells #[.int .i64 a0_0,.int .i64 a0_1,.int .i64 a0_2,.slice A0_3 l0_3.length c0_3,.int .i64 a0_4,.int .i64 a0_5,.bool a0_6,.int .i64 a0_7,.slice A0_8 l0_8.length c0_8] 38 (0,0)) (by (with_reducible repeat (first|refine kN4_ ?_ _|refine kD4_ ?_|refine blk_alloc ?_ _));exact BK225.out)):gb225≠gb226));have n6_:=mk4_ ((by rw [hg];exact Nat.ne_of_gt (blk_lt (g:=gb225) (o:=.cells #[.int .i64 a0_0,.int .i64 a0_1,.int .i64 a0_2,.slice A0_3 l0_3.length c0_3,.int .i64 a0_4,.int .i64 a0_5,.bool a0_6,.int .i64 a0_7,.slice A0_8 l0_8.length c0_8] 38 (0,0)) (by (with_reducible repeat (first|refine kN4_ ?_ _|refine kD4_ ?_|refine blk_alloc ?_ _));exact BK225.out)):gb226≠gb225));clear BK225;clear HB;have BK225:=n0_;have HB:=n1_;have BK226:=n2_;have GW226:=n3_;have GE226:=n4_;have NB225_226:=n5_;have NB226_225:=n6_;clear n0_ n1_ n2_ n3_ n4_ n5_ n6_;clear hb hbox hg;have hnb9:=NB225_226.out;have hnc9:=NB226_225.out;have hcz10_0:w8.cell? ⟨gb225,0,none⟩=some (.int .i64 a0_0):=(blk_cell BK225.out 0).trans rfl;have hcz10_1:w8.cell? ⟨gb225,1,none⟩=some (.int .i64 a0_1):=(blk_cell BK225.out 1).trans rfl;have hcz10_2:w8.cell? ⟨gb225,2,none⟩=some (.int .i64 a0_2):=(blk_cell BK225.out 2).trans rfl;have hcz10_3:w8.cell? ⟨gb225,3,none⟩=some (.slice A0_3 l0_3.length c0_3):=(blk_cell BK225.out 3).trans rfl;have hcz10_4:w8.cell? ⟨gb225,4,none⟩=some (.int .i64 a0_4):=(blk_cell BK225.out 4).trans rfl;have hcz10_5:w8.cell? ⟨gb225,5,none⟩=some (.int .i64 a0_5):=(blk_cell BK225.out 5).trans rfl;have hcz10_6:w8.cell? ⟨gb225,6,none⟩=some (.bool a0_6):=(blk_cell BK225.out 6).trans rfl;have hcz10_7:w8.cell? ⟨gb225,7,none⟩=some (.int .i64 a0_7):=(blk_cell BK225.out 7).trans rfl;have hcz10_8:w8.cell? ⟨gb225,8,none⟩=some (.slice A0_8 l0_8.length c0_8):=(blk_cell BK225.out 8).trans rfl;have hfz10_0:=fZ4_ BK225.out 0;have hfz10_1:=fZ4_ BK225.out 1;have hfz10_2:=fZ4_ BK225.out 2;have hfz10_3:=fZ4_ BK225.out 3;have hfz10_4:=fZ4_ BK225.out 4;have hfz10_5:=fZ4_ BK225.out 5;have hfz10_6:=fZ4_ BK225.out 6;have hfz10_7:=fZ4_ BK225.out 7;have hfz10_8:=fZ4_ BK225.out 8;have hcz11_0:w8.cell? ⟨gb226,0,none⟩=some (.int .i64 a1_0):=(blk_cell BK226.out 0).trans rfl;have hcz11_1:w8.cell? ⟨gb226,1,none⟩=some (.int .i64 a1_1):=(blk_cell BK226.out 1).trans rfl;have hcz11_2:w8.cell? ⟨gb226,2,none⟩=some (.int .i64 a1_2):=(blk_cell BK226.out 2).trans rfl;have hcz11_3:w8.cell? ⟨gb226,3,none⟩=some (.slice A1_3 l1_3.length c1_3):=(blk_cell BK226.out 3).trans rfl;have hcz11_4:w8.cell? ⟨gb226,4,none⟩=some (.int .i64 a1_4):=(blk_cell BK226.out 4).trans rfl;have hcz11_5:w8.cell? ⟨gb226,5,none⟩=some (.int .i64 a1_5):=(blk_cell BK226.out 5).trans rfl;have hcz11_6:w8.cell? ⟨gb226,6,none⟩=some (.bool a1_6):=(blk_cell BK226.out 6).trans rfl;have hcz11_7:w8.cell? ⟨gb226,7,none⟩=some (.int .i64 a1_7):=(blk_cell BK226.out 7).trans rfl;have hcz11_8:w8.cell? ⟨gb226,8,none⟩=some (.slice A1_8 l1_8.length c1_8):=(blk_cell BK226.out 8).trans rfl;have hfz11_0:=fZ4_ BK226.out 0;have hfz11_1:=fZ4_ BK226.out 1;have hfz11_2:=fZ4_ BK226.out 2;have hfz11_3:=fZ4_ BK226.out 3;have hfz11_4:=fZ4_ BK226.out 4;have hfz11_5:=fZ4_ BK226.out 5;have hfz11_6:=fZ4_ BK226.out 6;have hfz11_7:=fZ4_ BK226.out 7;have hfz11_8:=fZ4_ BK226.out 8)|((with_reducible refine gate_callee (f:=27) rfl ?_);refine goesL_ (some 9) rfl rfl Try.func27 (by kernel_rfl) rfl #[.agg #[.int .i64 a0_0,.int .i64 a0_1,.int .i64 a0_2,.slice A0_3 l0_3.length c0_3,.int .i64 a0_4,.int .i64 a0_5,.bool a0_6,.int .i64 a0_7],.agg #[.int .i64 a1_0,.int .i64 a1_1,.int .i64 a1_2,.slice A1_3 l1_3.length c1_3,.int .i64 a1_4,.int .i64 a1_5,.bool a1_6,.int .i64 a1_7]] rfl (by (try simp only [List.map_toArray,List.map_cons,List.map_nil]);first|done|rfl|(simp only [List.length_drop,List.length_take];rfl)) ?_;(with_reducible refine (laws_eqFlash.calls k a0_0 a0_1 a0_2 _ _ l0_3 a0_4 a0_5 a0_6 a0_7 a1_0 a1_1 a1_2 _ _ l1_3 a1_4 a1_5 a1_6 a1_7 true _ ?side1 ?side2 ?side3 ?side4 A3.out).mono ?_);(case side1=>repeat (first|exact (Kd.C_below HR0_3.out HB.out)|(with_reducible refine Kd.C_alloc ?_ _)|(with_reducible refine Kd.C_drewN ?_ _)|(with_reducible refine Kd.C_drew ?_)));(case side2=>exact HC0_3.out);(case side3=>repeat (first|exact (Kd.C_below HR1_3.out HB.out)|(with_reducible refine Kd.C_alloc ?_ _)|(with_reducible refine Kd.C_drewN ?_ _)|(with_reducible refine Kd.C_drew ?_)));(case side4=>exact HC1_3.out);rintro e w12 ⟨rfl,hb⟩;refine ⟨_,rfl,?_⟩;have n0_:=mk4_ (blk_below (g:=gb225) (o:=.cells #[.int .i64 a0_0,.int .i64 a0_1,.int .i64 a0_2,.slice A0_3 l0_3.length c0_3,.int .i64 a0_4,.int .i64 a0_5,.bool a0_6,.int .i64 a0_7,.slice A0_8 l0_8.length c0_8] 38 (0,0)) (by (with_reducible repeat (first|refine kN4_ ?_ _|refine kD4_ ?_|refine blk_alloc ?_ _));exact BK225.out) hb);have n1_:=mk4_ (blk_below (g:=gb226) (o:=.cells #[.int .i64 a1_0,.int .i64 a1_1,.int .i64 a1_2,.slice A1_3 l1_3.length c1_3,.int .i64 a1_4,.int .i64 a1_5,.bool a1_6,.int .i64 a1_7,.slice A1_8 l1_8.length c1_8] 38 (0,0)) (by (with_reducible repeat (first|refine kN4_ ?_ _|refine kD4_ ?_|refine blk_alloc ?_ _));exact BK226.out) hb);have n2_:=mk4_ (bT4_ (by repeat (first|(with_reducible first|exact HB.out|apply bA4_|apply bN4_|apply bD4_|refine bS4_ ?_ GE225.out|refine bS4_ ?_ GE226.out)|exact HB.out)) hb);clear BK225;clear BK226;clear HB;have BK225:=n0_;have BK226:=n1_;have HB:=n2_;clear n0_ n1_ n2_;(try clear hb);(try clear hb2);(try clear hk);(try clear hi);have hcz13_0:w12.cell? ⟨gb225,0,none⟩=some (.int .i64 a0_0):=(blk_cell BK225.out 0).trans rfl;have hcz13_1:w12.cell? ⟨gb225,1,none⟩=some (.int .i64 a0_1):=(blk_cell BK225.out 1).trans rfl;have hcz13_2:w12.cell? ⟨gb225,2,none⟩=some (.int .i64 a0_2):=(blk_cell BK225.out 2).trans rfl;have hcz13_3:w12.cell? ⟨gb225,3,none⟩=some (.slice A0_3 l0_3.length c0_3):=(blk_cell BK225.out 3).trans rfl;have hcz13_4:w12.cell? ⟨gb225,4,none⟩=some (.int .i64 a0_4):=(blk_cell BK225.out 4).trans rfl;have hcz13_5:w12.cell? ⟨gb225,5,none⟩=some (.int .i64 a0_5):=(blk_cell BK225.out 5).trans rfl;have hcz13_6:w12.cell? ⟨gb225,6,none⟩=some (.bool a0_6):=(blk_cell BK225.out 6).trans rfl;have hcz13_7:w12.cell? ⟨gb225,7,none⟩=some (.int .i64 a0_7):=(blk_cell BK225.out 7).trans rfl;have hcz13_8:w12.cell? ⟨gb225,8,none⟩=some (.slice A0_8 l0_8.length c0_8):=(blk_cell BK225.out 8).trans rfl;have hfz13_0:=fZ4_ BK225.out 0;have hfz13_1:=fZ4_ BK225.out 1;have hfz13_2:=fZ4_ BK225.out 2;have hfz13_3:=fZ4_ BK225.out 3;have hfz13_4:=fZ4_ BK225.out 4;have hfz13_5:=fZ4_ BK225.out 5;have hfz13_6:=fZ4_ BK225.out 6;have hfz13_7:=fZ4_ BK225.out 7;have hfz13_8:=fZ4_ BK225.out 8;have hcz14_0:w12.cell? ⟨gb226,0,none⟩=some (.int .i64 a1_0):=(blk_cell BK226.out 0).trans rfl;have hcz14_1:w12.cell? ⟨gb226,1,none⟩=some (.int .i64 a1_1):=(blk_cell BK226.out 1).trans rfl;have hcz14_2:w12.cell? ⟨gb226,2,none⟩=some (.int .i64 a1_2):=(blk_cell BK226.out 2).trans rfl;have hcz14_3:w12.cell? ⟨gb226,3,none⟩=some (.slice A1_3 l1_3.length c1_3):=(blk_cell BK226.out 3).trans rfl;have hcz14_4:w12.cell? ⟨gb226,4,none⟩=some (.int .i64 a1_4):=(blk_cell BK226.out 4).trans rfl;have hcz14_5:w12.cell? ⟨gb226,5,none⟩=some (.int .i64 a1_5):=(blk_cell BK226.out 5).trans rfl;have hcz14_6:w12.cell? ⟨gb226,6,none⟩=some (.bool a1_6):=(blk_cell BK226.out 6).trans rfl;have hcz14_7:w12.cell? ⟨gb226,7,none⟩=some (.int .i64 a1_7):=(blk_cell BK226.out 7).trans rfl;have hcz14_8:w12.cell? ⟨gb226,8,none⟩=some (.slice A1_8 l1_8.length c1_8):=(blk_cell BK226.out 8).trans rfl;have hfz14_0:=fZ4_ BK226.out 0;have hfz14_1:=fZ4_ BK226.out 1;have hfz14_2:=fZ4_ BK226.out 2;have hfz14_3:=fZ4_ BK226.out 3;have hfz14_4:=fZ4_ BK226.out 4;have hfz14_5:=fZ4_ BK226.out 5;have hfz14_6:=fZ4_ BK226.out 6;have hfz14_7:=fZ4_ BK226.out 7;have hfz14_8:=fZ4_ BK226.out 8)|((with_reducible refine gate_callee (f:=28) rfl ?_);refine goesL_ (some 15) rfl rfl Try.func28 (by kernel_rfl) rfl #[.slice A0_8 l0_8.length c0_8,.slice A1_8 l1_8.length c1_8] rfl (by (try simp only [List.map_toArray,List.map_cons,List.map_nil]);first|done|rfl|(simp only [List.length_drop,List.length_take];rfl)) ?_;(with_reducible refine (laws_eqZoneS.calls k _ _ l0_8 _ _ l1_8 true _ ?side1 ?side2 ?side3 ?side4 A5.out).mono ?_);(case side1=>repeat (first|exact (Kd.C_below HR0_8.out HB.out)|(with_reducible refine Kd.C_alloc ?_ _)|(with_reducible refine Kd.C_drewN ?_ _)|(with_reducible refine Kd.C_drew ?_)));(case side2=>exact HC0_8.out);(case side3=>repeat (first|exact (Kd.C_below HR1_8.out HB.out)|(with_reducible refine Kd.C_alloc ?_ _)|(with_reducible refine Kd.C_drewN ?_ _)|(with_reducible refine Kd.C_drew ?_)));(case side4=>exact HC1_8.out);rintro e w15 ⟨rfl,hb⟩;refine ⟨_,rfl,?_⟩;have n0_:=mk4_ (blk_below (g:=gb225) (o:=.cells #[.int .i64 a0_0,.int .i64 a0_1,.int .i64 a0_2,.slice A0_3 l0_3.length c0_3,.int .i64 a0_4,.int .i64 a0_5,.bool a0_6,.int .i64 a0_7,.slice A0_8 l0_8.length c0_8] 38 (0,0)) (by (with_reducible repeat (first|refine kN4_ ?_ _|refine kD4_ ?_|refine blk_alloc ?_ _));exact BK225.out) hb);have n1_:=mk4_ (blk_below (g:=gb226) (o:=.cells #[.int .i64 a1_0,.int .i64 a1_1,.int .i64 a1_2,.slice A1_3 l1_3.length c1_3,.int .i64 a1_4,.int .i64 a1_5,.bool a1_6,.int .i64 a1_7,.slice A1_8 l1_8.length c1_8] 38 (0,0)) (by (with_reducible repeat (first|refine kN4_ ?_ _|refine kD4_ ?_|refine blk_alloc ?_ _));exact BK226.out) hb);have n2_:=mk4_ (bT4_ (by repeat (first|(with_reducible first|exact HB.out|apply bA4_|apply bN4_|apply bD4_|refine bS4_ ?_ GE225.out|refine bS4_ ?_ GE226.out)|exact HB.out)) hb);clear BK225;clear BK226;clear HB;have BK225:=n0_;have BK226:=n1_;have HB:=n2_;clear n0_ n1_ n2_;(try clear hb);(try clear hb2);(try clear hk);(try clear hi)))
   go_ret
   exact ⟨by first|rfl|(simp [errW_none,errW_some] <;> rfl)|(simp [*,errW_none,errW_some] <;> rfl),by repeat (first|(with_reducible first|exact HB.out|apply bA4_|apply bN4_|apply bD4_|refine bS4_ ?_ GE225.out|refine bS4_ ?_ GE226.out)|exact HB.out)⟩
  ·replace c6 := Bool.eq_false_iff.mpr c6
   subst c6
   have H1:(some false)=some r:=by rw [if_neg (show ¬ (false=true) by decide)] at H;exact H
   clear H
   have H := H1
   clear H1
   obtain rfl := Option.some.inj H
   go_enter Try.func9, Try.ntmps9
   go_wp2_with (first|((with_reducible refine gate_dst (N:=2) rfl ?_);refine box_event ?hg (N:=2) ?hd (cs:=#[.int .i64 a0_0,.int .i64 a0_1,.int .i64 a0_2,.slice A0_3 l0_3.length c0_3,.int .i64 a0_4,.int .i64 a0_5,.bool a0_6,.int .i64 a0_7,.slice A0_8 l0_8.length c0_8]) (t:=38) ?hr ?_;(case hd=>rfl);(case hg=>rfl);(case hr=>first|(go_simp;done)|(go_simp;rfl));intro gb225 hg w16 hbox hb;have n0_:=mk4_ (bT4_ (by repeat (first|(with_reducible first|exact HB.out|apply bA4_|apply bN4_|apply bD4_)|exact HB.out)) hb);have n1_:=mk4_ (hbox);have n2_:=mk4_ ((by rw [hg];exact (bZ4_ (by repeat (first|(with_reducible first|exact HB.out|apply bA4_|apply bN4_|apply bD4_)|exact HB.out))):w.heap.size≤gb225));have n3_:=mk4_ ((by rw [hg];exact (bZ4_ (by repeat (first|(with_reducible first|exact HB.out|apply bA4_|apply bN4_|apply bD4_)|exact HB.out))):w.heap.size≤gb225));clear HB;have HB:=n0_;have BK225:=n1_;have GW225:=n2_;have GE225:=n3_;clear n0_ n1_ n2_ n3_;clear hb hbox hg)|((with_reducible refine gate_dst (N:=3) rfl ?_);refine box_event ?hg (N:=3) ?hd (cs:=#[.int .i64 a1_0,.int .i64 a1_1,.int .i64 a1_2,.slice A1_3 l1_3.length c1_3,.int .i64 a1_4,.int .i64 a1_5,.bool a1_6,.int .i64 a1_7,.slice A1_8 l1_8.length c1_8]) (t:=38) ?hr ?_;(case hd=>rfl);(case hg=>rfl);(case hr=>first|(go_simp;done)|(go_simp;rfl));intro gb226 hg w17 hbox hb;have n0_:=mk4_ (blk_below (g:=gb225) (o:=.cells #[.int .i64 a0_0,.int .i64 a0_1,.int .i64 a0_2,.slice A0_3 l0_3.length c0_3,.int .i64 a0_4,.int .i64 a0_5,.bool a0_6,.int .i64 a0_7,.slice A0_8 l0_8.length c0_8] 38 (0,0)) (by (with_reducible repeat (first|refine kN4_ ?_ _|refine kD4_ ?_|refine blk_alloc ?_ _));exact BK225.out) hb);have n1_:=mk4_ (bT4_ (by repeat (first|(with_reducible first|exact HB.out|apply bA4_|apply bN4_|apply bD4_|refine bS4_ ?_ GE225.out)|exact HB.out)) hb);have n2_:=mk4_ (hbox);have n3_:=mk4_ ((by rw [hg];exact (bZ4_ (by repeat (first|(with_reducible first|exact HB.out|apply bA4_|apply bN4_|apply bD4_|refine bS4_ ?_ GE225.out)|exact HB.out))):w.heap.size≤gb226));have n4_:=mk4_ ((by rw [hg];exact (bZ4_ (by repeat (first|(with_reducible first|exact HB.out|apply bA4_|apply bN4_|apply bD4_|refine bS4_ ?_ GE225.out)|exact HB.out))):w.heap.size≤gb226));have n5_:=mk4_ ((by rw [hg];exact Nat.ne_of_lt (blk_lt (g:=gb225) (o:=.cells #[.int .i64 a0_0,.int .i64 a0_1,.int .i64 a0_2,.slice A0_3 l0_3.length c0_3,.int .i64 a0_4,.int .i64 a0_5,.bool a0_6,.int .i64 a0_7,.slice A0_8 l0_8.length c0_8] 38 (0,0)) (by (with_reducible repeat (first|refine kN4_ ?_ _|refine kD4_ ?_|refine blk_alloc ?_ _));exact BK225.out)):gb225≠gb226));have n6_:=mk4_ ((by rw [hg];exact Nat.ne_of_gt (blk_lt (g:=gb225) (o:=.cells #[.int .i64 a0_0,.int .i64 a0_1,.int .i64 a0_2,.slice A0_3 l0_3.length c0_3,.int .i64 a0_4,.int .i64 a0_5,.bool a0_6,.int .i64 a0_7,.slice A0_8 l0_8.length c0_8] 38 (0,0)) (by (with_reducible repeat (first|refine kN4_ ?_ _|refine kD4_ ?_|refine blk_alloc ?_ _));exact BK225.out)):gb226≠gb225));clear BK225;clear HB;have BK225:=n0_;have HB:=n1_;have BK226:=n2_;have GW226:=n3_;have GE226:=n4_;have NB225_226:=n5_;have NB226_225:=n6_;clear n0_ n1_ n2_ n3_ n4_ n5_ n6_;clear hb hbox hg;have hnb18:=NB225_226.out;have hnc18:=NB226_225.out;have hcz19_0:w17.cell? ⟨gb225,0,none⟩=some (.int .i64 a0_0):=(blk_cell BK225.out 0).trans rfl;have hcz19_1:w17.cell? ⟨gb225,1,none⟩=some (.int .i64 a0_1):=(blk_cell BK225.out 1).trans rfl;have hcz19_2:w17.cell? ⟨gb225,2,none⟩=some (.int .i64 a0_2):=(blk_cell BK225.out 2).trans rfl;have hcz19_3:w17.cell? ⟨gb225,3,none⟩=some (.slice A0_3 l0_3.length c0_3):=(blk_cell BK225.out 3).trans rfl;have hcz19_4:w17.cell? ⟨gb225,4,none⟩=some (.int .i64 a0_4):=(blk_cell BK225.out 4).trans rfl;have hcz19_5:w17.cell? ⟨gb225,5,none⟩=some (.int .i64 a0_5):=(blk_cell BK225.out 5).trans rfl;have hcz19_6:w17.cell? ⟨gb225,6,none⟩=some (.bool a0_6):=(blk_cell BK225.out 6).trans rfl;have hcz19_7:w17.cell? ⟨gb225,7,none⟩=some (.int .i64 a0_7):=(blk_cell BK225.out 7).trans rfl;have hcz19_8:w17.cell? ⟨gb225,8,none⟩=some (.slice A0_8 l0_8.length c0_8):=(blk_cell BK225.out 8).trans rfl;have hfz19_0:=fZ4_ BK225.out 0;have hfz19_1:=fZ4_ BK225.out 1;have hfz19_2:=fZ4_ BK225.out 2;have hfz19_3:=fZ4_ BK225.out 3;have hfz19_4:=fZ4_ BK225.out 4;have hfz19_5:=fZ4_ BK225.out 5;have hfz19_6:=fZ4_ BK225.out 6;have hfz19_7:=fZ4_ BK225.out 7;have hfz19_8:=fZ4_ BK225.out 8;have hcz20_0:w17.cell? ⟨gb226,0,none⟩=some (.int .i64 a1_0):=(blk_cell BK226.out 0).trans rfl;have hcz20_1:w17.cell? ⟨gb226,1,none⟩=some (.int .i64 a1_1):=(blk_cell BK226.out 1).trans rfl;have hcz20_2:w17.cell? ⟨gb226,2,none⟩=some (.int .i64 a1_2):=(blk_cell BK226.out 2).trans rfl;have hcz20_3:w17.cell? ⟨gb226,3,none⟩=some (.slice A1_3 l1_3.length c1_3):=(blk_cell BK226.out 3).trans rfl;have hcz20_4:w17.cell? ⟨gb226,4,none⟩=some (.int .i64 a1_4):=(blk_cell BK226.out 4).trans rfl;have hcz20_5:w17.cell? ⟨gb226,5,none⟩=some (.int .i64 a1_5):=(blk_cell BK226.out 5).trans rfl;have hcz20_6:w17.cell? ⟨gb226,6,none⟩=some (.bool a1_6):=(blk_cell BK226.out 6).trans rfl;have hcz20_7:w17.cell? ⟨gb226,7,none⟩=some (.int .i64 a1_7):=(blk_cell BK226.out 7).trans rfl;have hcz20_8:w17.cell? ⟨gb226,8,none⟩=some (.slice A1_8 l1_8.length c1_8):=(blk_cell BK226.out 8).trans rfl;have hfz20_0:=fZ4_ BK226.out 0;have hfz20_1:=fZ4_ BK226.out 1;have hfz20_2:=fZ4_ BK226.out 2;have hfz20_3:=fZ4_ BK226.out 3;have hfz20_4:=fZ4_ BK226.out 4;have hfz20_5:=fZ4_ BK226.out 5;have hfz20_6:=fZ4_ BK226.out 6;have hfz20_7:=fZ4_ BK226.out 7;have hfz20_8:=fZ4_ BK226.out 8)|((with_reducible refine gate_callee (f:=27) rfl ?_);refine goesL_ (some 9) rfl rfl Try.func27 (by kernel_rfl) rfl #[.agg #[.int .i64 a0_0,.int .i64 a0_1,.int .i64 a0_2,.slice A0_3 l0_3.length c0_3,.int .i64 a0_4,.int .i64 a0_5,.bool a0_6,.int .i64 a0_7],.agg #[.int .i64 a1_0,.int .i64 a1_1,.int .i64 a1_2,.slice A1_3 l1_3.length c1_3,.int .i64 a1_4,.int .i64 a1_5,.bool a1_6,.int .i64 a1_7]] rfl (by (try simp only [List.map_toArray,List.map_cons,List.map_nil]);first|done|rfl|(simp only [List.length_drop,List.length_take];rfl)) ?_;(with_reducible refine (laws_eqFlash.calls k a0_0 a0_1 a0_2 _ _ l0_3 a0_4 a0_5 a0_6 a0_7 a1_0 a1_1 a1_2 _ _ l1_3 a1_4 a1_5 a1_6 a1_7 true _ ?side1 ?side2 ?side3 ?side4 A3.out).mono ?_);(case side1=>repeat (first|exact (Kd.C_below HR0_3.out HB.out)|(with_reducible refine Kd.C_alloc ?_ _)|(with_reducible refine Kd.C_drewN ?_ _)|(with_reducible refine Kd.C_drew ?_)));(case side2=>exact HC0_3.out);(case side3=>repeat (first|exact (Kd.C_below HR1_3.out HB.out)|(with_reducible refine Kd.C_alloc ?_ _)|(with_reducible refine Kd.C_drewN ?_ _)|(with_reducible refine Kd.C_drew ?_)));(case side4=>exact HC1_3.out);rintro e w21 ⟨rfl,hb⟩;refine ⟨_,rfl,?_⟩;have n0_:=mk4_ (blk_below (g:=gb225) (o:=.cells #[.int .i64 a0_0,.int .i64 a0_1,.int .i64 a0_2,.slice A0_3 l0_3.length c0_3,.int .i64 a0_4,.int .i64 a0_5,.bool a0_6,.int .i64 a0_7,.slice A0_8 l0_8.length c0_8] 38 (0,0)) (by (with_reducible repeat (first|refine kN4_ ?_ _|refine kD4_ ?_|refine blk_alloc ?_ _));exact BK225.out) hb);have n1_:=mk4_ (blk_below (g:=gb226) (o:=.cells #[.int .i64 a1_0,.int .i64 a1_1,.int .i64 a1_2,.slice A1_3 l1_3.length c1_3,.int .i64 a1_4,.int .i64 a1_5,.bool a1_6,.int .i64 a1_7,.slice A1_8 l1_8.length c1_8] 38 (0,0)) (by (with_reducible repeat (first|refine kN4_ ?_ _|refine kD4_ ?_|refine blk_alloc ?_ _));exact BK226.out) hb);have n2_:=mk4_ (bT4_ (by repeat (first|(with_reducible first|exact HB.out|apply bA4_|apply bN4_|apply bD4_|refine bS4_ ?_ GE225.out|refine bS4_ ?_ GE226.out)|exact HB.out)) hb);clear BK225;clear BK226;clear HB;have BK225:=n0_;have BK226:=n1_;have HB:=n2_;clear n0_ n1_ n2_;(try clear hb);(try clear hb2);(try clear hk);(try clear hi);have hcz22_0:w21.cell? ⟨gb225,0,none⟩=some (.int .i64 a0_0):=(blk_cell BK225.out 0).trans rfl;have hcz22_1:w21.cell? ⟨gb225,1,none⟩=some (.int .i64 a0_1):=(blk_cell BK225.out 1).trans rfl;have hcz22_2:w21.cell? ⟨gb225,2,none⟩=some (.int .i64 a0_2):=(blk_cell BK225.out 2).trans rfl;have hcz22_3:w21.cell? ⟨gb225,3,none⟩=some (.slice A0_3 l0_3.length c0_3):=(blk_cell BK225.out 3).trans rfl;have hcz22_4:w21.cell? ⟨gb225,4,none⟩=some (.int .i64 a0_4):=(blk_cell BK225.out 4).trans rfl;have hcz22_5:w21.cell? ⟨gb225,5,none⟩=some (.int .i64 a0_5):=(blk_cell BK225.out 5).trans rfl;have hcz22_6:w21.cell? ⟨gb225,6,none⟩=some (.bool a0_6):=(blk_cell BK225.out 6).trans rfl;have hcz22_7:w21.cell? ⟨gb225,7,none⟩=some (.int .i64 a0_7):=(blk_cell BK225.out 7).trans rfl;have hcz22_8:w21.cell? ⟨gb225,8,none⟩=some (.slice A0_8 l0_8.length c0_8):=(blk_cell BK225.out 8).trans rfl;have hfz22_0:=fZ4_ BK225.out 0;have hfz22_1:=fZ4_ BK225.out 1;have hfz22_2:=fZ4_ BK225.out 2;have hfz22_3:=fZ4_ BK225.out 3;have hfz22_4:=fZ4_ BK225.out 4;have hfz22_5:=fZ4_ BK225.out 5;have hfz22_6:=fZ4_ BK225.out 6;have hfz22_7:=fZ4_ BK225.out 7;have hfz22_8:=fZ4_ BK225.out 8;have hcz23_0:w21.cell? ⟨gb226,0,none⟩=some (.int .i64 a1_0):=(blk_cell BK226.out 0).trans rfl;have hcz23_1:w21.cell? ⟨gb226,1,none⟩=some (.int .i64 a1_1):=(blk_cell BK226.out 1).trans rfl;have hcz23_2:w21.cell? ⟨gb226,2,none⟩=some (.int .i64 a1_2):=(blk_cell BK226.out 2).trans rfl;have hcz23_3:w21.cell? ⟨gb226,3,none⟩=some (.slice A1_3 l1_3.length c1_3):=(blk_cell BK226.out 3).trans rfl;have hcz23_4:w21.cell? ⟨gb226,4,none⟩=some (.int .i64 a1_4):=(blk_cell BK226.out 4).trans rfl;have hcz23_5:w21.cell? ⟨gb226,5,none⟩=some (.int .i64 a1_5):=(blk_cell BK226.out 5).trans rfl;have hcz23_6:w21.cell? ⟨gb226,6,none⟩=some (.bool a1_6):=(blk_cell BK226.out 6).trans rfl;have hcz23_7:w21.cell? ⟨gb226,7,none⟩=some (.int .i64 a1_7):=(blk_cell BK226.out 7).trans rfl;have hcz23_8:w21.cell? ⟨gb226,8,none⟩=some (.slice A1_8 l1_8.length c1_8):=(blk_cell BK226.out 8).trans rfl;have hfz23_0:=fZ4_ BK226.out 0;have hfz23_1:=fZ4_ BK226.out 1;have hfz23_2:=fZ4_ BK226.out 2;have hfz23_3:=fZ4_ BK226.out 3;have hfz23_4:=fZ4_ BK226.out 4;have hfz23_5:=fZ4_ BK226.out 5;have hfz23_6:=fZ4_ BK226.out 6;have hfz23_7:=fZ4_ BK226.out 7;have hfz23_8:=fZ4_ BK226.out 8)|((with_reducible refine gate_callee (f:=28) rfl ?_);refine goesL_ (some 15) rfl rfl Try.func28 (by kernel_rfl) rfl #[.slice A0_8 l0_8.length c0_8,.slice A1_8 l1_8.length c1_8] rfl (by (try simp only [List.map_toArray,List.map_cons,List.map_nil]);first|done|rfl|(simp only [List.length_drop,List.length_take];rfl)) ?_;(with_reducible refine (laws_eqZoneS.calls k _ _ l0_8 _ _ l1_8 false _ ?side1 ?side2 ?side3 ?side4 A5.out).mono ?_);(case side1=>repeat (first|exact (Kd.C_below HR0_8.out HB.out)|(with_reducible refine Kd.C_alloc ?_ _)|(with_reducible refine Kd.C_drewN ?_ _)|(with_reducible refine Kd.C_drew ?_)));(case side2=>exact HC0_8.out);(case side3=>repeat (first|exact (Kd.C_below HR1_8.out HB.out)|(with_reducible refine Kd.C_alloc ?_ _)|(with_reducible refine Kd.C_drewN ?_ _)|(with_reducible refine Kd.C_drew ?_)));(case side4=>exact HC1_8.out);rintro e w24 ⟨rfl,hb⟩;refine ⟨_,rfl,?_⟩;have n0_:=mk4_ (blk_below (g:=gb225) (o:=.cells #[.int .i64 a0_0,.int .i64 a0_1,.int .i64 a0_2,.slice A0_3 l0_3.length c0_3,.int .i64 a0_4,.int .i64 a0_5,.bool a0_6,.int .i64 a0_7,.slice A0_8 l0_8.length c0_8] 38 (0,0)) (by (with_reducible repeat (first|refine kN4_ ?_ _|refine kD4_ ?_|refine blk_alloc ?_ _));exact BK225.out) hb);have n1_:=mk4_ (blk_below (g:=gb226) (o:=.cells #[.int .i64 a1_0,.int .i64 a1_1,.int .i64 a1_2,.slice A1_3 l1_3.length c1_3,.int .i64 a1_4,.int .i64 a1_5,.bool a1_6,.int .i64 a1_7,.slice A1_8 l1_8.length c1_8] 38 (0,0)) (by (with_reducible repeat (first|refine kN4_ ?_ _|refine kD4_ ?_|refine blk_alloc ?_ _));exact BK226.out) hb);have n2_:=mk4_ (bT4_ (by repeat (first|(with_reducible first|exact HB.out|apply bA4_|apply bN4_|apply bD4_|refine bS4_ ?_ GE225.out|refine bS4_ ?_ GE226.out)|exact HB.out)) hb);clear BK225;clear BK226;clear HB;have BK225:=n0_;have BK226:=n1_;have HB:=n2_;clear n0_ n1_ n2_;(try clear hb);(try clear hb2);(try clear hk);(try clear hi)))
   go_ret
   exact ⟨by first|rfl|(simp [errW_none,errW_some] <;> rfl)|(simp [*,errW_none,errW_some] <;> rfl),by repeat (first|(with_reducible first|exact HB.out|apply bA4_|apply bN4_|apply bD4_|refine bS4_ ?_ GE225.out|refine bS4_ ?_ GE226.out)|exact HB.out)⟩
 ·replace c4 := Bool.eq_false_iff.mpr c4
  subst c4
  have H1:(some false)=some r:=by rw [if_neg (show ¬ (false=true) by decide)] at H;exact H
  clear H
  have H := H1
  clear H1
  obtain rfl := Option.some.inj H
  go_enter Try.func9, Try.ntmps9
  go_wp2_with (first|((with_reducible refine gate_dst (N:=2) rfl ?_);refine box_event ?hg (N:=2) ?hd (cs:=#[.int .i64 a0_0,.int .i64 a0_1,.int .i64 a0_2,.slice A0_3 l0_3.length c0_3,.int .i64 a0_4,.int .i64 a0_5,.bool a0_6,.int .i64 a0_7,.slice A0_8 l0_8.length c0_8]) (t:=38) ?hr ?_;(case hd=>rfl);(case hg=>rfl);(case hr=>first|(go_simp;done)|(go_simp;rfl));intro gb225 hg w25 hbox hb;have n0_:=mk4_ (bT4_ (by repeat (first|(with_reducible first|exact HB.out|apply bA4_|apply bN4_|apply bD4_)|exact HB.out)) hb);have n1_:=mk4_ (hbox);have n2_:=mk4_ ((by rw [hg];exact (bZ4_ (by repeat (first|(with_reducible first|exact HB.out|apply bA4_|apply bN4_|apply bD4_)|exact HB.out))):w.heap.size≤gb225));have n3_:=mk4_ ((by rw [hg];exact (bZ4_ (by repeat (first|(with_reducible first|exact HB.out|apply bA4_|apply bN4_|apply bD4_)|exact HB.out))):w.heap.size≤gb225));clear HB;have HB:=n0_;have BK225:=n1_;have GW225:=n2_;have GE225:=n3_;clear n0_ n1_ n2_ n3_;clear hb hbox hg)|((with_reducible refine gate_dst (N:=3) rfl ?_);refine box_event ?hg (N:=3) ?hd (cs:=#[.int .i64 a1_0,.int .i64 a1_1,.int .i64 a1_2,.slice A1_3 l1_3.length c1_3,.int .i64 a1_4,.int .i64 a1_5,.bool a1_6,.int .i64 a1_7,.slice A1_8 l1_8.length c1_8]) (t:=38) ?hr ?_;(case hd=>rfl);(case hg=>rfl);(case hr=>first|(go_simp;done)|(go_simp;rfl));intro gb226 hg w26 hbox hb;have n0_:=mk4_ (blk_below (g:=gb225) (o:=.cells #[.int .i64 a0_0,.int .i64 a0_1,.int .i64 a0_2,.slice A0_3 l0_3.length c0_3,.int .i64 a0_4,.int .i64 a0_5,.bool a0_6,.int .i64 a0_7,.slice A0_8 l0_8.length c0_8] 38 (0,0)) (by (with_reducible repeat (first|refine kN4_ ?_ _|refine kD4_ ?_|refine blk_alloc ?_ _));exact BK225.out) hb);have n1_:=mk4_ (bT4_ (by repeat (first|(with_reducible first|exact HB.out|apply bA4_|apply bN4_|apply bD4_|refine bS4_ ?_ GE225.out)|exact HB.out)) hb);have n2_:=mk4_ (hbox);have n3_:=mk4_ ((by rw [hg];exact (bZ4_ (by repeat (first|(with_reducible first|exact HB.out|apply bA4_|apply bN4_|apply bD4_|refine bS4_ ?_ GE225.out)|exact HB.out))):w.heap.size≤gb226));have n4_:=mk4_ ((by rw [hg];exact (bZ4_ (by repeat (first|(with_reducible first|exact HB.out|apply bA4_|apply bN4_|apply bD4_|refine bS4_ ?_ GE225.out)|exact HB.out))):w.heap.size≤gb226));have n5_:=mk4_ ((by rw [hg];exact Nat.ne_of_lt (blk_lt (g:=gb225) (o:=.cells #[.int .i64 a0_0,.int .i64 a0_1,.int .i64 a0_2,.slice A0_3 l0_3.length c0_3,.int .i64 a0_4,.int .i64 a0_5,.bool a0_6,.int .i64 a0_7,.slice A0_8 l0_8.length c0_8] 38 (0,0)) (by (with_reducible repeat (first|refine kN4_ ?_ _|refine kD4_ ?_|refine blk_alloc ?_ _));exact BK225.out)):gb225≠gb226));have n6_:=mk4_ ((by rw [hg];exact Nat.ne_of_gt (blk_lt (g:=gb225) (o:=.cells #[.int .i64 a0_0,.int .i64 a0_1,.int .i64 a0_2,.slice A0_3 l0_3.length c0_3,.int .i64 a0_4,.int .i64 a0_5,.bool a0_6,.int .i64 a0_7,.slice A0_8 l0_8.length c0_8] 38 (0,0)) (by (with_reducible repeat (first|refine kN4_ ?_ _|refine kD4_ ?_|refine blk_alloc ?_ _));exact BK225.out)):gb226≠gb225));clear BK225;clear HB;have BK225:=n0_;have HB:=n1_;have BK226:=n2_;have GW226:=n3_;have GE226:=n4_;have NB225_226:=n5_;have NB226_225:=n6_;clear n0_ n1_ n2_ n3_ n4_ n5_ n6_;clear hb hbox hg;have hnb27:=NB225_226.out;have hnc27:=NB226_225.out;have hcz28_0:w26.cell? ⟨gb225,0,none⟩=some (.int .i64 a0_0):=(blk_cell BK225.out 0).trans rfl;have hcz28_1:w26.cell? ⟨gb225,1,none⟩=some (.int .i64 a0_1):=(blk_cell BK225.out 1).trans rfl;have hcz28_2:w26.cell? ⟨gb225,2,none⟩=some (.int .i64 a0_2):=(blk_cell BK225.out 2).trans rfl;have hcz28_3:w26.cell? ⟨gb225,3,none⟩=some (.slice A0_3 l0_3.length c0_3):=(blk_cell BK225.out 3).trans rfl;have hcz28_4:w26.cell? ⟨gb225,4,none⟩=some (.int .i64 a0_4):=(blk_cell BK225.out 4).trans rfl;have hcz28_5:w26.cell? ⟨gb225,5,none⟩=some (.int .i64 a0_5):=(blk_cell BK225.out 5).trans rfl;have hcz28_6:w26.cell? ⟨gb225,6,none⟩=some (.bool a0_6):=(blk_cell BK225.out 6).trans rfl;have hcz28_7:w26.cell? ⟨gb225,7,none⟩=some (.int .i64 a0_7):=(blk_cell BK225.out 7).trans rfl;have hcz28_8:w26.cell? ⟨gb225,8,none⟩=some (.slice A0_8 l0_8.length c0_8):=(blk_cell BK225.out 8).trans rfl;have hfz28_0:=fZ4_ BK225.out 0;have hfz28_1:=fZ4_ BK225.out 1;have hfz28_2:=fZ4_ BK225.out 2;have hfz28_3:=fZ4_ BK225.out 3;have hfz28_4:=fZ4_ BK225.out 4;have hfz28_5:=fZ4_ BK225.out 5;have hfz28_6:=fZ4_ BK225.out 6;have hfz28_7:=fZ4_ BK225.out 7;have hfz28_8:=fZ4_ BK225.out 8;have hcz29_0:w26.cell? ⟨gb226,0,none⟩=some (.int .i64 a1_0):=(blk_cell BK226.out 0).trans rfl;have hcz29_1:w26.cell? ⟨gb226,1,none⟩=some (.int .i64 a1_1):=(blk_cell BK226.out 1).trans rfl;have hcz29_2:w26.cell? ⟨gb226,2,none⟩=some (.int .i64 a1_2):=(blk_cell BK226.out 2).trans rfl;have hcz29_3:w26.cell? ⟨gb226,3,none⟩=some (.slice A1_3 l1_3.length c1_3):=(blk_cell BK226.out 3).trans rfl;have hcz29_4:w26.cell? ⟨gb226,4,none⟩=some (.int .i64 a1_4):=(blk_cell BK226.out 4).trans rfl;have hcz29_5:w26.cell? ⟨gb226,5,none⟩=some (.int .i64 a1_5):=(blk_cell BK226.out 5).trans rfl;have hcz29_6:w26.cell? ⟨gb226,6,none⟩=some (.bool a1_6):=(blk_cell BK226.out 6).trans rfl;have hcz29_7:w26.cell? ⟨gb226,7,none⟩=some (.int .i64 a1_7):=(blk_cell BK226.out 7).trans rfl;have hcz29_8:w26.cell? ⟨gb226,8,none⟩=some (.slice A1_8 l1_8.length c1_8):=(blk_cell BK226.out 8).trans rfl;have hfz29_0:=fZ4_ BK226.out 0;have hfz29_1:=fZ4_ BK226.out 1;have hfz29_2:=fZ4_ BK226.out 2;have hfz29_3:=fZ4_ BK226.out 3;have hfz29_4:=fZ4_ BK226.out 4;have hfz29_5:=fZ4_ BK226.out 5;have hfz29_6:=fZ4_ BK226.out 6;have hfz29_7:=fZ4_ BK226.out 7;have hfz29_8:=fZ4_ BK226.out 8)|((with_reducible refine gate_callee (f:=27) rfl ?_);refine goesL_ (some 9) rfl rfl Try.func27 (by kernel_rfl) rfl #[.agg #[.int .i64 a0_0,.int .i64 a0_1,.int .i64 a0_2,.slice A0_3 l0_3.length c0_3,.int .i64 a0_4,.int .i64 a0_5,.bool a0_6,.int .i64 a0_7],.agg #[.int .i64 a1_0,.int .i64 a1_1,.int .i64 a1_2,.slice A1_3 l1_3.length c1_3,.int .i64 a1_4,.int .i64 a1_5,.bool a1_6,.int .i64 a1_7]] rfl (by (try simp only [List.map_toArray,List.map_cons,List.map_nil]);first|done|rfl|(simp only [List.length_drop,List.length_take];rfl)) ?_;(with_reducible refine (laws_eqFlash.calls k a0_0 a0_1 a0_2 _ _ l0_3 a0_4 a0_5 a0_6 a0_7 a1_0 a1_1 a1_2 _ _ l1_3 a1_4 a1_5 a1_6 a1_7 false _ ?side1 ?side2 ?side3 ?side4 A3.out).mono ?_);(case side1=>repeat (first|exact (Kd.C_below HR0_3.out HB.out)|(with_reducible refine Kd.C_alloc ?_ _)|(with_reducible refine Kd.C_drewN ?_ _)|(with_reducible refine Kd.C_drew ?_)));(case side2=>exact HC0_3.out);(case side3=>repeat (first|exact (Kd.C_below HR1_3.out HB.out)|(with_reducible refine Kd.C_alloc ?_ _)|(with_reducible refine Kd.C_drewN ?_ _)|(with_reducible refine Kd.C_drew ?_)));(case side4=>exact HC1_3.out);rintro e w30 ⟨rfl,hb⟩;refine ⟨_,rfl,?_⟩;have n0_:=mk4_ (blk_below (g:=gb225) (o:=.cells #[.int .i64 a0_0,.int .i64 a0_1,.int .i64 a0_2,.slice A0_3 l0_3.length c0_3,.int .i64 a0_4,.int .i64 a0_5,.bool a0_6,.int .i64 a0_7,.slice A0_8 l0_8.length c0_8] 38 (0,0)) (by (with_reducible repeat (first|refine kN4_ ?_ _|refine kD4_ ?_|refine blk_alloc ?_ _));exact BK225.out) hb);have n1_:=mk4_ (blk_below (g:=gb226) (o:=.cells #[.int .i64 a1_0,.int .i64 a1_1,.int .i64 a1_2,.slice A1_3 l1_3.length c1_3,.int .i64 a1_4,.int .i64 a1_5,.bool a1_6,.int .i64 a1_7,.slice A1_8 l1_8.length c1_8] 38 (0,0)) (by (with_reducible repeat (first|refine kN4_ ?_ _|refine kD4_ ?_|refine blk_alloc ?_ _));exact BK226.out) hb);have n2_:=mk4_ (bT4_ (by repeat (first|(with_reducible first|exact HB.out|apply bA4_|apply bN4_|apply bD4_|refine bS4_ ?_ GE225.out|refine bS4_ ?_ GE226.out)|exact HB.out)) hb);clear BK225;clear BK226;clear HB;have BK225:=n0_;have BK226:=n1_;have HB:=n2_;clear n0_ n1_ n2_;(try clear hb);(try clear hb2);(try clear hk);(try clear hi)))
  go_ret
  exact ⟨by first|rfl|(simp [errW_none,errW_some] <;> rfl)|(simp [*,errW_none,errW_some] <;> rfl),by repeat (first|(with_reducible first|exact HB.out|apply bA4_|apply bN4_|apply bD4_|refine bS4_ ?_ GE225.out|refine bS4_ ?_ GE226.out)|exact HB.out)⟩

def spec_l00In.f (a0:Int) (a1:Int) (a2:Int):Option (Bool):=if a0 ≥ a1 then (some (decide (a0≤a2))) else (some false)
set_option maxHeartbeats 8000000 in
set_option maxRecDepth 100000 in
theorem spec_l00In.calls (a0:Int) (a1:Int) (a2:Int) (r:Bool) (w:World) (h:spec_l00In.f a0 a1 a2=some r) :
  Calls Try.prog 33 #[.int .i64 a0,.int .i64 a1,.int .i64 a2] w fun e w'=>e=.returned (.bool r)∧Drawn0 w w':=by
 have H : (if a0 ≥ a1 then (some (decide (a0 ≤ a2))) else (some false)) = some r := h
 clear h
 by_cases c4 : a0 ≥ a1
 ·rw [if_pos c4] at H
  have c4b0 : decide (a1 ≤ a0) = true := decide_eq_true c4
  clear c4
  obtain rfl := Option.some.inj H
  go_enter Try.func33, Try.ntmps33
  go_wp2
  go_ret
  exact ⟨by first|rfl|(simp;done)|(simp [*];done),by repeat (first|exact Drawn0.refl _|apply Drawn0.step)⟩
 ·rw [if_neg c4] at H
  have c4b0 : decide (a1 ≤ a0) = false := decide_eq_false c4
  clear c4
  obtain rfl := Option.some.inj H
  go_enter Try.func33, Try.ntmps33
  go_wp2
  go_ret
  exact ⟨by first|rfl|(simp;done)|(simp [*];done),by repeat (first|exact Drawn0.refl _|apply Drawn0.step)⟩

def spec_ValidGeometry.f (a0_0:Int) (a0_1:Int) (a0_2:Int):Option (Bool):=(spec_l00In.f a0_0 2 3).bind fun t230=>(if t230=true then ((spec_l00In.f a0_1 4 12).bind fun t231=>(if t231=true then (if a0_2=8 then (some true) else (some (a0_2 == 16))) else (some false))) else (some false))
set_option maxHeartbeats 8000000 in
set_option maxRecDepth 100000 in
theorem spec_ValidGeometry.calls (a0_0:Int) (a0_1:Int) (a0_2:Int) (r:Bool) (w:World) (h:spec_ValidGeometry.f a0_0 a0_1 a0_2=some r) :
  Calls Try.prog 32 #[.agg #[.int .i64 a0_0,.int .i64 a0_1,.int .i64 a0_2]] w fun e w'=>e=.returned (.bool r)∧Below w.heap.size w w':=by
 have hu32 := Try.underlying32
 have HB := Aside0.mk (Below.refl w.heap.size w)
 have H:((spec_l00In.f a0_0 2 3).bind fun t230=>(if t230=true then ((spec_l00In.f a0_1 4 12).bind fun t231=>(if t231=true then (if a0_2=8 then (some true) else (some (a0_2 == 16))) else (some false))) else (some false)))=some r:=h
 clear h
 replace H := Option.bind_eq_some_iff.mp H
 obtain ⟨t230, A20, H⟩ := H
 replace H:(if t230=true then ((spec_l00In.f a0_1 4 12).bind fun t231=>(if t231=true then (if a0_2=8 then (some true) else (some (a0_2 == 16))) else (some false))) else (some false))=some r:=H
 have A2 := Aside0.mk A20
 clear A20
 by_cases c3 : t230 = true
 ·subst c3
  have H1:((spec_l00In.f a0_1 4 12).bind fun t231=>(if t231=true then (if a0_2=8 then (some true) else (some (a0_2 == 16))) else (some false)))=some r:=by rw [if_pos rfl] at H;exact H
  clear H
  have H := H1
  clear H1
  replace H := Option.bind_eq_some_iff.mp H
  obtain ⟨t231, A40, H⟩ := H
  replace H:(if t231=true then (if a0_2=8 then (some true) else (some (a0_2 == 16))) else (some false))=some r:=H
  have A4 := Aside0.mk A40
  clear A40
  by_cases c5 : t231 = true
  ·subst c5
   have H1:(if a0_2=8 then (some true) else (some (a0_2 == 16)))=some r:=by rw [if_pos rfl] at H;exact H
   clear H
   have H := H1
   clear H1
   by_cases c6 : a0_2 = 8
   ·rw [if_pos c6] at H
    have c6b0 : (a0_2 == 8) = true := beq_iff_eq.mpr c6
    have c6b1 : (a0_2 != 8) = false := bne_eq_false_iff_eq.mpr c6
    clear c6
    obtain rfl := Option.some.inj H
    go_enter Try.func32, Try.ntmps32
    go_wp2_with (first|((with_reducible refine gate_dst (N:=1) rfl ?_);refine box_event ?hg (N:=1) ?hd (cs:=#[.int .i64 a0_0,.int .i64 a0_1,.int .i64 a0_2]) (t:=32) ?hr ?_;(case hd=>rfl);(case hg=>rfl);(case hr=>first|(go_simp;done)|(go_simp;rfl));intro gb229 hg w7 hbox hb;have n0_:=mk4_ (bT4_ (by repeat (first|(with_reducible first|exact HB.out|apply bA4_|apply bN4_|apply bD4_)|exact HB.out)) hb);have n1_:=mk4_ (hbox);have n2_:=mk4_ ((by rw [hg];exact (bZ4_ (by repeat (first|(with_reducible first|exact HB.out|apply bA4_|apply bN4_|apply bD4_)|exact HB.out))):w.heap.size≤gb229));have n3_:=mk4_ ((by rw [hg];exact (bZ4_ (by repeat (first|(with_reducible first|exact HB.out|apply bA4_|apply bN4_|apply bD4_)|exact HB.out))):w.heap.size≤gb229));clear HB;have HB:=n0_;have BK229:=n1_;have GW229:=n2_;have GE229:=n3_;clear n0_ n1_ n2_ n3_;clear hb hbox hg;have hcz8_0:w7.cell? ⟨gb229,0,none⟩=some (.int .i64 a0_0):=(blk_cell BK229.out 0).trans rfl;have hcz8_1:w7.cell? ⟨gb229,1,none⟩=some (.int .i64 a0_1):=(blk_cell BK229.out 1).trans rfl;have hcz8_2:w7.cell? ⟨gb229,2,none⟩=some (.int .i64 a0_2):=(blk_cell BK229.out 2).trans rfl;have hfz8_0:=fZ4_ BK229.out 0;have hfz8_1:=fZ4_ BK229.out 1;have hfz8_2:=fZ4_ BK229.out 2)|((with_reducible refine gate_callee (f:=33) rfl ?_);refine goesL_ (some 5) rfl rfl Try.func33 (by kernel_rfl) rfl #[.int .i64 a0_0,.int .i64 2,.int .i64 3] rfl (by (try simp only [List.map_toArray,List.map_cons,List.map_nil]);first|done|rfl|(simp only [List.length_drop,List.length_take];rfl)) ?_;(with_reducible refine (spec_l00In.calls a0_0 2 3 true _ A2.out).mono ?_);rintro e w' ⟨rfl,⟨nd,rfl⟩⟩;refine ⟨_,rfl,?_⟩)|(go_at_call 33;(with_reducible refine (spec_l00In.calls a0_1 4 12 true _ A4.out).mono ?_);rintro e w' ⟨rfl,⟨nd,rfl⟩⟩))
    go_ret
    exact ⟨by first|rfl|(simp [errW_none,errW_some] <;> rfl)|(simp [*,errW_none,errW_some] <;> rfl),by repeat (first|(with_reducible first|exact HB.out|apply bA4_|apply bN4_|apply bD4_|refine bS4_ ?_ GE229.out)|exact HB.out)⟩
   ·rw [if_neg c6] at H
    have c6b0 : (a0_2 == 8) = false := beq_eq_false_iff_ne.mpr c6
    have c6b1 : (a0_2 != 8) = true := bne_iff_ne.mpr c6
    obtain rfl := Option.some.inj H
    go_enter Try.func32, Try.ntmps32
    go_wp2_with (first|((with_reducible refine gate_dst (N:=1) rfl ?_);refine box_event ?hg (N:=1) ?hd (cs:=#[.int .i64 a0_0,.int .i64 a0_1,.int .i64 a0_2]) (t:=32) ?hr ?_;(case hd=>rfl);(case hg=>rfl);(case hr=>first|(go_simp;done)|(go_simp;rfl));intro gb229 hg w9 hbox hb;have n0_:=mk4_ (bT4_ (by repeat (first|(with_reducible first|exact HB.out|apply bA4_|apply bN4_|apply bD4_)|exact HB.out)) hb);have n1_:=mk4_ (hbox);have n2_:=mk4_ ((by rw [hg];exact (bZ4_ (by repeat (first|(with_reducible first|exact HB.out|apply bA4_|apply bN4_|apply bD4_)|exact HB.out))):w.heap.size≤gb229));have n3_:=mk4_ ((by rw [hg];exact (bZ4_ (by repeat (first|(with_reducible first|exact HB.out|apply bA4_|apply bN4_|apply bD4_)|exact HB.out))):w.heap.size≤gb229));clear HB;have HB:=n0_;have BK229:=n1_;have GW229:=n2_;have GE229:=n3_;clear n0_ n1_ n2_ n3_;clear hb hbox hg;have hcz10_0:w9.cell? ⟨gb229,0,none⟩=some (.int .i64 a0_0):=(blk_cell BK229.out 0).trans rfl;have hcz10_1:w9.cell? ⟨gb229,1,none⟩=some (.int .i64 a0_1):=(blk_cell BK229.out 1).trans rfl;have hcz10_2:w9.cell? ⟨gb229,2,none⟩=some (.int .i64 a0_2):=(blk_cell BK229.out 2).trans rfl;have hfz10_0:=fZ4_ BK229.out 0;have hfz10_1:=fZ4_ BK229.out 1;have hfz10_2:=fZ4_ BK229.out 2)|((with_reducible refine gate_callee (f:=33) rfl ?_);refine goesL_ (some 5) rfl rfl Try.func33 (by kernel_rfl) rfl #[.int .i64 a0_0,.int .i64 2,.int .i64 3] rfl (by (try simp only [List.map_toArray,List.map_cons,List.map_nil]);first|done|rfl|(simp only [List.length_drop,List.length_take];rfl)) ?_;(with_reducible refine (spec_l00In.calls a0_0 2 3 true _ A2.out).mono ?_);rintro e w' ⟨rfl,⟨nd,rfl⟩⟩;refine ⟨_,rfl,?_⟩)|(go_at_call 33;(with_reducible refine (spec_l00In.calls a0_1 4 12 true _ A4.out).mono ?_);rintro e w' ⟨rfl,⟨nd,rfl⟩⟩))
    go_ret
    exact ⟨by first|rfl|(simp [errW_none,errW_some] <;> rfl)|(simp [*,errW_none,errW_some] <;> rfl),by repeat (first|(with_reducible first|exact HB.out|apply bA4_|apply bN4_|apply bD4_|refine bS4_ ?_ GE229.out)|exact HB.out)⟩
  ·replace c5 := Bool.eq_false_iff.mpr c5
   subst c5
   have H1:(some false)=some r:=by rw [if_neg (show ¬ (false=true) by decide)] at H;exact H
   clear H
   have H := H1
   clear H1
   obtain rfl := Option.some.inj H
   go_enter Try.func32, Try.ntmps32
   go_wp2_with (first|((with_reducible refine gate_dst (N:=1) rfl ?_);refine box_event ?hg (N:=1) ?hd (cs:=#[.int .i64 a0_0,.int .i64 a0_1,.int .i64 a0_2]) (t:=32) ?hr ?_;(case hd=>rfl);(case hg=>rfl);(case hr=>first|(go_simp;done)|(go_simp;rfl));intro gb229 hg w11 hbox hb;have n0_:=mk4_ (bT4_ (by repeat (first|(with_reducible first|exact HB.out|apply bA4_|apply bN4_|apply bD4_)|exact HB.out)) hb);have n1_:=mk4_ (hbox);have n2_:=mk4_ ((by rw [hg];exact (bZ4_ (by repeat (first|(with_reducible first|exact HB.out|apply bA4_|apply bN4_|apply bD4_)|exact HB.out))):w.heap.size≤gb229));have n3_:=mk4_ ((by rw [hg];exact (bZ4_ (by repeat (first|(with_reducible first|exact HB.out|apply bA4_|apply bN4_|apply bD4_)|exact HB.out))):w.heap.size≤gb229));clear HB;have HB:=n0_;have BK229:=n1_;have GW229:=n2_;have GE229:=n3_;clear n0_ n1_ n2_ n3_;clear hb hbox hg;have hcz12_0:w11.cell? ⟨gb229,0,none⟩=some (.int .i64 a0_0):=(blk_cell BK229.out 0).trans rfl;have hcz12_1:w11.cell? ⟨gb229,1,none⟩=some (.int .i64 a0_1):=(blk_cell BK229.out 1).trans rfl;have hcz12_2:w11.cell? ⟨gb229,2,none⟩=some (.int .i64 a0_2):=(blk_cell BK229.out 2).trans rfl;have hfz12_0:=fZ4_ BK229.out 0;have hfz12_1:=fZ4_ BK229.out 1;have hfz12_2:=fZ4_ BK229.out 2)|((with_reducible refine gate_callee (f:=33) rfl ?_);refine goesL_ (some 5) rfl rfl Try.func33 (by kernel_rfl) rfl #[.int .i64 a0_0,.int .i64 2,.int .i64 3] rfl (by (try simp only [List.map_toArray,List.map_cons,List.map_nil]);first|done|rfl|(simp only [List.length_drop,List.length_take];rfl)) ?_;(with_reducible refine (spec_l00In.calls a0_0 2 3 true _ A2.out).mono ?_);rintro e w' ⟨rfl,⟨nd,rfl⟩⟩;refine ⟨_,rfl,?_⟩)|(go_at_call 33;(with_reducible refine (spec_l00In.calls a0_1 4 12 false _ A4.out).mono ?_);rintro e w' ⟨rfl,⟨nd,rfl⟩⟩))
   go_ret
   exact ⟨by first|rfl|(simp [errW_none,errW_some] <;> rfl)|(simp [*,errW_none,errW_some] <;> rfl),by repeat (first|(with_reducible first|exact HB.out|apply bA4_|apply bN4_|apply bD4_|refine bS4_ ?_ GE229.out)|exact HB.out)⟩
 ·replace c3 := Bool.eq_false_iff.mpr c3
  subst c3
  have H1:(some false)=some r:=by rw [if_neg (show ¬ (false=true) by decide)] at H;exact H
  clear H
  have H := H1
  clear H1
  obtain rfl := Option.some.inj H
  go_enter Try.func32, Try.ntmps32
  go_wp2_with (first|((with_reducible refine gate_dst (N:=1) rfl ?_);refine box_event ?hg (N:=1) ?hd (cs:=#[.int .i64 a0_0,.int .i64 a0_1,.int .i64 a0_2]) (t:=32) ?hr ?_;(case hd=>rfl);(case hg=>rfl);(case hr=>first|(go_simp;done)|(go_simp;rfl));intro gb229 hg w13 hbox hb;have n0_:=mk4_ (bT4_ (by repeat (first|(with_reducible first|exact HB.out|apply bA4_|apply bN4_|apply bD4_)|exact HB.out)) hb);have n1_:=mk4_ (hbox);have n2_:=mk4_ ((by rw [hg];exact (bZ4_ (by repeat (first|(with_reducible first|exact HB.out|apply bA4_|apply bN4_|apply bD4_)|exact HB.out))):w.heap.size≤gb229));have n3_:=mk4_ ((by rw [hg];exact (bZ4_ (by repeat (first|(with_reducible first|exact HB.out|apply bA4_|apply bN4_|apply bD4_)|exact HB.out))):w.heap.size≤gb229));clear HB;have HB:=n0_;have BK229:=n1_;have GW229:=n2_;have GE229:=n3_;clear n0_ n1_ n2_ n3_;clear hb hbox hg;have hcz14_0:w13.cell? ⟨gb229,0,none⟩=some (.int .i64 a0_0):=(blk_cell BK229.out 0).trans rfl;have hcz14_1:w13.cell? ⟨gb229,1,none⟩=some (.int .i64 a0_1):=(blk_cell BK229.out 1).trans rfl;have hcz14_2:w13.cell? ⟨gb229,2,none⟩=some (.int .i64 a0_2):=(blk_cell BK229.out 2).trans rfl;have hfz14_0:=fZ4_ BK229.out 0;have hfz14_1:=fZ4_ BK229.out 1;have hfz14_2:=fZ4_ BK229.out 2)|((with_reducible refine gate_callee (f:=33) rfl ?_);refine goesL_ (some 5) rfl rfl Try.func33 (by kernel_rfl) rfl #[.int .i64 a0_0,.int .i64 2,.int .i64 3] rfl (by (try simp only [List.map_toArray,List.map_cons,List.map_nil]);first|done|rfl|(simp only [List.length_drop,List.length_take];rfl)) ?_;(with_reducible refine (spec_l00In.calls a0_0 2 3 false _ A2.out).mono ?_);rintro e w' ⟨rfl,⟨nd,rfl⟩⟩;refine ⟨_,rfl,?_⟩))
  go_ret
  exact ⟨by first|rfl|(simp [errW_none,errW_some] <;> rfl)|(simp [*,errW_none,errW_some] <;> rfl),by repeat (first|(with_reducible first|exact HB.out|apply bA4_|apply bN4_|apply bD4_|refine bS4_ ?_ GE229.out)|exact HB.out)⟩

end Go.Proofs.Ytdjbphffibcbeaa.Q
