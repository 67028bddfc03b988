/- The program's functions as Lean functions,and for each the proof that the machine's call comes to what its function says. Conditions: those that stand before each theorem. -/
import Derived.Test.YtdjbphffibcbeaaQ0
import Derived.Test.YtdjbphffibcbeaaQ11
namespace Go.Proofs.Ytdjbphffibcbeaa.Q
open Go.RowKit Go.Proofs.YtdjbphffibcbeaaW.PrintWords Go.Proofs.YtdjbphffibcbeaaW.PrintLast Go.Proofs.YtdjbphffibcbeaaW.PrintMore
abbrev kN12_ := @blk_drewN
abbrev kD12_ := @blk_drew
abbrev rN12_ := @Kd.R_drewN
abbrev bA12_ := @below_alloc
abbrev bN12_ := @pw_below_drewN
abbrev bD12_ := @below_drew1
abbrev bS12_ := @below_set
abbrev mk12_ := @Aside0.mk
abbrev fZ12_ := @blk_frozen
abbrev sB12_ := @Kd.S_below
abbrev bT12_ := @below_step
abbrev bZ12_ := @below_size
set_option linter.unusedVariables false
set_option linter.unusedSimpArgs false

def spec_CapacityOf.f (k:Nat) (a0_0:Int) (a0_1:Int) (a0_2:Int) (l0_3:List (S68)) (a0_4:Int) (a0_5:Int) (a0_6:Bool) (a0_7:Int) (l0_8:List (S50)):Option (Int):=(spec_ValidDevice.f k a0_0 a0_1 a0_2 l0_3 a0_4 a0_5 a0_6 a0_7 l0_8).bind fun t276=>(if t276=true then (some (wrap64 ((wrap64 (a0_0 - 1)) * a0_2))) else (some 0))
set_option maxHeartbeats 8000000 in
set_option maxRecDepth 100000 in
theorem spec_CapacityOf.calls (k:Nat) (a0_0:Int) (a0_1:Int) (a0_2:Int) (A0_3:Option Addr) (c0_3:Nat) (l0_3:List (S68)) (a0_4:Int) (a0_5:Int) (a0_6:Bool) (a0_7:Int) (A0_8:Option Addr) (c0_8:Nat) (l0_8:List (S50)) (r:Int) (w:World) (hr0_3:Kd.C k68 w A0_3 l0_3.length l0_3) (hc0_3:l0_3.length≤c0_3) (hr0_8:Kd.C k50 w A0_8 l0_8.length l0_8) (hc0_8:l0_8.length≤c0_8) (h:spec_CapacityOf.f k a0_0 a0_1 a0_2 l0_3 a0_4 a0_5 a0_6 a0_7 l0_8=some r) :
  Calls Try.prog 10 #[.agg #[.int .i64 a0_0,.int .i64 a0_1,.int .i64 a0_2,.slice A0_3 l0_3.length c0_3,.int .i64 a0_4,.int .i64 a0_5,.bool a0_6,.int .i64 a0_7,.slice A0_8 l0_8.length c0_8]] w fun e w'=>e=.returned (.int .i64 r)∧Below w.heap.size w w':=by
 have hu38 := Try.underlying38
 have HR0_3 := Aside0.mk hr0_3
 have HC0_3 := Aside0.mk hc0_3
 clear hr0_3 hc0_3
 have HR0_8 := Aside0.mk hr0_8
 have HC0_8 := Aside0.mk hc0_8
 clear hr0_8 hc0_8
 have HB := Aside0.mk (Below.refl w.heap.size w)
 have H:((spec_ValidDevice.f k a0_0 a0_1 a0_2 l0_3 a0_4 a0_5 a0_6 a0_7 l0_8).bind fun t276=>(if t276=true then (some (wrap64 ((wrap64 (a0_0 - 1)) * a0_2))) else (some 0)))=some r:=h
 clear h
 replace H := Option.bind_eq_some_iff.mp H
 obtain ⟨t276, A20, H⟩ := H
 replace H:(if t276=true then (some (wrap64 ((wrap64 (a0_0 - 1)) * a0_2))) else (some 0))=some r:=H
 have A2 := Aside0.mk A20
 clear A20
 by_cases c3 : t276 = true
 ·subst c3
  have H1:(some (wrap64 ((wrap64 (a0_0 - 1)) * a0_2)))=some r:=by rw [if_pos rfl] at H;exact H
  clear H
  have H := H1
  clear H1
  obtain rfl := Option.some.inj H
  go_enter Try.func10, Try.ntmps10
  go_wp2_with (first|((with_reducible refine gate_dst (N:=1) rfl ?_);refine box_event ?hg (N:=1) ?hd (cs:=#[.int .i64 a0_0,.int .i64 a0_1,.int .i64 a0_2,.slice A0_3 l0_3.length c0_3,.int .i64 a0_4,.int .i64 a0_5,.bool a0_6,.int .i64 a0_7,.slice A0_8 l0_8.length c0_8]) (t:=38) ?hr ?_;(case hd=>rfl);(case hg=>rfl);(case hr=>first|(go_simp;done)|(go_simp;rfl));intro gb275 hg w4 hbox hb;have n0_:=mk12_ (bT12_ (by repeat (first|(with_reducible first|exact HB.out|apply bA12_|apply bN12_|apply bD12_)|exact HB.out)) hb);have n1_:=mk12_ (hbox);have n2_:=mk12_ ((by rw [hg];exact (bZ12_ (by repeat (first|(with_reducible first|exact HB.out|apply bA12_|apply bN12_|apply bD12_)|exact HB.out))):w.heap.size≤gb275));have n3_:=mk12_ ((by rw [hg];exact (bZ12_ (by repeat (first|(with_reducible first|exact HB.out|apply bA12_|apply bN12_|apply bD12_)|exact HB.out))):w.heap.size≤gb275));clear HB;have HB:=n0_;have BK275:=n1_;have GW275:=n2_;have GE275:=n3_;clear n0_ n1_ n2_ n3_;clear hb hbox hg;have hcz5_0:w4.cell? ⟨gb275,0,none⟩=some (.int .i64 a0_0):=(blk_cell BK275.out 0).trans rfl;have hcz5_1:w4.cell? ⟨gb275,1,none⟩=some (.int .i64 a0_1):=(blk_cell BK275.out 1).trans rfl;have hcz5_2:w4.cell? ⟨gb275,2,none⟩=some (.int .i64 a0_2):=(blk_cell BK275.out 2).trans rfl;have hcz5_3:w4.cell? ⟨gb275,3,none⟩=some (.slice A0_3 l0_3.length c0_3):=(blk_cell BK275.out 3).trans rfl;have hcz5_4:w4.cell? ⟨gb275,4,none⟩=some (.int .i64 a0_4):=(blk_cell BK275.out 4).trans rfl;have hcz5_5:w4.cell? ⟨gb275,5,none⟩=some (.int .i64 a0_5):=(blk_cell BK275.out 5).trans rfl;have hcz5_6:w4.cell? ⟨gb275,6,none⟩=some (.bool a0_6):=(blk_cell BK275.out 6).trans rfl;have hcz5_7:w4.cell? ⟨gb275,7,none⟩=some (.int .i64 a0_7):=(blk_cell BK275.out 7).trans rfl;have hcz5_8:w4.cell? ⟨gb275,8,none⟩=some (.slice A0_8 l0_8.length c0_8):=(blk_cell BK275.out 8).trans rfl;have hfz5_0:=fZ12_ BK275.out 0;have hfz5_1:=fZ12_ BK275.out 1;have hfz5_2:=fZ12_ BK275.out 2;have hfz5_3:=fZ12_ BK275.out 3;have hfz5_4:=fZ12_ BK275.out 4;have hfz5_5:=fZ12_ BK275.out 5;have hfz5_6:=fZ12_ BK275.out 6;have hfz5_7:=fZ12_ BK275.out 7;have hfz5_8:=fZ12_ BK275.out 8)|((with_reducible refine gate_callee (f:=6) rfl ?_);refine goesL_ (some 4) rfl rfl Try.func6 (by kernel_rfl) rfl #[.agg #[.int .i64 a0_0,.int .i64 a0_1,.int .i64 a0_2,.slice A0_3 l0_3.length c0_3,.int .i64 a0_4,.int .i64 a0_5,.bool a0_6,.int .i64 a0_7,.slice A0_8 l0_8.length c0_8]] rfl (by (try simp only [List.map_toArray,List.map_cons,List.map_nil]);first|done|rfl|(simp only [List.length_drop,List.length_take];rfl)) ?_;(with_reducible refine (spec_ValidDevice.calls k a0_0 a0_1 a0_2 _ _ l0_3 a0_4 a0_5 a0_6 a0_7 _ _ l0_8 true _ ?side1 ?side2 ?side3 ?side4 A2.out).mono ?_);(case side1=>repeat (first|exact (Kd.C_below HR0_3.out HB.out)|(with_reducible refine Kd.C_alloc ?_ _)|(with_reducible refine Kd.C_drewN ?_ _)|(with_reducible refine Kd.C_drew ?_)));(case side2=>exact HC0_3.out);(case side3=>repeat (first|exact (Kd.C_below HR0_8.out HB.out)|(with_reducible refine Kd.C_alloc ?_ _)|(with_reducible refine Kd.C_drewN ?_ _)|(with_reducible refine Kd.C_drew ?_)));(case side4=>exact HC0_8.out);rintro e w6 ⟨rfl,hb⟩;refine ⟨_,rfl,?_⟩;have n0_:=mk12_ (blk_below (g:=gb275) (o:=.cells #[.int .i64 a0_0,.int .i64 a0_1,.int .i64 a0_2,.slice A0_3 l0_3.length c0_3,.int .i64 a0_4,.int .i64 a0_5,.bool a0_6,.int .i64 a0_7,.slice A0_8 l0_8.length c0_8] 38 (0,0)) (by (with_reducible repeat (first|refine kN12_ ?_ _|refine kD12_ ?_|refine blk_alloc ?_ _));exact BK275.out) hb);have n1_:=mk12_ (bT12_ (by repeat (first|(with_reducible first|exact HB.out|apply bA12_|apply bN12_|apply bD12_|refine bS12_ ?_ GE275.out)|exact HB.out)) hb);clear BK275;clear HB;have BK275:=n0_;have HB:=n1_;clear n0_ n1_;(try clear hb);(try clear hb2);(try clear hk);(try clear hi);have hcz7_0:w6.cell? ⟨gb275,0,none⟩=some (.int .i64 a0_0):=(blk_cell BK275.out 0).trans rfl;have hcz7_1:w6.cell? ⟨gb275,1,none⟩=some (.int .i64 a0_1):=(blk_cell BK275.out 1).trans rfl;have hcz7_2:w6.cell? ⟨gb275,2,none⟩=some (.int .i64 a0_2):=(blk_cell BK275.out 2).trans rfl;have hcz7_3:w6.cell? ⟨gb275,3,none⟩=some (.slice A0_3 l0_3.length c0_3):=(blk_cell BK275.out 3).trans rfl;have hcz7_4:w6.cell? ⟨gb275,4,none⟩=some (.int .i64 a0_4):=(blk_cell BK275.out 4).trans rfl;have hcz7_5:w6.cell? ⟨gb275,5,none⟩=some (.int .i64 a0_5):=(blk_cell BK275.out 5).trans rfl;have hcz7_6:w6.cell? ⟨gb275,6,none⟩=some (.bool a0_6):=(blk_cell BK275.out 6).trans rfl;have hcz7_7:w6.cell? ⟨gb275,7,none⟩=some (.int .i64 a0_7):=(blk_cell BK275.out 7).trans rfl;have hcz7_8:w6.cell? ⟨gb275,8,none⟩=some (.slice A0_8 l0_8.length c0_8):=(blk_cell BK275.out 8).trans rfl;have hfz7_0:=fZ12_ BK275.out 0;have hfz7_1:=fZ12_ BK275.out 1;have hfz7_2:=fZ12_ BK275.out 2;have hfz7_3:=fZ12_ BK275.out 3;have hfz7_4:=fZ12_ BK275.out 4;have hfz7_5:=fZ12_ BK275.out 5;have hfz7_6:=fZ12_ BK275.out 6;have hfz7_7:=fZ12_ BK275.out 7;have hfz7_8:=fZ12_ BK275.out 8))
  go_ret
  exact ⟨by first|rfl|(simp [errW_none,errW_some] <;> rfl)|(simp [*,errW_none,errW_some] <;> rfl),by repeat (first|(with_reducible first|exact HB.out|apply bA12_|apply bN12_|apply bD12_|refine bS12_ ?_ GE275.out)|exact HB.out)⟩
 ·replace c3 := Bool.eq_false_iff.mpr c3
  subst c3
  have H1 : (some 0) = some r := by rw [if_neg (show ¬ (false = true) by decide)] at H; exact H
  clear H
  have H := H1
  clear H1
  obtain rfl := Option.some.inj H
  go_enter Try.func10, Try.ntmps10
  go_wp2_with (first|((with_reducible refine gate_dst (N:=1) rfl ?_);refine box_event ?hg (N:=1) ?hd (cs:=#[.int .i64 a0_0,.int .i64 a0_1,.int .i64 a0_2,.slice A0_3 l0_3.length c0_3,.int .i64 a0_4,.int .i64 a0_5,.bool a0_6,.int .i64 a0_7,.slice A0_8 l0_8.length c0_8]) (t:=38) ?hr ?_;(case hd=>rfl);(case hg=>rfl);(case hr=>first|(go_simp;done)|(go_simp;rfl));intro gb275 hg w8 hbox hb;have n0_:=mk12_ (bT12_ (by repeat (first|(with_reducible first|exact HB.out|apply bA12_|apply bN12_|apply bD12_)|exact HB.out)) hb);have n1_:=mk12_ (hbox);have n2_:=mk12_ ((by rw [hg];exact (bZ12_ (by repeat (first|(with_reducible first|exact HB.out|apply bA12_|apply bN12_|apply bD12_)|exact HB.out))):w.heap.size≤gb275));have n3_:=mk12_ ((by rw [hg];exact (bZ12_ (by repeat (first|(with_reducible first|exact HB.out|apply bA12_|apply bN12_|apply bD12_)|exact HB.out))):w.heap.size≤gb275));clear HB;have HB:=n0_;have BK275:=n1_;have GW275:=n2_;have GE275:=n3_;clear n0_ n1_ n2_ n3_;clear hb hbox hg;have hcz9_0:w8.cell? ⟨gb275,0,none⟩=some (.int .i64 a0_0):=(blk_cell BK275.out 0).trans rfl;have hcz9_1:w8.cell? ⟨gb275,1,none⟩=some (.int .i64 a0_1):=(blk_cell BK275.out 1).trans rfl;have hcz9_2:w8.cell? ⟨gb275,2,none⟩=some (.int .i64 a0_2):=(blk_cell BK275.out 2).trans rfl;have hcz9_3:w8.cell? ⟨gb275,3,none⟩=some (.slice A0_3 l0_3.length c0_3):=(blk_cell BK275.out 3).trans rfl;have hcz9_4:w8.cell? ⟨gb275,4,none⟩=some (.int .i64 a0_4):=(blk_cell BK275.out 4).trans rfl;have hcz9_5:w8.cell? ⟨gb275,5,none⟩=some (.int .i64 a0_5):=(blk_cell BK275.out 5).trans rfl;have hcz9_6:w8.cell? ⟨gb275,6,none⟩=some (.bool a0_6):=(blk_cell BK275.out 6).trans rfl;have hcz9_7:w8.cell? ⟨gb275,7,none⟩=some (.int .i64 a0_7):=(blk_cell BK275.out 7).trans rfl;have hcz9_8:w8.cell? ⟨gb275,8,none⟩=some (.slice A0_8 l0_8.length c0_8):=(blk_cell BK275.out 8).trans rfl;have hfz9_0:=fZ12_ BK275.out 0;have hfz9_1:=fZ12_ BK275.out 1;have hfz9_2:=fZ12_ BK275.out 2;have hfz9_3:=fZ12_ BK275.out 3;have hfz9_4:=fZ12_ BK275.out 4;have hfz9_5:=fZ12_ BK275.out 5;have hfz9_6:=fZ12_ BK275.out 6;have hfz9_7:=fZ12_ BK275.out 7;have hfz9_8:=fZ12_ BK275.out 8)|((with_reducible refine gate_callee (f:=6) rfl ?_);refine goesL_ (some 4) rfl rfl Try.func6 (by kernel_rfl) rfl #[.agg #[.int .i64 a0_0,.int .i64 a0_1,.int .i64 a0_2,.slice A0_3 l0_3.length c0_3,.int .i64 a0_4,.int .i64 a0_5,.bool a0_6,.int .i64 a0_7,.slice A0_8 l0_8.length c0_8]] rfl (by (try simp only [List.map_toArray,List.map_cons,List.map_nil]);first|done|rfl|(simp only [List.length_drop,List.length_take];rfl)) ?_;(with_reducible refine (spec_ValidDevice.calls k a0_0 a0_1 a0_2 _ _ l0_3 a0_4 a0_5 a0_6 a0_7 _ _ l0_8 false _ ?side1 ?side2 ?side3 ?side4 A2.out).mono ?_);(case side1=>repeat (first|exact (Kd.C_below HR0_3.out HB.out)|(with_reducible refine Kd.C_alloc ?_ _)|(with_reducible refine Kd.C_drewN ?_ _)|(with_reducible refine Kd.C_drew ?_)));(case side2=>exact HC0_3.out);(case side3=>repeat (first|exact (Kd.C_below HR0_8.out HB.out)|(with_reducible refine Kd.C_alloc ?_ _)|(with_reducible refine Kd.C_drewN ?_ _)|(with_reducible refine Kd.C_drew ?_)));(case side4=>exact HC0_8.out);rintro e w10 ⟨rfl,hb⟩;refine ⟨_,rfl,?_⟩;have n0_:=mk12_ (blk_below (g:=gb275) (o:=.cells #[.int .i64 a0_0,.int .i64 a0_1,.int .i64 a0_2,.slice A0_3 l0_3.length c0_3,.int .i64 a0_4,.int .i64 a0_5,.bool a0_6,.int .i64 a0_7,.slice A0_8 l0_8.length c0_8] 38 (0,0)) (by (with_reducible repeat (first|refine kN12_ ?_ _|refine kD12_ ?_|refine blk_alloc ?_ _));exact BK275.out) hb);have n1_:=mk12_ (bT12_ (by repeat (first|(with_reducible first|exact HB.out|apply bA12_|apply bN12_|apply bD12_|refine bS12_ ?_ GE275.out)|exact HB.out)) hb);clear BK275;clear HB;have BK275:=n0_;have HB:=n1_;clear n0_ n1_;(try clear hb);(try clear hb2);(try clear hk);(try clear hi)))
  go_ret
  exact ⟨by first|rfl|(simp [errW_none,errW_some] <;> rfl)|(simp [*,errW_none,errW_some] <;> rfl),by repeat (first|(with_reducible first|exact HB.out|apply bA12_|apply bN12_|apply bD12_|refine bS12_ ?_ GE275.out)|exact HB.out)⟩

def impl_within.f (a0:Int) (a1:Int) (a2:Int):Option (Bool):=if a0 ≥ a1 then (some (decide (a0≤a2))) else (some false)
set_option maxHeartbeats 8000000 in
set_option maxRecDepth 100000 in
theorem impl_within.calls (a0:Int) (a1:Int) (a2:Int) (r:Bool) (w:World) (h:impl_within.f a0 a1 a2=some r) :
  Calls Try.prog 23 #[.int .i64 a0,.int .i64 a1,.int .i64 a2] w fun e w'=>e=.returned (.bool r)∧Drawn0 w w':=by
 have H : (if a0 ≥ a1 then (some (decide (a0 ≤ a2))) else (some false)) = some r := h
 clear h
 by_cases c4 : a0 ≥ a1
 ·rw [if_pos c4] at H
  have c4b0 : decide (a1 ≤ a0) = true := decide_eq_true c4
  clear c4
  obtain rfl := Option.some.inj H
  go_enter Try.func23, Try.ntmps23
  go_wp2
  go_ret
  exact ⟨by first|rfl|(simp;done)|(simp [*];done),by repeat (first|exact Drawn0.refl _|apply Drawn0.step)⟩
 ·rw [if_neg c4] at H
  have c4b0 : decide (a1 ≤ a0) = false := decide_eq_false c4
  clear c4
  obtain rfl := Option.some.inj H
  go_enter Try.func23, Try.ntmps23
  go_wp2
  go_ret
  exact ⟨by first|rfl|(simp;done)|(simp [*];done),by repeat (first|exact Drawn0.refl _|apply Drawn0.step)⟩

def impl_ValidGeometry.f (a0_0:Int) (a0_1:Int) (a0_2:Int):Option (Bool):=(impl_within.f a0_0 2 3).bind fun t278=>(if t278=true then ((impl_within.f a0_1 4 12).bind fun t279=>(if t279=true then (if a0_2=8 then (some true) else (some (a0_2 == 16))) else (some false))) else (some false))
set_option maxHeartbeats 8000000 in
set_option maxRecDepth 100000 in
theorem impl_ValidGeometry.calls (a0_0:Int) (a0_1:Int) (a0_2:Int) (r:Bool) (w:World) (h:impl_ValidGeometry.f a0_0 a0_1 a0_2=some r) :
  Calls Try.prog 39 #[.agg #[.int .i64 a0_0,.int .i64 a0_1,.int .i64 a0_2]] w fun e w'=>e=.returned (.bool r)∧Below w.heap.size w w':=by
 have hu32 := Try.underlying32
 have HB := Aside0.mk (Below.refl w.heap.size w)
 have H:((impl_within.f a0_0 2 3).bind fun t278=>(if t278=true then ((impl_within.f a0_1 4 12).bind fun t279=>(if t279=true then (if a0_2=8 then (some true) else (some (a0_2 == 16))) else (some false))) else (some false)))=some r:=h
 clear h
 replace H := Option.bind_eq_some_iff.mp H
 obtain ⟨t278, A20, H⟩ := H
 replace H:(if t278=true then ((impl_within.f a0_1 4 12).bind fun t279=>(if t279=true then (if a0_2=8 then (some true) else (some (a0_2 == 16))) else (some false))) else (some false))=some r:=H
 have A2 := Aside0.mk A20
 clear A20
 by_cases c3 : t278 = true
 ·subst c3
  have H1:((impl_within.f a0_1 4 12).bind fun t279=>(if t279=true then (if a0_2=8 then (some true) else (some (a0_2 == 16))) else (some false)))=some r:=by rw [if_pos rfl] at H;exact H
  clear H
  have H := H1
  clear H1
  replace H := Option.bind_eq_some_iff.mp H
  obtain ⟨t279, A40, H⟩ := H
  replace H:(if t279=true then (if a0_2=8 then (some true) else (some (a0_2 == 16))) else (some false))=some r:=H
  have A4 := Aside0.mk A40
  clear A40
  by_cases c5 : t279 = true
  ·subst c5
   have H1:(if a0_2=8 then (some true) else (some (a0_2 == 16)))=some r:=by rw [if_pos rfl] at H;exact H
   clear H
   have H := H1
   clear H1
   by_cases c6 : a0_2 = 8
   ·rw [if_pos c6] at H
    have c6b0 : (a0_2 == 8) = true := beq_iff_eq.mpr c6
    have c6b1 : (a0_2 != 8) = false := bne_eq_false_iff_eq.mpr c6
    clear c6
    obtain rfl := Option.some.inj H
    go_enter Try.func39, Try.ntmps39
    go_wp2_with (first|((with_reducible refine gate_dst (N:=1) rfl ?_);refine box_event ?hg (N:=1) ?hd (cs:=#[.int .i64 a0_0,.int .i64 a0_1,.int .i64 a0_2]) (t:=32) ?hr ?_;(case hd=>rfl);(case hg=>rfl);(case hr=>first|(go_simp;done)|(go_simp;rfl));intro gb277 hg w7 hbox hb;have n0_:=mk12_ (bT12_ (by repeat (first|(with_reducible first|exact HB.out|apply bA12_|apply bN12_|apply bD12_)|exact HB.out)) hb);have n1_:=mk12_ (hbox);have n2_:=mk12_ ((by rw [hg];exact (bZ12_ (by repeat (first|(with_reducible first|exact HB.out|apply bA12_|apply bN12_|apply bD12_)|exact HB.out))):w.heap.size≤gb277));have n3_:=mk12_ ((by rw [hg];exact (bZ12_ (by repeat (first|(with_reducible first|exact HB.out|apply bA12_|apply bN12_|apply bD12_)|exact HB.out))):w.heap.size≤gb277));clear HB;have HB:=n0_;have BK277:=n1_;have GW277:=n2_;have GE277:=n3_;clear n0_ n1_ n2_ n3_;clear hb hbox hg;have hcz8_0:w7.cell? ⟨gb277,0,none⟩=some (.int .i64 a0_0):=(blk_cell BK277.out 0).trans rfl;have hcz8_1:w7.cell? ⟨gb277,1,none⟩=some (.int .i64 a0_1):=(blk_cell BK277.out 1).trans rfl;have hcz8_2:w7.cell? ⟨gb277,2,none⟩=some (.int .i64 a0_2):=(blk_cell BK277.out 2).trans rfl;have hfz8_0:=fZ12_ BK277.out 0;have hfz8_1:=fZ12_ BK277.out 1;have hfz8_2:=fZ12_ BK277.out 2)|((with_reducible refine gate_callee (f:=23) rfl ?_);refine goesL_ (some 5) rfl rfl Try.func23 (by kernel_rfl) rfl #[.int .i64 a0_0,.int .i64 2,.int .i64 3] rfl (by (try simp only [List.map_toArray,List.map_cons,List.map_nil]);first|done|rfl|(simp only [List.length_drop,List.length_take];rfl)) ?_;(with_reducible refine (impl_within.calls a0_0 2 3 true _ A2.out).mono ?_);rintro e w' ⟨rfl,⟨nd,rfl⟩⟩;refine ⟨_,rfl,?_⟩)|(go_at_call 23;(with_reducible refine (impl_within.calls a0_1 4 12 true _ A4.out).mono ?_);rintro e w' ⟨rfl,⟨nd,rfl⟩⟩))
    go_ret
    exact ⟨by first|rfl|(simp [errW_none,errW_some] <;> rfl)|(simp [*,errW_none,errW_some] <;> rfl),by repeat (first|(with_reducible first|exact HB.out|apply bA12_|apply bN12_|apply bD12_|refine bS12_ ?_ GE277.out)|exact HB.out)⟩
   ·rw [if_neg c6] at H
    have c6b0 : (a0_2 == 8) = false := beq_eq_false_iff_ne.mpr c6
    have c6b1 : (a0_2 != 8) = true := bne_iff_ne.mpr c6
    obtain rfl := Option.some.inj H
    go_enter Try.func39, Try.ntmps39
    go_wp2_with (first|((with_reducible refine gate_dst (N:=1) rfl ?_);refine box_event ?hg (N:=1) ?hd (cs:=#[.int .i64 a0_0,.int .i64 a0_1,.int .i64 a0_2]) (t:=32) ?hr ?_;(case hd=>rfl);(case hg=>rfl);(case hr=>first|(go_simp;done)|(go_simp;rfl));intro gb277 hg w9 hbox hb;have n0_:=mk12_ (bT12_ (by repeat (first|(with_reducible first|exact HB.out|apply bA12_|apply bN12_|apply bD12_)|exact HB.out)) hb);have n1_:=mk12_ (hbox);have n2_:=mk12_ ((by rw [hg];exact (bZ12_ (by repeat (first|(with_reducible first|exact HB.out|apply bA12_|apply bN12_|apply bD12_)|exact HB.out))):w.heap.size≤gb277));have n3_:=mk12_ ((by rw [hg];exact (bZ12_ (by repeat (first|(with_reducible first|exact HB.out|apply bA12_|apply bN12_|apply bD12_)|exact HB.out))):w.heap.size≤gb277));clear HB;have HB:=n0_;have BK277:=n1_;have GW277:=n2_;have GE277:=n3_;clear n0_ n1_ n2_ n3_;clear hb hbox hg;have hcz10_0:w9.cell? ⟨gb277,0,none⟩=some (.int .i64 a0_0):=(blk_cell BK277.out 0).trans rfl;have hcz10_1:w9.cell? ⟨gb277,1,none⟩=some (.int .i64 a0_1):=(blk_cell BK277.out 1).trans rfl;have hcz10_2:w9.cell? ⟨gb277,2,none⟩=some (.int .i64 a0_2):=(blk_cell BK277.out 2).trans rfl;have hfz10_0:=fZ12_ BK277.out 0;have hfz10_1:=fZ12_ BK277.out 1;have hfz10_2:=fZ12_ BK277.out 2)|((with_reducible refine gate_callee (f:=23) rfl ?_);refine goesL_ (some 5) rfl rfl Try.func23 (by kernel_rfl) rfl #[.int .i64 a0_0,.int .i64 2,.int .i64 3] rfl (by (try simp only [List.map_toArray,List.map_cons,List.map_nil]);first|done|rfl|(simp only [List.length_drop,List.length_take];rfl)) ?_;(with_reducible refine (impl_within.calls a0_0 2 3 true _ A2.out).mono ?_);rintro e w' ⟨rfl,⟨nd,rfl⟩⟩;refine ⟨_,rfl,?_⟩)|(go_at_call 23;(with_reducible refine (impl_within.calls a0_1 4 12 true _ A4.out).mono ?_);rintro e w' ⟨rfl,⟨nd,rfl⟩⟩))
    go_ret
    exact ⟨by first|rfl|(simp [errW_none,errW_some] <;> rfl)|(simp [*,errW_none,errW_some] <;> rfl),by repeat (first|(with_reducible first|exact HB.out|apply bA12_|apply bN12_|apply bD12_|refine bS12_ ?_ GE277.out)|exact HB.out)⟩
  ·replace c5 := Bool.eq_false_iff.mpr c5
   subst c5
   have H1:(some false)=some r:=by rw [if_neg (show ¬ (false=true) by decide)] at H;exact H
   clear H
   have H := H1
   clear H1
   obtain rfl := Option.some.inj H
   go_enter Try.func39, Try.ntmps39
   go_wp2_with (first|((with_reducible refine gate_dst (N:=1) rfl ?_);refine box_event ?hg (N:=1) ?hd (cs:=#[.int .i64 a0_0,.int .i64 a0_1,.int .i64 a0_2]) (t:=32) ?hr ?_;(case hd=>rfl);(case hg=>rfl);(case hr=>first|(go_simp;done)|(go_simp;rfl));intro gb277 hg w11 hbox hb;have n0_:=mk12_ (bT12_ (by repeat (first|(with_reducible first|exact HB.out|apply bA12_|apply bN12_|apply bD12_)|exact HB.out)) hb);have n1_:=mk12_ (hbox);have n2_:=mk12_ ((by rw [hg];exact (bZ12_ (by repeat (first|(with_reducible first|exact HB.out|apply bA12_|apply bN12_|apply bD12_)|exact HB.out))):w.heap.size≤gb277));have n3_:=mk12_ ((by rw [hg];exact (bZ12_ (by repeat (first|(with_reducible first|exact HB.out|apply bA12_|apply bN12_|apply bD12_)|exact HB.out))):w.heap.size≤gb277));clear HB;have HB:=n0_;have BK277:=n1_;have GW277:=n2_;have GE277:=n3_;clear n0_ n1_ n2_ n3_;clear hb hbox hg;have hcz12_0:w11.cell? ⟨gb277,0,none⟩=some (.int .i64 a0_0):=(blk_cell BK277.out 0).trans rfl;have hcz12_1:w11.cell? ⟨gb277,1,none⟩=some (.int .i64 a0_1):=(blk_cell BK277.out 1).trans rfl;have hcz12_2:w11.cell? ⟨gb277,2,none⟩=some (.int .i64 a0_2):=(blk_cell BK277.out 2).trans rfl;have hfz12_0:=fZ12_ BK277.out 0;have hfz12_1:=fZ12_ BK277.out 1;have hfz12_2:=fZ12_ BK277.out 2)|((with_reducible refine gate_callee (f:=23) rfl ?_);refine goesL_ (some 5) rfl rfl Try.func23 (by kernel_rfl) rfl #[.int .i64 a0_0,.int .i64 2,.int .i64 3] rfl (by (try simp only [List.map_toArray,List.map_cons,List.map_nil]);first|done|rfl|(simp only [List.length_drop,List.length_take];rfl)) ?_;(with_reducible refine (impl_within.calls a0_0 2 3 true _ A2.out).mono ?_);rintro e w' ⟨rfl,⟨nd,rfl⟩⟩;refine ⟨_,rfl,?_⟩)|(go_at_call 23;(with_reducible refine (impl_within.calls a0_1 4 12 false _ A4.out).mono ?_);rintro e w' ⟨rfl,⟨nd,rfl⟩⟩))
   go_ret
   exact ⟨by first|rfl|(simp [errW_none,errW_some] <;> rfl)|(simp [*,errW_none,errW_some] <;> rfl),by repeat (first|(with_reducible first|exact HB.out|apply bA12_|apply bN12_|apply bD12_|refine bS12_ ?_ GE277.out)|exact HB.out)⟩
 ·replace c3 := Bool.eq_false_iff.mpr c3
  subst c3
  have H1:(some false)=some r:=by rw [if_neg (show ¬ (false=true) by decide)] at H;exact H
  clear H
  have H := H1
  clear H1
  obtain rfl := Option.some.inj H
  go_enter Try.func39, Try.ntmps39
  go_wp2_with (first|((with_reducible refine gate_dst (N:=1) rfl ?_);refine box_event ?hg (N:=1) ?hd (cs:=#[.int .i64 a0_0,.int .i64 a0_1,.int .i64 a0_2]) (t:=32) ?hr ?_;(case hd=>rfl);(case hg=>rfl);(case hr=>first|(go_simp;done)|(go_simp;rfl));intro gb277 hg w13 hbox hb;have n0_:=mk12_ (bT12_ (by repeat (first|(with_reducible first|exact HB.out|apply bA12_|apply bN12_|apply bD12_)|exact HB.out)) hb);have n1_:=mk12_ (hbox);have n2_:=mk12_ ((by rw [hg];exact (bZ12_ (by repeat (first|(with_reducible first|exact HB.out|apply bA12_|apply bN12_|apply bD12_)|exact HB.out))):w.heap.size≤gb277));have n3_:=mk12_ ((by rw [hg];exact (bZ12_ (by repeat (first|(with_reducible first|exact HB.out|apply bA12_|apply bN12_|apply bD12_)|exact HB.out))):w.heap.size≤gb277));clear HB;have HB:=n0_;have BK277:=n1_;have GW277:=n2_;have GE277:=n3_;clear n0_ n1_ n2_ n3_;clear hb hbox hg;have hcz14_0:w13.cell? ⟨gb277,0,none⟩=some (.int .i64 a0_0):=(blk_cell BK277.out 0).trans rfl;have hcz14_1:w13.cell? ⟨gb277,1,none⟩=some (.int .i64 a0_1):=(blk_cell BK277.out 1).trans rfl;have hcz14_2:w13.cell? ⟨gb277,2,none⟩=some (.int .i64 a0_2):=(blk_cell BK277.out 2).trans rfl;have hfz14_0:=fZ12_ BK277.out 0;have hfz14_1:=fZ12_ BK277.out 1;have hfz14_2:=fZ12_ BK277.out 2)|((with_reducible refine gate_callee (f:=23) rfl ?_);refine goesL_ (some 5) rfl rfl Try.func23 (by kernel_rfl) rfl #[.int .i64 a0_0,.int .i64 2,.int .i64 3] rfl (by (try simp only [List.map_toArray,List.map_cons,List.map_nil]);first|done|rfl|(simp only [List.length_drop,List.length_take];rfl)) ?_;(with_reducible refine (impl_within.calls a0_0 2 3 false _ A2.out).mono ?_);rintro e w' ⟨rfl,⟨nd,rfl⟩⟩;refine ⟨_,rfl,?_⟩))
  go_ret
  exact ⟨by first|rfl|(simp [errW_none,errW_some] <;> rfl)|(simp [*,errW_none,errW_some] <;> rfl),by repeat (first|(with_reducible first|exact HB.out|apply bA12_|apply bN12_|apply bD12_|refine bS12_ ?_ GE277.out)|exact HB.out)⟩

def impl_Geometry_all.f (a0_0:Int) (a0_1:Int) (a0_2:Int):Option (Int):=some (wrap64 (a0_0 * a0_1))
set_option maxHeartbeats 8000000 in
set_option maxRecDepth 100000 in
theorem impl_Geometry_all.calls (a0_0:Int) (a0_1:Int) (a0_2:Int) (r:Int) (w:World) (h:impl_Geometry_all.f a0_0 a0_1 a0_2=some r) :
  Calls Try.prog 40 #[.agg #[.int .i64 a0_0,.int .i64 a0_1,.int .i64 a0_2]] w fun e w'=>e=.returned (.int .i64 r)∧Below w.heap.size w w':=by
 have hu32 := Try.underlying32
 have HB := Aside0.mk (Below.refl w.heap.size w)
 have H : (some (wrap64 (a0_0 * a0_1))) = some r := h
 clear h
 obtain rfl := Option.some.inj H
 go_enter Try.func40, Try.ntmps40
 go_wp2_with (first|((with_reducible refine gate_dst (N:=1) rfl ?_);refine box_event ?hg (N:=1) ?hd (cs:=#[.int .i64 a0_0,.int .i64 a0_1,.int .i64 a0_2]) (t:=32) ?hr ?_;(case hd=>rfl);(case hg=>rfl);(case hr=>first|(go_simp;done)|(go_simp;rfl));intro gb280 hg w2 hbox hb;have n0_:=mk12_ (bT12_ (by repeat (first|(with_reducible first|exact HB.out|apply bA12_|apply bN12_|apply bD12_)|exact HB.out)) hb);have n1_:=mk12_ (hbox);have n2_:=mk12_ ((by rw [hg];exact (bZ12_ (by repeat (first|(with_reducible first|exact HB.out|apply bA12_|apply bN12_|apply bD12_)|exact HB.out))):w.heap.size≤gb280));have n3_:=mk12_ ((by rw [hg];exact (bZ12_ (by repeat (first|(with_reducible first|exact HB.out|apply bA12_|apply bN12_|apply bD12_)|exact HB.out))):w.heap.size≤gb280));clear HB;have HB:=n0_;have BK280:=n1_;have GW280:=n2_;have GE280:=n3_;clear n0_ n1_ n2_ n3_;clear hb hbox hg;have hcz3_0:w2.cell? ⟨gb280,0,none⟩=some (.int .i64 a0_0):=(blk_cell BK280.out 0).trans rfl;have hcz3_1:w2.cell? ⟨gb280,1,none⟩=some (.int .i64 a0_1):=(blk_cell BK280.out 1).trans rfl;have hcz3_2:w2.cell? ⟨gb280,2,none⟩=some (.int .i64 a0_2):=(blk_cell BK280.out 2).trans rfl;have hfz3_0:=fZ12_ BK280.out 0;have hfz3_1:=fZ12_ BK280.out 1;have hfz3_2:=fZ12_ BK280.out 2))
 go_ret
 exact ⟨by first|rfl|(simp [errW_none,errW_some] <;> rfl)|(simp [*,errW_none,errW_some] <;> rfl),by repeat (first|(with_reducible first|exact HB.out|apply bA12_|apply bN12_|apply bD12_|refine bS12_ ?_ GE280.out)|exact HB.out)⟩

-- NOT PRINTED: function 59 (impl_Block_59)

-- NOT PRINTED: function 41 (impl_Block_41)

def IsS38 (w0 W:World) (g:Nat) (f0:Int) (f1:Int) (f2:Int) (f3:List (S68)) (f4:Int) (f5:Int) (f6:Bool) (f7:Int) (f8:List (S50)):Prop:=∃ A3 c3,∃ A8 c8,W.heap[g]?=some (.cells #[.int .i64 f0,.int .i64 f1,.int .i64 f2,.slice A3 f3.length c3,.int .i64 f4,.int .i64 f5,.bool f6,.int .i64 f7,.slice A8 f8.length c8] 38 (0,0))∧w0.heap.size≤g∧Kd.C k68 w0 A3 f3.length f3∧Kd.C k50 w0 A8 f8.length f8
theorem IsS38.grown {w0 W:World} {g:Nat} {f0:Int} {f1:Int} {f2:Int} {f3:List (S68)} {f4:Int} {f5:Int} {f6:Bool} {f7:Int} {f8:List (S50)} {W1:World} {row:Option Nat} (h:IsS38 w0 W g f0 f1 f2 f3 f4 f5 f6 f7 f8) (hw:W.grownBy W1 row) (hne:some g≠row):IsS38 w0 W1 g f0 f1 f2 f3 f4 f5 f6 f7 f8:=by
 obtain ⟨A3, c3, A8, c8, hb, hg, hr3, hr8⟩ := h
 exact ⟨A3, c3, A8, c8, blk_grown hb hw hne, hg, hr3, hr8⟩
theorem IsS38.kept {w0 W:World} {g:Nat} {f0:Int} {f1:Int} {f2:Int} {f3:List (S68)} {f4:Int} {f5:Int} {f6:Bool} {f7:Int} {f8:List (S50)} {W1:World} {S:Nat→Prop} (h:IsS38 w0 W g f0 f1 f2 f3 f4 f5 f6 f7 f8) (hk:Kept W W1 S) (hne:¬ S g):IsS38 w0 W1 g f0 f1 f2 f3 f4 f5 f6 f7 f8:=by
 obtain ⟨A3, c3, A8, c8, hb, hg, hr3, hr8⟩ := h
 exact ⟨A3, c3, A8, c8, blk_kept hb hk hne, hg, hr3, hr8⟩
theorem IsS38.below {w0 W:World} {g:Nat} {f0:Int} {f1:Int} {f2:Int} {f3:List (S68)} {f4:Int} {f5:Int} {f6:Bool} {f7:Int} {f8:List (S50)} {W1:World} (h:IsS38 w0 W g f0 f1 f2 f3 f4 f5 f6 f7 f8) (hw:Below W.heap.size W W1):IsS38 w0 W1 g f0 f1 f2 f3 f4 f5 f6 f7 f8:=h.grown (grown_of_below hw none) (by simp)
theorem IsS38.alloc {w0 W:World} {g:Nat} {f0:Int} {f1:Int} {f2:Int} {f3:List (S68)} {f4:Int} {f5:Int} {f6:Bool} {f7:Int} {f8:List (S50)} (h:IsS38 w0 W g f0 f1 f2 f3 f4 f5 f6 f7 f8) (o:Obj):IsS38 w0 (W.alloc o) g f0 f1 f2 f3 f4 f5 f6 f7 f8:=h.below (bA12_ (Below.refl _ _) o)
theorem IsS38.drew {w0 W:World} {g:Nat} {f0:Int} {f1:Int} {f2:Int} {f3:List (S68)} {f4:Int} {f5:Int} {f6:Bool} {f7:Int} {f8:List (S50)} (h:IsS38 w0 W g f0 f1 f2 f3 f4 f5 f6 f7 f8):IsS38 w0 W.drew g f0 f1 f2 f3 f4 f5 f6 f7 f8:=h
theorem IsS38.apart {w0 W:World} {g:Nat} {f0:Int} {f1:Int} {f2:Int} {f3:List (S68)} {f4:Int} {f5:Int} {f6:Bool} {f7:Int} {f8:List (S50)} {α:Type} {d:Kd α} {e:Nat} {base:Nat} {ok:Nat→Prop} {v:Value} {xs:List α} (h:IsS38 w0 W g f0 f1 f2 f3 f4 f5 f6 f7 f8) (ho:d.R e W base ok v xs) (ht:∀ q,q ∈ e::d.E→q≠38):d.R e W base (fun k=>ok k∧k≠g) v xs:=by
 obtain ⟨A3, c3, A8, c8, hb, hg, hr3, hr8⟩ := h
 exact Kd.R_types ho hb ht

def impl_Device_placesOk.l0:Nat→List Int→Int→Int→Int→Int→Int→List (S68)→Int→Int→Bool→Int→List (S50)→Option (Bool × Int × Int × Int × Int × Int × Bool × Int)
 | 0, _, _, _, _, _, _, _, _, _, _, _, _ => none
 | k+1,x19,x20,x21,x1000,x1001,x1002,x1003,x1004,x1005,x1006,x1007,x1008=>if x21 < x20 then (if 0≤x21 then (if x21 < (x19.length:Int) then ((impl_within.f (rd x19 x21) (wrap64 (x21 * x1001)) (wrap64 ((wrap64 ((wrap64 (x21 * x1001))+x1001)) - 1))).bind fun t283=>(if t283=true then (impl_Device_placesOk.l0 k x19 x20 (wrap64 (x21+1)) x1000 x1001 x1002 x1003 x1004 x1005 x1006 x1007 x1008) else (some (false,x1000,x1001,x1002,x1004,x1005,x1006,x1007)))) else (none)) else (none)) else (some (true,x1000,x1001,x1002,x1004,x1005,x1006,x1007))
def impl_Device_placesOk.f (k:Nat) (s0_0:Int) (s0_1:Int) (s0_2:Int) (s0_3:List (S68)) (s0_4:Int) (s0_5:Int) (s0_6:Bool) (s0_7:Int) (s0_8:List (S50)) (a1_0:Int) (l1_1:List Int) (a1_2:Int) (a1_3:Int) (l1_4:List Int) (l1_5:List ByteArray):Option (Bool × Int × Int × Int × Int × Int × Bool × Int):=if (l1_1.length:Int)=s0_0 then (impl_Device_placesOk.l0 k l1_1 (l1_1.length:Int) 0 s0_0 s0_1 s0_2 s0_3 s0_4 s0_5 s0_6 s0_7 s0_8) else (some (false,s0_0,s0_1,s0_2,s0_4,s0_5,s0_6,s0_7))

-- NOT PRINTED: function 67 (slices_IndexFunc_int64_int64)

-- NOT PRINTED: function 60 (slices_ContainsFunc_int64_int64)

-- impl_allWithin: function 44: its contract stands in Derived.Test.YtdjbphffibcbeaaXAllW

def impl_Device_units.f (s0_0:Int) (s0_1:Int) (s0_2:Int) (s0_3:List (S68)) (s0_4:Int) (s0_5:Int) (s0_6:Bool) (s0_7:Int) (s0_8:List (S50)):Option (Int × Int × Int × Int × Int × Int × Bool × Int):=some (wrap64 (s0_0 - 1),s0_0,s0_1,s0_2,s0_4,s0_5,s0_6,s0_7)

def impl_total.l0 : Nat → Int → List Int → Int → Int → Option (Int)
 | 0, _, _, _, _ => none
 | k+1,x3,x6,x7,x8=>if x8 < x7 then (if 0≤x8 then (if x8 < (x6.length:Int) then (impl_total.l0 k (wrap64 (x3+(rd x6 x8))) x6 x7 (wrap64 (x8+1))) else (none)) else (none)) else (some x3)
def impl_total.f (k:Nat) (l0:List Int):Option (Int):=impl_total.l0 k 0 l0 (l0.length:Int) 0
set_option maxHeartbeats 8000000 in
set_option maxRecDepth 100000 in
theorem impl_total.calls (k:Nat) (A0:Option Addr) (c0:Nat) (l0:List Int) (r:Int) (w:World) (hr0:Kd.C (Kd.int .i64) w A0 l0.length l0) (hc0:l0.length≤c0) (h:impl_total.f k l0=some r) :
  Calls Try.prog 46 #[.slice A0 l0.length c0] w fun e w'=>e=.returned (.int .i64 r)∧Drawn0 w w':=by
 have HR0 := Aside0.mk hr0
 have HC0 := Aside0.mk hc0
 clear hr0 hc0
 have H : (impl_total.l0 k 0 l0 (l0.length : Int) 0) = some r := h
 clear h
 have H' := Aside0.mk H
 clear H
 go_enter Try.func46, Try.ntmps46
 go_wp2
 go_loopg [3,8] k (fun kq v3 v8 w'=>∃ (x3_1:Int) (x8_1:Int),v3=.int .i64 x3_1∧v8=.int .i64 x8_1∧Aside0 (impl_total.l0 kq x3_1 l0 (l0.length:Int) x8_1=some r)∧Aside0 (kq≤k)∧Drawn0 w w')
 case atStart=>exact ⟨(0),(0),(by first|rfl|(simp;done)|(simp [*];done)),(by first|rfl|(simp;done)|(simp [*];done)),H',⟨Nat.le_refl _⟩,by repeat (first|exact Drawn0.refl _|apply Drawn0.step)⟩
 case round =>
  clear H'
  obtain ⟨x3_1, x8_1, rfl, rfl, HA, HK1, ⟨m1, rfl⟩⟩ := hrel
  cases gk with
  | zero => exact absurd HA.out (by simp [impl_total.l0])
  | succ k1 =>
   have H := HA.out
   clear HA
   simp only [impl_total.l0] at H
   by_cases c2 : x8_1 < (l0.length : Int)
   ·rw [if_pos c2] at H
    have c2b0 : decide (x8_1 < (l0.length : Int)) = true := decide_eq_true c2
    clear c2
    by_cases c3 : 0 ≤ x8_1
    ·rw [if_pos c3] at H
     have c3b0 : decide (0 ≤ x8_1) = true := decide_eq_true c3
     clear c3
     by_cases c4 : x8_1 < (l0.length : Int)
     ·rw [if_pos c4] at H
      have c4b0 : decide (x8_1 < (l0.length : Int)) = true := decide_eq_true c4
      clear c4
      have H' := Aside0.mk H
      clear H
      have p284:0≤(x8_1:Int):=of_decide_eq_true (by first|(with_reducible assumption)|assumption)
      have q284:x8_1 < (l0.length:Int):=of_decide_eq_true (by first|(with_reducible assumption)|assumption)
      obtain ⟨ad284, e284, hx284_0⟩ := Kd.at_int HR0.out x8_1 p284 q284
      cases e284
      replace p284 := eq_true p284
      replace q284 := eq_true q284
      go_wp2
      go_roundg k1
      case measure => have := HK1.out; omega
      case rel=>exact ⟨(wrap64 (x3_1+(rd l0 x8_1))),(wrap64 (x8_1+1)),(by first|rfl|(simp;done)|(simp [*];done)),(by first|rfl|(simp;done)|(simp [*];done)),H',⟨by have:=HK1.out;omega⟩,by repeat (first|exact Drawn0.refl _|apply Drawn0.step)⟩
     ·rw [if_neg c4] at H
      exact absurd H (by simp)
    ·rw [if_neg c3] at H
     exact absurd H (by simp)
   ·rw [if_neg c2] at H
    have c2b0 : decide (x8_1 < (l0.length : Int)) = false := decide_eq_false c2
    clear c2
    obtain rfl := Option.some.inj H
    go_wp2
    go_ret
    exact ⟨by first|rfl|(simp;done)|(simp [*];done),by repeat (first|exact Drawn0.refl _|apply Drawn0.step)⟩

-- NOT PRINTED: function 62 (slices_IndexFunc_string_string)

-- NOT PRINTED: function 47 (slices_ContainsFunc_string_string)

-- NOT PRINTED: function 25 (impl_Device_contentsOk)

-- NOT PRINTED: function 49 (impl_Device_ready)

-- NOT PRINTED: function 26 (impl_Device_stateOk)

-- NOT PRINTED: function 29 (impl_Device_capacity)

end Go.Proofs.Ytdjbphffibcbeaa.Q
