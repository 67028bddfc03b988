/- The program's functions as Lean functions,and for each the proof that the machine's call comes to what its function says. Conditions: those that stand before each theorem. -/
import Derived.Test.YtdjbphffibcbeaaQ0
import Derived.Test.YtdjbphffibcbeaaQ1
import Derived.Test.YtdjbphffibcbeaaQ2
import Derived.Test.YtdjbphffibcbeaaQ4
import Derived.Test.YtdjbphffibcbeaaQ12
import Derived.Test.YtdjbphffibcbeaaXCapacity
import Derived.Test.YtdjbphffibcbeaaXFCapacityOf
namespace Go.Proofs.Ytdjbphffibcbeaa.Q
open Go.RowKit Go.Proofs.YtdjbphffibcbeaaW.PrintWords Go.Proofs.YtdjbphffibcbeaaW.PrintLast Go.Proofs.YtdjbphffibcbeaaW.PrintMore
abbrev kN16_ := @blk_drewN
abbrev kD16_ := @blk_drew
abbrev rN16_ := @Kd.R_drewN
abbrev bA16_ := @below_alloc
abbrev bN16_ := @pw_below_drewN
abbrev bD16_ := @below_drew1
abbrev bS16_ := @below_set
abbrev mk16_ := @Aside0.mk
abbrev fZ16_ := @blk_frozen
abbrev sB16_ := @Kd.S_below
abbrev bT16_ := @below_step
abbrev bZ16_ := @below_size
set_option linter.unusedVariables false
set_option linter.unusedSimpArgs false

-- BREAK impl_CapacityOf: function 11: its contract stands in Derived.Test.YtdjbphffibcbeaaXCapacity

def laws_FnExactCapacityOf.f (k:Nat) (a0_0:Int) (a0_1:Int) (a0_2:Int) (l0_3:List (S83)) (a0_4:Int) (a0_5:Int) (a0_6:Bool) (a0_7:Int) (l0_8:List (S64)):Option (Bool):=(laws_szDevice.f k a0_0 a0_1 a0_2 l0_3 a0_4 a0_5 a0_6 a0_7 l0_8 1048576).bind fun t314=>(if t314 < 0 then (some true) else ((laws_toDevice.f k a0_0 a0_1 a0_2 l0_3 a0_4 a0_5 a0_6 a0_7 l0_8).bind fun bt315=>((spec_CapacityOf.f k bt315.1 bt315.2.1 bt315.2.2.1 bt315.2.2.2.1 bt315.2.2.2.2.1 bt315.2.2.2.2.2.1 bt315.2.2.2.2.2.2.1 bt315.2.2.2.2.2.2.2.1 bt315.2.2.2.2.2.2.2.2).bind fun t328=>((laws_toDevice.f k a0_0 a0_1 a0_2 l0_3 a0_4 a0_5 a0_6 a0_7 l0_8).bind fun bt329=>((impl_CapacityOf.f bt329.1 bt329.2.1 bt329.2.2.1 bt329.2.2.2.1 bt329.2.2.2.2.1 bt329.2.2.2.2.2.1 bt329.2.2.2.2.2.2.1 bt329.2.2.2.2.2.2.2.1 bt329.2.2.2.2.2.2.2.2).bind fun t343=>(if t343=t328 then ((laws_toDevice.f k a0_0 a0_1 a0_2 l0_3 a0_4 a0_5 a0_6 a0_7 l0_8).bind fun bt344=>((laws_eqDevice.f k bt329.1 bt329.2.1 bt329.2.2.1 bt329.2.2.2.1 bt329.2.2.2.2.1 bt329.2.2.2.2.2.1 bt329.2.2.2.2.2.2.1 bt329.2.2.2.2.2.2.2.1 bt329.2.2.2.2.2.2.2.2 bt344.1 bt344.2.1 bt344.2.2.1 bt344.2.2.2.1 bt344.2.2.2.2.1 bt344.2.2.2.2.2.1 bt344.2.2.2.2.2.2.1 bt344.2.2.2.2.2.2.2.1 bt344.2.2.2.2.2.2.2.2).bind fun t357=>(if t357=true then (some true) else (some false)))) else (some false)))))))
set_option maxHeartbeats 8000000 in
set_option maxRecDepth 100000 in
theorem laws_FnExactCapacityOf.core (k:Nat) (v0:Value) (x0:TFDeviceL) (r:Bool) (w:World) (HFcs0:FDeviceL w v0 x0) (h:laws_FnExactCapacityOf.f k x0.1 x0.2.1 x0.2.2.1 x0.2.2.2.1 x0.2.2.2.2.1 x0.2.2.2.2.2.1 x0.2.2.2.2.2.2.1 x0.2.2.2.2.2.2.2.1 x0.2.2.2.2.2.2.2.2=some r):Calls Try.prog 4 #[v0] w fun e w'=>e=.returned (.bool r)∧Below w.heap.size w w':=by
 obtain ⟨cs0, rfl, hlcs0, hocs0⟩ := FDeviceL_cells HFcs0
 replace HFcs0 := Aside0.mk HFcs0
 obtain ⟨z29, hz29, hzc29⟩ := info29_
 obtain ⟨z38, hz38, hzc38⟩ := info38_
 have HB := Aside0.mk (Below.refl w.heap.size w)
 unfold laws_FnExactCapacityOf.f at h
 have H := h
 clear h
 obtain ⟨t0, At0, H⟩ := Option.bind_eq_some_iff.mp H
 replace At0 := Aside0.mk At0
 by_cases c0_ : t0 < 0
 ·rw [if_pos c0_] at H
  have c0_d : decide (t0 < 0) = true := decide_eq_true c0_
  obtain rfl := Option.some.inj H
  go_enter Try.func4, Try.ntmps4
  go_wp2_with (first|((with_reducible refine gate_dst (N:=1) rfl ?_);refine box_event (cs:=cs0.toArray) (t:=29) rfl (N:=1) rfl (by first|(go_simp;done)|(go_simp;rfl)) ?_;intro g1 hg w1 hbox hb;clear hg;have n0_:=mk16_ (bT16_ (by repeat (first|exact HB.out|apply bA16_|apply bN16_|apply bD16_)) hb);have n1_:=mk16_ (hbox);clear HB;have HB:=n0_;have BKg1:=n1_;clear n0_ n1_;clear hb hbox;(try simp only [Act.put,List.setIfInBounds_toArray,List.set_cons_zero,List.set_cons_succ]))|((with_reducible refine gate_dst (N:=7) rfl ?_);refine wpList_load_mid rfl 29 (.tmp 1) rfl g1 0 rfl cs0 _ (range_of_blk (by repeat (first|exact BKg1.out|refine kN16_ ?_ _|refine kD16_ ?_|refine blk_alloc ?_ _))) Try.underlying29 rfl (by rw [hlcs0];kernel_rfl) ?_;(try simp only [Act.put,List.setIfInBounds_toArray,List.set_cons_zero,List.set_cons_succ]))|((with_reducible refine gate_dst (N:=9) rfl ?_);refine goesL_ (some 9) rfl rfl Try.func5 (by kernel_rfl) rfl #[.agg cs0.toArray,.int .i64 1048576] rfl (by first|rfl|(simp only [List.map_toArray,List.map_cons,List.map_nil];rfl)) ?_;(with_reducible refine Calls.mono (laws_szDevice_F k _ x0 1048576 t0 _ (FDeviceL_below HFcs0.out (by repeat (first|exact HB.out|apply bA16_|apply bN16_|apply bD16_))) At0.out) ?_);rintro e w2 ⟨rfl,hb⟩;refine ⟨_,rfl,?_⟩;have n0_:=mk16_ (blk_below (o:=.cells cs0.toArray 29 (0,0)) (by repeat (first|exact BKg1.out|refine kN16_ ?_ _|refine kD16_ ?_|refine blk_alloc ?_ _)) hb);have n1_:=mk16_ (bT16_ (by repeat (first|exact HB.out|apply bA16_|apply bN16_|apply bD16_)) hb);clear BKg1;clear HB;have BKg1:=n0_;have HB:=n1_;clear n0_ n1_;(try clear hF);clear hb;(try simp only [Act.put,List.setIfInBounds_toArray,List.set_cons_zero,List.set_cons_succ])))
  go_ret
  exact ⟨by first|rfl|simp [*],(by repeat (first|exact HB.out|apply bA16_|apply bN16_|apply bD16_))⟩
 ·rw [if_neg c0_] at H
  have c0_d : decide (t0 < 0) = false := decide_eq_false c0_
  obtain ⟨t1, At1, H⟩ := Option.bind_eq_some_iff.mp H
  replace At1 := Aside0.mk At1
  obtain ⟨t2, At2, H⟩ := Option.bind_eq_some_iff.mp H
  replace At2 := Aside0.mk At2
  obtain ⟨t3, At3, H⟩ := Option.bind_eq_some_iff.mp H
  replace At3 := Aside0.mk At3
  obtain ⟨t4, At4, H⟩ := Option.bind_eq_some_iff.mp H
  replace At4 := Aside0.mk At4
  by_cases c1_ : t4 = t2
  ·rw [if_pos c1_] at H
   have c1_x : (t4 != t2) = false := by simp [c1_]
   have c1_z : decide (t4 = t2) = true := by simp [c1_]
   have c1_w : (t4 == t2) = true := by simp [c1_]
   clear c1_
   obtain ⟨t5, At5, H⟩ := Option.bind_eq_some_iff.mp H
   replace At5 := Aside0.mk At5
   obtain ⟨t6, At6, H⟩ := Option.bind_eq_some_iff.mp H
   replace At6 := Aside0.mk At6
   by_cases c2_ : t6 = true
   ·rw [if_pos c2_] at H
    skip
    subst c2_
    obtain rfl := Option.some.inj H
    go_enter Try.func4, Try.ntmps4
    go_wp2_with (first|((with_reducible refine gate_dst (N:=1) rfl ?_);refine box_event (cs:=cs0.toArray) (t:=29) rfl (N:=1) rfl (by first|(go_simp;done)|(go_simp;rfl)) ?_;intro g1 hg w1 hbox hb;clear hg;have n0_:=mk16_ (bT16_ (by repeat (first|exact HB.out|apply bA16_|apply bN16_|apply bD16_)) hb);have n1_:=mk16_ (hbox);clear HB;have HB:=n0_;have BKg1:=n1_;clear n0_ n1_;clear hb hbox;(try simp only [Act.put,List.setIfInBounds_toArray,List.set_cons_zero,List.set_cons_succ]))|((with_reducible refine gate_dst (N:=7) rfl ?_);refine wpList_load_mid rfl 29 (.tmp 1) rfl g1 0 rfl cs0 _ (range_of_blk (by repeat (first|exact BKg1.out|refine kN16_ ?_ _|refine kD16_ ?_|refine blk_alloc ?_ _))) Try.underlying29 rfl (by rw [hlcs0];kernel_rfl) ?_;(try simp only [Act.put,List.setIfInBounds_toArray,List.set_cons_zero,List.set_cons_succ]))|((with_reducible refine gate_dst (N:=9) rfl ?_);refine goesL_ (some 9) rfl rfl Try.func5 (by kernel_rfl) rfl #[.agg cs0.toArray,.int .i64 1048576] rfl (by first|rfl|(simp only [List.map_toArray,List.map_cons,List.map_nil];rfl)) ?_;(with_reducible refine Calls.mono (laws_szDevice_F k _ x0 1048576 t0 _ (FDeviceL_below HFcs0.out (by repeat (first|exact HB.out|apply bA16_|apply bN16_|apply bD16_))) At0.out) ?_);rintro e w2 ⟨rfl,hb⟩;refine ⟨_,rfl,?_⟩;have n0_:=mk16_ (blk_below (o:=.cells cs0.toArray 29 (0,0)) (by repeat (first|exact BKg1.out|refine kN16_ ?_ _|refine kD16_ ?_|refine blk_alloc ?_ _)) hb);have n1_:=mk16_ (bT16_ (by repeat (first|exact HB.out|apply bA16_|apply bN16_|apply bD16_)) hb);clear BKg1;clear HB;have BKg1:=n0_;have HB:=n1_;clear n0_ n1_;(try clear hF);clear hb;(try simp only [Act.put,List.setIfInBounds_toArray,List.set_cons_zero,List.set_cons_succ]))|((with_reducible refine gate_dst (N:=12) rfl ?_);refine wpList_load_mid rfl 29 (.tmp 1) rfl g1 0 rfl cs0 _ (range_of_blk (by repeat (first|exact BKg1.out|refine kN16_ ?_ _|refine kD16_ ?_|refine blk_alloc ?_ _))) Try.underlying29 rfl (by rw [hlcs0];kernel_rfl) ?_;(try simp only [Act.put,List.setIfInBounds_toArray,List.set_cons_zero,List.set_cons_succ]))|((with_reducible refine gate_dst (N:=13) rfl ?_);refine goesL_ (some 13) rfl rfl Try.func7 (by kernel_rfl) rfl #[.agg cs0.toArray] rfl (by first|rfl|(simp only [List.map_toArray,List.map_cons,List.map_nil];rfl)) ?_;(with_reducible refine Calls.mono (laws_toDevice_F k _ x0 t1 _ (FDeviceL_below HFcs0.out (by repeat (first|exact HB.out|apply bA16_|apply bN16_|apply bD16_))) At1.out) ?_);rintro e w3 ⟨v_,rfl,hF,hb⟩;obtain ⟨ct1,rfl,hlct1,hoct1⟩:=FDeviceI_cells hF;refine ⟨_,rfl,?_⟩;have n0_:=mk16_ (blk_below (o:=.cells cs0.toArray 29 (0,0)) (by repeat (first|exact BKg1.out|refine kN16_ ?_ _|refine kD16_ ?_|refine blk_alloc ?_ _)) hb);have n1_:=mk16_ (bT16_ (by repeat (first|exact HB.out|apply bA16_|apply bN16_|apply bD16_)) hb);have n2_:=mk16_ (hF);clear BKg1;clear HB;have BKg1:=n0_;have HB:=n1_;have HFct1:=n2_;clear n0_ n1_ n2_;(try clear hF);clear hb;(try simp only [Act.put,List.setIfInBounds_toArray,List.set_cons_zero,List.set_cons_succ]))|((with_reducible refine gate_dst (N:=14) rfl ?_);refine goesL_ (some 14) rfl rfl Try.func10 (by kernel_rfl) rfl #[.agg ct1.toArray] rfl (by first|rfl|(simp only [List.map_toArray,List.map_cons,List.map_nil];rfl)) ?_;(with_reducible refine Calls.mono (spec_CapacityOf_F k _ t1 t2 _ (by repeat (first|exact HFct1.out|refine FDeviceI_alloc ?_ _|refine FDeviceI_drewN ?_ _|refine FDeviceI_drew ?_)) At2.out) ?_);rintro e w4 ⟨rfl,hb⟩;refine ⟨_,rfl,?_⟩;have n0_:=mk16_ (blk_below (o:=.cells cs0.toArray 29 (0,0)) (by repeat (first|exact BKg1.out|refine kN16_ ?_ _|refine kD16_ ?_|refine blk_alloc ?_ _)) hb);have n1_:=mk16_ (FDeviceI_below (by repeat (first|exact HFct1.out|refine FDeviceI_alloc ?_ _|refine FDeviceI_drewN ?_ _|refine FDeviceI_drew ?_)) hb);have n2_:=mk16_ (bT16_ (by repeat (first|exact HB.out|apply bA16_|apply bN16_|apply bD16_)) hb);clear BKg1;clear HFct1;clear HB;have BKg1:=n0_;have HFct1:=n1_;have HB:=n2_;clear n0_ n1_ n2_;(try clear hF);clear hb;(try simp only [Act.put,List.setIfInBounds_toArray,List.set_cons_zero,List.set_cons_succ]))|((with_reducible refine gate_dst (N:=15) rfl ?_);refine wpList_load_mid rfl 29 (.tmp 1) rfl g1 0 rfl cs0 _ (range_of_blk (by repeat (first|exact BKg1.out|refine kN16_ ?_ _|refine kD16_ ?_|refine blk_alloc ?_ _))) Try.underlying29 rfl (by rw [hlcs0];kernel_rfl) ?_;(try simp only [Act.put,List.setIfInBounds_toArray,List.set_cons_zero,List.set_cons_succ]))|((with_reducible refine gate_dst (N:=16) rfl ?_);refine goesL_ (some 16) rfl rfl Try.func7 (by kernel_rfl) rfl #[.agg cs0.toArray] rfl (by first|rfl|(simp only [List.map_toArray,List.map_cons,List.map_nil];rfl)) ?_;(with_reducible refine Calls.mono (laws_toDevice_F k _ x0 t3 _ (FDeviceL_below HFcs0.out (by repeat (first|exact HB.out|apply bA16_|apply bN16_|apply bD16_))) At3.out) ?_);rintro e w5 ⟨v_,rfl,hF,hb⟩;obtain ⟨ct3,rfl,hlct3,hoct3⟩:=FDeviceI_cells hF;refine ⟨_,rfl,?_⟩;have n0_:=mk16_ (blk_below (o:=.cells cs0.toArray 29 (0,0)) (by repeat (first|exact BKg1.out|refine kN16_ ?_ _|refine kD16_ ?_|refine blk_alloc ?_ _)) hb);have n1_:=mk16_ (FDeviceI_below (by repeat (first|exact HFct1.out|refine FDeviceI_alloc ?_ _|refine FDeviceI_drewN ?_ _|refine FDeviceI_drew ?_)) hb);have n2_:=mk16_ (bT16_ (by repeat (first|exact HB.out|apply bA16_|apply bN16_|apply bD16_)) hb);have n3_:=mk16_ (hF);clear BKg1;clear HFct1;clear HB;have BKg1:=n0_;have HFct1:=n1_;have HB:=n2_;have HFct3:=n3_;clear n0_ n1_ n2_ n3_;(try clear hF);clear hb;(try simp only [Act.put,List.setIfInBounds_toArray,List.set_cons_zero,List.set_cons_succ]))|((with_reducible refine gate_dst (N:=5) rfl ?_);refine alloc_store_event 5 38 _ rfl rfl rfl rfl rfl (cs:=ct3) rfl rfl hoct3 (by rw [hlct3];exact hz38) (by rw [hlct3];exact hzc38) ?_;intro g5 hg w6 hbox hb;clear hg;have n0_:=mk16_ (blk_below (o:=.cells cs0.toArray 29 (0,0)) (by repeat (first|exact BKg1.out|refine kN16_ ?_ _|refine kD16_ ?_|refine blk_alloc ?_ _)) hb);have n1_:=mk16_ (FDeviceI_below (by repeat (first|exact HFct1.out|refine FDeviceI_alloc ?_ _|refine FDeviceI_drewN ?_ _|refine FDeviceI_drew ?_)) hb);have n2_:=mk16_ (FDeviceI_below (by repeat (first|exact HFct3.out|refine FDeviceI_alloc ?_ _|refine FDeviceI_drewN ?_ _|refine FDeviceI_drew ?_)) hb);have n3_:=mk16_ (bT16_ (by repeat (first|exact HB.out|apply bA16_|apply bN16_|apply bD16_)) hb);have n4_:=mk16_ (hbox);clear BKg1;clear HFct1;clear HFct3;clear HB;have BKg1:=n0_;have HFct1:=n1_;have HFct3:=n2_;have HB:=n3_;have BKg5:=n4_;clear n0_ n1_ n2_ n3_ n4_;clear hb hbox;(try simp only [Act.put,List.setIfInBounds_toArray,List.set_cons_zero,List.set_cons_succ]))|((with_reducible refine gate_dst (N:=17) rfl ?_);refine wpList_load_mid rfl 38 (.tmp 5) rfl g5 0 rfl ct3 _ (range_of_blk (by repeat (first|exact BKg5.out|refine kN16_ ?_ _|refine kD16_ ?_|refine blk_alloc ?_ _))) Try.underlying38 rfl (by rw [hlct3];kernel_rfl) ?_;(try simp only [Act.put,List.setIfInBounds_toArray,List.set_cons_zero,List.set_cons_succ]))|((with_reducible refine gate_dst (N:=18) rfl ?_);refine goesL_ (some 18) rfl rfl Try.func11 (by kernel_rfl) rfl #[.agg ct3.toArray] rfl (by first|rfl|(simp only [List.map_toArray,List.map_cons,List.map_nil];rfl)) ?_;(with_reducible refine Calls.mono (impl_CapacityOf_F _ t3 t4 _ (by repeat (first|exact HFct3.out|refine FDeviceI_alloc ?_ _|refine FDeviceI_drewN ?_ _|refine FDeviceI_drew ?_)) At4.out) ?_);rintro e w7 ⟨rfl,hb⟩;refine ⟨_,rfl,?_⟩;have n0_:=mk16_ (blk_below (o:=.cells cs0.toArray 29 (0,0)) (by repeat (first|exact BKg1.out|refine kN16_ ?_ _|refine kD16_ ?_|refine blk_alloc ?_ _)) hb);have n1_:=mk16_ (blk_below (o:=.cells ct3.toArray 38 (0,0)) (by repeat (first|exact BKg5.out|refine kN16_ ?_ _|refine kD16_ ?_|refine blk_alloc ?_ _)) hb);have n2_:=mk16_ (FDeviceI_below (by repeat (first|exact HFct1.out|refine FDeviceI_alloc ?_ _|refine FDeviceI_drewN ?_ _|refine FDeviceI_drew ?_)) hb);have n3_:=mk16_ (FDeviceI_below (by repeat (first|exact HFct3.out|refine FDeviceI_alloc ?_ _|refine FDeviceI_drewN ?_ _|refine FDeviceI_drew ?_)) hb);have n4_:=mk16_ (bT16_ (by repeat (first|exact HB.out|apply bA16_|apply bN16_|apply bD16_)) hb);clear BKg1;clear BKg5;clear HFct1;clear HFct3;clear HB;have BKg1:=n0_;have BKg5:=n1_;have HFct1:=n2_;have HFct3:=n3_;have HB:=n4_;clear n0_ n1_ n2_ n3_ n4_;(try clear hF);clear hb;(try simp only [Act.put,List.setIfInBounds_toArray,List.set_cons_zero,List.set_cons_succ])))
    have n0_:=mk16_ (kD16_ (o:=.cells cs0.toArray 29 (0,0)) (by repeat (first|exact BKg1.out|refine kN16_ ?_ _|refine kD16_ ?_|refine blk_alloc ?_ _)))
    have n1_:=mk16_ (kD16_ (o:=.cells ct3.toArray 38 (0,0)) (by repeat (first|exact BKg5.out|refine kN16_ ?_ _|refine kD16_ ?_|refine blk_alloc ?_ _)))
    have n2_:=mk16_ (FDeviceI_drew (by repeat (first|exact HFct1.out|refine FDeviceI_alloc ?_ _|refine FDeviceI_drewN ?_ _|refine FDeviceI_drew ?_)))
    have n3_:=mk16_ (FDeviceI_drew (by repeat (first|exact HFct3.out|refine FDeviceI_alloc ?_ _|refine FDeviceI_drewN ?_ _|refine FDeviceI_drew ?_)))
    have n4_:=mk16_ (bD16_ (by repeat (first|exact HB.out|apply bA16_|apply bN16_|apply bD16_)))
    clear BKg1 BKg5 HFct1 HFct3 HB
    have BKg1 := n0_
    have BKg5 := n1_
    have HFct1 := n2_
    have HFct3 := n3_
    have HB := n4_
    clear n0_ n1_ n2_ n3_ n4_
    refine start_ (n:=5) (S:=fun w'=>w'.heap[g5]?=some (.cells ct3.toArray 38 (0,0))∧w'.heap[g1]?=some (.cells cs0.toArray 29 (0,0))) (ds:=[]) #[false,false,false,false,false] (by kernel_rfl) rfl rfl ⟨BKg5.out,BKg1.out⟩ (fun hHeld=>?_)
    generalize World.drew _ = w8 at BKg1 BKg5 HFct1 HFct3 HB hHeld ⊢
    refine take_ (i:=0) (N:=some 22) (v:=.agg ct3.toArray) (a':=?_) #[true,false,false,false,false] rfl rfl (by kernel_rfl) (fun _ _ _ h=>h) (yieldsIf_load_mid rfl 38 (.tmp 5) rfl g5 0 rfl ct3 _ (fun w' h=>range_of_blk h.1) Try.underlying38 rfl (by rw [hlct3];kernel_rfl)) hHeld ?_ ?_
    rotate_left
    ·simp only [Act.put,List.setIfInBounds_toArray,List.set_cons_zero,List.set_cons_succ,i64_w,i32_w]
     rfl
    refine take_ (i:=1) (N:=some 23) (v:=.agg cs0.toArray) (a':=?_) #[true,true,false,false,false] rfl rfl (by kernel_rfl) (fun _ _ _ h=>h) (yieldsIf_load_mid rfl 29 (.tmp 1) rfl g1 0 rfl cs0 _ (fun w' h=>range_of_blk h.2) Try.underlying29 rfl (by rw [hlcs0];kernel_rfl)) hHeld ?_ ?_
    rotate_left
    ·simp only [Act.put,List.setIfInBounds_toArray,List.set_cons_zero,List.set_cons_succ,i64_w,i32_w]
     rfl
    refine one_ (i:=2) (N:=some 24) #[true,true,true,false,false] rfl rfl (by kernel_rfl) (by decide) (fun K hK=>?_)
    refine goes_ Try.func7 (by kernel_rfl) rfl #[.agg cs0.toArray] (by rfl) rfl rfl (by first|rfl|(simp only [List.map_toArray,List.map_cons,List.map_nil];rfl)) ?_
    with_reducible refine Calls.mono (laws_toDevice_F k _ x0 t5 _ (FDeviceL_below HFcs0.out (by repeat (first|exact HB.out|apply bA16_|apply bN16_|apply bD16_))) At5.out) ?_
    rintro e w9 ⟨v_, rfl, hF, hb⟩
    obtain ⟨ct5, rfl, hlct5, hoct5⟩ := FDeviceI_cells hF
    refine ⟨_, rfl, ?_⟩
    have n0_:=mk16_ (blk_below (o:=.cells cs0.toArray 29 (0,0)) (by repeat (first|exact BKg1.out|refine kN16_ ?_ _|refine kD16_ ?_|refine blk_alloc ?_ _)) hb)
    have n1_:=mk16_ (blk_below (o:=.cells ct3.toArray 38 (0,0)) (by repeat (first|exact BKg5.out|refine kN16_ ?_ _|refine kD16_ ?_|refine blk_alloc ?_ _)) hb)
    have n2_:=mk16_ (FDeviceI_below (by repeat (first|exact HFct1.out|refine FDeviceI_alloc ?_ _|refine FDeviceI_drewN ?_ _|refine FDeviceI_drew ?_)) hb)
    have n3_:=mk16_ (FDeviceI_below (by repeat (first|exact HFct3.out|refine FDeviceI_alloc ?_ _|refine FDeviceI_drewN ?_ _|refine FDeviceI_drew ?_)) hb)
    have n4_:=mk16_ (bT16_ (by repeat (first|exact HB.out|apply bA16_|apply bN16_|apply bD16_)) hb)
    have n5_ := Aside0.mk (hF)
    clear BKg1
    clear BKg5
    clear HFct1
    clear HFct3
    clear HB
    have BKg1 := n0_
    have BKg5 := n1_
    have HFct1 := n2_
    have HFct3 := n3_
    have HB := n4_
    have HFct5 := n5_
    clear n0_ n1_ n2_ n3_ n4_ n5_
    (try clear hF)
    clear hb
    refine hK.out _ _ ⟨BKg5.out, BKg1.out⟩ (fun hHeld => ?_)
    clear hK K
    refine norm_ (a' := ?_) ?_ ?_
    rotate_left
    ·show Act.put _ (some 24) _ = _
     simp only [Act.put,List.setIfInBounds_toArray,List.set_cons_zero,List.set_cons_succ,i64_w,i32_w]
     rfl
    refine one_ (i:=3) (N:=some 25) #[true,true,true,true,false] rfl rfl (by kernel_rfl) (by decide) (fun K hK=>?_)
    refine goes_ Try.func9 (by kernel_rfl) rfl #[.agg ct3.toArray,.agg ct5.toArray] (by rfl) rfl rfl (by first|rfl|(simp only [List.map_toArray,List.map_cons,List.map_nil];rfl)) ?_
    with_reducible refine Calls.mono (laws_eqDevice_F k _ t3 _ t5 true _ (by repeat (first|exact HFct3.out|refine FDeviceI_alloc ?_ _|refine FDeviceI_drewN ?_ _|refine FDeviceI_drew ?_)) (by repeat (first|exact HFct5.out|refine FDeviceI_alloc ?_ _|refine FDeviceI_drewN ?_ _|refine FDeviceI_drew ?_)) At6.out) ?_
    rintro e w10 ⟨rfl, hb⟩
    refine ⟨_, rfl, ?_⟩
    have n0_:=mk16_ (blk_below (o:=.cells cs0.toArray 29 (0,0)) (by repeat (first|exact BKg1.out|refine kN16_ ?_ _|refine kD16_ ?_|refine blk_alloc ?_ _)) hb)
    have n1_:=mk16_ (blk_below (o:=.cells ct3.toArray 38 (0,0)) (by repeat (first|exact BKg5.out|refine kN16_ ?_ _|refine kD16_ ?_|refine blk_alloc ?_ _)) hb)
    have n2_:=mk16_ (FDeviceI_below (by repeat (first|exact HFct1.out|refine FDeviceI_alloc ?_ _|refine FDeviceI_drewN ?_ _|refine FDeviceI_drew ?_)) hb)
    have n3_:=mk16_ (FDeviceI_below (by repeat (first|exact HFct3.out|refine FDeviceI_alloc ?_ _|refine FDeviceI_drewN ?_ _|refine FDeviceI_drew ?_)) hb)
    have n4_:=mk16_ (FDeviceI_below (by repeat (first|exact HFct5.out|refine FDeviceI_alloc ?_ _|refine FDeviceI_drewN ?_ _|refine FDeviceI_drew ?_)) hb)
    have n5_:=mk16_ (bT16_ (by repeat (first|exact HB.out|apply bA16_|apply bN16_|apply bD16_)) hb)
    clear BKg1
    clear BKg5
    clear HFct1
    clear HFct3
    clear HFct5
    clear HB
    have BKg1 := n0_
    have BKg5 := n1_
    have HFct1 := n2_
    have HFct3 := n3_
    have HFct5 := n4_
    have HB := n5_
    clear n0_ n1_ n2_ n3_ n4_ n5_
    (try clear hF)
    clear hb
    refine hK.out _ _ ⟨BKg5.out, BKg1.out⟩ (fun hHeld => ?_)
    clear hK K
    refine norm_ (a' := ?_) ?_ ?_
    rotate_left
    ·show Act.put _ (some 25) _ = _
     simp only [Act.put,List.setIfInBounds_toArray,List.set_cons_zero,List.set_cons_succ,i64_w,i32_w]
     rfl
    refine pure_ (i:=4) (N:=some 26) (v:=?_) (a':=?_) #[true,true,true,true,true] rfl rfl (by kernel_rfl) (fun _ _ _ h=>h) (Or.inl ⟨by rfl,?_⟩) ?_ ?_
    rotate_left
    ·intro w'
     go_simp
     with_reducible rfl
    rotate_left
    ·simp only [Act.put,List.setIfInBounds_toArray,List.set_cons_zero,List.set_cons_succ,i64_w,i32_w]
     rfl
    refine done_ (by kernel_rfl) ?_
    try go_wp2
    go_ret
    exact ⟨by first|rfl|simp [*],(by repeat (first|exact HB.out|apply bA16_|apply bN16_|apply bD16_))⟩
   ·rw [if_neg c2_] at H
    replace c2_ := Bool.eq_false_iff.2 c2_
    subst c2_
    obtain rfl := Option.some.inj H
    go_enter Try.func4, Try.ntmps4
    go_wp2_with (first|((with_reducible refine gate_dst (N:=1) rfl ?_);refine box_event (cs:=cs0.toArray) (t:=29) rfl (N:=1) rfl (by first|(go_simp;done)|(go_simp;rfl)) ?_;intro g1 hg w1 hbox hb;clear hg;have n0_:=mk16_ (bT16_ (by repeat (first|exact HB.out|apply bA16_|apply bN16_|apply bD16_)) hb);have n1_:=mk16_ (hbox);clear HB;have HB:=n0_;have BKg1:=n1_;clear n0_ n1_;clear hb hbox;(try simp only [Act.put,List.setIfInBounds_toArray,List.set_cons_zero,List.set_cons_succ]))|((with_reducible refine gate_dst (N:=7) rfl ?_);refine wpList_load_mid rfl 29 (.tmp 1) rfl g1 0 rfl cs0 _ (range_of_blk (by repeat (first|exact BKg1.out|refine kN16_ ?_ _|refine kD16_ ?_|refine blk_alloc ?_ _))) Try.underlying29 rfl (by rw [hlcs0];kernel_rfl) ?_;(try simp only [Act.put,List.setIfInBounds_toArray,List.set_cons_zero,List.set_cons_succ]))|((with_reducible refine gate_dst (N:=9) rfl ?_);refine goesL_ (some 9) rfl rfl Try.func5 (by kernel_rfl) rfl #[.agg cs0.toArray,.int .i64 1048576] rfl (by first|rfl|(simp only [List.map_toArray,List.map_cons,List.map_nil];rfl)) ?_;(with_reducible refine Calls.mono (laws_szDevice_F k _ x0 1048576 t0 _ (FDeviceL_below HFcs0.out (by repeat (first|exact HB.out|apply bA16_|apply bN16_|apply bD16_))) At0.out) ?_);rintro e w2 ⟨rfl,hb⟩;refine ⟨_,rfl,?_⟩;have n0_:=mk16_ (blk_below (o:=.cells cs0.toArray 29 (0,0)) (by repeat (first|exact BKg1.out|refine kN16_ ?_ _|refine kD16_ ?_|refine blk_alloc ?_ _)) hb);have n1_:=mk16_ (bT16_ (by repeat (first|exact HB.out|apply bA16_|apply bN16_|apply bD16_)) hb);clear BKg1;clear HB;have BKg1:=n0_;have HB:=n1_;clear n0_ n1_;(try clear hF);clear hb;(try simp only [Act.put,List.setIfInBounds_toArray,List.set_cons_zero,List.set_cons_succ]))|((with_reducible refine gate_dst (N:=12) rfl ?_);refine wpList_load_mid rfl 29 (.tmp 1) rfl g1 0 rfl cs0 _ (range_of_blk (by repeat (first|exact BKg1.out|refine kN16_ ?_ _|refine kD16_ ?_|refine blk_alloc ?_ _))) Try.underlying29 rfl (by rw [hlcs0];kernel_rfl) ?_;(try simp only [Act.put,List.setIfInBounds_toArray,List.set_cons_zero,List.set_cons_succ]))|((with_reducible refine gate_dst (N:=13) rfl ?_);refine goesL_ (some 13) rfl rfl Try.func7 (by kernel_rfl) rfl #[.agg cs0.toArray] rfl (by first|rfl|(simp only [List.map_toArray,List.map_cons,List.map_nil];rfl)) ?_;(with_reducible refine Calls.mono (laws_toDevice_F k _ x0 t1 _ (FDeviceL_below HFcs0.out (by repeat (first|exact HB.out|apply bA16_|apply bN16_|apply bD16_))) At1.out) ?_);rintro e w3 ⟨v_,rfl,hF,hb⟩;obtain ⟨ct1,rfl,hlct1,hoct1⟩:=FDeviceI_cells hF;refine ⟨_,rfl,?_⟩;have n0_:=mk16_ (blk_below (o:=.cells cs0.toArray 29 (0,0)) (by repeat (first|exact BKg1.out|refine kN16_ ?_ _|refine kD16_ ?_|refine blk_alloc ?_ _)) hb);have n1_:=mk16_ (bT16_ (by repeat (first|exact HB.out|apply bA16_|apply bN16_|apply bD16_)) hb);have n2_:=mk16_ (hF);clear BKg1;clear HB;have BKg1:=n0_;have HB:=n1_;have HFct1:=n2_;clear n0_ n1_ n2_;(try clear hF);clear hb;(try simp only [Act.put,List.setIfInBounds_toArray,List.set_cons_zero,List.set_cons_succ]))|((with_reducible refine gate_dst (N:=14) rfl ?_);refine goesL_ (some 14) rfl rfl Try.func10 (by kernel_rfl) rfl #[.agg ct1.toArray] rfl (by first|rfl|(simp only [List.map_toArray,List.map_cons,List.map_nil];rfl)) ?_;(with_reducible refine Calls.mono (spec_CapacityOf_F k _ t1 t2 _ (by repeat (first|exact HFct1.out|refine FDeviceI_alloc ?_ _|refine FDeviceI_drewN ?_ _|refine FDeviceI_drew ?_)) At2.out) ?_);rintro e w4 ⟨rfl,hb⟩;refine ⟨_,rfl,?_⟩;have n0_:=mk16_ (blk_below (o:=.cells cs0.toArray 29 (0,0)) (by repeat (first|exact BKg1.out|refine kN16_ ?_ _|refine kD16_ ?_|refine blk_alloc ?_ _)) hb);have n1_:=mk16_ (FDeviceI_below (by repeat (first|exact HFct1.out|refine FDeviceI_alloc ?_ _|refine FDeviceI_drewN ?_ _|refine FDeviceI_drew ?_)) hb);have n2_:=mk16_ (bT16_ (by repeat (first|exact HB.out|apply bA16_|apply bN16_|apply bD16_)) hb);clear BKg1;clear HFct1;clear HB;have BKg1:=n0_;have HFct1:=n1_;have HB:=n2_;clear n0_ n1_ n2_;(try clear hF);clear hb;(try simp only [Act.put,List.setIfInBounds_toArray,List.set_cons_zero,List.set_cons_succ]))|((with_reducible refine gate_dst (N:=15) rfl ?_);refine wpList_load_mid rfl 29 (.tmp 1) rfl g1 0 rfl cs0 _ (range_of_blk (by repeat (first|exact BKg1.out|refine kN16_ ?_ _|refine kD16_ ?_|refine blk_alloc ?_ _))) Try.underlying29 rfl (by rw [hlcs0];kernel_rfl) ?_;(try simp only [Act.put,List.setIfInBounds_toArray,List.set_cons_zero,List.set_cons_succ]))|((with_reducible refine gate_dst (N:=16) rfl ?_);refine goesL_ (some 16) rfl rfl Try.func7 (by kernel_rfl) rfl #[.agg cs0.toArray] rfl (by first|rfl|(simp only [List.map_toArray,List.map_cons,List.map_nil];rfl)) ?_;(with_reducible refine Calls.mono (laws_toDevice_F k _ x0 t3 _ (FDeviceL_below HFcs0.out (by repeat (first|exact HB.out|apply bA16_|apply bN16_|apply bD16_))) At3.out) ?_);rintro e w5 ⟨v_,rfl,hF,hb⟩;obtain ⟨ct3,rfl,hlct3,hoct3⟩:=FDeviceI_cells hF;refine ⟨_,rfl,?_⟩;have n0_:=mk16_ (blk_below (o:=.cells cs0.toArray 29 (0,0)) (by repeat (first|exact BKg1.out|refine kN16_ ?_ _|refine kD16_ ?_|refine blk_alloc ?_ _)) hb);have n1_:=mk16_ (FDeviceI_below (by repeat (first|exact HFct1.out|refine FDeviceI_alloc ?_ _|refine FDeviceI_drewN ?_ _|refine FDeviceI_drew ?_)) hb);have n2_:=mk16_ (bT16_ (by repeat (first|exact HB.out|apply bA16_|apply bN16_|apply bD16_)) hb);have n3_:=mk16_ (hF);clear BKg1;clear HFct1;clear HB;have BKg1:=n0_;have HFct1:=n1_;have HB:=n2_;have HFct3:=n3_;clear n0_ n1_ n2_ n3_;(try clear hF);clear hb;(try simp only [Act.put,List.setIfInBounds_toArray,List.set_cons_zero,List.set_cons_succ]))|((with_reducible refine gate_dst (N:=5) rfl ?_);refine alloc_store_event 5 38 _ rfl rfl rfl rfl rfl (cs:=ct3) rfl rfl hoct3 (by rw [hlct3];exact hz38) (by rw [hlct3];exact hzc38) ?_;intro g5 hg w6 hbox hb;clear hg;have n0_:=mk16_ (blk_below (o:=.cells cs0.toArray 29 (0,0)) (by repeat (first|exact BKg1.out|refine kN16_ ?_ _|refine kD16_ ?_|refine blk_alloc ?_ _)) hb);have n1_:=mk16_ (FDeviceI_below (by repeat (first|exact HFct1.out|refine FDeviceI_alloc ?_ _|refine FDeviceI_drewN ?_ _|refine FDeviceI_drew ?_)) hb);have n2_:=mk16_ (FDeviceI_below (by repeat (first|exact HFct3.out|refine FDeviceI_alloc ?_ _|refine FDeviceI_drewN ?_ _|refine FDeviceI_drew ?_)) hb);have n3_:=mk16_ (bT16_ (by repeat (first|exact HB.out|apply bA16_|apply bN16_|apply bD16_)) hb);have n4_:=mk16_ (hbox);clear BKg1;clear HFct1;clear HFct3;clear HB;have BKg1:=n0_;have HFct1:=n1_;have HFct3:=n2_;have HB:=n3_;have BKg5:=n4_;clear n0_ n1_ n2_ n3_ n4_;clear hb hbox;(try simp only [Act.put,List.setIfInBounds_toArray,List.set_cons_zero,List.set_cons_succ]))|((with_reducible refine gate_dst (N:=17) rfl ?_);refine wpList_load_mid rfl 38 (.tmp 5) rfl g5 0 rfl ct3 _ (range_of_blk (by repeat (first|exact BKg5.out|refine kN16_ ?_ _|refine kD16_ ?_|refine blk_alloc ?_ _))) Try.underlying38 rfl (by rw [hlct3];kernel_rfl) ?_;(try simp only [Act.put,List.setIfInBounds_toArray,List.set_cons_zero,List.set_cons_succ]))|((with_reducible refine gate_dst (N:=18) rfl ?_);refine goesL_ (some 18) rfl rfl Try.func11 (by kernel_rfl) rfl #[.agg ct3.toArray] rfl (by first|rfl|(simp only [List.map_toArray,List.map_cons,List.map_nil];rfl)) ?_;(with_reducible refine Calls.mono (impl_CapacityOf_F _ t3 t4 _ (by repeat (first|exact HFct3.out|refine FDeviceI_alloc ?_ _|refine FDeviceI_drewN ?_ _|refine FDeviceI_drew ?_)) At4.out) ?_);rintro e w7 ⟨rfl,hb⟩;refine ⟨_,rfl,?_⟩;have n0_:=mk16_ (blk_below (o:=.cells cs0.toArray 29 (0,0)) (by repeat (first|exact BKg1.out|refine kN16_ ?_ _|refine kD16_ ?_|refine blk_alloc ?_ _)) hb);have n1_:=mk16_ (blk_below (o:=.cells ct3.toArray 38 (0,0)) (by repeat (first|exact BKg5.out|refine kN16_ ?_ _|refine kD16_ ?_|refine blk_alloc ?_ _)) hb);have n2_:=mk16_ (FDeviceI_below (by repeat (first|exact HFct1.out|refine FDeviceI_alloc ?_ _|refine FDeviceI_drewN ?_ _|refine FDeviceI_drew ?_)) hb);have n3_:=mk16_ (FDeviceI_below (by repeat (first|exact HFct3.out|refine FDeviceI_alloc ?_ _|refine FDeviceI_drewN ?_ _|refine FDeviceI_drew ?_)) hb);have n4_:=mk16_ (bT16_ (by repeat (first|exact HB.out|apply bA16_|apply bN16_|apply bD16_)) hb);clear BKg1;clear BKg5;clear HFct1;clear HFct3;clear HB;have BKg1:=n0_;have BKg5:=n1_;have HFct1:=n2_;have HFct3:=n3_;have HB:=n4_;clear n0_ n1_ n2_ n3_ n4_;(try clear hF);clear hb;(try simp only [Act.put,List.setIfInBounds_toArray,List.set_cons_zero,List.set_cons_succ])))
    have n0_:=mk16_ (kD16_ (o:=.cells cs0.toArray 29 (0,0)) (by repeat (first|exact BKg1.out|refine kN16_ ?_ _|refine kD16_ ?_|refine blk_alloc ?_ _)))
    have n1_:=mk16_ (kD16_ (o:=.cells ct3.toArray 38 (0,0)) (by repeat (first|exact BKg5.out|refine kN16_ ?_ _|refine kD16_ ?_|refine blk_alloc ?_ _)))
    have n2_:=mk16_ (FDeviceI_drew (by repeat (first|exact HFct1.out|refine FDeviceI_alloc ?_ _|refine FDeviceI_drewN ?_ _|refine FDeviceI_drew ?_)))
    have n3_:=mk16_ (FDeviceI_drew (by repeat (first|exact HFct3.out|refine FDeviceI_alloc ?_ _|refine FDeviceI_drewN ?_ _|refine FDeviceI_drew ?_)))
    have n4_:=mk16_ (bD16_ (by repeat (first|exact HB.out|apply bA16_|apply bN16_|apply bD16_)))
    clear BKg1 BKg5 HFct1 HFct3 HB
    have BKg1 := n0_
    have BKg5 := n1_
    have HFct1 := n2_
    have HFct3 := n3_
    have HB := n4_
    clear n0_ n1_ n2_ n3_ n4_
    refine start_ (n:=5) (S:=fun w'=>w'.heap[g5]?=some (.cells ct3.toArray 38 (0,0))∧w'.heap[g1]?=some (.cells cs0.toArray 29 (0,0))) (ds:=[]) #[false,false,false,false,false] (by kernel_rfl) rfl rfl ⟨BKg5.out,BKg1.out⟩ (fun hHeld=>?_)
    generalize World.drew _ = w8 at BKg1 BKg5 HFct1 HFct3 HB hHeld ⊢
    refine take_ (i:=0) (N:=some 22) (v:=.agg ct3.toArray) (a':=?_) #[true,false,false,false,false] rfl rfl (by kernel_rfl) (fun _ _ _ h=>h) (yieldsIf_load_mid rfl 38 (.tmp 5) rfl g5 0 rfl ct3 _ (fun w' h=>range_of_blk h.1) Try.underlying38 rfl (by rw [hlct3];kernel_rfl)) hHeld ?_ ?_
    rotate_left
    ·simp only [Act.put,List.setIfInBounds_toArray,List.set_cons_zero,List.set_cons_succ,i64_w,i32_w]
     rfl
    refine take_ (i:=1) (N:=some 23) (v:=.agg cs0.toArray) (a':=?_) #[true,true,false,false,false] rfl rfl (by kernel_rfl) (fun _ _ _ h=>h) (yieldsIf_load_mid rfl 29 (.tmp 1) rfl g1 0 rfl cs0 _ (fun w' h=>range_of_blk h.2) Try.underlying29 rfl (by rw [hlcs0];kernel_rfl)) hHeld ?_ ?_
    rotate_left
    ·simp only [Act.put,List.setIfInBounds_toArray,List.set_cons_zero,List.set_cons_succ,i64_w,i32_w]
     rfl
    refine one_ (i:=2) (N:=some 24) #[true,true,true,false,false] rfl rfl (by kernel_rfl) (by decide) (fun K hK=>?_)
    refine goes_ Try.func7 (by kernel_rfl) rfl #[.agg cs0.toArray] (by rfl) rfl rfl (by first|rfl|(simp only [List.map_toArray,List.map_cons,List.map_nil];rfl)) ?_
    with_reducible refine Calls.mono (laws_toDevice_F k _ x0 t5 _ (FDeviceL_below HFcs0.out (by repeat (first|exact HB.out|apply bA16_|apply bN16_|apply bD16_))) At5.out) ?_
    rintro e w9 ⟨v_, rfl, hF, hb⟩
    obtain ⟨ct5, rfl, hlct5, hoct5⟩ := FDeviceI_cells hF
    refine ⟨_, rfl, ?_⟩
    have n0_:=mk16_ (blk_below (o:=.cells cs0.toArray 29 (0,0)) (by repeat (first|exact BKg1.out|refine kN16_ ?_ _|refine kD16_ ?_|refine blk_alloc ?_ _)) hb)
    have n1_:=mk16_ (blk_below (o:=.cells ct3.toArray 38 (0,0)) (by repeat (first|exact BKg5.out|refine kN16_ ?_ _|refine kD16_ ?_|refine blk_alloc ?_ _)) hb)
    have n2_:=mk16_ (FDeviceI_below (by repeat (first|exact HFct1.out|refine FDeviceI_alloc ?_ _|refine FDeviceI_drewN ?_ _|refine FDeviceI_drew ?_)) hb)
    have n3_:=mk16_ (FDeviceI_below (by repeat (first|exact HFct3.out|refine FDeviceI_alloc ?_ _|refine FDeviceI_drewN ?_ _|refine FDeviceI_drew ?_)) hb)
    have n4_:=mk16_ (bT16_ (by repeat (first|exact HB.out|apply bA16_|apply bN16_|apply bD16_)) hb)
    have n5_ := Aside0.mk (hF)
    clear BKg1
    clear BKg5
    clear HFct1
    clear HFct3
    clear HB
    have BKg1 := n0_
    have BKg5 := n1_
    have HFct1 := n2_
    have HFct3 := n3_
    have HB := n4_
    have HFct5 := n5_
    clear n0_ n1_ n2_ n3_ n4_ n5_
    (try clear hF)
    clear hb
    refine hK.out _ _ ⟨BKg5.out, BKg1.out⟩ (fun hHeld => ?_)
    clear hK K
    refine norm_ (a' := ?_) ?_ ?_
    rotate_left
    ·show Act.put _ (some 24) _ = _
     simp only [Act.put,List.setIfInBounds_toArray,List.set_cons_zero,List.set_cons_succ,i64_w,i32_w]
     rfl
    refine one_ (i:=3) (N:=some 25) #[true,true,true,true,false] rfl rfl (by kernel_rfl) (by decide) (fun K hK=>?_)
    refine goes_ Try.func9 (by kernel_rfl) rfl #[.agg ct3.toArray,.agg ct5.toArray] (by rfl) rfl rfl (by first|rfl|(simp only [List.map_toArray,List.map_cons,List.map_nil];rfl)) ?_
    with_reducible refine Calls.mono (laws_eqDevice_F k _ t3 _ t5 false _ (by repeat (first|exact HFct3.out|refine FDeviceI_alloc ?_ _|refine FDeviceI_drewN ?_ _|refine FDeviceI_drew ?_)) (by repeat (first|exact HFct5.out|refine FDeviceI_alloc ?_ _|refine FDeviceI_drewN ?_ _|refine FDeviceI_drew ?_)) At6.out) ?_
    rintro e w10 ⟨rfl, hb⟩
    refine ⟨_, rfl, ?_⟩
    have n0_:=mk16_ (blk_below (o:=.cells cs0.toArray 29 (0,0)) (by repeat (first|exact BKg1.out|refine kN16_ ?_ _|refine kD16_ ?_|refine blk_alloc ?_ _)) hb)
    have n1_:=mk16_ (blk_below (o:=.cells ct3.toArray 38 (0,0)) (by repeat (first|exact BKg5.out|refine kN16_ ?_ _|refine kD16_ ?_|refine blk_alloc ?_ _)) hb)
    have n2_:=mk16_ (FDeviceI_below (by repeat (first|exact HFct1.out|refine FDeviceI_alloc ?_ _|refine FDeviceI_drewN ?_ _|refine FDeviceI_drew ?_)) hb)
    have n3_:=mk16_ (FDeviceI_below (by repeat (first|exact HFct3.out|refine FDeviceI_alloc ?_ _|refine FDeviceI_drewN ?_ _|refine FDeviceI_drew ?_)) hb)
    have n4_:=mk16_ (FDeviceI_below (by repeat (first|exact HFct5.out|refine FDeviceI_alloc ?_ _|refine FDeviceI_drewN ?_ _|refine FDeviceI_drew ?_)) hb)
    have n5_:=mk16_ (bT16_ (by repeat (first|exact HB.out|apply bA16_|apply bN16_|apply bD16_)) hb)
    clear BKg1
    clear BKg5
    clear HFct1
    clear HFct3
    clear HFct5
    clear HB
    have BKg1 := n0_
    have BKg5 := n1_
    have HFct1 := n2_
    have HFct3 := n3_
    have HFct5 := n4_
    have HB := n5_
    clear n0_ n1_ n2_ n3_ n4_ n5_
    (try clear hF)
    clear hb
    refine hK.out _ _ ⟨BKg5.out, BKg1.out⟩ (fun hHeld => ?_)
    clear hK K
    refine norm_ (a' := ?_) ?_ ?_
    rotate_left
    ·show Act.put _ (some 25) _ = _
     simp only [Act.put,List.setIfInBounds_toArray,List.set_cons_zero,List.set_cons_succ,i64_w,i32_w]
     rfl
    refine pure_ (i:=4) (N:=some 26) (v:=?_) (a':=?_) #[true,true,true,true,true] rfl rfl (by kernel_rfl) (fun _ _ _ h=>h) (Or.inl ⟨by rfl,?_⟩) ?_ ?_
    rotate_left
    ·intro w'
     go_simp
     with_reducible rfl
    rotate_left
    ·simp only [Act.put,List.setIfInBounds_toArray,List.set_cons_zero,List.set_cons_succ,i64_w,i32_w]
     rfl
    refine done_ (by kernel_rfl) ?_
    try go_wp2
    go_ret
    exact ⟨by first|rfl|simp [*],(by repeat (first|exact HB.out|apply bA16_|apply bN16_|apply bD16_))⟩
  ·rw [if_neg c1_] at H
   have c1_x : (t4 != t2) = true := by simp [c1_]
   have c1_z : decide (t4 = t2) = false := by simp [c1_]
   have c1_w : (t4 == t2) = false := by simp [c1_]
   clear c1_
   obtain rfl := Option.some.inj H
   go_enter Try.func4, Try.ntmps4
   go_wp2_with (first|((with_reducible refine gate_dst (N:=1) rfl ?_);refine box_event (cs:=cs0.toArray) (t:=29) rfl (N:=1) rfl (by first|(go_simp;done)|(go_simp;rfl)) ?_;intro g1 hg w1 hbox hb;clear hg;have n0_:=mk16_ (bT16_ (by repeat (first|exact HB.out|apply bA16_|apply bN16_|apply bD16_)) hb);have n1_:=mk16_ (hbox);clear HB;have HB:=n0_;have BKg1:=n1_;clear n0_ n1_;clear hb hbox;(try simp only [Act.put,List.setIfInBounds_toArray,List.set_cons_zero,List.set_cons_succ]))|((with_reducible refine gate_dst (N:=7) rfl ?_);refine wpList_load_mid rfl 29 (.tmp 1) rfl g1 0 rfl cs0 _ (range_of_blk (by repeat (first|exact BKg1.out|refine kN16_ ?_ _|refine kD16_ ?_|refine blk_alloc ?_ _))) Try.underlying29 rfl (by rw [hlcs0];kernel_rfl) ?_;(try simp only [Act.put,List.setIfInBounds_toArray,List.set_cons_zero,List.set_cons_succ]))|((with_reducible refine gate_dst (N:=9) rfl ?_);refine goesL_ (some 9) rfl rfl Try.func5 (by kernel_rfl) rfl #[.agg cs0.toArray,.int .i64 1048576] rfl (by first|rfl|(simp only [List.map_toArray,List.map_cons,List.map_nil];rfl)) ?_;(with_reducible refine Calls.mono (laws_szDevice_F k _ x0 1048576 t0 _ (FDeviceL_below HFcs0.out (by repeat (first|exact HB.out|apply bA16_|apply bN16_|apply bD16_))) At0.out) ?_);rintro e w2 ⟨rfl,hb⟩;refine ⟨_,rfl,?_⟩;have n0_:=mk16_ (blk_below (o:=.cells cs0.toArray 29 (0,0)) (by repeat (first|exact BKg1.out|refine kN16_ ?_ _|refine kD16_ ?_|refine blk_alloc ?_ _)) hb);have n1_:=mk16_ (bT16_ (by repeat (first|exact HB.out|apply bA16_|apply bN16_|apply bD16_)) hb);clear BKg1;clear HB;have BKg1:=n0_;have HB:=n1_;clear n0_ n1_;(try clear hF);clear hb;(try simp only [Act.put,List.setIfInBounds_toArray,List.set_cons_zero,List.set_cons_succ]))|((with_reducible refine gate_dst (N:=12) rfl ?_);refine wpList_load_mid rfl 29 (.tmp 1) rfl g1 0 rfl cs0 _ (range_of_blk (by repeat (first|exact BKg1.out|refine kN16_ ?_ _|refine kD16_ ?_|refine blk_alloc ?_ _))) Try.underlying29 rfl (by rw [hlcs0];kernel_rfl) ?_;(try simp only [Act.put,List.setIfInBounds_toArray,List.set_cons_zero,List.set_cons_succ]))|((with_reducible refine gate_dst (N:=13) rfl ?_);refine goesL_ (some 13) rfl rfl Try.func7 (by kernel_rfl) rfl #[.agg cs0.toArray] rfl (by first|rfl|(simp only [List.map_toArray,List.map_cons,List.map_nil];rfl)) ?_;(with_reducible refine Calls.mono (laws_toDevice_F k _ x0 t1 _ (FDeviceL_below HFcs0.out (by repeat (first|exact HB.out|apply bA16_|apply bN16_|apply bD16_))) At1.out) ?_);rintro e w3 ⟨v_,rfl,hF,hb⟩;obtain ⟨ct1,rfl,hlct1,hoct1⟩:=FDeviceI_cells hF;refine ⟨_,rfl,?_⟩;have n0_:=mk16_ (blk_below (o:=.cells cs0.toArray 29 (0,0)) (by repeat (first|exact BKg1.out|refine kN16_ ?_ _|refine kD16_ ?_|refine blk_alloc ?_ _)) hb);have n1_:=mk16_ (bT16_ (by repeat (first|exact HB.out|apply bA16_|apply bN16_|apply bD16_)) hb);have n2_:=mk16_ (hF);clear BKg1;clear HB;have BKg1:=n0_;have HB:=n1_;have HFct1:=n2_;clear n0_ n1_ n2_;(try clear hF);clear hb;(try simp only [Act.put,List.setIfInBounds_toArray,List.set_cons_zero,List.set_cons_succ]))|((with_reducible refine gate_dst (N:=14) rfl ?_);refine goesL_ (some 14) rfl rfl Try.func10 (by kernel_rfl) rfl #[.agg ct1.toArray] rfl (by first|rfl|(simp only [List.map_toArray,List.map_cons,List.map_nil];rfl)) ?_;(with_reducible refine Calls.mono (spec_CapacityOf_F k _ t1 t2 _ (by repeat (first|exact HFct1.out|refine FDeviceI_alloc ?_ _|refine FDeviceI_drewN ?_ _|refine FDeviceI_drew ?_)) At2.out) ?_);rintro e w4 ⟨rfl,hb⟩;refine ⟨_,rfl,?_⟩;have n0_:=mk16_ (blk_below (o:=.cells cs0.toArray 29 (0,0)) (by repeat (first|exact BKg1.out|refine kN16_ ?_ _|refine kD16_ ?_|refine blk_alloc ?_ _)) hb);have n1_:=mk16_ (FDeviceI_below (by repeat (first|exact HFct1.out|refine FDeviceI_alloc ?_ _|refine FDeviceI_drewN ?_ _|refine FDeviceI_drew ?_)) hb);have n2_:=mk16_ (bT16_ (by repeat (first|exact HB.out|apply bA16_|apply bN16_|apply bD16_)) hb);clear BKg1;clear HFct1;clear HB;have BKg1:=n0_;have HFct1:=n1_;have HB:=n2_;clear n0_ n1_ n2_;(try clear hF);clear hb;(try simp only [Act.put,List.setIfInBounds_toArray,List.set_cons_zero,List.set_cons_succ]))|((with_reducible refine gate_dst (N:=15) rfl ?_);refine wpList_load_mid rfl 29 (.tmp 1) rfl g1 0 rfl cs0 _ (range_of_blk (by repeat (first|exact BKg1.out|refine kN16_ ?_ _|refine kD16_ ?_|refine blk_alloc ?_ _))) Try.underlying29 rfl (by rw [hlcs0];kernel_rfl) ?_;(try simp only [Act.put,List.setIfInBounds_toArray,List.set_cons_zero,List.set_cons_succ]))|((with_reducible refine gate_dst (N:=16) rfl ?_);refine goesL_ (some 16) rfl rfl Try.func7 (by kernel_rfl) rfl #[.agg cs0.toArray] rfl (by first|rfl|(simp only [List.map_toArray,List.map_cons,List.map_nil];rfl)) ?_;(with_reducible refine Calls.mono (laws_toDevice_F k _ x0 t3 _ (FDeviceL_below HFcs0.out (by repeat (first|exact HB.out|apply bA16_|apply bN16_|apply bD16_))) At3.out) ?_);rintro e w5 ⟨v_,rfl,hF,hb⟩;obtain ⟨ct3,rfl,hlct3,hoct3⟩:=FDeviceI_cells hF;refine ⟨_,rfl,?_⟩;have n0_:=mk16_ (blk_below (o:=.cells cs0.toArray 29 (0,0)) (by repeat (first|exact BKg1.out|refine kN16_ ?_ _|refine kD16_ ?_|refine blk_alloc ?_ _)) hb);have n1_:=mk16_ (FDeviceI_below (by repeat (first|exact HFct1.out|refine FDeviceI_alloc ?_ _|refine FDeviceI_drewN ?_ _|refine FDeviceI_drew ?_)) hb);have n2_:=mk16_ (bT16_ (by repeat (first|exact HB.out|apply bA16_|apply bN16_|apply bD16_)) hb);have n3_:=mk16_ (hF);clear BKg1;clear HFct1;clear HB;have BKg1:=n0_;have HFct1:=n1_;have HB:=n2_;have HFct3:=n3_;clear n0_ n1_ n2_ n3_;(try clear hF);clear hb;(try simp only [Act.put,List.setIfInBounds_toArray,List.set_cons_zero,List.set_cons_succ]))|((with_reducible refine gate_dst (N:=5) rfl ?_);refine alloc_store_event 5 38 _ rfl rfl rfl rfl rfl (cs:=ct3) rfl rfl hoct3 (by rw [hlct3];exact hz38) (by rw [hlct3];exact hzc38) ?_;intro g5 hg w6 hbox hb;clear hg;have n0_:=mk16_ (blk_below (o:=.cells cs0.toArray 29 (0,0)) (by repeat (first|exact BKg1.out|refine kN16_ ?_ _|refine kD16_ ?_|refine blk_alloc ?_ _)) hb);have n1_:=mk16_ (FDeviceI_below (by repeat (first|exact HFct1.out|refine FDeviceI_alloc ?_ _|refine FDeviceI_drewN ?_ _|refine FDeviceI_drew ?_)) hb);have n2_:=mk16_ (FDeviceI_below (by repeat (first|exact HFct3.out|refine FDeviceI_alloc ?_ _|refine FDeviceI_drewN ?_ _|refine FDeviceI_drew ?_)) hb);have n3_:=mk16_ (bT16_ (by repeat (first|exact HB.out|apply bA16_|apply bN16_|apply bD16_)) hb);have n4_:=mk16_ (hbox);clear BKg1;clear HFct1;clear HFct3;clear HB;have BKg1:=n0_;have HFct1:=n1_;have HFct3:=n2_;have HB:=n3_;have BKg5:=n4_;clear n0_ n1_ n2_ n3_ n4_;clear hb hbox;(try simp only [Act.put,List.setIfInBounds_toArray,List.set_cons_zero,List.set_cons_succ]))|((with_reducible refine gate_dst (N:=17) rfl ?_);refine wpList_load_mid rfl 38 (.tmp 5) rfl g5 0 rfl ct3 _ (range_of_blk (by repeat (first|exact BKg5.out|refine kN16_ ?_ _|refine kD16_ ?_|refine blk_alloc ?_ _))) Try.underlying38 rfl (by rw [hlct3];kernel_rfl) ?_;(try simp only [Act.put,List.setIfInBounds_toArray,List.set_cons_zero,List.set_cons_succ]))|((with_reducible refine gate_dst (N:=18) rfl ?_);refine goesL_ (some 18) rfl rfl Try.func11 (by kernel_rfl) rfl #[.agg ct3.toArray] rfl (by first|rfl|(simp only [List.map_toArray,List.map_cons,List.map_nil];rfl)) ?_;(with_reducible refine Calls.mono (impl_CapacityOf_F _ t3 t4 _ (by repeat (first|exact HFct3.out|refine FDeviceI_alloc ?_ _|refine FDeviceI_drewN ?_ _|refine FDeviceI_drew ?_)) At4.out) ?_);rintro e w7 ⟨rfl,hb⟩;refine ⟨_,rfl,?_⟩;have n0_:=mk16_ (blk_below (o:=.cells cs0.toArray 29 (0,0)) (by repeat (first|exact BKg1.out|refine kN16_ ?_ _|refine kD16_ ?_|refine blk_alloc ?_ _)) hb);have n1_:=mk16_ (blk_below (o:=.cells ct3.toArray 38 (0,0)) (by repeat (first|exact BKg5.out|refine kN16_ ?_ _|refine kD16_ ?_|refine blk_alloc ?_ _)) hb);have n2_:=mk16_ (FDeviceI_below (by repeat (first|exact HFct1.out|refine FDeviceI_alloc ?_ _|refine FDeviceI_drewN ?_ _|refine FDeviceI_drew ?_)) hb);have n3_:=mk16_ (FDeviceI_below (by repeat (first|exact HFct3.out|refine FDeviceI_alloc ?_ _|refine FDeviceI_drewN ?_ _|refine FDeviceI_drew ?_)) hb);have n4_:=mk16_ (bT16_ (by repeat (first|exact HB.out|apply bA16_|apply bN16_|apply bD16_)) hb);clear BKg1;clear BKg5;clear HFct1;clear HFct3;clear HB;have BKg1:=n0_;have BKg5:=n1_;have HFct1:=n2_;have HFct3:=n3_;have HB:=n4_;clear n0_ n1_ n2_ n3_ n4_;(try clear hF);clear hb;(try simp only [Act.put,List.setIfInBounds_toArray,List.set_cons_zero,List.set_cons_succ])))
   go_ret
   exact ⟨by first|rfl|simp [*],(by repeat (first|exact HB.out|apply bA16_|apply bN16_|apply bD16_))⟩
theorem laws_FnExactCapacityOf.calls (k:Nat) (a0_0:Int) (a0_1:Int) (a0_2:Int) (A0_3:Option Addr) (c0_3:Nat) (l0_3:List (S83)) (a0_4:Int) (a0_5:Int) (a0_6:Bool) (a0_7:Int) (A0_8:Option Addr) (c0_8:Nat) (l0_8:List (S64)) (r:Bool) (w:World) (hr0_3:Kd.C k83 w A0_3 l0_3.length l0_3) (hc0_3:l0_3.length≤c0_3) (hr0_8:Kd.C k64 w A0_8 l0_8.length l0_8) (hc0_8:l0_8.length≤c0_8) (h:laws_FnExactCapacityOf.f k a0_0 a0_1 a0_2 l0_3 a0_4 a0_5 a0_6 a0_7 l0_8=some r) :
  Calls Try.prog 4 #[.agg #[.int .i64 a0_0,.int .i64 a0_1,.int .i64 a0_2,.slice A0_3 l0_3.length c0_3,.int .i64 a0_4,.int .i64 a0_5,.bool a0_6,.int .i64 a0_7,.slice A0_8 l0_8.length c0_8]] w fun e w'=>e=.returned (.bool r)∧Below w.heap.size w w' :=
 laws_FnExactCapacityOf.core k _ (a0_0,a0_1,a0_2,l0_3,a0_4,a0_5,a0_6,a0_7,l0_8) r w ⟨A0_3,c0_3,A0_8,c0_8,rfl,hr0_3,hc0_3,hr0_8,hc0_8⟩ h

end Go.Proofs.Ytdjbphffibcbeaa.Q
