/- The program's functions as Lean functions,and for each the proof that the machine's call comes to what its function says. Conditions: those that stand before each theorem. -/
import Derived.Test.YtaecdlhomihejaaQ0
import Derived.Test.YtaecdlhomihejaaStoreSeg
import Derived.Test.YtaecdlhomihejaaQ6
import Derived.Test.YtaecdlhomihejaaQ14
namespace Go.Proofs.Ytaecdlhomihejaa.Q
open Go.RowKit Go.Proofs.YtaecdlhomihejaaW.PrintWords Go.Proofs.YtaecdlhomihejaaW.PrintLast Go.Proofs.YtaecdlhomihejaaW.PrintMore
abbrev kN15_ := @blk_drewN
abbrev kD15_ := @blk_drew
abbrev kA15_ := @blk_alloc
abbrev rA15_ := @Kd.R_alloc
abbrev rD15_ := @Kd.R_drew
abbrev bA15_ := @below_alloc
abbrev bN15_ := @pw_below_drewN
abbrev bD15_ := @below_drew1
abbrev bS15_ := @below_set
abbrev mk15_ := @Aside0.mk
abbrev fZ15_ := @blk_frozen
abbrev sA15_ := @Kd.S_alloc
abbrev sB15_ := @Kd.S_below
abbrev bT15_ := @below_step
abbrev bZ15_ := @below_size
attribute [local go_sem] min2_int min_two
set_option linter.unusedVariables false
set_option linter.unusedSimpArgs false

def impl_ftlOn.j0:Nat→Int→Int→Int→Bool→Int→Int→Int→List (S120)→Int→Int→Bool→Int→Int→Int→Int→Option (Int × Int × Int × (List (S120)) × Int × Int × Bool × Int × Int × Int × List Int × List Bool × List Int × Int × Int × List Int × List Int × Int × Int × Bool)
  | 0, _, _, _, _, _, _, _, _, _, _, _, _, _, _, _ => none
  | k+1,x1,x2,x3,x27,x239000,x239001,x239002,x239003,x239004,x239005,x239006,x239007,x241000,x241001,x241002=>if x27=true then (some (0,0,0,([]:List (S120)),0,0,false,0,0,0,([]:List Int),([]:List Bool),([]:List Int),0,0,([]:List Int),([]:List Int),0,0,false)) else ((impl_Geometry_all.f x241000 x241001 x241002).bind fun t244=>((impl_newMap.f x1 t244 x241002).bind fun bt245=>((impl_NewHeat.f x1).bind fun bt255=>((impl_Geometry_all.f x241000 x241001 x241002).bind fun t264=>(if 0≤t264 then (if (t264:Int).toNat≤35184372088832 then (some (x239000,x239001,x239002,x239003,x239004,x239005,x239006,x239007,bt245.1,bt245.2.1,bt245.2.2.1,bt245.2.2.2.1,bt255.1,bt255.2.1,1,(([(-1),(-1)]:List Int)),(List.replicate (t264:Int).toNat 0),x2,x3,true)) else (none)) else (none))))))
def impl_ftlOn.f (k:Nat) (a0_0:Int) (a0_1:Int) (a0_2:Int) (l0_3:List (S120)) (a0_4:Int) (a0_5:Int) (a0_6:Bool) (a0_7:Int) (a1:Int) (a2:Int) (a3:Int):Option (Int × Int × Int × (List (S120)) × Int × Int × Bool × Int × Int × Int × List Int × List Bool × List Int × Int × Int × List Int × List Int × Int × Int × Bool):=(impl_Geometry_capacity.f a0_0 a0_1 a0_2).bind fun t241=>((impl_within.f a1 1 t241).bind fun t242=>(if t242=true then ((impl_policyOk.f a2 a3).bind fun t243=>(impl_ftlOn.j0 k a1 a2 a3 (!t243) a0_0 a0_1 a0_2 l0_3 a0_4 a0_5 a0_6 a0_7 a0_0 a0_1 a0_2)) else (impl_ftlOn.j0 k a1 a2 a3 true a0_0 a0_1 a0_2 l0_3 a0_4 a0_5 a0_6 a0_7 a0_0 a0_1 a0_2)))
def impl_ftlOn.T4:Bool × List (List Nat × List Nat):=(true,[([],[]),([],[]),([1],[1]),([],[]),([3],[3]),([0,2,4,2],[0,2,4]),([5],[5]),([6],[6]),([6],[6]),([],[]),([9,7,5,0,1,2,3,4,5,6,7,9],[7,9]),([8,10,0,1,2,3,4,5,6,7,8,9,10],[8])])
def impl_ftlOn.B4 : List Nat := [0, 0, 2, 0, 8, 31, 63, 127, 127, 0, 767, 2047]
theorem impl_ftlOn.tab4 : rtab .any (opsOf Try.f121 4) = impl_ftlOn.T4 := by kernel_rfl
theorem impl_ftlOn.bits4 : waitsOk impl_ftlOn.T4.2 impl_ftlOn.B4 = true := by kernel_rfl
def impl_ftlOn.T6:Bool × List (List Nat × List Nat):=(true,[([],[]),([],[]),([],[]),([],[]),([],[]),([4],[4]),([5,5],[5]),([],[]),([],[]),([0,1,2,3,6,7,8],[0,1,2,3,6,7,8]),([9,5,0,1,2,3,4,5,6,7,8,9],[9]),([10,0,1,2,3,4,5,6,7,8,9,10],[])])
def impl_ftlOn.B6 : List Nat := [0, 0, 0, 0, 0, 16, 48, 0, 0, 511, 1023, 2047]
theorem impl_ftlOn.tab6 : rtab .any (opsOf Try.f121 6) = impl_ftlOn.T6 := by kernel_rfl
theorem impl_ftlOn.bits6 : waitsOk impl_ftlOn.T6.2 impl_ftlOn.B6 = true := by kernel_rfl
set_option maxHeartbeats 8000000 in
set_option maxRecDepth 100000 in
theorem impl_ftlOn.calls (k:Nat) (a0_0:Int) (a0_1:Int) (a0_2:Int) (P0_3_:Nat→Prop) (A0_3:Option Addr) (c0_3:Nat) (l0_3:List (S120)) (a0_4:Int) (a0_5:Int) (a0_6:Bool) (a0_7:Int) (a1:Int) (a2:Int) (a3:Int) (r1:Int) (r2:Int) (r3:Int) (r4:List (S120)) (r5:Int) (r6:Int) (r7:Bool) (r8:Int) (r9:Int) (r10:Int) (r11:List Int) (r12:List Bool) (r13:List Int) (r14:Int) (r15:Int) (r16:List Int) (r17:List Int) (r18:Int) (r19:Int) (r20:Bool) (w:World) (hs0_3:Kd.V k120 120 w w.heap.size (fun k_=>P0_3_ k_) (.slice A0_3 l0_3.length c0_3) l0_3) (h:impl_ftlOn.f k a0_0 a0_1 a0_2 l0_3 a0_4 a0_5 a0_6 a0_7 a1 a2 a3=some (r1,r2,r3,r4,r5,r6,r7,r8,r9,r10,r11,r12,r13,r14,r15,r16,r17,r18,r19,r20)) :
    Calls Try.prog 121 #[.agg #[.int .i64 a0_0,.int .i64 a0_1,.int .i64 a0_2,.slice A0_3 l0_3.length c0_3,.int .i64 a0_4,.int .i64 a0_5,.bool a0_6,.int .i64 a0_7],.int .i64 a1,.int .i64 a2,.int .i64 a3] w fun e w'=>∃ v3_ v10_ v11_ v12_ v15_ v16_:Value,e=.returned (.tuple #[.agg #[.int .i64 r1,.int .i64 r2,.int .i64 r3,v3_,.int .i64 r5,.int .i64 r6,.bool r7,.int .i64 r8,.int .i64 r9,.int .i64 r10,v10_,v11_,v12_,.int .i64 r14,.int .i64 r15,v15_,v16_,.int .i64 r18,.int .i64 r19],.bool r20])∧((v3_=.slice A0_3 l0_3.length c0_3∧r4=l0_3)∨(v3_=.slice none 0 0∧r4=[]))∧Kd.R (Kd.int .i64) 2 w' w.heap.size (fun k_=>(w.heap.size≤k_)∧some k_≠(v12_:Value).ownBlock∧some k_≠(v15_:Value).ownBlock∧some k_≠(v16_:Value).ownBlock) v10_ r11∧Kd.R Kd.bool 4 w' w.heap.size (fun k_=>(w.heap.size≤k_)) v11_ r12∧Kd.R (Kd.int .i64) 2 w' w.heap.size (fun k_=>(w.heap.size≤k_)∧some k_≠(v10_:Value).ownBlock∧some k_≠(v15_:Value).ownBlock∧some k_≠(v16_:Value).ownBlock) v12_ r13∧Kd.R (Kd.int .i64) 2 w' w.heap.size (fun k_=>(w.heap.size≤k_)∧some k_≠(v10_:Value).ownBlock∧some k_≠(v12_:Value).ownBlock∧some k_≠(v16_:Value).ownBlock) v15_ r16∧Kd.R (Kd.int .i64) 2 w' w.heap.size (fun k_=>(w.heap.size≤k_)∧some k_≠(v10_:Value).ownBlock∧some k_≠(v12_:Value).ownBlock∧some k_≠(v15_:Value).ownBlock) v16_ r17∧Below w.heap.size w w':=by
  have hu40 := Try.underlying40
  have hu44 := Try.underlying44
  have hu37 := Try.underlying37
  have hu41 := Try.underlying41
  have hu42 := Try.underlying42
  have HO0_3:=mk15_ (show Kd.V k120 120 w w.heap.size (fun k_=>(P0_3_ k_∨w.heap.size≤k_)) (.slice A0_3 l0_3.length c0_3) l0_3 from Kd.V_mono hs0_3 (fun k_ hk=>.inl hk))
  have HB := Aside0.mk (Below.refl w.heap.size w)
  have H:((impl_Geometry_capacity.f a0_0 a0_1 a0_2).bind fun t241=>((impl_within.f a1 1 t241).bind fun t242=>(if t242=true then ((impl_policyOk.f a2 a3).bind fun t243=>(impl_ftlOn.j0 k a1 a2 a3 (!t243) a0_0 a0_1 a0_2 l0_3 a0_4 a0_5 a0_6 a0_7 a0_0 a0_1 a0_2)) else (impl_ftlOn.j0 k a1 a2 a3 true a0_0 a0_1 a0_2 l0_3 a0_4 a0_5 a0_6 a0_7 a0_0 a0_1 a0_2))))=some (r1,r2,r3,r4,r5,r6,r7,r8,r9,r10,r11,r12,r13,r14,r15,r16,r17,r18,r19,r20):=h
  clear h
  have HC5 := Aside0.mk H
  clear H
  go_enter Try.func121, Try.ntmps121
  go_upto_region 2 with (first|((with_reducible refine gate_dst (N:=4) rfl ?_);refine box_event ?hg (N:=4) ?hd (cs:=#[.int .i64 a0_0,.int .i64 a0_1,.int .i64 a0_2,.slice A0_3 l0_3.length c0_3,.int .i64 a0_4,.int .i64 a0_5,.bool a0_6,.int .i64 a0_7]) (t:=40) ?hr ?_;(case hd=>rfl);(case hg=>rfl);(case hr=>first|(go_simp;done)|(go_simp;rfl));intro gb238 hg w6 hbox hb;have n0_:=mk15_ (Kd.V_below (Kd.V_elderB (by (with_reducible repeat (first|apply Kd.V_alloc|apply Kd.V_drewN|apply Kd.V_drew));exact HO0_3.out) gb238 (Nat.le_of_eq hg.symm)) hb);have n1_:=mk15_ (bT15_ (by repeat (first|(with_reducible first|exact HB.out|apply bA15_|apply bN15_|apply bD15_)|exact HB.out)) hb);have n2_:=mk15_ (hbox);have n3_:=mk15_ ((by rw [hg];exact (bZ15_ (by repeat (first|(with_reducible first|exact HB.out|apply bA15_|apply bN15_|apply bD15_)|exact HB.out))):w.heap.size≤gb238));have n4_:=mk15_ ((by rw [hg];exact (bZ15_ (by repeat (first|(with_reducible first|exact HB.out|apply bA15_|apply bN15_|apply bD15_)|exact HB.out))):w.heap.size≤gb238));clear HO0_3;clear HB;have HO0_3:=n0_;have HB:=n1_;have BK238:=n2_;have GW238:=n3_;have GE238:=n4_;clear n0_ n1_ n2_ n3_ n4_;clear hb hbox hg)|((with_reducible refine gate_dst (N:=8) rfl ?_);refine box_event ?hg (N:=8) ?hd (cs:=#[.int .i64 0,.int .i64 0,.int .i64 0,.slice none 0 0,.int .i64 0,.int .i64 0,.bool false,.int .i64 0,.int .i64 0,.int .i64 0,.slice none 0 0,.slice none 0 0,.slice none 0 0,.int .i64 0,.int .i64 0,.slice none 0 0,.slice none 0 0,.int .i64 0,.int .i64 0]) (t:=44) ?hr ?_;(case hd=>rfl);(case hg=>rfl);(case hr=>first|(go_simp;done)|(go_simp;rfl));intro gb239 hg w7 hbox hb;have n0_:=mk15_ (Kd.V_below (Kd.V_elderB (by (with_reducible repeat (first|apply Kd.V_alloc|apply Kd.V_drewN|apply Kd.V_drew));exact HO0_3.out) gb239 (Nat.le_of_eq hg.symm)) hb);have n1_:=mk15_ (blk_below (g:=gb238) (o:=.cells #[.int .i64 a0_0,.int .i64 a0_1,.int .i64 a0_2,.slice A0_3 l0_3.length c0_3,.int .i64 a0_4,.int .i64 a0_5,.bool a0_6,.int .i64 a0_7] 40 (0,0)) (by (with_reducible repeat (first|refine kN15_ ?_ _|refine kD15_ ?_|refine kA15_ ?_ _));exact BK238.out) hb);have n2_:=mk15_ (bT15_ (by repeat (first|(with_reducible first|exact HB.out|apply bA15_|apply bN15_|apply bD15_|refine bS15_ ?_ GE238.out)|exact HB.out)) hb);have n3_:=mk15_ (hbox);have n4_:=mk15_ ((by rw [hg];exact (bZ15_ (by repeat (first|(with_reducible first|exact HB.out|apply bA15_|apply bN15_|apply bD15_|refine bS15_ ?_ GE238.out)|exact HB.out))):w.heap.size≤gb239));have n5_:=mk15_ ((by rw [hg];exact (bZ15_ (by repeat (first|(with_reducible first|exact HB.out|apply bA15_|apply bN15_|apply bD15_|refine bS15_ ?_ GE238.out)|exact HB.out))):w.heap.size≤gb239));have n6_:=mk15_ ((by rw [hg];exact Nat.ne_of_lt (blk_lt (g:=gb238) (o:=.cells #[.int .i64 a0_0,.int .i64 a0_1,.int .i64 a0_2,.slice A0_3 l0_3.length c0_3,.int .i64 a0_4,.int .i64 a0_5,.bool a0_6,.int .i64 a0_7] 40 (0,0)) (by (with_reducible repeat (first|refine kN15_ ?_ _|refine kD15_ ?_|refine kA15_ ?_ _));exact BK238.out)):gb238≠gb239));have n7_:=mk15_ ((by rw [hg];exact Nat.ne_of_gt (blk_lt (g:=gb238) (o:=.cells #[.int .i64 a0_0,.int .i64 a0_1,.int .i64 a0_2,.slice A0_3 l0_3.length c0_3,.int .i64 a0_4,.int .i64 a0_5,.bool a0_6,.int .i64 a0_7] 40 (0,0)) (by (with_reducible repeat (first|refine kN15_ ?_ _|refine kD15_ ?_|refine kA15_ ?_ _));exact BK238.out)):gb239≠gb238));clear HO0_3;clear BK238;clear HB;have HO0_3:=n0_;have BK238:=n1_;have HB:=n2_;have BK239:=n3_;have GW239:=n4_;have GE239:=n5_;have NB238_239:=n6_;have NB239_238:=n7_;clear n0_ n1_ n2_ n3_ n4_ n5_ n6_ n7_;clear hb hbox hg;have hnb8:=NB238_239.out;have hnc8:=NB239_238.out;have hcz9_0:w7.cell? ⟨gb238,0,none⟩=some (.int .i64 a0_0):=(blk_cell BK238.out 0).trans rfl;have hcz9_1:w7.cell? ⟨gb238,1,none⟩=some (.int .i64 a0_1):=(blk_cell BK238.out 1).trans rfl;have hcz9_2:w7.cell? ⟨gb238,2,none⟩=some (.int .i64 a0_2):=(blk_cell BK238.out 2).trans rfl;have hcz9_3:w7.cell? ⟨gb238,3,none⟩=some (.slice A0_3 l0_3.length c0_3):=(blk_cell BK238.out 3).trans rfl;have hcz9_4:w7.cell? ⟨gb238,4,none⟩=some (.int .i64 a0_4):=(blk_cell BK238.out 4).trans rfl;have hcz9_5:w7.cell? ⟨gb238,5,none⟩=some (.int .i64 a0_5):=(blk_cell BK238.out 5).trans rfl;have hcz9_6:w7.cell? ⟨gb238,6,none⟩=some (.bool a0_6):=(blk_cell BK238.out 6).trans rfl;have hcz9_7:w7.cell? ⟨gb238,7,none⟩=some (.int .i64 a0_7):=(blk_cell BK238.out 7).trans rfl;have hfz9_0:=fZ15_ BK238.out 0;have hfz9_1:=fZ15_ BK238.out 1;have hfz9_2:=fZ15_ BK238.out 2;have hfz9_3:=fZ15_ BK238.out 3;have hfz9_4:=fZ15_ BK238.out 4;have hfz9_5:=fZ15_ BK238.out 5;have hfz9_6:=fZ15_ BK238.out 6;have hfz9_7:=fZ15_ BK238.out 7)|((with_reducible refine gate_dst (N:=10) rfl ?_);refine box_event ?hg (N:=10) ?hd (cs:=#[.int .i64 0,.int .i64 0,.int .i64 0]) (t:=37) ?hr ?_;(case hd=>rfl);(case hg=>rfl);(case hr=>first|(go_simp;done)|(go_simp;rfl));intro gb240 hg w10 hbox hb;have n0_:=mk15_ (Kd.V_below (Kd.V_elderB (by (with_reducible repeat (first|apply Kd.V_alloc|apply Kd.V_drewN|apply Kd.V_drew));exact HO0_3.out) gb240 (Nat.le_of_eq hg.symm)) hb);have n1_:=mk15_ (blk_below (g:=gb238) (o:=.cells #[.int .i64 a0_0,.int .i64 a0_1,.int .i64 a0_2,.slice A0_3 l0_3.length c0_3,.int .i64 a0_4,.int .i64 a0_5,.bool a0_6,.int .i64 a0_7] 40 (0,0)) (by (with_reducible repeat (first|refine kN15_ ?_ _|refine kD15_ ?_|refine kA15_ ?_ _));exact BK238.out) hb);have n2_:=mk15_ (blk_below (g:=gb239) (o:=.cells #[.int .i64 0,.int .i64 0,.int .i64 0,.slice none 0 0,.int .i64 0,.int .i64 0,.bool false,.int .i64 0,.int .i64 0,.int .i64 0,.slice none 0 0,.slice none 0 0,.slice none 0 0,.int .i64 0,.int .i64 0,.slice none 0 0,.slice none 0 0,.int .i64 0,.int .i64 0] 44 (0,0)) (by (with_reducible repeat (first|refine kN15_ ?_ _|refine kD15_ ?_|refine kA15_ ?_ _));exact BK239.out) hb);have n3_:=mk15_ (bT15_ (by repeat (first|(with_reducible first|exact HB.out|apply bA15_|apply bN15_|apply bD15_|refine bS15_ ?_ GE238.out|refine bS15_ ?_ GE239.out)|exact HB.out)) hb);have n4_:=mk15_ (hbox);have n5_:=mk15_ ((by rw [hg];exact (bZ15_ (by repeat (first|(with_reducible first|exact HB.out|apply bA15_|apply bN15_|apply bD15_|refine bS15_ ?_ GE238.out|refine bS15_ ?_ GE239.out)|exact HB.out))):w.heap.size≤gb240));have n6_:=mk15_ ((by rw [hg];exact (bZ15_ (by repeat (first|(with_reducible first|exact HB.out|apply bA15_|apply bN15_|apply bD15_|refine bS15_ ?_ GE238.out|refine bS15_ ?_ GE239.out)|exact HB.out))):w.heap.size≤gb240));have n7_:=mk15_ ((by rw [hg];exact Nat.ne_of_lt (blk_lt (g:=gb238) (o:=.cells #[.int .i64 a0_0,.int .i64 a0_1,.int .i64 a0_2,.slice A0_3 l0_3.length c0_3,.int .i64 a0_4,.int .i64 a0_5,.bool a0_6,.int .i64 a0_7] 40 (0,0)) (by (with_reducible repeat (first|refine kN15_ ?_ _|refine kD15_ ?_|refine kA15_ ?_ _));exact BK238.out)):gb238≠gb240));have n8_:=mk15_ ((by rw [hg];exact Nat.ne_of_gt (blk_lt (g:=gb238) (o:=.cells #[.int .i64 a0_0,.int .i64 a0_1,.int .i64 a0_2,.slice A0_3 l0_3.length c0_3,.int .i64 a0_4,.int .i64 a0_5,.bool a0_6,.int .i64 a0_7] 40 (0,0)) (by (with_reducible repeat (first|refine kN15_ ?_ _|refine kD15_ ?_|refine kA15_ ?_ _));exact BK238.out)):gb240≠gb238));have n9_:=mk15_ ((by rw [hg];exact Nat.ne_of_lt (blk_lt (g:=gb239) (o:=.cells #[.int .i64 0,.int .i64 0,.int .i64 0,.slice none 0 0,.int .i64 0,.int .i64 0,.bool false,.int .i64 0,.int .i64 0,.int .i64 0,.slice none 0 0,.slice none 0 0,.slice none 0 0,.int .i64 0,.int .i64 0,.slice none 0 0,.slice none 0 0,.int .i64 0,.int .i64 0] 44 (0,0)) (by (with_reducible repeat (first|refine kN15_ ?_ _|refine kD15_ ?_|refine kA15_ ?_ _));exact BK239.out)):gb239≠gb240));have n10_:=mk15_ ((by rw [hg];exact Nat.ne_of_gt (blk_lt (g:=gb239) (o:=.cells #[.int .i64 0,.int .i64 0,.int .i64 0,.slice none 0 0,.int .i64 0,.int .i64 0,.bool false,.int .i64 0,.int .i64 0,.int .i64 0,.slice none 0 0,.slice none 0 0,.slice none 0 0,.int .i64 0,.int .i64 0,.slice none 0 0,.slice none 0 0,.int .i64 0,.int .i64 0] 44 (0,0)) (by (with_reducible repeat (first|refine kN15_ ?_ _|refine kD15_ ?_|refine kA15_ ?_ _));exact BK239.out)):gb240≠gb239));clear HO0_3;clear BK238;clear BK239;clear HB;have HO0_3:=n0_;have BK238:=n1_;have BK239:=n2_;have HB:=n3_;have BK240:=n4_;have GW240:=n5_;have GE240:=n6_;have NB238_240:=n7_;have NB240_238:=n8_;have NB239_240:=n9_;have NB240_239:=n10_;clear n0_ n1_ n2_ n3_ n4_ n5_ n6_ n7_ n8_ n9_ n10_;clear hb hbox hg;have hnb11:=NB240_238.out;have hnc11:=NB238_240.out;have hnb12:=NB240_239.out;have hnc12:=NB239_240.out;have hcz13_0:w10.cell? ⟨gb240,0,none⟩=some (.int .i64 0):=(blk_cell BK240.out 0).trans rfl;have hcz13_1:w10.cell? ⟨gb240,1,none⟩=some (.int .i64 0):=(blk_cell BK240.out 1).trans rfl;have hcz13_2:w10.cell? ⟨gb240,2,none⟩=some (.int .i64 0):=(blk_cell BK240.out 2).trans rfl;have hfz13_0:=fZ15_ BK240.out 0;have hfz13_1:=fZ15_ BK240.out 1;have hfz13_2:=fZ15_ BK240.out 2))
  (try simp only [Act.put, List.setIfInBounds_toArray, List.set_cons_zero, List.set_cons_succ])
  go_cut [27] (fun v27 wc=>∃ (kq:Nat) (x27_4:Bool),v27=.bool x27_4∧Aside0 (impl_ftlOn.j0 kq a1 a2 a3 x27_4 a0_0 a0_1 a0_2 l0_3 a0_4 a0_5 a0_6 a0_7 a0_0 a0_1 a0_2=some (r1,r2,r3,r4,r5,r6,r7,r8,r9,r10,r11,r12,r13,r14,r15,r16,r17,r18,r19,r20))∧Aside0 (kq≤k)∧Aside0 (Kd.V k120 120 wc w.heap.size (fun k_=>(P0_3_ k_∨w.heap.size≤k_)∧k_≠gb238∧k_≠gb239∧k_≠gb240) (.slice A0_3 l0_3.length c0_3) l0_3)∧Aside0 (wc.heap[gb238]?=some (.cells #[.int .i64 a0_0,.int .i64 a0_1,.int .i64 a0_2,(.slice A0_3 l0_3.length c0_3),.int .i64 a0_4,.int .i64 a0_5,.bool a0_6,.int .i64 a0_7] 40 (0,0)))∧Aside0 (wc.heap[gb239]?=some (.cells #[.int .i64 0,.int .i64 0,.int .i64 0,(.slice none 0 0),.int .i64 0,.int .i64 0,.bool false,.int .i64 0,.int .i64 0,.int .i64 0,(.slice none 0 0),(.slice none 0 0),(.slice none 0 0),.int .i64 0,.int .i64 0,(.slice none 0 0),(.slice none 0 0),.int .i64 0,.int .i64 0] 44 (0,0)))∧Aside0 (wc.heap[gb240]?=some (.cells #[.int .i64 a0_0,.int .i64 a0_1,.int .i64 a0_2] 37 (0,0)))∧Aside0 (Below w.heap.size w wc))
  case first =>
    have H := HC5.out
    clear HC5
    replace H := Option.bind_eq_some_iff.mp H
    obtain ⟨t241, A140, H⟩ := H
    replace H:((impl_within.f a1 1 t241).bind fun t242=>(if t242=true then ((impl_policyOk.f a2 a3).bind fun t243=>(impl_ftlOn.j0 k a1 a2 a3 (!t243) a0_0 a0_1 a0_2 l0_3 a0_4 a0_5 a0_6 a0_7 a0_0 a0_1 a0_2)) else (impl_ftlOn.j0 k a1 a2 a3 true a0_0 a0_1 a0_2 l0_3 a0_4 a0_5 a0_6 a0_7 a0_0 a0_1 a0_2)))=some (r1,r2,r3,r4,r5,r6,r7,r8,r9,r10,r11,r12,r13,r14,r15,r16,r17,r18,r19,r20):=H
    have A14 := Aside0.mk A140
    clear A140
    replace H := Option.bind_eq_some_iff.mp H
    obtain ⟨t242, A150, H⟩ := H
    replace H:(if t242=true then ((impl_policyOk.f a2 a3).bind fun t243=>(impl_ftlOn.j0 k a1 a2 a3 (!t243) a0_0 a0_1 a0_2 l0_3 a0_4 a0_5 a0_6 a0_7 a0_0 a0_1 a0_2)) else (impl_ftlOn.j0 k a1 a2 a3 true a0_0 a0_1 a0_2 l0_3 a0_4 a0_5 a0_6 a0_7 a0_0 a0_1 a0_2))=some (r1,r2,r3,r4,r5,r6,r7,r8,r9,r10,r11,r12,r13,r14,r15,r16,r17,r18,r19,r20):=H
    have A15 := Aside0.mk A150
    clear A150
    by_cases c16 : t242 = true
    · subst c16
      have H1:((impl_policyOk.f a2 a3).bind fun t243=>(impl_ftlOn.j0 k a1 a2 a3 (!t243) a0_0 a0_1 a0_2 l0_3 a0_4 a0_5 a0_6 a0_7 a0_0 a0_1 a0_2))=some (r1,r2,r3,r4,r5,r6,r7,r8,r9,r10,r11,r12,r13,r14,r15,r16,r17,r18,r19,r20):=by rw [if_pos rfl] at H;exact H
      clear H
      have H := H1
      clear H1
      replace H := Option.bind_eq_some_iff.mp H
      obtain ⟨t243, A170, H⟩ := H
      replace H:(impl_ftlOn.j0 k a1 a2 a3 (!t243) a0_0 a0_1 a0_2 l0_3 a0_4 a0_5 a0_6 a0_7 a0_0 a0_1 a0_2)=some (r1,r2,r3,r4,r5,r6,r7,r8,r9,r10,r11,r12,r13,r14,r15,r16,r17,r18,r19,r20):=H
      have A17 := Aside0.mk A170
      clear A170
      have H' := Aside0.mk H
      clear H
      have hnb18 := NB240_238.out
      have hnc18 := NB238_240.out
      have hnb19 := NB240_239.out
      have hnc19 := NB239_240.out
      have hcz20_0:w10.cell? ⟨gb240,0,none⟩=some (.int .i64 0):=(blk_cell BK240.out 0).trans rfl
      have hcz20_1:w10.cell? ⟨gb240,1,none⟩=some (.int .i64 0):=(blk_cell BK240.out 1).trans rfl
      have hcz20_2:w10.cell? ⟨gb240,2,none⟩=some (.int .i64 0):=(blk_cell BK240.out 2).trans rfl
      have hfz20_0 := blk_frozen BK240.out 0
      have hfz20_1 := blk_frozen BK240.out 1
      have hfz20_2 := blk_frozen BK240.out 2
      go_wp2_with (first|((with_reducible refine gate_callee (f:=174) rfl ?_);refine goesL_ (some 19) rfl rfl Try.func174 (by kernel_rfl) rfl #[.agg #[.int .i64 a0_0,.int .i64 a0_1,.int .i64 a0_2]] rfl (by (try simp only [List.map_toArray,List.map_cons,List.map_nil]);first|done|rfl|(simp only [List.length_drop,List.length_take];rfl)) ?_;(with_reducible refine (impl_Geometry_capacity.calls a0_0 a0_1 a0_2 t241 _ A14.out).mono ?_);rintro e w21 ⟨rfl,hb⟩;refine ⟨_,rfl,?_⟩;have n0_:=mk15_ (Kd.V_below (by (with_reducible repeat (first|apply Kd.V_alloc|apply Kd.V_drewN|apply Kd.V_drew));exact (Kd.V_mono (Kd.V_far (p:=⟨gb240,2,none⟩) (Kd.V_far (p:=⟨gb240,1,none⟩) (Kd.V_far (p:=⟨gb240,0,none⟩) (Kd.V_mono HO0_3.out (fun k_ hk=>(⟨hk,hk.2⟩:_∧k_≠gb240))) (fun _ hk=>hk.2) (.int .i64 a0_0)) (fun _ hk=>hk.2) (.int .i64 a0_1)) (fun _ hk=>hk.2) (.int .i64 a0_2)) (fun _ h_=>h_.1))) hb);have n1_:=mk15_ (blk_below (g:=gb238) (o:=.cells #[.int .i64 a0_0,.int .i64 a0_1,.int .i64 a0_2,.slice A0_3 l0_3.length c0_3,.int .i64 a0_4,.int .i64 a0_5,.bool a0_6,.int .i64 a0_7] 40 (0,0)) (by (with_reducible repeat (first|refine kN15_ ?_ _|refine kD15_ ?_|refine kA15_ ?_ _));refine blk_far ?_ NB238_240.out _;(with_reducible repeat (first|refine kN15_ ?_ _|refine kD15_ ?_|refine kA15_ ?_ _));refine blk_far ?_ NB238_240.out _;(with_reducible repeat (first|refine kN15_ ?_ _|refine kD15_ ?_|refine kA15_ ?_ _));refine blk_far ?_ NB238_240.out _;(with_reducible repeat (first|refine kN15_ ?_ _|refine kD15_ ?_|refine kA15_ ?_ _));exact BK238.out) hb);have n2_:=mk15_ (blk_below (g:=gb239) (o:=.cells #[.int .i64 0,.int .i64 0,.int .i64 0,.slice none 0 0,.int .i64 0,.int .i64 0,.bool false,.int .i64 0,.int .i64 0,.int .i64 0,.slice none 0 0,.slice none 0 0,.slice none 0 0,.int .i64 0,.int .i64 0,.slice none 0 0,.slice none 0 0,.int .i64 0,.int .i64 0] 44 (0,0)) (by (with_reducible repeat (first|refine kN15_ ?_ _|refine kD15_ ?_|refine kA15_ ?_ _));refine blk_far ?_ NB239_240.out _;(with_reducible repeat (first|refine kN15_ ?_ _|refine kD15_ ?_|refine kA15_ ?_ _));refine blk_far ?_ NB239_240.out _;(with_reducible repeat (first|refine kN15_ ?_ _|refine kD15_ ?_|refine kA15_ ?_ _));refine blk_far ?_ NB239_240.out _;(with_reducible repeat (first|refine kN15_ ?_ _|refine kD15_ ?_|refine kA15_ ?_ _));exact BK239.out) hb);have n3_:=mk15_ (blk_below (g:=gb240) (o:=.cells #[.int .i64 a0_0,.int .i64 a0_1,.int .i64 a0_2] 37 (0,0)) (by (with_reducible repeat (first|refine kN15_ ?_ _|refine kD15_ ?_|refine kA15_ ?_ _));refine blk_put (cs:=#[.int .i64 a0_0,.int .i64 a0_1,.int .i64 0]) ?_ 2 _ rfl;(with_reducible repeat (first|refine kN15_ ?_ _|refine kD15_ ?_|refine kA15_ ?_ _));refine blk_put (cs:=#[.int .i64 a0_0,.int .i64 0,.int .i64 0]) ?_ 1 _ rfl;(with_reducible repeat (first|refine kN15_ ?_ _|refine kD15_ ?_|refine kA15_ ?_ _));refine blk_put (cs:=#[.int .i64 0,.int .i64 0,.int .i64 0]) ?_ 0 _ rfl;(with_reducible repeat (first|refine kN15_ ?_ _|refine kD15_ ?_|refine kA15_ ?_ _));exact BK240.out) hb);have n4_:=mk15_ (bT15_ (by repeat (first|(with_reducible first|exact HB.out|apply bA15_|apply bN15_|apply bD15_|refine bS15_ ?_ GE238.out|refine bS15_ ?_ GE239.out|refine bS15_ ?_ GE240.out)|exact HB.out)) hb);clear HO0_3;clear BK238;clear BK239;clear BK240;clear HB;have HO0_3:=n0_;have BK238:=n1_;have BK239:=n2_;have BK240:=n3_;have HB:=n4_;clear n0_ n1_ n2_ n3_ n4_;(try clear hb);(try clear hb2);(try clear hk);(try clear hi))|((with_reducible refine gate_callee (f:=92) rfl ?_);refine goesL_ (some 20) rfl rfl Try.func92 (by kernel_rfl) rfl #[.int .i64 a1,.int .i64 1,.int .i64 t241] rfl (by (try simp only [List.map_toArray,List.map_cons,List.map_nil]);first|done|rfl|(simp only [List.length_drop,List.length_take];rfl)) ?_;(with_reducible refine (impl_within.calls a1 1 t241 true _ A15.out).mono ?_);rintro e w' ⟨rfl,⟨nd,rfl⟩⟩;refine ⟨_,rfl,?_⟩)|(go_at_call 129;(with_reducible refine (impl_policyOk.calls a2 a3 t243 _ A17.out).mono ?_);rintro e w' ⟨rfl,⟨nd,rfl⟩⟩))
      go_meet
      case rel=>exact ⟨_,(!t243),(by first|rfl|(simp;done)|(simp [*];done)),H',⟨by first|omega|exact Nat.le_refl _⟩,⟨by (with_reducible repeat (first|apply Kd.V_alloc|apply Kd.V_drewN|apply Kd.V_drew));exact Kd.V_mono HO0_3.out (fun _ hk=>⟨hk.1.1.1,⟨hk.1.1.2,⟨hk.1.2,hk.2⟩⟩⟩)⟩,⟨by (with_reducible repeat (first|refine kN15_ ?_ _|refine kD15_ ?_|refine kA15_ ?_ _));exact BK238.out⟩,⟨by (with_reducible repeat (first|refine kN15_ ?_ _|refine kD15_ ?_|refine kA15_ ?_ _));exact BK239.out⟩,⟨by (with_reducible repeat (first|refine kN15_ ?_ _|refine kD15_ ?_|refine kA15_ ?_ _));exact BK240.out⟩,⟨by repeat (first|(with_reducible first|exact HB.out|apply bA15_|apply bN15_|apply bD15_|refine bS15_ ?_ GE238.out|refine bS15_ ?_ GE239.out|refine bS15_ ?_ GE240.out)|exact HB.out)⟩⟩
    · replace c16 := Bool.eq_false_iff.mpr c16
      subst c16
      have H1:(impl_ftlOn.j0 k a1 a2 a3 true a0_0 a0_1 a0_2 l0_3 a0_4 a0_5 a0_6 a0_7 a0_0 a0_1 a0_2)=some (r1,r2,r3,r4,r5,r6,r7,r8,r9,r10,r11,r12,r13,r14,r15,r16,r17,r18,r19,r20):=by rw [if_neg (show ¬ (false=true) by decide)] at H;exact H
      clear H
      have H := H1
      clear H1
      have H' := Aside0.mk H
      clear H
      have hnb22 := NB240_238.out
      have hnc22 := NB238_240.out
      have hnb23 := NB240_239.out
      have hnc23 := NB239_240.out
      have hcz24_0:w10.cell? ⟨gb240,0,none⟩=some (.int .i64 0):=(blk_cell BK240.out 0).trans rfl
      have hcz24_1:w10.cell? ⟨gb240,1,none⟩=some (.int .i64 0):=(blk_cell BK240.out 1).trans rfl
      have hcz24_2:w10.cell? ⟨gb240,2,none⟩=some (.int .i64 0):=(blk_cell BK240.out 2).trans rfl
      have hfz24_0 := blk_frozen BK240.out 0
      have hfz24_1 := blk_frozen BK240.out 1
      have hfz24_2 := blk_frozen BK240.out 2
      go_wp2_with (first|((with_reducible refine gate_callee (f:=174) rfl ?_);refine goesL_ (some 19) rfl rfl Try.func174 (by kernel_rfl) rfl #[.agg #[.int .i64 a0_0,.int .i64 a0_1,.int .i64 a0_2]] rfl (by (try simp only [List.map_toArray,List.map_cons,List.map_nil]);first|done|rfl|(simp only [List.length_drop,List.length_take];rfl)) ?_;(with_reducible refine (impl_Geometry_capacity.calls a0_0 a0_1 a0_2 t241 _ A14.out).mono ?_);rintro e w25 ⟨rfl,hb⟩;refine ⟨_,rfl,?_⟩;have n0_:=mk15_ (Kd.V_below (by (with_reducible repeat (first|apply Kd.V_alloc|apply Kd.V_drewN|apply Kd.V_drew));exact (Kd.V_mono (Kd.V_far (p:=⟨gb240,2,none⟩) (Kd.V_far (p:=⟨gb240,1,none⟩) (Kd.V_far (p:=⟨gb240,0,none⟩) (Kd.V_mono HO0_3.out (fun k_ hk=>(⟨hk,hk.2⟩:_∧k_≠gb240))) (fun _ hk=>hk.2) (.int .i64 a0_0)) (fun _ hk=>hk.2) (.int .i64 a0_1)) (fun _ hk=>hk.2) (.int .i64 a0_2)) (fun _ h_=>h_.1))) hb);have n1_:=mk15_ (blk_below (g:=gb238) (o:=.cells #[.int .i64 a0_0,.int .i64 a0_1,.int .i64 a0_2,.slice A0_3 l0_3.length c0_3,.int .i64 a0_4,.int .i64 a0_5,.bool a0_6,.int .i64 a0_7] 40 (0,0)) (by (with_reducible repeat (first|refine kN15_ ?_ _|refine kD15_ ?_|refine kA15_ ?_ _));refine blk_far ?_ NB238_240.out _;(with_reducible repeat (first|refine kN15_ ?_ _|refine kD15_ ?_|refine kA15_ ?_ _));refine blk_far ?_ NB238_240.out _;(with_reducible repeat (first|refine kN15_ ?_ _|refine kD15_ ?_|refine kA15_ ?_ _));refine blk_far ?_ NB238_240.out _;(with_reducible repeat (first|refine kN15_ ?_ _|refine kD15_ ?_|refine kA15_ ?_ _));exact BK238.out) hb);have n2_:=mk15_ (blk_below (g:=gb239) (o:=.cells #[.int .i64 0,.int .i64 0,.int .i64 0,.slice none 0 0,.int .i64 0,.int .i64 0,.bool false,.int .i64 0,.int .i64 0,.int .i64 0,.slice none 0 0,.slice none 0 0,.slice none 0 0,.int .i64 0,.int .i64 0,.slice none 0 0,.slice none 0 0,.int .i64 0,.int .i64 0] 44 (0,0)) (by (with_reducible repeat (first|refine kN15_ ?_ _|refine kD15_ ?_|refine kA15_ ?_ _));refine blk_far ?_ NB239_240.out _;(with_reducible repeat (first|refine kN15_ ?_ _|refine kD15_ ?_|refine kA15_ ?_ _));refine blk_far ?_ NB239_240.out _;(with_reducible repeat (first|refine kN15_ ?_ _|refine kD15_ ?_|refine kA15_ ?_ _));refine blk_far ?_ NB239_240.out _;(with_reducible repeat (first|refine kN15_ ?_ _|refine kD15_ ?_|refine kA15_ ?_ _));exact BK239.out) hb);have n3_:=mk15_ (blk_below (g:=gb240) (o:=.cells #[.int .i64 a0_0,.int .i64 a0_1,.int .i64 a0_2] 37 (0,0)) (by (with_reducible repeat (first|refine kN15_ ?_ _|refine kD15_ ?_|refine kA15_ ?_ _));refine blk_put (cs:=#[.int .i64 a0_0,.int .i64 a0_1,.int .i64 0]) ?_ 2 _ rfl;(with_reducible repeat (first|refine kN15_ ?_ _|refine kD15_ ?_|refine kA15_ ?_ _));refine blk_put (cs:=#[.int .i64 a0_0,.int .i64 0,.int .i64 0]) ?_ 1 _ rfl;(with_reducible repeat (first|refine kN15_ ?_ _|refine kD15_ ?_|refine kA15_ ?_ _));refine blk_put (cs:=#[.int .i64 0,.int .i64 0,.int .i64 0]) ?_ 0 _ rfl;(with_reducible repeat (first|refine kN15_ ?_ _|refine kD15_ ?_|refine kA15_ ?_ _));exact BK240.out) hb);have n4_:=mk15_ (bT15_ (by repeat (first|(with_reducible first|exact HB.out|apply bA15_|apply bN15_|apply bD15_|refine bS15_ ?_ GE238.out|refine bS15_ ?_ GE239.out|refine bS15_ ?_ GE240.out)|exact HB.out)) hb);clear HO0_3;clear BK238;clear BK239;clear BK240;clear HB;have HO0_3:=n0_;have BK238:=n1_;have BK239:=n2_;have BK240:=n3_;have HB:=n4_;clear n0_ n1_ n2_ n3_ n4_;(try clear hb);(try clear hb2);(try clear hk);(try clear hi))|((with_reducible refine gate_callee (f:=92) rfl ?_);refine goesL_ (some 20) rfl rfl Try.func92 (by kernel_rfl) rfl #[.int .i64 a1,.int .i64 1,.int .i64 t241] rfl (by (try simp only [List.map_toArray,List.map_cons,List.map_nil]);first|done|rfl|(simp only [List.length_drop,List.length_take];rfl)) ?_;(with_reducible refine (impl_within.calls a1 1 t241 false _ A15.out).mono ?_);rintro e w' ⟨rfl,⟨nd,rfl⟩⟩;refine ⟨_,rfl,?_⟩))
      go_meet
      case rel=>exact ⟨_,(true),(by first|rfl|(simp;done)|(simp [*];done)),H',⟨by first|omega|exact Nat.le_refl _⟩,⟨by (with_reducible repeat (first|apply Kd.V_alloc|apply Kd.V_drewN|apply Kd.V_drew));exact Kd.V_mono HO0_3.out (fun _ hk=>⟨hk.1.1.1,⟨hk.1.1.2,⟨hk.1.2,hk.2⟩⟩⟩)⟩,⟨by (with_reducible repeat (first|refine kN15_ ?_ _|refine kD15_ ?_|refine kA15_ ?_ _));exact BK238.out⟩,⟨by (with_reducible repeat (first|refine kN15_ ?_ _|refine kD15_ ?_|refine kA15_ ?_ _));exact BK239.out⟩,⟨by (with_reducible repeat (first|refine kN15_ ?_ _|refine kD15_ ?_|refine kA15_ ?_ _));exact BK240.out⟩,⟨by repeat (first|(with_reducible first|exact HB.out|apply bA15_|apply bN15_|apply bD15_|refine bS15_ ?_ GE238.out|refine bS15_ ?_ GE239.out|refine bS15_ ?_ GE240.out)|exact HB.out)⟩⟩
  case rest =>
    clear HC5
    try clear c1
    try clear c2
    try clear p2
    try clear c8
    try clear c9
    try clear c11
    try clear c12
    try clear c16
    try clear c17
    try clear c18
    try clear c19
    try clear c22
    try clear c23
    try clear hcz13_0
    try clear hcz13_1
    try clear hcz13_2
    try clear hcz20_0
    try clear hcz20_1
    try clear hcz20_2
    try clear hcz24_0
    try clear hcz24_1
    try clear hcz24_2
    try clear hcz9_0
    try clear hcz9_1
    try clear hcz9_2
    try clear hcz9_3
    try clear hcz9_4
    try clear hcz9_5
    try clear hcz9_6
    try clear hcz9_7
    try clear hfz13_0
    try clear hfz13_1
    try clear hfz13_2
    try clear hfz20_0
    try clear hfz20_1
    try clear hfz20_2
    try clear hfz24_0
    try clear hfz24_1
    try clear hfz24_2
    try clear hfz9_0
    try clear hfz9_1
    try clear hfz9_2
    try clear hfz9_3
    try clear hfz9_4
    try clear hfz9_5
    try clear hfz9_6
    try clear hfz9_7
    obtain ⟨kq, x27_4, rfl, HA, HJ4, HO_239003, BK238, BK239, BK240, HB⟩ := hcut
    cases kq with
    | zero => exact absurd HA.out (by simp [impl_ftlOn.j0])
    | succ kj4 =>
      have H := HA.out
      clear HA
      simp only [impl_ftlOn.j0] at H
      by_cases c26 : x27_4 = true
      · subst c26
        have H1:(some (0,0,0,([]:List (S120)),0,0,false,0,0,0,([]:List Int),([]:List Bool),([]:List Int),0,0,([]:List Int),([]:List Int),0,0,false))=some (r1,r2,r3,r4,r5,r6,r7,r8,r9,r10,r11,r12,r13,r14,r15,r16,r17,r18,r19,r20):=by rw [if_pos rfl] at H;exact H
        clear H
        have H := H1
        clear H1
        simp only [Option.some.injEq, Prod.mk.injEq] at H
        obtain ⟨rfl,rfl,rfl,rfl,rfl,rfl,rfl,rfl,rfl,rfl,rfl,rfl,rfl,rfl,rfl,rfl,rfl,rfl,rfl,rfl⟩:=H
        go_wp2_with ((with_reducible refine gate_store (t:=44) (p:=8) rfl ?_);refine store_seg_event 44 (.tmp 8) (.tmp 28) rfl rfl rfl gb239 0 rfl [.int .i64 0,.int .i64 0,.int .i64 0,.slice none 0 0,.int .i64 0,.int .i64 0,.bool false,.int .i64 0,.int .i64 0,.int .i64 0,.slice none 0 0,.slice none 0 0,.slice none 0 0,.int .i64 0,.int .i64 0,.slice none 0 0,.slice none 0 0,.int .i64 0,.int .i64 0] BK239.out [.int .i64 0,.int .i64 0,.int .i64 0,.slice none 0 0,.int .i64 0,.int .i64 0,.bool false,.int .i64 0,.int .i64 0,.int .i64 0,.slice none 0 0,.slice none 0 0,.slice none 0 0,.int .i64 0,.int .i64 0,.slice none 0 0,.slice none 0 0,.int .i64 0,.int .i64 0] rfl (by kernel_rfl) (Nat.le_of_eq rfl) (allOne19 rfl rfl rfl rfl rfl rfl rfl rfl rfl rfl rfl rfl rfl rfl rfl rfl rfl rfl rfl) [.int .i64 0,.int .i64 0,.int .i64 0,.slice none 0 0,.int .i64 0,.int .i64 0,.bool false,.int .i64 0,.int .i64 0,.int .i64 0,.slice none 0 0,.slice none 0 0,.slice none 0 0,.int .i64 0,.int .i64 0,.slice none 0 0,.slice none 0 0,.int .i64 0,.int .i64 0] rfl ?_;intro wz hbz hgz;have n0:=mk15_ (below_grown2 HB.out hgz GE239.out);clear HB;have HB:=n0;have BZ:=mk15_ hbz;clear n0 hbz hgz;(try simp only [Act.put,List.setIfInBounds_toArray,List.set_cons_zero,List.set_cons_succ]))
        refine bodyPost_ret (results_ct rfl _ _ gb239 44 #[.int .i64 0,.int .i64 0,.int .i64 0,.slice none 0 0,.int .i64 0,.int .i64 0,.bool false,.int .i64 0,.int .i64 0,.int .i64 0,.slice none 0 0,.slice none 0 0,.slice none 0 0,.int .i64 0,.int .i64 0,.slice none 0 0,.slice none 0 0,.int .i64 0,.int .i64 0] (0,0) _ rfl BZ.out Try.underlying44 rfl (by kernel_rfl)) rfl ?_
        exact ⟨_,_,_,_,_,_,by first|rfl|(simp [errW_none,errW_some] <;> rfl)|(simp [*,errW_none,errW_some] <;> rfl),(by first|exact .inr ⟨rfl,rfl⟩|exact .inr rfl|simp),by first|exact Kd.R_nil _ _ _ _ _|exact Kd.N_nil _ _ _ _ _|exact Kd.V_nil _ _ _ _ _|exact Kd.Q_nil _ _ _ _ _|exact Kd.S_nil _ _ _ _ _,by first|exact Kd.R_nil _ _ _ _ _|exact Kd.N_nil _ _ _ _ _|exact Kd.V_nil _ _ _ _ _|exact Kd.Q_nil _ _ _ _ _|exact Kd.S_nil _ _ _ _ _,by first|exact Kd.R_nil _ _ _ _ _|exact Kd.N_nil _ _ _ _ _|exact Kd.V_nil _ _ _ _ _|exact Kd.Q_nil _ _ _ _ _|exact Kd.S_nil _ _ _ _ _,by first|exact Kd.R_nil _ _ _ _ _|exact Kd.N_nil _ _ _ _ _|exact Kd.V_nil _ _ _ _ _|exact Kd.Q_nil _ _ _ _ _|exact Kd.S_nil _ _ _ _ _,by first|exact Kd.R_nil _ _ _ _ _|exact Kd.N_nil _ _ _ _ _|exact Kd.V_nil _ _ _ _ _|exact Kd.Q_nil _ _ _ _ _|exact Kd.S_nil _ _ _ _ _,by repeat (first|(with_reducible first|exact HB.out|apply bA15_|apply bN15_|apply bD15_|refine bS15_ ?_ GE238.out|refine bS15_ ?_ GE239.out|refine bS15_ ?_ GE240.out)|exact HB.out)⟩
      · replace c26 := Bool.eq_false_iff.mpr c26
        subst c26
        have H1:((impl_Geometry_all.f a0_0 a0_1 a0_2).bind fun t244=>((impl_newMap.f a1 t244 a0_2).bind fun bt245=>((impl_NewHeat.f a1).bind fun bt255=>((impl_Geometry_all.f a0_0 a0_1 a0_2).bind fun t264=>(if 0≤t264 then (if (t264:Int).toNat≤35184372088832 then (some (a0_0,a0_1,a0_2,l0_3,a0_4,a0_5,a0_6,a0_7,bt245.1,bt245.2.1,bt245.2.2.1,bt245.2.2.2.1,bt255.1,bt255.2.1,1,(([(-1),(-1)]:List Int)),(List.replicate (t264:Int).toNat 0),a2,a3,true)) else (none)) else (none))))))=some (r1,r2,r3,r4,r5,r6,r7,r8,r9,r10,r11,r12,r13,r14,r15,r16,r17,r18,r19,r20):=by rw [if_neg (show ¬ (false=true) by decide)] at H;exact H
        clear H
        have H := H1
        clear H1
        replace H := Option.bind_eq_some_iff.mp H
        obtain ⟨t244, A300, H⟩ := H
        replace H:((impl_newMap.f a1 t244 a0_2).bind fun bt245=>((impl_NewHeat.f a1).bind fun bt255=>((impl_Geometry_all.f a0_0 a0_1 a0_2).bind fun t264=>(if 0≤t264 then (if (t264:Int).toNat≤35184372088832 then (some (a0_0,a0_1,a0_2,l0_3,a0_4,a0_5,a0_6,a0_7,bt245.1,bt245.2.1,bt245.2.2.1,bt245.2.2.2.1,bt255.1,bt255.2.1,1,(([(-1),(-1)]:List Int)),(List.replicate (t264:Int).toNat 0),a2,a3,true)) else (none)) else (none)))))=some (r1,r2,r3,r4,r5,r6,r7,r8,r9,r10,r11,r12,r13,r14,r15,r16,r17,r18,r19,r20):=H
        have A30 := Aside0.mk A300
        clear A300
        replace H := Option.bind_eq_some_iff.mp H
        obtain ⟨⟨t245, t246, t247, t250, t253⟩, A310, H⟩ := H
        replace H:((impl_NewHeat.f a1).bind fun bt255=>((impl_Geometry_all.f a0_0 a0_1 a0_2).bind fun t264=>(if 0≤t264 then (if (t264:Int).toNat≤35184372088832 then (some (a0_0,a0_1,a0_2,l0_3,a0_4,a0_5,a0_6,a0_7,t245,t246,t247,t250,bt255.1,bt255.2.1,1,(([(-1),(-1)]:List Int)),(List.replicate (t264:Int).toNat 0),a2,a3,true)) else (none)) else (none))))=some (r1,r2,r3,r4,r5,r6,r7,r8,r9,r10,r11,r12,r13,r14,r15,r16,r17,r18,r19,r20):=H
        have A31 := Aside0.mk A310
        clear A310
        replace H := Option.bind_eq_some_iff.mp H
        obtain ⟨⟨t255, t258, t259⟩, A320, H⟩ := H
        replace H:((impl_Geometry_all.f a0_0 a0_1 a0_2).bind fun t264=>(if 0≤t264 then (if (t264:Int).toNat≤35184372088832 then (some (a0_0,a0_1,a0_2,l0_3,a0_4,a0_5,a0_6,a0_7,t245,t246,t247,t250,t255,t258,1,(([(-1),(-1)]:List Int)),(List.replicate (t264:Int).toNat 0),a2,a3,true)) else (none)) else (none)))=some (r1,r2,r3,r4,r5,r6,r7,r8,r9,r10,r11,r12,r13,r14,r15,r16,r17,r18,r19,r20):=H
        have A32 := Aside0.mk A320
        clear A320
        obtain ⟨y261, hy261⟩ : ∃ y_ : List Int, y_ = (([(-1), (-1)] : List Int)) := ⟨_, rfl⟩
        replace H:((impl_Geometry_all.f a0_0 a0_1 a0_2).bind fun t264=>(if 0≤t264 then (if (t264:Int).toNat≤35184372088832 then (some (a0_0,a0_1,a0_2,l0_3,a0_4,a0_5,a0_6,a0_7,t245,t246,t247,t250,t255,t258,1,y261,(List.replicate (t264:Int).toNat 0),a2,a3,true)) else (none)) else (none)))=some (r1,r2,r3,r4,r5,r6,r7,r8,r9,r10,r11,r12,r13,r14,r15,r16,r17,r18,r19,r20):=by first|(rw [hy261];with_reducible exact H)|(have H2_:=(Option.bind_some _ _).symm.trans H;rw [hy261];with_reducible exact H2_)|(have H2_:=(Option.bind_some _ _).symm.trans H;with_reducible exact H2_)|with_reducible exact H|(rw [hy261];exact H)|exact H
        have Ny261 := Aside0.mk hy261
        clear hy261
        replace H := Option.bind_eq_some_iff.mp H
        obtain ⟨t264, A330, H⟩ := H
        replace H:(if 0≤t264 then (if (t264:Int).toNat≤35184372088832 then (some (a0_0,a0_1,a0_2,l0_3,a0_4,a0_5,a0_6,a0_7,t245,t246,t247,t250,t255,t258,1,y261,(List.replicate (t264:Int).toNat 0),a2,a3,true)) else (none)) else (none))=some (r1,r2,r3,r4,r5,r6,r7,r8,r9,r10,r11,r12,r13,r14,r15,r16,r17,r18,r19,r20):=H
        have A33 := Aside0.mk A330
        clear A330
        by_cases c34 : 0 ≤ t264
        · rw [if_pos c34] at H
          have c34b0 := eq_true c34
          have c34b1 : decide (0 ≤ t264) = true := decide_eq_true c34
          clear c34
          by_cases c35 : (t264 : Int).toNat ≤ 35184372088832
          · rw [if_pos c35] at H
            have c35b0 := eq_true c35
            have c35b1 : decide ((t264 : Int).toNat ≤ 35184372088832) = true := decide_eq_true c35
            clear c35
            obtain ⟨y265,hy265⟩:∃ y_:List Int,y_=(List.replicate (t264:Int).toNat 0):=⟨_,rfl⟩
            replace H:(some (a0_0,a0_1,a0_2,l0_3,a0_4,a0_5,a0_6,a0_7,t245,t246,t247,t250,t255,t258,1,y261,y265,a2,a3,true))=some (r1,r2,r3,r4,r5,r6,r7,r8,r9,r10,r11,r12,r13,r14,r15,r16,r17,r18,r19,r20):=by first|(rw [hy265];with_reducible exact H)|(have H2_:=(Option.bind_some _ _).symm.trans H;rw [hy265];with_reducible exact H2_)|(have H2_:=(Option.bind_some _ _).symm.trans H;with_reducible exact H2_)|with_reducible exact H|(rw [hy265];exact H)|exact H
            have Ny265 := Aside0.mk hy265
            clear hy265
            simp only [Option.some.injEq, Prod.mk.injEq] at H
            obtain ⟨rfl,rfl,rfl,rfl,rfl,rfl,rfl,rfl,rfl,rfl,rfl,rfl,rfl,rfl,rfl,rfl,rfl,rfl,rfl,rfl⟩:=H
            try go_wp2
            have n0_ := Aside0.mk (Kd.V_drew HO_239003.out)
            have n1_ := Aside0.mk (blk_drew BK238.out)
            have n2_ := Aside0.mk (blk_drew BK239.out)
            have n3_ := Aside0.mk (blk_drew BK240.out)
            have n4_ := Aside0.mk (below_drew1 HB.out)
            clear HO_239003
            clear BK238
            clear BK239
            clear BK240
            clear HB
            have HO_239003 := n0_
            have BK238 := n1_
            have BK239 := n2_
            have BK240 := n3_
            have HB := n4_
            clear n0_ n1_ n2_ n3_ n4_
            refine start_ (n:=12) (S:=fun w'=>w'.cell? ⟨gb240,0,none⟩=some (.int .i64 a0_0)∧w'.cell? ⟨gb240,1,none⟩=some (.int .i64 a0_1)∧w'.cell? ⟨gb240,2,none⟩=some (.int .i64 a0_2)) (ds:=[]) #[false,false,false,false,false,false,false,false,false,false,false,false] (by kernel_rfl) rfl rfl ⟨(blk_cell BK240.out 0).trans rfl,(blk_cell BK240.out 1).trans rfl,(blk_cell BK240.out 2).trans rfl⟩ (fun hHeld=>?_);refine with_tabW impl_ftlOn.tab4 impl_ftlOn.bits4 (fun HT_ HW_=>?_)
            generalize wc.drew = w36 at HO_239003 BK238 BK239 BK240 HB hHeld ⊢
            refine pure_ (i:=0) (N:=some 30) (v:=?_) (a':=?_) #[true,false,false,false,false,false,false,false,false,false,false,false] rfl rfl (any_of HT_.out (by kernel_rfl)) (fun _ _ _ h=>h) (Or.inl ⟨by rfl,?_⟩) ?_ ?_
            rotate_left
            · intro w'
              go_simp
              with_reducible rfl
            rotate_left
            · simp only [Act.put,List.setIfInBounds_toArray,List.set_cons_zero,List.set_cons_succ,i64_w,i32_w]
              rfl
            refine pure_ (i:=3) (N:=some 33) (v:=?_) (a':=?_) #[true,false,false,true,false,false,false,false,false,false,false,false] rfl rfl (any_of HT_.out (by kernel_rfl)) (fun _ _ _ h=>h) (Or.inl ⟨by rfl,?_⟩) ?_ ?_
            rotate_left
            · intro w'
              go_simp
              with_reducible rfl
            rotate_left
            · simp only [Act.put,List.setIfInBounds_toArray,List.set_cons_zero,List.set_cons_succ,i64_w,i32_w]
              rfl
            refine take_ (i:=1) (N:=some 31) (v:=?_) (a':=?_) #[true,true,false,true,false,false,false,false,false,false,false,false] rfl rfl (take_ofW HT_.out HW_.out (by kernel_rfl)) (fun _ _ _ h=>h) (Or.inl ⟨by rfl,?_⟩) hHeld ?_ ?_
            rotate_left
            · rintro w' ⟨s0, s1, s2⟩
              go_simp
              with_reducible rfl
            rotate_left
            · simp only [Act.put,List.setIfInBounds_toArray,List.set_cons_zero,List.set_cons_succ,i64_w,i32_w]
              rfl
            refine take_ (i:=4) (N:=some 34) (v:=?_) (a':=?_) #[true,true,false,true,true,false,false,false,false,false,false,false] rfl rfl (take_ofW HT_.out HW_.out (by kernel_rfl)) (fun _ _ _ h=>h) (Or.inl ⟨by rfl,?_⟩) hHeld ?_ ?_
            rotate_left
            · rintro w' ⟨s0, s1, s2⟩
              go_simp
              with_reducible rfl
            rotate_left
            · simp only [Act.put,List.setIfInBounds_toArray,List.set_cons_zero,List.set_cons_succ,i64_w,i32_w]
              rfl
            refine join_ (σ:=Value × Value × Nat) 2 #[true,true,true,true,true,true,true,true,true,true,false,false] (fun s_=>[(32,.int .i64 t244),(35,.tuple #[.agg #[.int .i64 t245,.int .i64 t246,s_.1,s_.2.1],.bool t253]),(11,.pointer (some ⟨s_.2.2,0,none⟩)),(29,.tuple #[.agg #[.int .i64 t245,.int .i64 t246,s_.1,s_.2.1],.bool t253]),(36,.agg #[.int .i64 t245,.int .i64 t246,s_.1,s_.2.1]),(37,.bool t253)]) (fun s_ w'=>(w'.cell? ⟨gb240,0,none⟩=some (.int .i64 a0_0)∧w'.cell? ⟨gb240,1,none⟩=some (.int .i64 a0_1)∧w'.cell? ⟨gb240,2,none⟩=some (.int .i64 a0_2))∧(Kd.R (Kd.int .i64) 2 w' w.heap.size (fun k_=>(w.heap.size≤k_)) s_.1 t247)∧(Kd.R Kd.bool 4 w' w.heap.size (fun k_=>(w.heap.size≤k_)) s_.2.1 t250)∧(Kd.V k120 120 w' w.heap.size (fun k_=>(P0_3_ k_∨w.heap.size≤k_)∧some k_≠(s_.1:Value).ownBlock∧some k_≠(s_.2.1:Value).ownBlock∧k_≠gb238∧k_≠gb239∧k_≠gb240∧k_≠s_.2.2) (.slice A0_3 l0_3.length c0_3) l0_3)∧(w'.heap[gb238]?=some (.cells #[.int .i64 a0_0,.int .i64 a0_1,.int .i64 a0_2,.slice A0_3 l0_3.length c0_3,.int .i64 a0_4,.int .i64 a0_5,.bool a0_6,.int .i64 a0_7] 40 (0,0)))∧(w'.heap[gb239]?=some (.cells #[.int .i64 0,.int .i64 0,.int .i64 0,.slice none 0 0,.int .i64 0,.int .i64 0,.bool false,.int .i64 0,.int .i64 0,.int .i64 0,.slice none 0 0,.slice none 0 0,.slice none 0 0,.int .i64 0,.int .i64 0,.slice none 0 0,.slice none 0 0,.int .i64 0,.int .i64 0] 44 (0,0)))∧(w'.heap[gb240]?=some (.cells #[.int .i64 a0_0,.int .i64 a0_1,.int .i64 a0_2] 37 (0,0)))∧(w'.heap[s_.2.2]?=some (.cells #[.int .i64 0,.int .i64 0,.slice none 0 0,.slice none 0 0] 41 (0,0)))∧(w.heap.size≤s_.2.2)∧(w.heap.size≤s_.2.2)∧(gb238≠s_.2.2)∧(s_.2.2≠gb238)∧(gb239≠s_.2.2)∧(s_.2.2≠gb239)∧(gb240≠s_.2.2)∧(s_.2.2≠gb240)∧(Below w.heap.size w w')) ?_ ?_
            rotate_left
            · intro hCont
              refine two_ (i:=2) (j:=9) (Ni:=some 32) (Nj:=some 11) #[true,true,true,true,true,false,false,false,false,false,false,false] #[true,true,false,true,true,false,false,false,false,true,false,false] rfl rfl rfl rfl (two_of HT_.out (by kernel_rfl)) (by decide) (by decide) (fun K hK=>?_) (fun K hK=>?_)
              · skip
                refine goes_ Try.func126 (by kernel_rfl) rfl #[.agg #[.int .i64 a0_0,.int .i64 a0_1,.int .i64 a0_2]] (by rfl) rfl rfl (by (try simp only [List.map_toArray,List.map_cons,List.map_nil]);first|done|rfl|(simp only [List.length_drop,List.length_take];rfl)) ?_
                with_reducible refine (impl_Geometry_all.calls a0_0 a0_1 a0_2 t244 _ A30.out).mono ?_
                rintro e w37 ⟨rfl, hb⟩
                refine ⟨_, rfl, ?_⟩
                have n0_:=mk15_ (Kd.V_below (by (with_reducible repeat (first|apply Kd.V_alloc|apply Kd.V_drewN|apply Kd.V_drew));exact HO_239003.out) hb)
                have n1_:=mk15_ (blk_below (g:=gb238) (o:=.cells #[.int .i64 a0_0,.int .i64 a0_1,.int .i64 a0_2,.slice A0_3 l0_3.length c0_3,.int .i64 a0_4,.int .i64 a0_5,.bool a0_6,.int .i64 a0_7] 40 (0,0)) (by (with_reducible repeat (first|refine kN15_ ?_ _|refine kD15_ ?_|refine kA15_ ?_ _));exact BK238.out) hb)
                have n2_:=mk15_ (blk_below (g:=gb239) (o:=.cells #[.int .i64 0,.int .i64 0,.int .i64 0,.slice none 0 0,.int .i64 0,.int .i64 0,.bool false,.int .i64 0,.int .i64 0,.int .i64 0,.slice none 0 0,.slice none 0 0,.slice none 0 0,.int .i64 0,.int .i64 0,.slice none 0 0,.slice none 0 0,.int .i64 0,.int .i64 0] 44 (0,0)) (by (with_reducible repeat (first|refine kN15_ ?_ _|refine kD15_ ?_|refine kA15_ ?_ _));exact BK239.out) hb)
                have n3_:=mk15_ (blk_below (g:=gb240) (o:=.cells #[.int .i64 a0_0,.int .i64 a0_1,.int .i64 a0_2] 37 (0,0)) (by (with_reducible repeat (first|refine kN15_ ?_ _|refine kD15_ ?_|refine kA15_ ?_ _));exact BK240.out) hb)
                have n4_:=mk15_ (bT15_ (by repeat (first|(with_reducible first|exact HB.out|apply bA15_|apply bN15_|apply bD15_|refine bS15_ ?_ GE238.out|refine bS15_ ?_ GE239.out|refine bS15_ ?_ GE240.out)|exact HB.out)) hb)
                clear HO_239003
                clear BK238
                clear BK239
                clear BK240
                clear HB
                have HO_239003 := n0_
                have BK238 := n1_
                have BK239 := n2_
                have BK240 := n3_
                have HB := n4_
                clear n0_ n1_ n2_ n3_ n4_
                (try clear hb)
                (try clear hb2)
                (try clear hk)
                (try clear hi)
                refine hK.out _ _ ⟨(blk_cell BK240.out 0).trans rfl,(blk_cell BK240.out 1).trans rfl,(blk_cell BK240.out 2).trans rfl⟩ (fun hHeld=>?_)
                clear hK K
                refine norm_ (a' := ?_) ?_ ?_
                rotate_left
                · show Act.put _ (some 32) _ = _
                  simp only [Act.put,List.setIfInBounds_toArray,List.set_cons_zero,List.set_cons_succ,i64_w,i32_w]
                  rfl
                refine two_ (i:=5) (j:=9) (Ni:=some 35) (Nj:=some 11) #[true,true,true,true,true,true,false,false,false,false,false,false] #[true,true,true,true,true,false,false,false,false,true,false,false] rfl rfl rfl rfl (two_of HT_.out (by kernel_rfl)) (by decide) (by decide) (fun K hK=>?_) (fun K hK=>?_)
                · skip
                  refine goes_ Try.func175 (by kernel_rfl) rfl #[.int .i64 a1,.int .i64 t244,.int .i64 a0_2] (by rfl) rfl rfl (by (try simp only [List.map_toArray,List.map_cons,List.map_nil]);first|done|rfl|(simp only [List.length_drop,List.length_take];rfl)) ?_
                  with_reducible refine (impl_newMap.calls a1 t244 a0_2 t245 t246 t247 t250 t253 _ A31.out).mono ?_
                  rintro e w38 ⟨v248, v251, rfl, ho0, ho1, hb⟩
                  refine ⟨_, rfl, ?_⟩
                  have n0_:=mk15_ (Kd.V_mono (Kd.V_told (Kd.V_told (Kd.V_old (by (with_reducible repeat (first|apply Kd.V_alloc|apply Kd.V_drewN|apply Kd.V_drew));exact HO_239003.out) hb) (Kd.R_base ho0)) (Kd.R_base ho1)) (fun _ h_=>h_.1))
                  have n1_:=mk15_ (Kd.R_lower (Kd.R_newM (M:=fun k_=>(w.heap.size≤k_)) ho0 (bZ15_ (by repeat (first|(with_reducible first|exact HB.out|apply bA15_|apply bN15_|apply bD15_|refine bS15_ ?_ GE238.out|refine bS15_ ?_ GE239.out|refine bS15_ ?_ GE240.out)|exact HB.out))) (fun k_ h_=>h_)) (bZ15_ (by repeat (first|(with_reducible first|exact HB.out|apply bA15_|apply bN15_|apply bD15_|refine bS15_ ?_ GE238.out|refine bS15_ ?_ GE239.out|refine bS15_ ?_ GE240.out)|exact HB.out))))
                  have n2_:=mk15_ (Kd.R_lower (Kd.R_newM (M:=fun k_=>(w.heap.size≤k_)) ho1 (bZ15_ (by repeat (first|(with_reducible first|exact HB.out|apply bA15_|apply bN15_|apply bD15_|refine bS15_ ?_ GE238.out|refine bS15_ ?_ GE239.out|refine bS15_ ?_ GE240.out)|exact HB.out))) (fun k_ h_=>h_)) (bZ15_ (by repeat (first|(with_reducible first|exact HB.out|apply bA15_|apply bN15_|apply bD15_|refine bS15_ ?_ GE238.out|refine bS15_ ?_ GE239.out|refine bS15_ ?_ GE240.out)|exact HB.out))))
                  have n3_:=mk15_ (blk_below (g:=gb238) (o:=.cells #[.int .i64 a0_0,.int .i64 a0_1,.int .i64 a0_2,.slice A0_3 l0_3.length c0_3,.int .i64 a0_4,.int .i64 a0_5,.bool a0_6,.int .i64 a0_7] 40 (0,0)) (by (with_reducible repeat (first|refine kN15_ ?_ _|refine kD15_ ?_|refine kA15_ ?_ _));exact BK238.out) hb)
                  have n4_:=mk15_ (blk_below (g:=gb239) (o:=.cells #[.int .i64 0,.int .i64 0,.int .i64 0,.slice none 0 0,.int .i64 0,.int .i64 0,.bool false,.int .i64 0,.int .i64 0,.int .i64 0,.slice none 0 0,.slice none 0 0,.slice none 0 0,.int .i64 0,.int .i64 0,.slice none 0 0,.slice none 0 0,.int .i64 0,.int .i64 0] 44 (0,0)) (by (with_reducible repeat (first|refine kN15_ ?_ _|refine kD15_ ?_|refine kA15_ ?_ _));exact BK239.out) hb)
                  have n5_:=mk15_ (blk_below (g:=gb240) (o:=.cells #[.int .i64 a0_0,.int .i64 a0_1,.int .i64 a0_2] 37 (0,0)) (by (with_reducible repeat (first|refine kN15_ ?_ _|refine kD15_ ?_|refine kA15_ ?_ _));exact BK240.out) hb)
                  have n6_:=mk15_ (bT15_ (by repeat (first|(with_reducible first|exact HB.out|apply bA15_|apply bN15_|apply bD15_|refine bS15_ ?_ GE238.out|refine bS15_ ?_ GE239.out|refine bS15_ ?_ GE240.out)|exact HB.out)) hb)
                  clear HO_239003
                  clear BK238
                  clear BK239
                  clear BK240
                  clear HB
                  have HO_239003 := n0_
                  have HO249 := n1_
                  have HO252 := n2_
                  have BK238 := n3_
                  have BK239 := n4_
                  have BK240 := n5_
                  have HB := n6_
                  clear n0_ n1_ n2_ n3_ n4_ n5_ n6_
                  (try clear hb)
                  (try clear hb2)
                  (try clear hk)
                  (try clear hi)
                  (try clear ho0)
                  (try clear ho1)
                  refine hK.out _ _ ⟨(blk_cell BK240.out 0).trans rfl,(blk_cell BK240.out 1).trans rfl,(blk_cell BK240.out 2).trans rfl⟩ (fun hHeld=>?_)
                  clear hK K
                  refine norm_ (a' := ?_) ?_ ?_
                  rotate_left
                  · show Act.put _ (some 35) _ = _
                    simp only [Act.put,List.setIfInBounds_toArray,List.set_cons_zero,List.set_cons_succ,i64_w,i32_w]
                    rfl
                  refine pure_ (i:=6) (N:=some 29) (v:=?_) (a':=?_) #[true,true,true,true,true,true,true,false,false,false,false,false] rfl rfl (any_of HT_.out (by kernel_rfl)) (fun _ _ _ h=>h) (Or.inl ⟨by rfl,?_⟩) ?_ ?_
                  rotate_left
                  · intro w'
                    go_simp
                    with_reducible rfl
                  rotate_left
                  · simp only [Act.put,List.setIfInBounds_toArray,List.set_cons_zero,List.set_cons_succ,i64_w,i32_w]
                    rfl
                  refine pure_ (i:=7) (N:=some 36) (v:=?_) (a':=?_) #[true,true,true,true,true,true,true,true,false,false,false,false] rfl rfl (any_of HT_.out (by kernel_rfl)) (fun _ _ _ h=>h) (Or.inl ⟨by rfl,?_⟩) ?_ ?_
                  rotate_left
                  · intro w'
                    go_simp
                    with_reducible rfl
                  rotate_left
                  · simp only [Act.put,List.setIfInBounds_toArray,List.set_cons_zero,List.set_cons_succ,i64_w,i32_w]
                    rfl
                  refine pure_ (i:=8) (N:=some 37) (v:=?_) (a':=?_) #[true,true,true,true,true,true,true,true,true,false,false,false] rfl rfl (any_of HT_.out (by kernel_rfl)) (fun _ _ _ h=>h) (Or.inl ⟨by rfl,?_⟩) ?_ ?_
                  rotate_left
                  · intro w'
                    go_simp
                    with_reducible rfl
                  rotate_left
                  · simp only [Act.put,List.setIfInBounds_toArray,List.set_cons_zero,List.set_cons_succ,i64_w,i32_w]
                    rfl
                  refine one_ (i:=9) (N:=some 11) #[true,true,true,true,true,true,true,true,true,true,false,false] rfl rfl (one_of HT_.out (by kernel_rfl)) (by decide) (fun K hK=>?_)
                  refine box_step ?hg (N:=11) ?hd (cs:=#[.int .i64 0,.int .i64 0,.slice none 0 0,.slice none 0 0]) (t:=41) ?hr ?_;(case hd=>rfl);(case hg=>rfl);(case hr=>first|(go_simp;done)|(go_simp;rfl))
                  intro gb254 hg w39 hbox hb
                  have n0_:=mk15_ (Kd.V_below (Kd.V_elderB (by (with_reducible repeat (first|apply Kd.V_alloc|apply Kd.V_drewN|apply Kd.V_drew));exact HO_239003.out) gb254 (Nat.le_of_eq hg.symm)) hb)
                  have n1_:=mk15_ (Kd.R_below (by (with_reducible repeat (first|apply rA15_|apply Kd.R_drewN|apply rD15_));exact HO249.out) hb)
                  have n2_:=mk15_ (Kd.R_below (by (with_reducible repeat (first|apply rA15_|apply Kd.R_drewN|apply rD15_));exact HO252.out) hb)
                  have n3_:=mk15_ (blk_below (g:=gb238) (o:=.cells #[.int .i64 a0_0,.int .i64 a0_1,.int .i64 a0_2,.slice A0_3 l0_3.length c0_3,.int .i64 a0_4,.int .i64 a0_5,.bool a0_6,.int .i64 a0_7] 40 (0,0)) (by (with_reducible repeat (first|refine kN15_ ?_ _|refine kD15_ ?_|refine kA15_ ?_ _));exact BK238.out) hb)
                  have n4_:=mk15_ (blk_below (g:=gb239) (o:=.cells #[.int .i64 0,.int .i64 0,.int .i64 0,.slice none 0 0,.int .i64 0,.int .i64 0,.bool false,.int .i64 0,.int .i64 0,.int .i64 0,.slice none 0 0,.slice none 0 0,.slice none 0 0,.int .i64 0,.int .i64 0,.slice none 0 0,.slice none 0 0,.int .i64 0,.int .i64 0] 44 (0,0)) (by (with_reducible repeat (first|refine kN15_ ?_ _|refine kD15_ ?_|refine kA15_ ?_ _));exact BK239.out) hb)
                  have n5_:=mk15_ (blk_below (g:=gb240) (o:=.cells #[.int .i64 a0_0,.int .i64 a0_1,.int .i64 a0_2] 37 (0,0)) (by (with_reducible repeat (first|refine kN15_ ?_ _|refine kD15_ ?_|refine kA15_ ?_ _));exact BK240.out) hb)
                  have n6_:=mk15_ (bT15_ (by repeat (first|(with_reducible first|exact HB.out|apply bA15_|apply bN15_|apply bD15_|refine bS15_ ?_ GE238.out|refine bS15_ ?_ GE239.out|refine bS15_ ?_ GE240.out)|exact HB.out)) hb)
                  have n7_ := Aside0.mk (hbox)
                  have n8_:=mk15_ ((by rw [hg];exact (bZ15_ (by repeat (first|(with_reducible first|exact HB.out|apply bA15_|apply bN15_|apply bD15_|refine bS15_ ?_ GE238.out|refine bS15_ ?_ GE239.out|refine bS15_ ?_ GE240.out)|exact HB.out))):w.heap.size≤gb254))
                  have n9_:=mk15_ ((by rw [hg];exact (bZ15_ (by repeat (first|(with_reducible first|exact HB.out|apply bA15_|apply bN15_|apply bD15_|refine bS15_ ?_ GE238.out|refine bS15_ ?_ GE239.out|refine bS15_ ?_ GE240.out)|exact HB.out))):w.heap.size≤gb254))
                  have n10_:=mk15_ ((by rw [hg];exact Nat.ne_of_lt (blk_lt (g:=gb238) (o:=.cells #[.int .i64 a0_0,.int .i64 a0_1,.int .i64 a0_2,.slice A0_3 l0_3.length c0_3,.int .i64 a0_4,.int .i64 a0_5,.bool a0_6,.int .i64 a0_7] 40 (0,0)) (by (with_reducible repeat (first|refine kN15_ ?_ _|refine kD15_ ?_|refine kA15_ ?_ _));exact BK238.out)):gb238≠gb254))
                  have n11_:=mk15_ ((by rw [hg];exact Nat.ne_of_gt (blk_lt (g:=gb238) (o:=.cells #[.int .i64 a0_0,.int .i64 a0_1,.int .i64 a0_2,.slice A0_3 l0_3.length c0_3,.int .i64 a0_4,.int .i64 a0_5,.bool a0_6,.int .i64 a0_7] 40 (0,0)) (by (with_reducible repeat (first|refine kN15_ ?_ _|refine kD15_ ?_|refine kA15_ ?_ _));exact BK238.out)):gb254≠gb238))
                  have n12_:=mk15_ ((by rw [hg];exact Nat.ne_of_lt (blk_lt (g:=gb239) (o:=.cells #[.int .i64 0,.int .i64 0,.int .i64 0,.slice none 0 0,.int .i64 0,.int .i64 0,.bool false,.int .i64 0,.int .i64 0,.int .i64 0,.slice none 0 0,.slice none 0 0,.slice none 0 0,.int .i64 0,.int .i64 0,.slice none 0 0,.slice none 0 0,.int .i64 0,.int .i64 0] 44 (0,0)) (by (with_reducible repeat (first|refine kN15_ ?_ _|refine kD15_ ?_|refine kA15_ ?_ _));exact BK239.out)):gb239≠gb254))
                  have n13_:=mk15_ ((by rw [hg];exact Nat.ne_of_gt (blk_lt (g:=gb239) (o:=.cells #[.int .i64 0,.int .i64 0,.int .i64 0,.slice none 0 0,.int .i64 0,.int .i64 0,.bool false,.int .i64 0,.int .i64 0,.int .i64 0,.slice none 0 0,.slice none 0 0,.slice none 0 0,.int .i64 0,.int .i64 0,.slice none 0 0,.slice none 0 0,.int .i64 0,.int .i64 0] 44 (0,0)) (by (with_reducible repeat (first|refine kN15_ ?_ _|refine kD15_ ?_|refine kA15_ ?_ _));exact BK239.out)):gb254≠gb239))
                  have n14_:=mk15_ ((by rw [hg];exact Nat.ne_of_lt (blk_lt (g:=gb240) (o:=.cells #[.int .i64 a0_0,.int .i64 a0_1,.int .i64 a0_2] 37 (0,0)) (by (with_reducible repeat (first|refine kN15_ ?_ _|refine kD15_ ?_|refine kA15_ ?_ _));exact BK240.out)):gb240≠gb254))
                  have n15_:=mk15_ ((by rw [hg];exact Nat.ne_of_gt (blk_lt (g:=gb240) (o:=.cells #[.int .i64 a0_0,.int .i64 a0_1,.int .i64 a0_2] 37 (0,0)) (by (with_reducible repeat (first|refine kN15_ ?_ _|refine kD15_ ?_|refine kA15_ ?_ _));exact BK240.out)):gb254≠gb240))
                  clear HO_239003
                  clear HO249
                  clear HO252
                  clear BK238
                  clear BK239
                  clear BK240
                  clear HB
                  have HO_239003 := n0_
                  have HO249 := n1_
                  have HO252 := n2_
                  have BK238 := n3_
                  have BK239 := n4_
                  have BK240 := n5_
                  have HB := n6_
                  have BK254 := n7_
                  have GW254 := n8_
                  have GE254 := n9_
                  have NB238_254 := n10_
                  have NB254_238 := n11_
                  have NB239_254 := n12_
                  have NB254_239 := n13_
                  have NB240_254 := n14_
                  have NB254_240 := n15_
                  clear n0_ n1_ n2_ n3_ n4_ n5_ n6_ n7_ n8_ n9_ n10_ n11_ n12_ n13_ n14_ n15_
                  clear hb hbox hg
                  refine hK.out _ _ ⟨(blk_cell BK240.out 0).trans rfl,(blk_cell BK240.out 1).trans rfl,(blk_cell BK240.out 2).trans rfl⟩ (fun hHeld=>?_)
                  clear hK K
                  refine norm_ (a' := ?_) ?_ ?_
                  rotate_left
                  · show Act.put _ (some 11) _ = _
                    simp only [Act.put,List.setIfInBounds_toArray,List.set_cons_zero,List.set_cons_succ,i64_w,i32_w]
                    rfl
                  exact norm_ (by simp only [putAll,Act.put,List.setIfInBounds_toArray,List.set_cons_zero,List.set_cons_succ]) (hCont (v248,v251,gb254) _ ⟨hHeld,(by (with_reducible repeat (first|apply rA15_|apply Kd.R_drewN|apply rD15_));exact Kd.R_mono HO249.out (fun _ hk=>hk.1)),(by (with_reducible repeat (first|apply rA15_|apply Kd.R_drewN|apply rD15_));exact Kd.R_mono HO252.out (fun _ hk=>hk.1)),(by (with_reducible repeat (first|apply Kd.V_alloc|apply Kd.V_drewN|apply Kd.V_drew));exact Kd.V_mono HO_239003.out (fun _ hk=>⟨hk.1.1.1.1,⟨hk.1.1.2,⟨hk.1.2,⟨hk.1.1.1.2.1,⟨hk.1.1.1.2.2.1,⟨hk.1.1.1.2.2.2,hk.2⟩⟩⟩⟩⟩⟩)),(by (with_reducible repeat (first|refine kN15_ ?_ _|refine kD15_ ?_|refine kA15_ ?_ _));exact BK238.out),(by (with_reducible repeat (first|refine kN15_ ?_ _|refine kD15_ ?_|refine kA15_ ?_ _));exact BK239.out),(by (with_reducible repeat (first|refine kN15_ ?_ _|refine kD15_ ?_|refine kA15_ ?_ _));exact BK240.out),(by (with_reducible repeat (first|refine kN15_ ?_ _|refine kD15_ ?_|refine kA15_ ?_ _));exact BK254.out),GW254.out,GE254.out,NB238_254.out,NB254_238.out,NB239_254.out,NB254_239.out,NB240_254.out,NB254_240.out,(by repeat (first|(with_reducible first|exact HB.out|apply bA15_|apply bN15_|apply bD15_|refine bS15_ ?_ GE238.out|refine bS15_ ?_ GE239.out|refine bS15_ ?_ GE240.out|refine bS15_ ?_ GE254.out)|exact HB.out))⟩)
                · skip
                  refine box_step ?hg (N:=11) ?hd (cs:=#[.int .i64 0,.int .i64 0,.slice none 0 0,.slice none 0 0]) (t:=41) ?hr ?_;(case hd=>rfl);(case hg=>rfl);(case hr=>first|(go_simp;done)|(go_simp;rfl))
                  intro gb254 hg w38 hbox hb
                  have n0_:=mk15_ (Kd.V_below (Kd.V_elderB (by (with_reducible repeat (first|apply Kd.V_alloc|apply Kd.V_drewN|apply Kd.V_drew));exact HO_239003.out) gb254 (Nat.le_of_eq hg.symm)) hb)
                  have n1_:=mk15_ (blk_below (g:=gb238) (o:=.cells #[.int .i64 a0_0,.int .i64 a0_1,.int .i64 a0_2,.slice A0_3 l0_3.length c0_3,.int .i64 a0_4,.int .i64 a0_5,.bool a0_6,.int .i64 a0_7] 40 (0,0)) (by (with_reducible repeat (first|refine kN15_ ?_ _|refine kD15_ ?_|refine kA15_ ?_ _));exact BK238.out) hb)
                  have n2_:=mk15_ (blk_below (g:=gb239) (o:=.cells #[.int .i64 0,.int .i64 0,.int .i64 0,.slice none 0 0,.int .i64 0,.int .i64 0,.bool false,.int .i64 0,.int .i64 0,.int .i64 0,.slice none 0 0,.slice none 0 0,.slice none 0 0,.int .i64 0,.int .i64 0,.slice none 0 0,.slice none 0 0,.int .i64 0,.int .i64 0] 44 (0,0)) (by (with_reducible repeat (first|refine kN15_ ?_ _|refine kD15_ ?_|refine kA15_ ?_ _));exact BK239.out) hb)
                  have n3_:=mk15_ (blk_below (g:=gb240) (o:=.cells #[.int .i64 a0_0,.int .i64 a0_1,.int .i64 a0_2] 37 (0,0)) (by (with_reducible repeat (first|refine kN15_ ?_ _|refine kD15_ ?_|refine kA15_ ?_ _));exact BK240.out) hb)
                  have n4_:=mk15_ (bT15_ (by repeat (first|(with_reducible first|exact HB.out|apply bA15_|apply bN15_|apply bD15_|refine bS15_ ?_ GE238.out|refine bS15_ ?_ GE239.out|refine bS15_ ?_ GE240.out)|exact HB.out)) hb)
                  have n5_ := Aside0.mk (hbox)
                  have n6_:=mk15_ ((by rw [hg];exact (bZ15_ (by repeat (first|(with_reducible first|exact HB.out|apply bA15_|apply bN15_|apply bD15_|refine bS15_ ?_ GE238.out|refine bS15_ ?_ GE239.out|refine bS15_ ?_ GE240.out)|exact HB.out))):w.heap.size≤gb254))
                  have n7_:=mk15_ ((by rw [hg];exact (bZ15_ (by repeat (first|(with_reducible first|exact HB.out|apply bA15_|apply bN15_|apply bD15_|refine bS15_ ?_ GE238.out|refine bS15_ ?_ GE239.out|refine bS15_ ?_ GE240.out)|exact HB.out))):w.heap.size≤gb254))
                  have n8_:=mk15_ ((by rw [hg];exact Nat.ne_of_lt (blk_lt (g:=gb238) (o:=.cells #[.int .i64 a0_0,.int .i64 a0_1,.int .i64 a0_2,.slice A0_3 l0_3.length c0_3,.int .i64 a0_4,.int .i64 a0_5,.bool a0_6,.int .i64 a0_7] 40 (0,0)) (by (with_reducible repeat (first|refine kN15_ ?_ _|refine kD15_ ?_|refine kA15_ ?_ _));exact BK238.out)):gb238≠gb254))
                  have n9_:=mk15_ ((by rw [hg];exact Nat.ne_of_gt (blk_lt (g:=gb238) (o:=.cells #[.int .i64 a0_0,.int .i64 a0_1,.int .i64 a0_2,.slice A0_3 l0_3.length c0_3,.int .i64 a0_4,.int .i64 a0_5,.bool a0_6,.int .i64 a0_7] 40 (0,0)) (by (with_reducible repeat (first|refine kN15_ ?_ _|refine kD15_ ?_|refine kA15_ ?_ _));exact BK238.out)):gb254≠gb238))
                  have n10_:=mk15_ ((by rw [hg];exact Nat.ne_of_lt (blk_lt (g:=gb239) (o:=.cells #[.int .i64 0,.int .i64 0,.int .i64 0,.slice none 0 0,.int .i64 0,.int .i64 0,.bool false,.int .i64 0,.int .i64 0,.int .i64 0,.slice none 0 0,.slice none 0 0,.slice none 0 0,.int .i64 0,.int .i64 0,.slice none 0 0,.slice none 0 0,.int .i64 0,.int .i64 0] 44 (0,0)) (by (with_reducible repeat (first|refine kN15_ ?_ _|refine kD15_ ?_|refine kA15_ ?_ _));exact BK239.out)):gb239≠gb254))
                  have n11_:=mk15_ ((by rw [hg];exact Nat.ne_of_gt (blk_lt (g:=gb239) (o:=.cells #[.int .i64 0,.int .i64 0,.int .i64 0,.slice none 0 0,.int .i64 0,.int .i64 0,.bool false,.int .i64 0,.int .i64 0,.int .i64 0,.slice none 0 0,.slice none 0 0,.slice none 0 0,.int .i64 0,.int .i64 0,.slice none 0 0,.slice none 0 0,.int .i64 0,.int .i64 0] 44 (0,0)) (by (with_reducible repeat (first|refine kN15_ ?_ _|refine kD15_ ?_|refine kA15_ ?_ _));exact BK239.out)):gb254≠gb239))
                  have n12_:=mk15_ ((by rw [hg];exact Nat.ne_of_lt (blk_lt (g:=gb240) (o:=.cells #[.int .i64 a0_0,.int .i64 a0_1,.int .i64 a0_2] 37 (0,0)) (by (with_reducible repeat (first|refine kN15_ ?_ _|refine kD15_ ?_|refine kA15_ ?_ _));exact BK240.out)):gb240≠gb254))
                  have n13_:=mk15_ ((by rw [hg];exact Nat.ne_of_gt (blk_lt (g:=gb240) (o:=.cells #[.int .i64 a0_0,.int .i64 a0_1,.int .i64 a0_2] 37 (0,0)) (by (with_reducible repeat (first|refine kN15_ ?_ _|refine kD15_ ?_|refine kA15_ ?_ _));exact BK240.out)):gb254≠gb240))
                  clear HO_239003
                  clear BK238
                  clear BK239
                  clear BK240
                  clear HB
                  have HO_239003 := n0_
                  have BK238 := n1_
                  have BK239 := n2_
                  have BK240 := n3_
                  have HB := n4_
                  have BK254 := n5_
                  have GW254 := n6_
                  have GE254 := n7_
                  have NB238_254 := n8_
                  have NB254_238 := n9_
                  have NB239_254 := n10_
                  have NB254_239 := n11_
                  have NB240_254 := n12_
                  have NB254_240 := n13_
                  clear n0_ n1_ n2_ n3_ n4_ n5_ n6_ n7_ n8_ n9_ n10_ n11_ n12_ n13_
                  clear hb hbox hg
                  refine hK.out _ _ ⟨(blk_cell BK240.out 0).trans rfl,(blk_cell BK240.out 1).trans rfl,(blk_cell BK240.out 2).trans rfl⟩ (fun hHeld=>?_)
                  clear hK K
                  refine norm_ (a' := ?_) ?_ ?_
                  rotate_left
                  · show Act.put _ (some 11) _ = _
                    simp only [Act.put,List.setIfInBounds_toArray,List.set_cons_zero,List.set_cons_succ,i64_w,i32_w]
                    rfl
                  refine one_ (i:=5) (N:=some 35) #[true,true,true,true,true,true,false,false,false,true,false,false] rfl rfl (one_of HT_.out (by kernel_rfl)) (by decide) (fun K hK=>?_)
                  refine goes_ Try.func175 (by kernel_rfl) rfl #[.int .i64 a1,.int .i64 t244,.int .i64 a0_2] (by rfl) rfl rfl (by (try simp only [List.map_toArray,List.map_cons,List.map_nil]);first|done|rfl|(simp only [List.length_drop,List.length_take];rfl)) ?_
                  with_reducible refine (impl_newMap.calls a1 t244 a0_2 t245 t246 t247 t250 t253 _ A31.out).mono ?_
                  rintro e w39 ⟨v248, v251, rfl, ho0, ho1, hb⟩
                  refine ⟨_, rfl, ?_⟩
                  have n0_:=mk15_ (Kd.V_mono (Kd.V_told (Kd.V_told (Kd.V_old (by (with_reducible repeat (first|apply Kd.V_alloc|apply Kd.V_drewN|apply Kd.V_drew));exact HO_239003.out) hb) (Kd.R_base ho0)) (Kd.R_base ho1)) (fun _ h_=>h_.1))
                  have n1_:=mk15_ (Kd.R_lower (Kd.R_newM (M:=fun k_=>(w.heap.size≤k_)) ho0 (bZ15_ (by repeat (first|(with_reducible first|exact HB.out|apply bA15_|apply bN15_|apply bD15_|refine bS15_ ?_ GE238.out|refine bS15_ ?_ GE239.out|refine bS15_ ?_ GE240.out|refine bS15_ ?_ GE254.out)|exact HB.out))) (fun k_ h_=>h_)) (bZ15_ (by repeat (first|(with_reducible first|exact HB.out|apply bA15_|apply bN15_|apply bD15_|refine bS15_ ?_ GE238.out|refine bS15_ ?_ GE239.out|refine bS15_ ?_ GE240.out|refine bS15_ ?_ GE254.out)|exact HB.out))))
                  have n2_:=mk15_ (Kd.R_lower (Kd.R_newM (M:=fun k_=>(w.heap.size≤k_)) ho1 (bZ15_ (by repeat (first|(with_reducible first|exact HB.out|apply bA15_|apply bN15_|apply bD15_|refine bS15_ ?_ GE238.out|refine bS15_ ?_ GE239.out|refine bS15_ ?_ GE240.out|refine bS15_ ?_ GE254.out)|exact HB.out))) (fun k_ h_=>h_)) (bZ15_ (by repeat (first|(with_reducible first|exact HB.out|apply bA15_|apply bN15_|apply bD15_|refine bS15_ ?_ GE238.out|refine bS15_ ?_ GE239.out|refine bS15_ ?_ GE240.out|refine bS15_ ?_ GE254.out)|exact HB.out))))
                  have n3_:=mk15_ (blk_below (g:=gb238) (o:=.cells #[.int .i64 a0_0,.int .i64 a0_1,.int .i64 a0_2,.slice A0_3 l0_3.length c0_3,.int .i64 a0_4,.int .i64 a0_5,.bool a0_6,.int .i64 a0_7] 40 (0,0)) (by (with_reducible repeat (first|refine kN15_ ?_ _|refine kD15_ ?_|refine kA15_ ?_ _));exact BK238.out) hb)
                  have n4_:=mk15_ (blk_below (g:=gb239) (o:=.cells #[.int .i64 0,.int .i64 0,.int .i64 0,.slice none 0 0,.int .i64 0,.int .i64 0,.bool false,.int .i64 0,.int .i64 0,.int .i64 0,.slice none 0 0,.slice none 0 0,.slice none 0 0,.int .i64 0,.int .i64 0,.slice none 0 0,.slice none 0 0,.int .i64 0,.int .i64 0] 44 (0,0)) (by (with_reducible repeat (first|refine kN15_ ?_ _|refine kD15_ ?_|refine kA15_ ?_ _));exact BK239.out) hb)
                  have n5_:=mk15_ (blk_below (g:=gb240) (o:=.cells #[.int .i64 a0_0,.int .i64 a0_1,.int .i64 a0_2] 37 (0,0)) (by (with_reducible repeat (first|refine kN15_ ?_ _|refine kD15_ ?_|refine kA15_ ?_ _));exact BK240.out) hb)
                  have n6_:=mk15_ (blk_below (g:=gb254) (o:=.cells #[.int .i64 0,.int .i64 0,.slice none 0 0,.slice none 0 0] 41 (0,0)) (by (with_reducible repeat (first|refine kN15_ ?_ _|refine kD15_ ?_|refine kA15_ ?_ _));exact BK254.out) hb)
                  have n7_:=mk15_ (bT15_ (by repeat (first|(with_reducible first|exact HB.out|apply bA15_|apply bN15_|apply bD15_|refine bS15_ ?_ GE238.out|refine bS15_ ?_ GE239.out|refine bS15_ ?_ GE240.out|refine bS15_ ?_ GE254.out)|exact HB.out)) hb)
                  clear HO_239003
                  clear BK238
                  clear BK239
                  clear BK240
                  clear BK254
                  clear HB
                  have HO_239003 := n0_
                  have HO249 := n1_
                  have HO252 := n2_
                  have BK238 := n3_
                  have BK239 := n4_
                  have BK240 := n5_
                  have BK254 := n6_
                  have HB := n7_
                  clear n0_ n1_ n2_ n3_ n4_ n5_ n6_ n7_
                  (try clear hb)
                  (try clear hb2)
                  (try clear hk)
                  (try clear hi)
                  (try clear ho0)
                  (try clear ho1)
                  refine hK.out _ _ ⟨(blk_cell BK240.out 0).trans rfl,(blk_cell BK240.out 1).trans rfl,(blk_cell BK240.out 2).trans rfl⟩ (fun hHeld=>?_)
                  clear hK K
                  refine norm_ (a' := ?_) ?_ ?_
                  rotate_left
                  · show Act.put _ (some 35) _ = _
                    simp only [Act.put,List.setIfInBounds_toArray,List.set_cons_zero,List.set_cons_succ,i64_w,i32_w]
                    rfl
                  refine pure_ (i:=6) (N:=some 29) (v:=?_) (a':=?_) #[true,true,true,true,true,true,true,false,false,true,false,false] rfl rfl (any_of HT_.out (by kernel_rfl)) (fun _ _ _ h=>h) (Or.inl ⟨by rfl,?_⟩) ?_ ?_
                  rotate_left
                  · intro w'
                    go_simp
                    with_reducible rfl
                  rotate_left
                  · simp only [Act.put,List.setIfInBounds_toArray,List.set_cons_zero,List.set_cons_succ,i64_w,i32_w]
                    rfl
                  refine pure_ (i:=7) (N:=some 36) (v:=?_) (a':=?_) #[true,true,true,true,true,true,true,true,false,true,false,false] rfl rfl (any_of HT_.out (by kernel_rfl)) (fun _ _ _ h=>h) (Or.inl ⟨by rfl,?_⟩) ?_ ?_
                  rotate_left
                  · intro w'
                    go_simp
                    with_reducible rfl
                  rotate_left
                  · simp only [Act.put,List.setIfInBounds_toArray,List.set_cons_zero,List.set_cons_succ,i64_w,i32_w]
                    rfl
                  refine pure_ (i:=8) (N:=some 37) (v:=?_) (a':=?_) #[true,true,true,true,true,true,true,true,true,true,false,false] rfl rfl (any_of HT_.out (by kernel_rfl)) (fun _ _ _ h=>h) (Or.inl ⟨by rfl,?_⟩) ?_ ?_
                  rotate_left
                  · intro w'
                    go_simp
                    with_reducible rfl
                  rotate_left
                  · simp only [Act.put,List.setIfInBounds_toArray,List.set_cons_zero,List.set_cons_succ,i64_w,i32_w]
                    rfl
                  exact norm_ (by simp only [putAll,Act.put,List.setIfInBounds_toArray,List.set_cons_zero,List.set_cons_succ]) (hCont (v248,v251,gb254) _ ⟨hHeld,(by (with_reducible repeat (first|apply rA15_|apply Kd.R_drewN|apply rD15_));exact Kd.R_mono HO249.out (fun _ hk=>hk.1)),(by (with_reducible repeat (first|apply rA15_|apply Kd.R_drewN|apply rD15_));exact Kd.R_mono HO252.out (fun _ hk=>hk.1)),(by (with_reducible repeat (first|apply Kd.V_alloc|apply Kd.V_drewN|apply Kd.V_drew));exact Kd.V_mono HO_239003.out (fun _ hk=>⟨hk.1.1.1.1,⟨hk.1.2,⟨hk.2,⟨hk.1.1.1.2.1,⟨hk.1.1.1.2.2.1,⟨hk.1.1.1.2.2.2,hk.1.1.2⟩⟩⟩⟩⟩⟩)),(by (with_reducible repeat (first|refine kN15_ ?_ _|refine kD15_ ?_|refine kA15_ ?_ _));exact BK238.out),(by (with_reducible repeat (first|refine kN15_ ?_ _|refine kD15_ ?_|refine kA15_ ?_ _));exact BK239.out),(by (with_reducible repeat (first|refine kN15_ ?_ _|refine kD15_ ?_|refine kA15_ ?_ _));exact BK240.out),(by (with_reducible repeat (first|refine kN15_ ?_ _|refine kD15_ ?_|refine kA15_ ?_ _));exact BK254.out),GW254.out,GE254.out,NB238_254.out,NB254_238.out,NB239_254.out,NB254_239.out,NB240_254.out,NB254_240.out,(by repeat (first|(with_reducible first|exact HB.out|apply bA15_|apply bN15_|apply bD15_|refine bS15_ ?_ GE238.out|refine bS15_ ?_ GE239.out|refine bS15_ ?_ GE240.out|refine bS15_ ?_ GE254.out)|exact HB.out))⟩)
              · skip
                refine box_step ?hg (N:=11) ?hd (cs:=#[.int .i64 0,.int .i64 0,.slice none 0 0,.slice none 0 0]) (t:=41) ?hr ?_;(case hd=>rfl);(case hg=>rfl);(case hr=>first|(go_simp;done)|(go_simp;rfl))
                intro gb254 hg w37 hbox hb
                have n0_:=mk15_ (Kd.V_below (Kd.V_elderB (by (with_reducible repeat (first|apply Kd.V_alloc|apply Kd.V_drewN|apply Kd.V_drew));exact HO_239003.out) gb254 (Nat.le_of_eq hg.symm)) hb)
                have n1_:=mk15_ (blk_below (g:=gb238) (o:=.cells #[.int .i64 a0_0,.int .i64 a0_1,.int .i64 a0_2,.slice A0_3 l0_3.length c0_3,.int .i64 a0_4,.int .i64 a0_5,.bool a0_6,.int .i64 a0_7] 40 (0,0)) (by (with_reducible repeat (first|refine kN15_ ?_ _|refine kD15_ ?_|refine kA15_ ?_ _));exact BK238.out) hb)
                have n2_:=mk15_ (blk_below (g:=gb239) (o:=.cells #[.int .i64 0,.int .i64 0,.int .i64 0,.slice none 0 0,.int .i64 0,.int .i64 0,.bool false,.int .i64 0,.int .i64 0,.int .i64 0,.slice none 0 0,.slice none 0 0,.slice none 0 0,.int .i64 0,.int .i64 0,.slice none 0 0,.slice none 0 0,.int .i64 0,.int .i64 0] 44 (0,0)) (by (with_reducible repeat (first|refine kN15_ ?_ _|refine kD15_ ?_|refine kA15_ ?_ _));exact BK239.out) hb)
                have n3_:=mk15_ (blk_below (g:=gb240) (o:=.cells #[.int .i64 a0_0,.int .i64 a0_1,.int .i64 a0_2] 37 (0,0)) (by (with_reducible repeat (first|refine kN15_ ?_ _|refine kD15_ ?_|refine kA15_ ?_ _));exact BK240.out) hb)
                have n4_:=mk15_ (bT15_ (by repeat (first|(with_reducible first|exact HB.out|apply bA15_|apply bN15_|apply bD15_|refine bS15_ ?_ GE238.out|refine bS15_ ?_ GE239.out|refine bS15_ ?_ GE240.out)|exact HB.out)) hb)
                have n5_ := Aside0.mk (hbox)
                have n6_:=mk15_ ((by rw [hg];exact (bZ15_ (by repeat (first|(with_reducible first|exact HB.out|apply bA15_|apply bN15_|apply bD15_|refine bS15_ ?_ GE238.out|refine bS15_ ?_ GE239.out|refine bS15_ ?_ GE240.out)|exact HB.out))):w.heap.size≤gb254))
                have n7_:=mk15_ ((by rw [hg];exact (bZ15_ (by repeat (first|(with_reducible first|exact HB.out|apply bA15_|apply bN15_|apply bD15_|refine bS15_ ?_ GE238.out|refine bS15_ ?_ GE239.out|refine bS15_ ?_ GE240.out)|exact HB.out))):w.heap.size≤gb254))
                have n8_:=mk15_ ((by rw [hg];exact Nat.ne_of_lt (blk_lt (g:=gb238) (o:=.cells #[.int .i64 a0_0,.int .i64 a0_1,.int .i64 a0_2,.slice A0_3 l0_3.length c0_3,.int .i64 a0_4,.int .i64 a0_5,.bool a0_6,.int .i64 a0_7] 40 (0,0)) (by (with_reducible repeat (first|refine kN15_ ?_ _|refine kD15_ ?_|refine kA15_ ?_ _));exact BK238.out)):gb238≠gb254))
                have n9_:=mk15_ ((by rw [hg];exact Nat.ne_of_gt (blk_lt (g:=gb238) (o:=.cells #[.int .i64 a0_0,.int .i64 a0_1,.int .i64 a0_2,.slice A0_3 l0_3.length c0_3,.int .i64 a0_4,.int .i64 a0_5,.bool a0_6,.int .i64 a0_7] 40 (0,0)) (by (with_reducible repeat (first|refine kN15_ ?_ _|refine kD15_ ?_|refine kA15_ ?_ _));exact BK238.out)):gb254≠gb238))
                have n10_:=mk15_ ((by rw [hg];exact Nat.ne_of_lt (blk_lt (g:=gb239) (o:=.cells #[.int .i64 0,.int .i64 0,.int .i64 0,.slice none 0 0,.int .i64 0,.int .i64 0,.bool false,.int .i64 0,.int .i64 0,.int .i64 0,.slice none 0 0,.slice none 0 0,.slice none 0 0,.int .i64 0,.int .i64 0,.slice none 0 0,.slice none 0 0,.int .i64 0,.int .i64 0] 44 (0,0)) (by (with_reducible repeat (first|refine kN15_ ?_ _|refine kD15_ ?_|refine kA15_ ?_ _));exact BK239.out)):gb239≠gb254))
                have n11_:=mk15_ ((by rw [hg];exact Nat.ne_of_gt (blk_lt (g:=gb239) (o:=.cells #[.int .i64 0,.int .i64 0,.int .i64 0,.slice none 0 0,.int .i64 0,.int .i64 0,.bool false,.int .i64 0,.int .i64 0,.int .i64 0,.slice none 0 0,.slice none 0 0,.slice none 0 0,.int .i64 0,.int .i64 0,.slice none 0 0,.slice none 0 0,.int .i64 0,.int .i64 0] 44 (0,0)) (by (with_reducible repeat (first|refine kN15_ ?_ _|refine kD15_ ?_|refine kA15_ ?_ _));exact BK239.out)):gb254≠gb239))
                have n12_:=mk15_ ((by rw [hg];exact Nat.ne_of_lt (blk_lt (g:=gb240) (o:=.cells #[.int .i64 a0_0,.int .i64 a0_1,.int .i64 a0_2] 37 (0,0)) (by (with_reducible repeat (first|refine kN15_ ?_ _|refine kD15_ ?_|refine kA15_ ?_ _));exact BK240.out)):gb240≠gb254))
                have n13_:=mk15_ ((by rw [hg];exact Nat.ne_of_gt (blk_lt (g:=gb240) (o:=.cells #[.int .i64 a0_0,.int .i64 a0_1,.int .i64 a0_2] 37 (0,0)) (by (with_reducible repeat (first|refine kN15_ ?_ _|refine kD15_ ?_|refine kA15_ ?_ _));exact BK240.out)):gb254≠gb240))
                clear HO_239003
                clear BK238
                clear BK239
                clear BK240
                clear HB
                have HO_239003 := n0_
                have BK238 := n1_
                have BK239 := n2_
                have BK240 := n3_
                have HB := n4_
                have BK254 := n5_
                have GW254 := n6_
                have GE254 := n7_
                have NB238_254 := n8_
                have NB254_238 := n9_
                have NB239_254 := n10_
                have NB254_239 := n11_
                have NB240_254 := n12_
                have NB254_240 := n13_
                clear n0_ n1_ n2_ n3_ n4_ n5_ n6_ n7_ n8_ n9_ n10_ n11_ n12_ n13_
                clear hb hbox hg
                refine hK.out _ _ ⟨(blk_cell BK240.out 0).trans rfl,(blk_cell BK240.out 1).trans rfl,(blk_cell BK240.out 2).trans rfl⟩ (fun hHeld=>?_)
                clear hK K
                refine norm_ (a' := ?_) ?_ ?_
                rotate_left
                · show Act.put _ (some 11) _ = _
                  simp only [Act.put,List.setIfInBounds_toArray,List.set_cons_zero,List.set_cons_succ,i64_w,i32_w]
                  rfl
                refine one_ (i:=2) (N:=some 32) #[true,true,true,true,true,false,false,false,false,true,false,false] rfl rfl (one_of HT_.out (by kernel_rfl)) (by decide) (fun K hK=>?_)
                refine goes_ Try.func126 (by kernel_rfl) rfl #[.agg #[.int .i64 a0_0,.int .i64 a0_1,.int .i64 a0_2]] (by rfl) rfl rfl (by (try simp only [List.map_toArray,List.map_cons,List.map_nil]);first|done|rfl|(simp only [List.length_drop,List.length_take];rfl)) ?_
                with_reducible refine (impl_Geometry_all.calls a0_0 a0_1 a0_2 t244 _ A30.out).mono ?_
                rintro e w38 ⟨rfl, hb⟩
                refine ⟨_, rfl, ?_⟩
                have n0_:=mk15_ (Kd.V_below (by (with_reducible repeat (first|apply Kd.V_alloc|apply Kd.V_drewN|apply Kd.V_drew));exact HO_239003.out) hb)
                have n1_:=mk15_ (blk_below (g:=gb238) (o:=.cells #[.int .i64 a0_0,.int .i64 a0_1,.int .i64 a0_2,.slice A0_3 l0_3.length c0_3,.int .i64 a0_4,.int .i64 a0_5,.bool a0_6,.int .i64 a0_7] 40 (0,0)) (by (with_reducible repeat (first|refine kN15_ ?_ _|refine kD15_ ?_|refine kA15_ ?_ _));exact BK238.out) hb)
                have n2_:=mk15_ (blk_below (g:=gb239) (o:=.cells #[.int .i64 0,.int .i64 0,.int .i64 0,.slice none 0 0,.int .i64 0,.int .i64 0,.bool false,.int .i64 0,.int .i64 0,.int .i64 0,.slice none 0 0,.slice none 0 0,.slice none 0 0,.int .i64 0,.int .i64 0,.slice none 0 0,.slice none 0 0,.int .i64 0,.int .i64 0] 44 (0,0)) (by (with_reducible repeat (first|refine kN15_ ?_ _|refine kD15_ ?_|refine kA15_ ?_ _));exact BK239.out) hb)
                have n3_:=mk15_ (blk_below (g:=gb240) (o:=.cells #[.int .i64 a0_0,.int .i64 a0_1,.int .i64 a0_2] 37 (0,0)) (by (with_reducible repeat (first|refine kN15_ ?_ _|refine kD15_ ?_|refine kA15_ ?_ _));exact BK240.out) hb)
                have n4_:=mk15_ (blk_below (g:=gb254) (o:=.cells #[.int .i64 0,.int .i64 0,.slice none 0 0,.slice none 0 0] 41 (0,0)) (by (with_reducible repeat (first|refine kN15_ ?_ _|refine kD15_ ?_|refine kA15_ ?_ _));exact BK254.out) hb)
                have n5_:=mk15_ (bT15_ (by repeat (first|(with_reducible first|exact HB.out|apply bA15_|apply bN15_|apply bD15_|refine bS15_ ?_ GE238.out|refine bS15_ ?_ GE239.out|refine bS15_ ?_ GE240.out|refine bS15_ ?_ GE254.out)|exact HB.out)) hb)
                clear HO_239003
                clear BK238
                clear BK239
                clear BK240
                clear BK254
                clear HB
                have HO_239003 := n0_
                have BK238 := n1_
                have BK239 := n2_
                have BK240 := n3_
                have BK254 := n4_
                have HB := n5_
                clear n0_ n1_ n2_ n3_ n4_ n5_
                (try clear hb)
                (try clear hb2)
                (try clear hk)
                (try clear hi)
                refine hK.out _ _ ⟨(blk_cell BK240.out 0).trans rfl,(blk_cell BK240.out 1).trans rfl,(blk_cell BK240.out 2).trans rfl⟩ (fun hHeld=>?_)
                clear hK K
                refine norm_ (a' := ?_) ?_ ?_
                rotate_left
                · show Act.put _ (some 32) _ = _
                  simp only [Act.put,List.setIfInBounds_toArray,List.set_cons_zero,List.set_cons_succ,i64_w,i32_w]
                  rfl
                refine one_ (i:=5) (N:=some 35) #[true,true,true,true,true,true,false,false,false,true,false,false] rfl rfl (one_of HT_.out (by kernel_rfl)) (by decide) (fun K hK=>?_)
                refine goes_ Try.func175 (by kernel_rfl) rfl #[.int .i64 a1,.int .i64 t244,.int .i64 a0_2] (by rfl) rfl rfl (by (try simp only [List.map_toArray,List.map_cons,List.map_nil]);first|done|rfl|(simp only [List.length_drop,List.length_take];rfl)) ?_
                with_reducible refine (impl_newMap.calls a1 t244 a0_2 t245 t246 t247 t250 t253 _ A31.out).mono ?_
                rintro e w39 ⟨v248, v251, rfl, ho0, ho1, hb⟩
                refine ⟨_, rfl, ?_⟩
                have n0_:=mk15_ (Kd.V_mono (Kd.V_told (Kd.V_told (Kd.V_old (by (with_reducible repeat (first|apply Kd.V_alloc|apply Kd.V_drewN|apply Kd.V_drew));exact HO_239003.out) hb) (Kd.R_base ho0)) (Kd.R_base ho1)) (fun _ h_=>h_.1))
                have n1_:=mk15_ (Kd.R_lower (Kd.R_newM (M:=fun k_=>(w.heap.size≤k_)) ho0 (bZ15_ (by repeat (first|(with_reducible first|exact HB.out|apply bA15_|apply bN15_|apply bD15_|refine bS15_ ?_ GE238.out|refine bS15_ ?_ GE239.out|refine bS15_ ?_ GE240.out|refine bS15_ ?_ GE254.out)|exact HB.out))) (fun k_ h_=>h_)) (bZ15_ (by repeat (first|(with_reducible first|exact HB.out|apply bA15_|apply bN15_|apply bD15_|refine bS15_ ?_ GE238.out|refine bS15_ ?_ GE239.out|refine bS15_ ?_ GE240.out|refine bS15_ ?_ GE254.out)|exact HB.out))))
                have n2_:=mk15_ (Kd.R_lower (Kd.R_newM (M:=fun k_=>(w.heap.size≤k_)) ho1 (bZ15_ (by repeat (first|(with_reducible first|exact HB.out|apply bA15_|apply bN15_|apply bD15_|refine bS15_ ?_ GE238.out|refine bS15_ ?_ GE239.out|refine bS15_ ?_ GE240.out|refine bS15_ ?_ GE254.out)|exact HB.out))) (fun k_ h_=>h_)) (bZ15_ (by repeat (first|(with_reducible first|exact HB.out|apply bA15_|apply bN15_|apply bD15_|refine bS15_ ?_ GE238.out|refine bS15_ ?_ GE239.out|refine bS15_ ?_ GE240.out|refine bS15_ ?_ GE254.out)|exact HB.out))))
                have n3_:=mk15_ (blk_below (g:=gb238) (o:=.cells #[.int .i64 a0_0,.int .i64 a0_1,.int .i64 a0_2,.slice A0_3 l0_3.length c0_3,.int .i64 a0_4,.int .i64 a0_5,.bool a0_6,.int .i64 a0_7] 40 (0,0)) (by (with_reducible repeat (first|refine kN15_ ?_ _|refine kD15_ ?_|refine kA15_ ?_ _));exact BK238.out) hb)
                have n4_:=mk15_ (blk_below (g:=gb239) (o:=.cells #[.int .i64 0,.int .i64 0,.int .i64 0,.slice none 0 0,.int .i64 0,.int .i64 0,.bool false,.int .i64 0,.int .i64 0,.int .i64 0,.slice none 0 0,.slice none 0 0,.slice none 0 0,.int .i64 0,.int .i64 0,.slice none 0 0,.slice none 0 0,.int .i64 0,.int .i64 0] 44 (0,0)) (by (with_reducible repeat (first|refine kN15_ ?_ _|refine kD15_ ?_|refine kA15_ ?_ _));exact BK239.out) hb)
                have n5_:=mk15_ (blk_below (g:=gb240) (o:=.cells #[.int .i64 a0_0,.int .i64 a0_1,.int .i64 a0_2] 37 (0,0)) (by (with_reducible repeat (first|refine kN15_ ?_ _|refine kD15_ ?_|refine kA15_ ?_ _));exact BK240.out) hb)
                have n6_:=mk15_ (blk_below (g:=gb254) (o:=.cells #[.int .i64 0,.int .i64 0,.slice none 0 0,.slice none 0 0] 41 (0,0)) (by (with_reducible repeat (first|refine kN15_ ?_ _|refine kD15_ ?_|refine kA15_ ?_ _));exact BK254.out) hb)
                have n7_:=mk15_ (bT15_ (by repeat (first|(with_reducible first|exact HB.out|apply bA15_|apply bN15_|apply bD15_|refine bS15_ ?_ GE238.out|refine bS15_ ?_ GE239.out|refine bS15_ ?_ GE240.out|refine bS15_ ?_ GE254.out)|exact HB.out)) hb)
                clear HO_239003
                clear BK238
                clear BK239
                clear BK240
                clear BK254
                clear HB
                have HO_239003 := n0_
                have HO249 := n1_
                have HO252 := n2_
                have BK238 := n3_
                have BK239 := n4_
                have BK240 := n5_
                have BK254 := n6_
                have HB := n7_
                clear n0_ n1_ n2_ n3_ n4_ n5_ n6_ n7_
                (try clear hb)
                (try clear hb2)
                (try clear hk)
                (try clear hi)
                (try clear ho0)
                (try clear ho1)
                refine hK.out _ _ ⟨(blk_cell BK240.out 0).trans rfl,(blk_cell BK240.out 1).trans rfl,(blk_cell BK240.out 2).trans rfl⟩ (fun hHeld=>?_)
                clear hK K
                refine norm_ (a' := ?_) ?_ ?_
                rotate_left
                · show Act.put _ (some 35) _ = _
                  simp only [Act.put,List.setIfInBounds_toArray,List.set_cons_zero,List.set_cons_succ,i64_w,i32_w]
                  rfl
                refine pure_ (i:=6) (N:=some 29) (v:=?_) (a':=?_) #[true,true,true,true,true,true,true,false,false,true,false,false] rfl rfl (any_of HT_.out (by kernel_rfl)) (fun _ _ _ h=>h) (Or.inl ⟨by rfl,?_⟩) ?_ ?_
                rotate_left
                · intro w'
                  go_simp
                  with_reducible rfl
                rotate_left
                · simp only [Act.put,List.setIfInBounds_toArray,List.set_cons_zero,List.set_cons_succ,i64_w,i32_w]
                  rfl
                refine pure_ (i:=7) (N:=some 36) (v:=?_) (a':=?_) #[true,true,true,true,true,true,true,true,false,true,false,false] rfl rfl (any_of HT_.out (by kernel_rfl)) (fun _ _ _ h=>h) (Or.inl ⟨by rfl,?_⟩) ?_ ?_
                rotate_left
                · intro w'
                  go_simp
                  with_reducible rfl
                rotate_left
                · simp only [Act.put,List.setIfInBounds_toArray,List.set_cons_zero,List.set_cons_succ,i64_w,i32_w]
                  rfl
                refine pure_ (i:=8) (N:=some 37) (v:=?_) (a':=?_) #[true,true,true,true,true,true,true,true,true,true,false,false] rfl rfl (any_of HT_.out (by kernel_rfl)) (fun _ _ _ h=>h) (Or.inl ⟨by rfl,?_⟩) ?_ ?_
                rotate_left
                · intro w'
                  go_simp
                  with_reducible rfl
                rotate_left
                · simp only [Act.put,List.setIfInBounds_toArray,List.set_cons_zero,List.set_cons_succ,i64_w,i32_w]
                  rfl
                exact norm_ (by simp only [putAll,Act.put,List.setIfInBounds_toArray,List.set_cons_zero,List.set_cons_succ]) (hCont (v248,v251,gb254) _ ⟨hHeld,(by (with_reducible repeat (first|apply rA15_|apply Kd.R_drewN|apply rD15_));exact Kd.R_mono HO249.out (fun _ hk=>hk.1)),(by (with_reducible repeat (first|apply rA15_|apply Kd.R_drewN|apply rD15_));exact Kd.R_mono HO252.out (fun _ hk=>hk.1)),(by (with_reducible repeat (first|apply Kd.V_alloc|apply Kd.V_drewN|apply Kd.V_drew));exact Kd.V_mono HO_239003.out (fun _ hk=>⟨hk.1.1.1.1,⟨hk.1.2,⟨hk.2,⟨hk.1.1.1.2.1,⟨hk.1.1.1.2.2.1,⟨hk.1.1.1.2.2.2,hk.1.1.2⟩⟩⟩⟩⟩⟩)),(by (with_reducible repeat (first|refine kN15_ ?_ _|refine kD15_ ?_|refine kA15_ ?_ _));exact BK238.out),(by (with_reducible repeat (first|refine kN15_ ?_ _|refine kD15_ ?_|refine kA15_ ?_ _));exact BK239.out),(by (with_reducible repeat (first|refine kN15_ ?_ _|refine kD15_ ?_|refine kA15_ ?_ _));exact BK240.out),(by (with_reducible repeat (first|refine kN15_ ?_ _|refine kD15_ ?_|refine kA15_ ?_ _));exact BK254.out),GW254.out,GE254.out,NB238_254.out,NB254_238.out,NB239_254.out,NB254_239.out,NB240_254.out,NB254_240.out,(by repeat (first|(with_reducible first|exact HB.out|apply bA15_|apply bN15_|apply bD15_|refine bS15_ ?_ GE238.out|refine bS15_ ?_ GE239.out|refine bS15_ ?_ GE240.out|refine bS15_ ?_ GE254.out)|exact HB.out))⟩)
            rintro ⟨v248,v251,gb254⟩ w40 ⟨hS_,h0_,h1_,h2_,h3_,h4_,h5_,h6_,h7_,h8_,h9_,h10_,h11_,h12_,h13_,h14_,h15_⟩
            have n0_:Aside0 (Kd.R (Kd.int .i64) 2 w40 w.heap.size (fun k_=>(w.heap.size≤k_)) v248 t247):=⟨h0_⟩
            have n1_:Aside0 (Kd.R Kd.bool 4 w40 w.heap.size (fun k_=>(w.heap.size≤k_)) v251 t250):=⟨h1_⟩
            have n2_:Aside0 (Kd.V k120 120 w40 w.heap.size (fun k_=>(P0_3_ k_∨w.heap.size≤k_)∧some k_≠(v248:Value).ownBlock∧some k_≠(v251:Value).ownBlock∧k_≠gb238∧k_≠gb239∧k_≠gb240∧k_≠gb254) (.slice A0_3 l0_3.length c0_3) l0_3):=⟨h2_⟩
            have n3_:Aside0 (w40.heap[gb238]?=some (.cells #[.int .i64 a0_0,.int .i64 a0_1,.int .i64 a0_2,.slice A0_3 l0_3.length c0_3,.int .i64 a0_4,.int .i64 a0_5,.bool a0_6,.int .i64 a0_7] 40 (0,0))):=⟨h3_⟩
            have n4_:Aside0 (w40.heap[gb239]?=some (.cells #[.int .i64 0,.int .i64 0,.int .i64 0,.slice none 0 0,.int .i64 0,.int .i64 0,.bool false,.int .i64 0,.int .i64 0,.int .i64 0,.slice none 0 0,.slice none 0 0,.slice none 0 0,.int .i64 0,.int .i64 0,.slice none 0 0,.slice none 0 0,.int .i64 0,.int .i64 0] 44 (0,0))):=⟨h4_⟩
            have n5_:Aside0 (w40.heap[gb240]?=some (.cells #[.int .i64 a0_0,.int .i64 a0_1,.int .i64 a0_2] 37 (0,0))):=⟨h5_⟩
            have n6_:Aside0 (w40.heap[gb254]?=some (.cells #[.int .i64 0,.int .i64 0,.slice none 0 0,.slice none 0 0] 41 (0,0))):=⟨h6_⟩
            have n7_ : Aside0 (w.heap.size ≤ gb254) := ⟨h7_⟩
            have n8_ : Aside0 (w.heap.size ≤ gb254) := ⟨h8_⟩
            have n9_ : Aside0 (gb238 ≠ gb254) := ⟨h9_⟩
            have n10_ : Aside0 (gb254 ≠ gb238) := ⟨h10_⟩
            have n11_ : Aside0 (gb239 ≠ gb254) := ⟨h11_⟩
            have n12_ : Aside0 (gb254 ≠ gb239) := ⟨h12_⟩
            have n13_ : Aside0 (gb240 ≠ gb254) := ⟨h13_⟩
            have n14_ : Aside0 (gb254 ≠ gb240) := ⟨h14_⟩
            have n15_ : Aside0 (Below w.heap.size w w40) := ⟨h15_⟩
            clear HO_239003
            clear BK238
            clear BK239
            clear BK240
            clear HB
            clear h0_ h1_ h2_ h3_ h4_ h5_ h6_ h7_ h8_ h9_ h10_ h11_ h12_ h13_ h14_ h15_
            have HO249 := n0_
            have HO252 := n1_
            have HO_239003 := n2_
            have BK238 := n3_
            have BK239 := n4_
            have BK240 := n5_
            have BK254 := n6_
            have GW254 := n7_
            have GE254 := n8_
            have NB238_254 := n9_
            have NB254_238 := n10_
            have NB239_254 := n11_
            have NB254_239 := n12_
            have NB240_254 := n13_
            have NB254_240 := n14_
            have HB := n15_
            clear n0_ n1_ n2_ n3_ n4_ n5_ n6_ n7_ n8_ n9_ n10_ n11_ n12_ n13_ n14_ n15_
            have hHeld:w40.cell? ⟨gb240,0,none⟩=some (.int .i64 a0_0)∧w40.cell? ⟨gb240,1,none⟩=some (.int .i64 a0_1)∧w40.cell? ⟨gb240,2,none⟩=some (.int .i64 a0_2):=hS_
            obtain ⟨Ao43, co43, eo43⟩ := Kd.R_slice HO249.out
            (first|subst eo43|(injection eo43 with f1_ f2_ f3_;have f4_:=f1_.symm;have f5_:=f3_.symm;clear f1_ f2_ f3_;subst f4_;subst f5_))
            obtain ⟨Ao45, co45, eo45⟩ := Kd.R_slice HO252.out
            (first|subst eo45|(injection eo45 with f1_ f2_ f3_;have f4_:=f1_.symm;have f5_:=f3_.symm;clear f1_ f2_ f3_;subst f4_;subst f5_))
            refine norm_ (a' := ?_) ?_ ?_
            rotate_left
            · simp only [putAll,Act.put,List.setIfInBounds_toArray,List.set_cons_zero,List.set_cons_succ]
              rfl
            refine one_ (i:=10) (N:=none) #[true,true,true,true,true,true,true,true,true,true,true,false] rfl rfl (one_of HT_.out (by kernel_rfl)) (by decide) (fun K hK=>?_)
            have hs41:w40.cell? ⟨gb254,0,none⟩=some (.int .i64 0):=(blk_cell BK254.out 0).trans rfl
            have hfs41 := blk_frozen BK254.out 0
            have hns41_0 := NB238_254.out
            have hns41_1 := NB239_254.out
            have hns41_2 := NB240_254.out
            have hms41_0 := NB254_238.out
            have hms41_1 := NB254_239.out
            have hms41_2 := NB254_240.out
            have hs42:w40.cell? ⟨gb254,1,none⟩=some (.int .i64 0):=(blk_cell BK254.out 1).trans rfl
            have hfs42 := blk_frozen BK254.out 1
            have hns42_0 := NB238_254.out
            have hns42_1 := NB239_254.out
            have hns42_2 := NB240_254.out
            have hms42_0 := NB254_238.out
            have hms42_1 := NB254_239.out
            have hms42_2 := NB254_240.out
            have hs44:w40.cell? ⟨gb254,2,none⟩=some (.slice none 0 0):=(blk_cell BK254.out 2).trans rfl
            have hfs44 := blk_frozen BK254.out 2
            have hns44_0 := NB238_254.out
            have hns44_1 := NB239_254.out
            have hns44_2 := NB240_254.out
            have hms44_0 := NB254_238.out
            have hms44_1 := NB254_239.out
            have hms44_2 := NB254_240.out
            have hs46:w40.cell? ⟨gb254,3,none⟩=some (.slice none 0 0):=(blk_cell BK254.out 3).trans rfl
            have hfs46 := blk_frozen BK254.out 3
            have hns46_0 := NB238_254.out
            have hns46_1 := NB239_254.out
            have hns46_2 := NB240_254.out
            have hms46_0 := NB254_238.out
            have hms46_1 := NB254_239.out
            have hms46_2 := NB254_240.out
            refine skip_ (w1 := ?_) (by rfl) rfl ?_ ?_
            rotate_left
            · go_simp
              rfl
            refine hK.out _ _ ⟨((cell_far (p:=⟨gb254,_,none⟩) NB240_254.out _).trans (((cell_far (p:=⟨gb254,_,none⟩) NB240_254.out _).trans (((cell_far (p:=⟨gb254,_,none⟩) NB240_254.out _).trans (((cell_far (p:=⟨gb254,_,none⟩) NB240_254.out _).trans (hHeld.1)))))))),((cell_far (p:=⟨gb254,_,none⟩) NB240_254.out _).trans (((cell_far (p:=⟨gb254,_,none⟩) NB240_254.out _).trans (((cell_far (p:=⟨gb254,_,none⟩) NB240_254.out _).trans (((cell_far (p:=⟨gb254,_,none⟩) NB240_254.out _).trans (hHeld.2.1)))))))),((cell_far (p:=⟨gb254,_,none⟩) NB240_254.out _).trans (((cell_far (p:=⟨gb254,_,none⟩) NB240_254.out _).trans (((cell_far (p:=⟨gb254,_,none⟩) NB240_254.out _).trans (((cell_far (p:=⟨gb254,_,none⟩) NB240_254.out _).trans (hHeld.2.2))))))))⟩ (fun hHeld=>?_)
            clear hK K
            refine pure_ (i:=11) (N:=some 12) (v:=?_) (a':=?_) #[true,true,true,true,true,true,true,true,true,true,true,true] rfl rfl (any_of HT_.out (by kernel_rfl)) (fun _ _ _ h=>h) (Or.inl ⟨by rfl,?_⟩) ?_ ?_
            rotate_left
            · intro w'
              go_simp
              with_reducible rfl
            rotate_left
            · simp only [Act.put,List.setIfInBounds_toArray,List.set_cons_zero,List.set_cons_succ,i64_w,i32_w]
              rfl
            refine done_ (done_of HT_.out (by kernel_rfl)) ?_
            try go_wp2_with (first|((with_reducible refine gate_callee (f:=176) rfl ?_);refine goesL_ (some 40) rfl rfl Try.func176 (by kernel_rfl) rfl #[.int .i64 a1] rfl (by (try simp only [List.map_toArray,List.map_cons,List.map_nil]);first|done|rfl|(simp only [List.length_drop,List.length_take];rfl)) ?_;(with_reducible refine (impl_NewHeat.calls a1 t255 t258 t259 _ A32.out).mono ?_);rintro e w47 ⟨v256,rfl,ho0,hb⟩;refine ⟨_,rfl,?_⟩;have n0_:=mk15_ (Kd.V_elder' (by (with_reducible repeat (first|apply Kd.V_alloc|apply Kd.V_drewN|apply Kd.V_drew));exact (Kd.V_mono (Kd.V_far (p:=⟨gb254,3,none⟩) (Kd.V_far (p:=⟨gb254,2,none⟩) (Kd.V_far (p:=⟨gb254,1,none⟩) (Kd.V_far (p:=⟨gb254,0,none⟩) (Kd.V_mono HO_239003.out (fun k_ hk=>(⟨hk,hk.2.2.2.2.2.2⟩:_∧k_≠gb254))) (fun _ hk=>hk.2) (.int .i64 t245)) (fun _ hk=>hk.2) (.int .i64 t246)) (fun _ hk=>hk.2) (.slice Ao43 t247.length co43)) (fun _ hk=>hk.2) (.slice Ao45 t250.length co45)) (fun _ h_=>h_.1))) (Kd.R_base ho0) hb);have n1_:=mk15_ (Kd.R_elder' (by (with_reducible repeat (first|apply rA15_|apply Kd.R_drewN|apply rD15_));exact (Kd.R_mono (Kd.R_far (p:=⟨gb254,3,none⟩) (Kd.R_far (p:=⟨gb254,2,none⟩) (Kd.R_far (p:=⟨gb254,1,none⟩) (Kd.R_far (p:=⟨gb254,0,none⟩) (Kd.R_types HO249.out BK254.out (by decide)) (fun _ hk=>hk.2) (.int .i64 t245)) (fun _ hk=>hk.2) (.int .i64 t246)) (fun _ hk=>hk.2) (.slice Ao43 t247.length co43)) (fun _ hk=>hk.2) (.slice Ao45 t250.length co45)) (fun _ h_=>h_.1))) (Kd.R_base ho0) hb);have n2_:=mk15_ (Kd.R_below (by (with_reducible repeat (first|apply rA15_|apply Kd.R_drewN|apply rD15_));exact (Kd.R_mono (Kd.R_far (p:=⟨gb254,3,none⟩) (Kd.R_far (p:=⟨gb254,2,none⟩) (Kd.R_far (p:=⟨gb254,1,none⟩) (Kd.R_far (p:=⟨gb254,0,none⟩) (Kd.R_types HO252.out BK254.out (by decide)) (fun _ hk=>hk.2) (.int .i64 t245)) (fun _ hk=>hk.2) (.int .i64 t246)) (fun _ hk=>hk.2) (.slice Ao43 t247.length co43)) (fun _ hk=>hk.2) (.slice Ao45 t250.length co45)) (fun _ h_=>h_.1))) hb);have n3_:=mk15_ (Kd.R_lower (Kd.R_new' (Kd.R_newM (M:=fun k_=>(w.heap.size≤k_)) ho0 (bZ15_ (by repeat (first|(with_reducible first|exact HB.out|apply bA15_|apply bN15_|apply bD15_|refine bS15_ ?_ GE238.out|refine bS15_ ?_ GE239.out|refine bS15_ ?_ GE240.out|refine bS15_ ?_ GE254.out)|exact HB.out))) (fun k_ h_=>h_)) (Kd.R_lt (by (with_reducible repeat (first|apply rA15_|apply Kd.R_drewN|apply rD15_));exact (Kd.R_mono (Kd.R_far (p:=⟨gb254,3,none⟩) (Kd.R_far (p:=⟨gb254,2,none⟩) (Kd.R_far (p:=⟨gb254,1,none⟩) (Kd.R_far (p:=⟨gb254,0,none⟩) (Kd.R_types HO249.out BK254.out (by decide)) (fun _ hk=>hk.2) (.int .i64 t245)) (fun _ hk=>hk.2) (.int .i64 t246)) (fun _ hk=>hk.2) (.slice Ao43 t247.length co43)) (fun _ hk=>hk.2) (.slice Ao45 t250.length co45)) (fun _ h_=>h_.1))))) (bZ15_ (by repeat (first|(with_reducible first|exact HB.out|apply bA15_|apply bN15_|apply bD15_|refine bS15_ ?_ GE238.out|refine bS15_ ?_ GE239.out|refine bS15_ ?_ GE240.out|refine bS15_ ?_ GE254.out)|exact HB.out))));have n4_:=mk15_ (blk_below (g:=gb238) (o:=.cells #[.int .i64 a0_0,.int .i64 a0_1,.int .i64 a0_2,.slice A0_3 l0_3.length c0_3,.int .i64 a0_4,.int .i64 a0_5,.bool a0_6,.int .i64 a0_7] 40 (0,0)) (by (with_reducible repeat (first|refine kN15_ ?_ _|refine kD15_ ?_|refine kA15_ ?_ _));refine blk_far ?_ NB238_254.out _;(with_reducible repeat (first|refine kN15_ ?_ _|refine kD15_ ?_|refine kA15_ ?_ _));refine blk_far ?_ NB238_254.out _;(with_reducible repeat (first|refine kN15_ ?_ _|refine kD15_ ?_|refine kA15_ ?_ _));refine blk_far ?_ NB238_254.out _;(with_reducible repeat (first|refine kN15_ ?_ _|refine kD15_ ?_|refine kA15_ ?_ _));refine blk_far ?_ NB238_254.out _;(with_reducible repeat (first|refine kN15_ ?_ _|refine kD15_ ?_|refine kA15_ ?_ _));exact BK238.out) hb);have n5_:=mk15_ (blk_below (g:=gb239) (o:=.cells #[.int .i64 0,.int .i64 0,.int .i64 0,.slice none 0 0,.int .i64 0,.int .i64 0,.bool false,.int .i64 0,.int .i64 0,.int .i64 0,.slice none 0 0,.slice none 0 0,.slice none 0 0,.int .i64 0,.int .i64 0,.slice none 0 0,.slice none 0 0,.int .i64 0,.int .i64 0] 44 (0,0)) (by (with_reducible repeat (first|refine kN15_ ?_ _|refine kD15_ ?_|refine kA15_ ?_ _));refine blk_far ?_ NB239_254.out _;(with_reducible repeat (first|refine kN15_ ?_ _|refine kD15_ ?_|refine kA15_ ?_ _));refine blk_far ?_ NB239_254.out _;(with_reducible repeat (first|refine kN15_ ?_ _|refine kD15_ ?_|refine kA15_ ?_ _));refine blk_far ?_ NB239_254.out _;(with_reducible repeat (first|refine kN15_ ?_ _|refine kD15_ ?_|refine kA15_ ?_ _));refine blk_far ?_ NB239_254.out _;(with_reducible repeat (first|refine kN15_ ?_ _|refine kD15_ ?_|refine kA15_ ?_ _));exact BK239.out) hb);have n6_:=mk15_ (blk_below (g:=gb240) (o:=.cells #[.int .i64 a0_0,.int .i64 a0_1,.int .i64 a0_2] 37 (0,0)) (by (with_reducible repeat (first|refine kN15_ ?_ _|refine kD15_ ?_|refine kA15_ ?_ _));refine blk_far ?_ NB240_254.out _;(with_reducible repeat (first|refine kN15_ ?_ _|refine kD15_ ?_|refine kA15_ ?_ _));refine blk_far ?_ NB240_254.out _;(with_reducible repeat (first|refine kN15_ ?_ _|refine kD15_ ?_|refine kA15_ ?_ _));refine blk_far ?_ NB240_254.out _;(with_reducible repeat (first|refine kN15_ ?_ _|refine kD15_ ?_|refine kA15_ ?_ _));refine blk_far ?_ NB240_254.out _;(with_reducible repeat (first|refine kN15_ ?_ _|refine kD15_ ?_|refine kA15_ ?_ _));exact BK240.out) hb);have n7_:=mk15_ (blk_below (g:=gb254) (o:=.cells #[.int .i64 t245,.int .i64 t246,.slice Ao43 t247.length co43,.slice Ao45 t250.length co45] 41 (0,0)) (by (with_reducible repeat (first|refine kN15_ ?_ _|refine kD15_ ?_|refine kA15_ ?_ _));refine blk_put (cs:=#[.int .i64 t245,.int .i64 t246,.slice Ao43 t247.length co43,.slice none 0 0]) ?_ 3 _ rfl;(with_reducible repeat (first|refine kN15_ ?_ _|refine kD15_ ?_|refine kA15_ ?_ _));refine blk_put (cs:=#[.int .i64 t245,.int .i64 t246,.slice none 0 0,.slice none 0 0]) ?_ 2 _ rfl;(with_reducible repeat (first|refine kN15_ ?_ _|refine kD15_ ?_|refine kA15_ ?_ _));refine blk_put (cs:=#[.int .i64 t245,.int .i64 0,.slice none 0 0,.slice none 0 0]) ?_ 1 _ rfl;(with_reducible repeat (first|refine kN15_ ?_ _|refine kD15_ ?_|refine kA15_ ?_ _));refine blk_put (cs:=#[.int .i64 0,.int .i64 0,.slice none 0 0,.slice none 0 0]) ?_ 0 _ rfl;(with_reducible repeat (first|refine kN15_ ?_ _|refine kD15_ ?_|refine kA15_ ?_ _));exact BK254.out) hb);have n8_:=mk15_ (bT15_ (by repeat (first|(with_reducible first|exact HB.out|apply bA15_|apply bN15_|apply bD15_|refine bS15_ ?_ GE238.out|refine bS15_ ?_ GE239.out|refine bS15_ ?_ GE240.out|refine bS15_ ?_ GE254.out)|exact HB.out)) hb);clear HO_239003;clear HO249;clear HO252;clear BK238;clear BK239;clear BK240;clear BK254;clear HB;have HO_239003:=n0_;have HO249:=n1_;have HO252:=n2_;have HO257:=n3_;have BK238:=n4_;have BK239:=n5_;have BK240:=n6_;have BK254:=n7_;have HB:=n8_;clear n0_ n1_ n2_ n3_ n4_ n5_ n6_ n7_ n8_;(try clear hb);(try clear hb2);(try clear hk);(try clear hi);(try clear ho0))|((with_reducible refine gate_dst (N:=13) rfl ?_);refine box_event ?hg (N:=13) ?hd (cs:=#[.slice none 0 0,.int .i64 0]) (t:=42) ?hr ?_;(case hd=>rfl);(case hg=>rfl);(case hr=>first|(go_simp;done)|(go_simp;rfl));intro gb260 hg w48 hbox hb;have n0_:=mk15_ (Kd.V_below (Kd.V_elderB (by (with_reducible repeat (first|apply Kd.V_alloc|apply Kd.V_drewN|apply Kd.V_drew));exact HO_239003.out) gb260 (Nat.le_of_eq hg.symm)) hb);have n1_:=mk15_ (Kd.R_below (by (with_reducible repeat (first|apply rA15_|apply Kd.R_drewN|apply rD15_));exact HO249.out) hb);have n2_:=mk15_ (Kd.R_below (by (with_reducible repeat (first|apply rA15_|apply Kd.R_drewN|apply rD15_));exact HO252.out) hb);have n3_:=mk15_ (Kd.R_below (by (with_reducible repeat (first|apply rA15_|apply Kd.R_drewN|apply rD15_));exact HO257.out) hb);have n4_:=mk15_ (blk_below (g:=gb238) (o:=.cells #[.int .i64 a0_0,.int .i64 a0_1,.int .i64 a0_2,.slice A0_3 l0_3.length c0_3,.int .i64 a0_4,.int .i64 a0_5,.bool a0_6,.int .i64 a0_7] 40 (0,0)) (by (with_reducible repeat (first|refine kN15_ ?_ _|refine kD15_ ?_|refine kA15_ ?_ _));exact BK238.out) hb);have n5_:=mk15_ (blk_below (g:=gb239) (o:=.cells #[.int .i64 0,.int .i64 0,.int .i64 0,.slice none 0 0,.int .i64 0,.int .i64 0,.bool false,.int .i64 0,.int .i64 0,.int .i64 0,.slice none 0 0,.slice none 0 0,.slice none 0 0,.int .i64 0,.int .i64 0,.slice none 0 0,.slice none 0 0,.int .i64 0,.int .i64 0] 44 (0,0)) (by (with_reducible repeat (first|refine kN15_ ?_ _|refine kD15_ ?_|refine kA15_ ?_ _));exact BK239.out) hb);have n6_:=mk15_ (blk_below (g:=gb240) (o:=.cells #[.int .i64 a0_0,.int .i64 a0_1,.int .i64 a0_2] 37 (0,0)) (by (with_reducible repeat (first|refine kN15_ ?_ _|refine kD15_ ?_|refine kA15_ ?_ _));exact BK240.out) hb);have n7_:=mk15_ (blk_below (g:=gb254) (o:=.cells #[.int .i64 t245,.int .i64 t246,.slice Ao43 t247.length co43,.slice Ao45 t250.length co45] 41 (0,0)) (by (with_reducible repeat (first|refine kN15_ ?_ _|refine kD15_ ?_|refine kA15_ ?_ _));exact BK254.out) hb);have n8_:=mk15_ (bT15_ (by repeat (first|(with_reducible first|exact HB.out|apply bA15_|apply bN15_|apply bD15_|refine bS15_ ?_ GE238.out|refine bS15_ ?_ GE239.out|refine bS15_ ?_ GE240.out|refine bS15_ ?_ GE254.out)|exact HB.out)) hb);have n9_:=mk15_ (hbox);have n10_:=mk15_ ((by rw [hg];exact (bZ15_ (by repeat (first|(with_reducible first|exact HB.out|apply bA15_|apply bN15_|apply bD15_|refine bS15_ ?_ GE238.out|refine bS15_ ?_ GE239.out|refine bS15_ ?_ GE240.out|refine bS15_ ?_ GE254.out)|exact HB.out))):w.heap.size≤gb260));have n11_:=mk15_ ((by rw [hg];exact (bZ15_ (by repeat (first|(with_reducible first|exact HB.out|apply bA15_|apply bN15_|apply bD15_|refine bS15_ ?_ GE238.out|refine bS15_ ?_ GE239.out|refine bS15_ ?_ GE240.out|refine bS15_ ?_ GE254.out)|exact HB.out))):w.heap.size≤gb260));have n12_:=mk15_ ((by rw [hg];exact Nat.ne_of_lt (blk_lt (g:=gb238) (o:=.cells #[.int .i64 a0_0,.int .i64 a0_1,.int .i64 a0_2,.slice A0_3 l0_3.length c0_3,.int .i64 a0_4,.int .i64 a0_5,.bool a0_6,.int .i64 a0_7] 40 (0,0)) (by (with_reducible repeat (first|refine kN15_ ?_ _|refine kD15_ ?_|refine kA15_ ?_ _));exact BK238.out)):gb238≠gb260));have n13_:=mk15_ ((by rw [hg];exact Nat.ne_of_gt (blk_lt (g:=gb238) (o:=.cells #[.int .i64 a0_0,.int .i64 a0_1,.int .i64 a0_2,.slice A0_3 l0_3.length c0_3,.int .i64 a0_4,.int .i64 a0_5,.bool a0_6,.int .i64 a0_7] 40 (0,0)) (by (with_reducible repeat (first|refine kN15_ ?_ _|refine kD15_ ?_|refine kA15_ ?_ _));exact BK238.out)):gb260≠gb238));have n14_:=mk15_ ((by rw [hg];exact Nat.ne_of_lt (blk_lt (g:=gb239) (o:=.cells #[.int .i64 0,.int .i64 0,.int .i64 0,.slice none 0 0,.int .i64 0,.int .i64 0,.bool false,.int .i64 0,.int .i64 0,.int .i64 0,.slice none 0 0,.slice none 0 0,.slice none 0 0,.int .i64 0,.int .i64 0,.slice none 0 0,.slice none 0 0,.int .i64 0,.int .i64 0] 44 (0,0)) (by (with_reducible repeat (first|refine kN15_ ?_ _|refine kD15_ ?_|refine kA15_ ?_ _));exact BK239.out)):gb239≠gb260));have n15_:=mk15_ ((by rw [hg];exact Nat.ne_of_gt (blk_lt (g:=gb239) (o:=.cells #[.int .i64 0,.int .i64 0,.int .i64 0,.slice none 0 0,.int .i64 0,.int .i64 0,.bool false,.int .i64 0,.int .i64 0,.int .i64 0,.slice none 0 0,.slice none 0 0,.slice none 0 0,.int .i64 0,.int .i64 0,.slice none 0 0,.slice none 0 0,.int .i64 0,.int .i64 0] 44 (0,0)) (by (with_reducible repeat (first|refine kN15_ ?_ _|refine kD15_ ?_|refine kA15_ ?_ _));exact BK239.out)):gb260≠gb239));have n16_:=mk15_ ((by rw [hg];exact Nat.ne_of_lt (blk_lt (g:=gb240) (o:=.cells #[.int .i64 a0_0,.int .i64 a0_1,.int .i64 a0_2] 37 (0,0)) (by (with_reducible repeat (first|refine kN15_ ?_ _|refine kD15_ ?_|refine kA15_ ?_ _));exact BK240.out)):gb240≠gb260));have n17_:=mk15_ ((by rw [hg];exact Nat.ne_of_gt (blk_lt (g:=gb240) (o:=.cells #[.int .i64 a0_0,.int .i64 a0_1,.int .i64 a0_2] 37 (0,0)) (by (with_reducible repeat (first|refine kN15_ ?_ _|refine kD15_ ?_|refine kA15_ ?_ _));exact BK240.out)):gb260≠gb240));have n18_:=mk15_ ((by rw [hg];exact Nat.ne_of_lt (blk_lt (g:=gb254) (o:=.cells #[.int .i64 t245,.int .i64 t246,.slice Ao43 t247.length co43,.slice Ao45 t250.length co45] 41 (0,0)) (by (with_reducible repeat (first|refine kN15_ ?_ _|refine kD15_ ?_|refine kA15_ ?_ _));exact BK254.out)):gb254≠gb260));have n19_:=mk15_ ((by rw [hg];exact Nat.ne_of_gt (blk_lt (g:=gb254) (o:=.cells #[.int .i64 t245,.int .i64 t246,.slice Ao43 t247.length co43,.slice Ao45 t250.length co45] 41 (0,0)) (by (with_reducible repeat (first|refine kN15_ ?_ _|refine kD15_ ?_|refine kA15_ ?_ _));exact BK254.out)):gb260≠gb254));clear HO_239003;clear HO249;clear HO252;clear HO257;clear BK238;clear BK239;clear BK240;clear BK254;clear HB;have HO_239003:=n0_;have HO249:=n1_;have HO252:=n2_;have HO257:=n3_;have BK238:=n4_;have BK239:=n5_;have BK240:=n6_;have BK254:=n7_;have HB:=n8_;have BK260:=n9_;have GW260:=n10_;have GE260:=n11_;have NB238_260:=n12_;have NB260_238:=n13_;have NB239_260:=n14_;have NB260_239:=n15_;have NB240_260:=n16_;have NB260_240:=n17_;have NB254_260:=n18_;have NB260_254:=n19_;clear n0_ n1_ n2_ n3_ n4_ n5_ n6_ n7_ n8_ n9_ n10_ n11_ n12_ n13_ n14_ n15_ n16_ n17_ n18_ n19_;clear hb hbox hg;obtain ⟨Ao49,co49,eo49⟩:=Kd.R_slice HO257.out;subst eo49;have hnb50:=NB260_238.out;have hnc50:=NB238_260.out;have hnb51:=NB260_239.out;have hnc51:=NB239_260.out;have hnb52:=NB260_240.out;have hnc52:=NB240_260.out;have hnb53:=NB260_254.out;have hnc53:=NB254_260.out;have hcz54_0:w48.cell? ⟨gb260,0,none⟩=some (.slice none 0 0):=(blk_cell BK260.out 0).trans rfl;have hcz54_1:w48.cell? ⟨gb260,1,none⟩=some (.int .i64 0):=(blk_cell BK260.out 1).trans rfl;have hfz54_0:=fZ15_ BK260.out 0;have hfz54_1:=fZ15_ BK260.out 1))
            have n0_:Aside0 (Kd.V k120 120 ((w48.setCell ⟨gb260,0,none⟩ (.slice Ao49 t255.length co49)).setCell ⟨gb260,1,none⟩ (.int .i64 t258)) w.heap.size (fun k_=>(P0_3_ k_∨w.heap.size≤k_)∧some k_≠(.slice Ao43 t247.length co43:Value).ownBlock∧some k_≠(.slice Ao45 t250.length co45:Value).ownBlock∧some k_≠(.slice Ao49 t255.length co49:Value).ownBlock∧k_≠gb238∧k_≠gb239∧k_≠gb240∧k_≠gb254∧k_≠gb260) (.slice A0_3 l0_3.length c0_3) l0_3):=⟨by (with_reducible repeat (first|apply Kd.V_alloc|apply Kd.V_drewN|apply Kd.V_drew));exact Kd.V_mono (Kd.V_far (p:=⟨gb260,1,none⟩) (Kd.V_far (p:=⟨gb260,0,none⟩) (Kd.V_mono HO_239003.out (fun k_ hk=>(⟨hk,hk.2⟩:_∧k_≠gb260))) (fun _ hk=>hk.2) (.slice Ao49 t255.length co49)) (fun _ hk=>hk.2) (.int .i64 t258)) (fun _ hk=>⟨hk.1.1.1.1,⟨hk.1.1.1.2.1,⟨hk.1.1.1.2.2.1,⟨hk.1.1.2,⟨hk.1.1.1.2.2.2.1,⟨hk.1.1.1.2.2.2.2.1,⟨hk.1.1.1.2.2.2.2.2.1,⟨hk.1.1.1.2.2.2.2.2.2,hk.1.2⟩⟩⟩⟩⟩⟩⟩⟩)⟩
            have n1_:Aside0 (Kd.R (Kd.int .i64) 2 ((w48.setCell ⟨gb260,0,none⟩ (.slice Ao49 t255.length co49)).setCell ⟨gb260,1,none⟩ (.int .i64 t258)) w.heap.size (fun k_=>(w.heap.size≤k_)∧some k_≠(.slice Ao49 t255.length co49:Value).ownBlock) (.slice Ao43 t247.length co43) t247):=⟨by (with_reducible repeat (first|apply rA15_|apply Kd.R_drewN|apply rD15_));exact Kd.R_mono (Kd.R_far (p:=⟨gb260,1,none⟩) (Kd.R_far (p:=⟨gb260,0,none⟩) (Kd.R_types HO249.out BK260.out (by decide)) (fun _ hk=>hk.2) (.slice Ao49 t255.length co49)) (fun _ hk=>hk.2) (.int .i64 t258)) (fun _ hk=>by first|exact ⟨hk.1.1,hk.1.2⟩|simp [hk])⟩
            have n2_:Aside0 (Kd.R Kd.bool 4 ((w48.setCell ⟨gb260,0,none⟩ (.slice Ao49 t255.length co49)).setCell ⟨gb260,1,none⟩ (.int .i64 t258)) w.heap.size (fun k_=>(w.heap.size≤k_)) (.slice Ao45 t250.length co45) t250):=⟨by (with_reducible repeat (first|apply rA15_|apply Kd.R_drewN|apply rD15_));exact Kd.R_mono (Kd.R_far (p:=⟨gb260,1,none⟩) (Kd.R_far (p:=⟨gb260,0,none⟩) (Kd.R_types HO252.out BK260.out (by decide)) (fun _ hk=>hk.2) (.slice Ao49 t255.length co49)) (fun _ hk=>hk.2) (.int .i64 t258)) (fun _ hk=>hk.1)⟩
            have n3_:Aside0 (Kd.R (Kd.int .i64) 2 ((w48.setCell ⟨gb260,0,none⟩ (.slice Ao49 t255.length co49)).setCell ⟨gb260,1,none⟩ (.int .i64 t258)) w.heap.size (fun k_=>(w.heap.size≤k_)∧some k_≠(.slice Ao43 t247.length co43:Value).ownBlock) (.slice Ao49 t255.length co49) t255):=⟨by (with_reducible repeat (first|apply rA15_|apply Kd.R_drewN|apply rD15_));exact Kd.R_mono (Kd.R_far (p:=⟨gb260,1,none⟩) (Kd.R_far (p:=⟨gb260,0,none⟩) (Kd.R_types HO257.out BK260.out (by decide)) (fun _ hk=>hk.2) (.slice Ao49 t255.length co49)) (fun _ hk=>hk.2) (.int .i64 t258)) (fun _ hk=>by first|exact ⟨hk.1.1.1,hk.1.2⟩|simp [hk])⟩
            have n4_:Aside0 (((w48.setCell ⟨gb260,0,none⟩ (.slice Ao49 t255.length co49)).setCell ⟨gb260,1,none⟩ (.int .i64 t258)).heap[gb238]?=some (.cells #[.int .i64 a0_0,.int .i64 a0_1,.int .i64 a0_2,.slice A0_3 l0_3.length c0_3,.int .i64 a0_4,.int .i64 a0_5,.bool a0_6,.int .i64 a0_7] 40 (0,0))):=⟨by (with_reducible repeat (first|refine kN15_ ?_ _|refine kD15_ ?_|refine kA15_ ?_ _));refine blk_far ?_ NB238_260.out _;(with_reducible repeat (first|refine kN15_ ?_ _|refine kD15_ ?_|refine kA15_ ?_ _));refine blk_far ?_ NB238_260.out _;(with_reducible repeat (first|refine kN15_ ?_ _|refine kD15_ ?_|refine kA15_ ?_ _));exact BK238.out⟩
            have n5_:Aside0 (((w48.setCell ⟨gb260,0,none⟩ (.slice Ao49 t255.length co49)).setCell ⟨gb260,1,none⟩ (.int .i64 t258)).heap[gb239]?=some (.cells #[.int .i64 0,.int .i64 0,.int .i64 0,.slice none 0 0,.int .i64 0,.int .i64 0,.bool false,.int .i64 0,.int .i64 0,.int .i64 0,.slice none 0 0,.slice none 0 0,.slice none 0 0,.int .i64 0,.int .i64 0,.slice none 0 0,.slice none 0 0,.int .i64 0,.int .i64 0] 44 (0,0))):=⟨by (with_reducible repeat (first|refine kN15_ ?_ _|refine kD15_ ?_|refine kA15_ ?_ _));refine blk_far ?_ NB239_260.out _;(with_reducible repeat (first|refine kN15_ ?_ _|refine kD15_ ?_|refine kA15_ ?_ _));refine blk_far ?_ NB239_260.out _;(with_reducible repeat (first|refine kN15_ ?_ _|refine kD15_ ?_|refine kA15_ ?_ _));exact BK239.out⟩
            have n6_:Aside0 (((w48.setCell ⟨gb260,0,none⟩ (.slice Ao49 t255.length co49)).setCell ⟨gb260,1,none⟩ (.int .i64 t258)).heap[gb240]?=some (.cells #[.int .i64 a0_0,.int .i64 a0_1,.int .i64 a0_2] 37 (0,0))):=⟨by (with_reducible repeat (first|refine kN15_ ?_ _|refine kD15_ ?_|refine kA15_ ?_ _));refine blk_far ?_ NB240_260.out _;(with_reducible repeat (first|refine kN15_ ?_ _|refine kD15_ ?_|refine kA15_ ?_ _));refine blk_far ?_ NB240_260.out _;(with_reducible repeat (first|refine kN15_ ?_ _|refine kD15_ ?_|refine kA15_ ?_ _));exact BK240.out⟩
            have n7_:Aside0 (((w48.setCell ⟨gb260,0,none⟩ (.slice Ao49 t255.length co49)).setCell ⟨gb260,1,none⟩ (.int .i64 t258)).heap[gb254]?=some (.cells #[.int .i64 t245,.int .i64 t246,.slice Ao43 t247.length co43,.slice Ao45 t250.length co45] 41 (0,0))):=⟨by (with_reducible repeat (first|refine kN15_ ?_ _|refine kD15_ ?_|refine kA15_ ?_ _));refine blk_far ?_ NB254_260.out _;(with_reducible repeat (first|refine kN15_ ?_ _|refine kD15_ ?_|refine kA15_ ?_ _));refine blk_far ?_ NB254_260.out _;(with_reducible repeat (first|refine kN15_ ?_ _|refine kD15_ ?_|refine kA15_ ?_ _));exact BK254.out⟩
            have n8_:Aside0 (((w48.setCell ⟨gb260,0,none⟩ (.slice Ao49 t255.length co49)).setCell ⟨gb260,1,none⟩ (.int .i64 t258)).heap[gb260]?=some (.cells #[.slice Ao49 t255.length co49,.int .i64 t258] 42 (0,0))):=⟨by (with_reducible repeat (first|refine kN15_ ?_ _|refine kD15_ ?_|refine kA15_ ?_ _));refine blk_put (cs:=#[.slice Ao49 t255.length co49,.int .i64 0]) ?_ 1 _ rfl;(with_reducible repeat (first|refine kN15_ ?_ _|refine kD15_ ?_|refine kA15_ ?_ _));refine blk_put (cs:=#[.slice none 0 0,.int .i64 0]) ?_ 0 _ rfl;(with_reducible repeat (first|refine kN15_ ?_ _|refine kD15_ ?_|refine kA15_ ?_ _));exact BK260.out⟩
            have n9_:Aside0 (Below w.heap.size w ((w48.setCell ⟨gb260,0,none⟩ (.slice Ao49 t255.length co49)).setCell ⟨gb260,1,none⟩ (.int .i64 t258))):=⟨by repeat (first|(with_reducible first|exact HB.out|apply bA15_|apply bN15_|apply bD15_|refine bS15_ ?_ GE238.out|refine bS15_ ?_ GE239.out|refine bS15_ ?_ GE240.out|refine bS15_ ?_ GE254.out|refine bS15_ ?_ GE260.out)|exact HB.out)⟩
            (try clear HO_239003)
            (try clear HO249)
            (try clear HO252)
            (try clear HO257)
            (try clear BK238)
            (try clear BK239)
            (try clear BK240)
            (try clear BK254)
            (try clear BK260)
            (try clear HB)
            generalize ((w48.setCell ⟨gb260,0,none⟩ (.slice Ao49 t255.length co49)).setCell ⟨gb260,1,none⟩ (.int .i64 t258))=w55 at n0_ n1_ n2_ n3_ n4_ n5_ n6_ n7_ n8_ n9_ ⊢
            have HO_239003 := n0_
            have HO249 := n1_
            have HO252 := n2_
            have HO257 := n3_
            have BK238 := n4_
            have BK239 := n5_
            have BK240 := n6_
            have BK254 := n7_
            have BK260 := n8_
            have HB := n9_
            clear n0_ n1_ n2_ n3_ n4_ n5_ n6_ n7_ n8_ n9_
            have n0_ := Aside0.mk (Kd.V_drew HO_239003.out)
            have n1_ := Aside0.mk (Kd.R_drew HO249.out)
            have n2_ := Aside0.mk (Kd.R_drew HO252.out)
            have n3_ := Aside0.mk (Kd.R_drew HO257.out)
            have n4_ := Aside0.mk (blk_drew BK238.out)
            have n5_ := Aside0.mk (blk_drew BK239.out)
            have n6_ := Aside0.mk (blk_drew BK240.out)
            have n7_ := Aside0.mk (blk_drew BK254.out)
            have n8_ := Aside0.mk (blk_drew BK260.out)
            have n9_ := Aside0.mk (below_drew1 HB.out)
            clear HO_239003
            clear HO249
            clear HO252
            clear HO257
            clear BK238
            clear BK239
            clear BK240
            clear BK254
            clear BK260
            clear HB
            have HO_239003 := n0_
            have HO249 := n1_
            have HO252 := n2_
            have HO257 := n3_
            have BK238 := n4_
            have BK239 := n5_
            have BK240 := n6_
            have BK254 := n7_
            have BK260 := n8_
            have HB := n9_
            clear n0_ n1_ n2_ n3_ n4_ n5_ n6_ n7_ n8_ n9_
            refine start_ (n:=12) (S:=fun w'=>w'.cell? ⟨gb238,0,none⟩=some (.int .i64 a0_0)∧w'.cell? ⟨gb238,1,none⟩=some (.int .i64 a0_1)∧w'.cell? ⟨gb238,2,none⟩=some (.int .i64 a0_2)∧w'.cell? ⟨gb238,3,none⟩=some (.slice A0_3 l0_3.length c0_3)∧w'.cell? ⟨gb238,4,none⟩=some (.int .i64 a0_4)∧w'.cell? ⟨gb238,5,none⟩=some (.int .i64 a0_5)∧w'.cell? ⟨gb238,6,none⟩=some (.bool a0_6)∧w'.cell? ⟨gb238,7,none⟩=some (.int .i64 a0_7)∧w'.cell? ⟨gb254,0,none⟩=some (.int .i64 t245)∧w'.cell? ⟨gb254,1,none⟩=some (.int .i64 t246)∧w'.cell? ⟨gb254,2,none⟩=some (.slice Ao43 t247.length co43)∧w'.cell? ⟨gb254,3,none⟩=some (.slice Ao45 t250.length co45)∧w'.cell? ⟨gb260,0,none⟩=some (.slice Ao49 t255.length co49)∧w'.cell? ⟨gb260,1,none⟩=some (.int .i64 t258)∧w'.cell? ⟨gb240,0,none⟩=some (.int .i64 a0_0)∧w'.cell? ⟨gb240,1,none⟩=some (.int .i64 a0_1)∧w'.cell? ⟨gb240,2,none⟩=some (.int .i64 a0_2)) (ds:=[]) #[false,false,false,false,false,false,false,false,false,false,false,false] (by kernel_rfl) rfl rfl ⟨(blk_cell BK238.out 0).trans rfl,(blk_cell BK238.out 1).trans rfl,(blk_cell BK238.out 2).trans rfl,(blk_cell BK238.out 3).trans rfl,(blk_cell BK238.out 4).trans rfl,(blk_cell BK238.out 5).trans rfl,(blk_cell BK238.out 6).trans rfl,(blk_cell BK238.out 7).trans rfl,(blk_cell BK254.out 0).trans rfl,(blk_cell BK254.out 1).trans rfl,(blk_cell BK254.out 2).trans rfl,(blk_cell BK254.out 3).trans rfl,(blk_cell BK260.out 0).trans rfl,(blk_cell BK260.out 1).trans rfl,(blk_cell BK240.out 0).trans rfl,(blk_cell BK240.out 1).trans rfl,(blk_cell BK240.out 2).trans rfl⟩ (fun hHeld=>?_);refine with_tabW impl_ftlOn.tab6 impl_ftlOn.bits6 (fun HT_ HW_=>?_)
            generalize w55.drew=w56 at HO_239003 HO249 HO252 HO257 BK238 BK239 BK240 BK254 BK260 HB hHeld ⊢
            refine pure_ (i:=7) (N:=some 50) (v:=?_) (a':=?_) #[false,false,false,false,false,false,false,true,false,false,false,false] rfl rfl (any_of HT_.out (by kernel_rfl)) (fun _ _ _ h=>h) (Or.inl ⟨by rfl,?_⟩) ?_ ?_
            rotate_left
            · intro w'
              go_simp
              with_reducible rfl
            rotate_left
            · simp only [Act.put,List.setIfInBounds_toArray,List.set_cons_zero,List.set_cons_succ,i64_w,i32_w]
              rfl
            refine pure_ (i:=8) (N:=some 51) (v:=?_) (a':=?_) #[false,false,false,false,false,false,false,true,true,false,false,false] rfl rfl (any_of HT_.out (by kernel_rfl)) (fun _ _ _ h=>h) (Or.inl ⟨by rfl,?_⟩) ?_ ?_
            rotate_left
            · intro w'
              go_simp
              with_reducible rfl
            rotate_left
            · simp only [Act.put,List.setIfInBounds_toArray,List.set_cons_zero,List.set_cons_succ,i64_w,i32_w]
              rfl
            refine take_ (i:=0) (N:=some 43) (v:=?_) (a':=?_) #[true,false,false,false,false,false,false,true,true,false,false,false] rfl rfl (take_ofW HT_.out HW_.out (by kernel_rfl)) (fun _ _ _ h=>h) (Or.inl ⟨by rfl,?_⟩) hHeld ?_ ?_
            rotate_left
            · rintro w' ⟨s0, s1, s2, s3, s4, s5, s6, s7, s8, s9, s10, s11, s12, s13, s14, s15, s16⟩
              go_simp
              with_reducible rfl
            rotate_left
            · simp only [Act.put,List.setIfInBounds_toArray,List.set_cons_zero,List.set_cons_succ,i64_w,i32_w]
              rfl
            refine take_ (i:=1) (N:=some 44) (v:=?_) (a':=?_) #[true,true,false,false,false,false,false,true,true,false,false,false] rfl rfl (take_ofW HT_.out HW_.out (by kernel_rfl)) (fun _ _ _ h=>h) (Or.inl ⟨by rfl,?_⟩) hHeld ?_ ?_
            rotate_left
            · rintro w' ⟨s0, s1, s2, s3, s4, s5, s6, s7, s8, s9, s10, s11, s12, s13, s14, s15, s16⟩
              go_simp
              with_reducible rfl
            rotate_left
            · simp only [Act.put,List.setIfInBounds_toArray,List.set_cons_zero,List.set_cons_succ,i64_w,i32_w]
              rfl
            refine take_ (i:=2) (N:=some 45) (v:=?_) (a':=?_) #[true,true,true,false,false,false,false,true,true,false,false,false] rfl rfl (take_ofW HT_.out HW_.out (by kernel_rfl)) (fun _ _ _ h=>h) (Or.inl ⟨by rfl,?_⟩) hHeld ?_ ?_
            rotate_left
            · rintro w' ⟨s0, s1, s2, s3, s4, s5, s6, s7, s8, s9, s10, s11, s12, s13, s14, s15, s16⟩
              go_simp
              with_reducible rfl
            rotate_left
            · simp only [Act.put,List.setIfInBounds_toArray,List.set_cons_zero,List.set_cons_succ,i64_w,i32_w]
              rfl
            refine take_ (i:=4) (N:=some 47) (v:=?_) (a':=?_) #[true,true,true,false,true,false,false,true,true,false,false,false] rfl rfl (take_ofW HT_.out HW_.out (by kernel_rfl)) (fun _ _ _ h=>h) (Or.inl ⟨by rfl,?_⟩) hHeld ?_ ?_
            rotate_left
            · rintro w' ⟨s0, s1, s2, s3, s4, s5, s6, s7, s8, s9, s10, s11, s12, s13, s14, s15, s16⟩
              go_simp
              with_reducible rfl
            rotate_left
            · simp only [Act.put,List.setIfInBounds_toArray,List.set_cons_zero,List.set_cons_succ,i64_w,i32_w]
              rfl
            refine join_ (σ:=Value × Value) 3 #[true,true,true,true,true,true,true,true,true,false,false,false] (fun s_=>[(46,s_.1),(48,.int .i64 t264),(49,s_.2)]) (fun s_ w'=>(w'.cell? ⟨gb238,0,none⟩=some (.int .i64 a0_0)∧w'.cell? ⟨gb238,1,none⟩=some (.int .i64 a0_1)∧w'.cell? ⟨gb238,2,none⟩=some (.int .i64 a0_2)∧w'.cell? ⟨gb238,3,none⟩=some (.slice A0_3 l0_3.length c0_3)∧w'.cell? ⟨gb238,4,none⟩=some (.int .i64 a0_4)∧w'.cell? ⟨gb238,5,none⟩=some (.int .i64 a0_5)∧w'.cell? ⟨gb238,6,none⟩=some (.bool a0_6)∧w'.cell? ⟨gb238,7,none⟩=some (.int .i64 a0_7)∧w'.cell? ⟨gb254,0,none⟩=some (.int .i64 t245)∧w'.cell? ⟨gb254,1,none⟩=some (.int .i64 t246)∧w'.cell? ⟨gb254,2,none⟩=some (.slice Ao43 t247.length co43)∧w'.cell? ⟨gb254,3,none⟩=some (.slice Ao45 t250.length co45)∧w'.cell? ⟨gb260,0,none⟩=some (.slice Ao49 t255.length co49)∧w'.cell? ⟨gb260,1,none⟩=some (.int .i64 t258)∧w'.cell? ⟨gb240,0,none⟩=some (.int .i64 a0_0)∧w'.cell? ⟨gb240,1,none⟩=some (.int .i64 a0_1)∧w'.cell? ⟨gb240,2,none⟩=some (.int .i64 a0_2))∧(Kd.R (Kd.int .i64) 2 w' w.heap.size (fun k_=>(w.heap.size≤k_)∧some k_≠(.slice Ao49 t255.length co49:Value).ownBlock∧some k_≠(s_.1:Value).ownBlock∧some k_≠(s_.2:Value).ownBlock) (.slice Ao43 t247.length co43) t247)∧(Kd.R Kd.bool 4 w' w.heap.size (fun k_=>(w.heap.size≤k_)) (.slice Ao45 t250.length co45) t250)∧(Kd.R (Kd.int .i64) 2 w' w.heap.size (fun k_=>(w.heap.size≤k_)∧some k_≠(.slice Ao43 t247.length co43:Value).ownBlock∧some k_≠(s_.1:Value).ownBlock∧some k_≠(s_.2:Value).ownBlock) (.slice Ao49 t255.length co49) t255)∧(Kd.R (Kd.int .i64) 2 w' w.heap.size (fun k_=>(w.heap.size≤k_)∧some k_≠(.slice Ao43 t247.length co43:Value).ownBlock∧some k_≠(.slice Ao49 t255.length co49:Value).ownBlock∧some k_≠(s_.2:Value).ownBlock) s_.1 y261)∧(Kd.R (Kd.int .i64) 2 w' w.heap.size (fun k_=>(w.heap.size≤k_)∧some k_≠(.slice Ao43 t247.length co43:Value).ownBlock∧some k_≠(.slice Ao49 t255.length co49:Value).ownBlock∧some k_≠(s_.1:Value).ownBlock) s_.2 y265)∧(Kd.V k120 120 w' w.heap.size (fun k_=>(P0_3_ k_∨w.heap.size≤k_)∧some k_≠(.slice Ao43 t247.length co43:Value).ownBlock∧some k_≠(.slice Ao45 t250.length co45:Value).ownBlock∧some k_≠(.slice Ao49 t255.length co49:Value).ownBlock∧some k_≠(s_.1:Value).ownBlock∧some k_≠(s_.2:Value).ownBlock∧k_≠gb238∧k_≠gb239∧k_≠gb240∧k_≠gb254∧k_≠gb260) (.slice A0_3 l0_3.length c0_3) l0_3)∧(w'.heap[gb238]?=some (.cells #[.int .i64 a0_0,.int .i64 a0_1,.int .i64 a0_2,.slice A0_3 l0_3.length c0_3,.int .i64 a0_4,.int .i64 a0_5,.bool a0_6,.int .i64 a0_7] 40 (0,0)))∧(w'.heap[gb239]?=some (.cells #[.int .i64 0,.int .i64 0,.int .i64 0,.slice none 0 0,.int .i64 0,.int .i64 0,.bool false,.int .i64 0,.int .i64 0,.int .i64 0,.slice none 0 0,.slice none 0 0,.slice none 0 0,.int .i64 0,.int .i64 0,.slice none 0 0,.slice none 0 0,.int .i64 0,.int .i64 0] 44 (0,0)))∧(w'.heap[gb240]?=some (.cells #[.int .i64 a0_0,.int .i64 a0_1,.int .i64 a0_2] 37 (0,0)))∧(w'.heap[gb254]?=some (.cells #[.int .i64 t245,.int .i64 t246,.slice Ao43 t247.length co43,.slice Ao45 t250.length co45] 41 (0,0)))∧(w'.heap[gb260]?=some (.cells #[.slice Ao49 t255.length co49,.int .i64 t258] 42 (0,0)))∧(Below w.heap.size w w')) ?_ ?_
            rotate_left
            · intro hCont
              refine two_ (i:=3) (j:=5) (Ni:=some 46) (Nj:=some 48) #[true,true,true,true,true,false,false,true,true,false,false,false] #[true,true,true,false,true,true,false,true,true,false,false,false] rfl rfl rfl rfl (two_of HT_.out (by kernel_rfl)) (by decide) (by decide) (fun K hK=>?_) (fun K hK=>?_)
              · skip
                refine Kd.R_lit_step (Kd.int .i64) _ 2 ?hg (N:=46) ?hd (xs:=([(-1),(-1)]:List Int)) (inner:=[.int .i64 (-1),.int .i64 (-1)]) (ok:=fun _=>True) (okp:=fun _=>True) ?hr ?hp (fun _ hk=>hk) trivial (Below.refl _ _) (Nat.le_refl _) (by simp) ?_;(case hd=>rfl);(case hg=>rfl);(case hr=>first|(go_simp;done)|(go_simp;rfl));(case hp=>exact (Reps.one (show Kd.M (Kd.int .i64) _ _ _ (-1) [.int .i64 (-1)] from rfl) (Reps.one (show Kd.M (Kd.int .i64) _ _ _ (-1) [.int .i64 (-1)] from rfl) (Reps.none _ _))))
                intro v262 w57 ho58 hb hg_ hnew_
                clear hg_ hnew_
                (first|rw [← Ny261.out] at ho58|(simp only [Int.reduceToNat] at ho58;rw [← Ny261.out] at ho58))
                have n0_:=mk15_ (Kd.V_elder' (by (with_reducible repeat (first|apply Kd.V_alloc|apply Kd.V_drewN|apply Kd.V_drew));exact HO_239003.out) (Kd.R_base ho58) hb)
                have n1_:=mk15_ (Kd.R_elder' (by (with_reducible repeat (first|apply rA15_|apply Kd.R_drewN|apply rD15_));exact HO249.out) (Kd.R_base ho58) hb)
                have n2_:=mk15_ (Kd.R_below (by (with_reducible repeat (first|apply rA15_|apply Kd.R_drewN|apply rD15_));exact HO252.out) hb)
                have n3_:=mk15_ (Kd.R_elder' (by (with_reducible repeat (first|apply rA15_|apply Kd.R_drewN|apply rD15_));exact HO257.out) (Kd.R_base ho58) hb)
                have n4_:=mk15_ (Kd.R_lower (Kd.R_new' (Kd.R_new' (Kd.R_newM (M:=fun k_=>(w.heap.size≤k_)) ho58 (bZ15_ (by repeat (first|(with_reducible first|exact HB.out|apply bA15_|apply bN15_|apply bD15_|refine bS15_ ?_ GE238.out|refine bS15_ ?_ GE239.out|refine bS15_ ?_ GE240.out|refine bS15_ ?_ GE254.out|refine bS15_ ?_ GE260.out)|exact HB.out))) (fun k_ h_=>h_)) (Kd.R_lt (by (with_reducible repeat (first|apply rA15_|apply Kd.R_drewN|apply rD15_));exact HO249.out))) (Kd.R_lt (by (with_reducible repeat (first|apply rA15_|apply Kd.R_drewN|apply rD15_));exact HO257.out))) (bZ15_ (by repeat (first|(with_reducible first|exact HB.out|apply bA15_|apply bN15_|apply bD15_|refine bS15_ ?_ GE238.out|refine bS15_ ?_ GE239.out|refine bS15_ ?_ GE240.out|refine bS15_ ?_ GE254.out|refine bS15_ ?_ GE260.out)|exact HB.out))))
                have n5_:=mk15_ (blk_below (g:=gb238) (o:=.cells #[.int .i64 a0_0,.int .i64 a0_1,.int .i64 a0_2,.slice A0_3 l0_3.length c0_3,.int .i64 a0_4,.int .i64 a0_5,.bool a0_6,.int .i64 a0_7] 40 (0,0)) (by (with_reducible repeat (first|refine kN15_ ?_ _|refine kD15_ ?_|refine kA15_ ?_ _));exact BK238.out) hb)
                have n6_:=mk15_ (blk_below (g:=gb239) (o:=.cells #[.int .i64 0,.int .i64 0,.int .i64 0,.slice none 0 0,.int .i64 0,.int .i64 0,.bool false,.int .i64 0,.int .i64 0,.int .i64 0,.slice none 0 0,.slice none 0 0,.slice none 0 0,.int .i64 0,.int .i64 0,.slice none 0 0,.slice none 0 0,.int .i64 0,.int .i64 0] 44 (0,0)) (by (with_reducible repeat (first|refine kN15_ ?_ _|refine kD15_ ?_|refine kA15_ ?_ _));exact BK239.out) hb)
                have n7_:=mk15_ (blk_below (g:=gb240) (o:=.cells #[.int .i64 a0_0,.int .i64 a0_1,.int .i64 a0_2] 37 (0,0)) (by (with_reducible repeat (first|refine kN15_ ?_ _|refine kD15_ ?_|refine kA15_ ?_ _));exact BK240.out) hb)
                have n8_:=mk15_ (blk_below (g:=gb254) (o:=.cells #[.int .i64 t245,.int .i64 t246,.slice Ao43 t247.length co43,.slice Ao45 t250.length co45] 41 (0,0)) (by (with_reducible repeat (first|refine kN15_ ?_ _|refine kD15_ ?_|refine kA15_ ?_ _));exact BK254.out) hb)
                have n9_:=mk15_ (blk_below (g:=gb260) (o:=.cells #[.slice Ao49 t255.length co49,.int .i64 t258] 42 (0,0)) (by (with_reducible repeat (first|refine kN15_ ?_ _|refine kD15_ ?_|refine kA15_ ?_ _));exact BK260.out) hb)
                have n10_:=mk15_ (bT15_ (by repeat (first|(with_reducible first|exact HB.out|apply bA15_|apply bN15_|apply bD15_|refine bS15_ ?_ GE238.out|refine bS15_ ?_ GE239.out|refine bS15_ ?_ GE240.out|refine bS15_ ?_ GE254.out|refine bS15_ ?_ GE260.out)|exact HB.out)) hb)
                clear HO_239003
                clear HO249
                clear HO252
                clear HO257
                clear BK238
                clear BK239
                clear BK240
                clear BK254
                clear BK260
                clear HB
                have HO_239003 := n0_
                have HO249 := n1_
                have HO252 := n2_
                have HO257 := n3_
                have HO263 := n4_
                have BK238 := n5_
                have BK239 := n6_
                have BK240 := n7_
                have BK254 := n8_
                have BK260 := n9_
                have HB := n10_
                clear n0_ n1_ n2_ n3_ n4_ n5_ n6_ n7_ n8_ n9_ n10_
                clear hb ho58
                refine hK.out _ _ ⟨(blk_cell BK238.out 0).trans rfl,(blk_cell BK238.out 1).trans rfl,(blk_cell BK238.out 2).trans rfl,(blk_cell BK238.out 3).trans rfl,(blk_cell BK238.out 4).trans rfl,(blk_cell BK238.out 5).trans rfl,(blk_cell BK238.out 6).trans rfl,(blk_cell BK238.out 7).trans rfl,(blk_cell BK254.out 0).trans rfl,(blk_cell BK254.out 1).trans rfl,(blk_cell BK254.out 2).trans rfl,(blk_cell BK254.out 3).trans rfl,(blk_cell BK260.out 0).trans rfl,(blk_cell BK260.out 1).trans rfl,(blk_cell BK240.out 0).trans rfl,(blk_cell BK240.out 1).trans rfl,(blk_cell BK240.out 2).trans rfl⟩ (fun hHeld=>?_)
                clear hK K
                refine norm_ (a' := ?_) ?_ ?_
                rotate_left
                · show Act.put _ (some 46) _ = _
                  simp only [Act.put,List.setIfInBounds_toArray,List.set_cons_zero,List.set_cons_succ,i64_w,i32_w]
                  rfl
                refine one_ (i:=5) (N:=some 48) #[true,true,true,true,true,true,false,true,true,false,false,false] rfl rfl (one_of HT_.out (by kernel_rfl)) (by decide) (fun K hK=>?_)
                refine goes_ Try.func126 (by kernel_rfl) rfl #[.agg #[.int .i64 a0_0,.int .i64 a0_1,.int .i64 a0_2]] (by rfl) rfl rfl (by (try simp only [List.map_toArray,List.map_cons,List.map_nil]);first|done|rfl|(simp only [List.length_drop,List.length_take];rfl)) ?_
                with_reducible refine (impl_Geometry_all.calls a0_0 a0_1 a0_2 t264 _ A33.out).mono ?_
                rintro e w59 ⟨rfl, hb⟩
                refine ⟨_, rfl, ?_⟩
                have n0_:=mk15_ (Kd.V_below (by (with_reducible repeat (first|apply Kd.V_alloc|apply Kd.V_drewN|apply Kd.V_drew));exact HO_239003.out) hb)
                have n1_:=mk15_ (Kd.R_below (by (with_reducible repeat (first|apply rA15_|apply Kd.R_drewN|apply rD15_));exact HO249.out) hb)
                have n2_:=mk15_ (Kd.R_below (by (with_reducible repeat (first|apply rA15_|apply Kd.R_drewN|apply rD15_));exact HO252.out) hb)
                have n3_:=mk15_ (Kd.R_below (by (with_reducible repeat (first|apply rA15_|apply Kd.R_drewN|apply rD15_));exact HO257.out) hb)
                have n4_:=mk15_ (Kd.R_below (by (with_reducible repeat (first|apply rA15_|apply Kd.R_drewN|apply rD15_));exact HO263.out) hb)
                have n5_:=mk15_ (blk_below (g:=gb238) (o:=.cells #[.int .i64 a0_0,.int .i64 a0_1,.int .i64 a0_2,.slice A0_3 l0_3.length c0_3,.int .i64 a0_4,.int .i64 a0_5,.bool a0_6,.int .i64 a0_7] 40 (0,0)) (by (with_reducible repeat (first|refine kN15_ ?_ _|refine kD15_ ?_|refine kA15_ ?_ _));exact BK238.out) hb)
                have n6_:=mk15_ (blk_below (g:=gb239) (o:=.cells #[.int .i64 0,.int .i64 0,.int .i64 0,.slice none 0 0,.int .i64 0,.int .i64 0,.bool false,.int .i64 0,.int .i64 0,.int .i64 0,.slice none 0 0,.slice none 0 0,.slice none 0 0,.int .i64 0,.int .i64 0,.slice none 0 0,.slice none 0 0,.int .i64 0,.int .i64 0] 44 (0,0)) (by (with_reducible repeat (first|refine kN15_ ?_ _|refine kD15_ ?_|refine kA15_ ?_ _));exact BK239.out) hb)
                have n7_:=mk15_ (blk_below (g:=gb240) (o:=.cells #[.int .i64 a0_0,.int .i64 a0_1,.int .i64 a0_2] 37 (0,0)) (by (with_reducible repeat (first|refine kN15_ ?_ _|refine kD15_ ?_|refine kA15_ ?_ _));exact BK240.out) hb)
                have n8_:=mk15_ (blk_below (g:=gb254) (o:=.cells #[.int .i64 t245,.int .i64 t246,.slice Ao43 t247.length co43,.slice Ao45 t250.length co45] 41 (0,0)) (by (with_reducible repeat (first|refine kN15_ ?_ _|refine kD15_ ?_|refine kA15_ ?_ _));exact BK254.out) hb)
                have n9_:=mk15_ (blk_below (g:=gb260) (o:=.cells #[.slice Ao49 t255.length co49,.int .i64 t258] 42 (0,0)) (by (with_reducible repeat (first|refine kN15_ ?_ _|refine kD15_ ?_|refine kA15_ ?_ _));exact BK260.out) hb)
                have n10_:=mk15_ (bT15_ (by repeat (first|(with_reducible first|exact HB.out|apply bA15_|apply bN15_|apply bD15_|refine bS15_ ?_ GE238.out|refine bS15_ ?_ GE239.out|refine bS15_ ?_ GE240.out|refine bS15_ ?_ GE254.out|refine bS15_ ?_ GE260.out)|exact HB.out)) hb)
                clear HO_239003
                clear HO249
                clear HO252
                clear HO257
                clear HO263
                clear BK238
                clear BK239
                clear BK240
                clear BK254
                clear BK260
                clear HB
                have HO_239003 := n0_
                have HO249 := n1_
                have HO252 := n2_
                have HO257 := n3_
                have HO263 := n4_
                have BK238 := n5_
                have BK239 := n6_
                have BK240 := n7_
                have BK254 := n8_
                have BK260 := n9_
                have HB := n10_
                clear n0_ n1_ n2_ n3_ n4_ n5_ n6_ n7_ n8_ n9_ n10_
                (try clear hb)
                (try clear hb2)
                (try clear hk)
                (try clear hi)
                refine hK.out _ _ ⟨(blk_cell BK238.out 0).trans rfl,(blk_cell BK238.out 1).trans rfl,(blk_cell BK238.out 2).trans rfl,(blk_cell BK238.out 3).trans rfl,(blk_cell BK238.out 4).trans rfl,(blk_cell BK238.out 5).trans rfl,(blk_cell BK238.out 6).trans rfl,(blk_cell BK238.out 7).trans rfl,(blk_cell BK254.out 0).trans rfl,(blk_cell BK254.out 1).trans rfl,(blk_cell BK254.out 2).trans rfl,(blk_cell BK254.out 3).trans rfl,(blk_cell BK260.out 0).trans rfl,(blk_cell BK260.out 1).trans rfl,(blk_cell BK240.out 0).trans rfl,(blk_cell BK240.out 1).trans rfl,(blk_cell BK240.out 2).trans rfl⟩ (fun hHeld=>?_)
                clear hK K
                refine norm_ (a' := ?_) ?_ ?_
                rotate_left
                · show Act.put _ (some 48) _ = _
                  simp only [Act.put,List.setIfInBounds_toArray,List.set_cons_zero,List.set_cons_succ,i64_w,i32_w]
                  rfl
                refine one_ (i:=6) (N:=some 49) #[true,true,true,true,true,true,true,true,true,false,false,false] rfl rfl (one_of HT_.out (by kernel_rfl)) (by decide) (fun K hK=>?_)
                refine Kd.R_make_step (Kd.int .i64) _ 2 (by rfl) (N:=49) rfl 27 _ _ rfl t264 rfl rfl Try.underlying27 (.int .i64 0) 8 info2 rfl (by decide) (by omega) 0 (ok:=fun _=>True) (okp:=fun _=>True) rfl (fun _ hk=>hk) trivial (of_decide_eq_true (by first|(with_reducible assumption)|assumption)) (Nat.le_trans (Nat.mul_le_mul_right _ (of_decide_eq_true (by first|(with_reducible assumption)|assumption):t264.toNat≤35184372088832)) (by omega)) (Below.refl _ _) (Nat.le_refl _) ?_
                intro v266 w60 ho61 hb hg_ hnew_
                clear hg_ hnew_
                (first|rw [← Ny265.out] at ho61|(simp only [Int.reduceToNat] at ho61;rw [← Ny265.out] at ho61))
                have n0_:=mk15_ (Kd.V_elder' (by (with_reducible repeat (first|apply Kd.V_alloc|apply Kd.V_drewN|apply Kd.V_drew));exact HO_239003.out) (Kd.R_base ho61) hb)
                have n1_:=mk15_ (Kd.R_elder' (by (with_reducible repeat (first|apply rA15_|apply Kd.R_drewN|apply rD15_));exact HO249.out) (Kd.R_base ho61) hb)
                have n2_:=mk15_ (Kd.R_below (by (with_reducible repeat (first|apply rA15_|apply Kd.R_drewN|apply rD15_));exact HO252.out) hb)
                have n3_:=mk15_ (Kd.R_elder' (by (with_reducible repeat (first|apply rA15_|apply Kd.R_drewN|apply rD15_));exact HO257.out) (Kd.R_base ho61) hb)
                have n4_:=mk15_ (Kd.R_elder' (by (with_reducible repeat (first|apply rA15_|apply Kd.R_drewN|apply rD15_));exact HO263.out) (Kd.R_base ho61) hb)
                have n5_:=mk15_ (Kd.R_lower (Kd.R_new' (Kd.R_new' (Kd.R_new' (Kd.R_newM (M:=fun k_=>(w.heap.size≤k_)) ho61 (bZ15_ (by repeat (first|(with_reducible first|exact HB.out|apply bA15_|apply bN15_|apply bD15_|refine bS15_ ?_ GE238.out|refine bS15_ ?_ GE239.out|refine bS15_ ?_ GE240.out|refine bS15_ ?_ GE254.out|refine bS15_ ?_ GE260.out)|exact HB.out))) (fun k_ h_=>h_)) (Kd.R_lt (by (with_reducible repeat (first|apply rA15_|apply Kd.R_drewN|apply rD15_));exact HO249.out))) (Kd.R_lt (by (with_reducible repeat (first|apply rA15_|apply Kd.R_drewN|apply rD15_));exact HO257.out))) (Kd.R_lt (by (with_reducible repeat (first|apply rA15_|apply Kd.R_drewN|apply rD15_));exact HO263.out))) (bZ15_ (by repeat (first|(with_reducible first|exact HB.out|apply bA15_|apply bN15_|apply bD15_|refine bS15_ ?_ GE238.out|refine bS15_ ?_ GE239.out|refine bS15_ ?_ GE240.out|refine bS15_ ?_ GE254.out|refine bS15_ ?_ GE260.out)|exact HB.out))))
                have n6_:=mk15_ (blk_below (g:=gb238) (o:=.cells #[.int .i64 a0_0,.int .i64 a0_1,.int .i64 a0_2,.slice A0_3 l0_3.length c0_3,.int .i64 a0_4,.int .i64 a0_5,.bool a0_6,.int .i64 a0_7] 40 (0,0)) (by (with_reducible repeat (first|refine kN15_ ?_ _|refine kD15_ ?_|refine kA15_ ?_ _));exact BK238.out) hb)
                have n7_:=mk15_ (blk_below (g:=gb239) (o:=.cells #[.int .i64 0,.int .i64 0,.int .i64 0,.slice none 0 0,.int .i64 0,.int .i64 0,.bool false,.int .i64 0,.int .i64 0,.int .i64 0,.slice none 0 0,.slice none 0 0,.slice none 0 0,.int .i64 0,.int .i64 0,.slice none 0 0,.slice none 0 0,.int .i64 0,.int .i64 0] 44 (0,0)) (by (with_reducible repeat (first|refine kN15_ ?_ _|refine kD15_ ?_|refine kA15_ ?_ _));exact BK239.out) hb)
                have n8_:=mk15_ (blk_below (g:=gb240) (o:=.cells #[.int .i64 a0_0,.int .i64 a0_1,.int .i64 a0_2] 37 (0,0)) (by (with_reducible repeat (first|refine kN15_ ?_ _|refine kD15_ ?_|refine kA15_ ?_ _));exact BK240.out) hb)
                have n9_:=mk15_ (blk_below (g:=gb254) (o:=.cells #[.int .i64 t245,.int .i64 t246,.slice Ao43 t247.length co43,.slice Ao45 t250.length co45] 41 (0,0)) (by (with_reducible repeat (first|refine kN15_ ?_ _|refine kD15_ ?_|refine kA15_ ?_ _));exact BK254.out) hb)
                have n10_:=mk15_ (blk_below (g:=gb260) (o:=.cells #[.slice Ao49 t255.length co49,.int .i64 t258] 42 (0,0)) (by (with_reducible repeat (first|refine kN15_ ?_ _|refine kD15_ ?_|refine kA15_ ?_ _));exact BK260.out) hb)
                have n11_:=mk15_ (bT15_ (by repeat (first|(with_reducible first|exact HB.out|apply bA15_|apply bN15_|apply bD15_|refine bS15_ ?_ GE238.out|refine bS15_ ?_ GE239.out|refine bS15_ ?_ GE240.out|refine bS15_ ?_ GE254.out|refine bS15_ ?_ GE260.out)|exact HB.out)) hb)
                clear HO_239003
                clear HO249
                clear HO252
                clear HO257
                clear HO263
                clear BK238
                clear BK239
                clear BK240
                clear BK254
                clear BK260
                clear HB
                have HO_239003 := n0_
                have HO249 := n1_
                have HO252 := n2_
                have HO257 := n3_
                have HO263 := n4_
                have HO267 := n5_
                have BK238 := n6_
                have BK239 := n7_
                have BK240 := n8_
                have BK254 := n9_
                have BK260 := n10_
                have HB := n11_
                clear n0_ n1_ n2_ n3_ n4_ n5_ n6_ n7_ n8_ n9_ n10_ n11_
                clear hb ho61
                obtain ⟨Ao62, co62, eo62⟩ := Kd.R_slice HO267.out
                (first|subst eo62|(injection eo62 with f1_ f2_ f3_;have f4_:=f1_.symm;have f5_:=f3_.symm;clear f1_ f2_ f3_;subst f4_;subst f5_))
                obtain ⟨Ao63, co63, eo63⟩ := Kd.R_slice HO263.out
                (first|subst eo63|(injection eo63 with f1_ f2_ f3_;have f4_:=f1_.symm;have f5_:=f3_.symm;clear f1_ f2_ f3_;subst f4_;subst f5_))
                refine hK.out _ _ ⟨(blk_cell BK238.out 0).trans rfl,(blk_cell BK238.out 1).trans rfl,(blk_cell BK238.out 2).trans rfl,(blk_cell BK238.out 3).trans rfl,(blk_cell BK238.out 4).trans rfl,(blk_cell BK238.out 5).trans rfl,(blk_cell BK238.out 6).trans rfl,(blk_cell BK238.out 7).trans rfl,(blk_cell BK254.out 0).trans rfl,(blk_cell BK254.out 1).trans rfl,(blk_cell BK254.out 2).trans rfl,(blk_cell BK254.out 3).trans rfl,(blk_cell BK260.out 0).trans rfl,(blk_cell BK260.out 1).trans rfl,(blk_cell BK240.out 0).trans rfl,(blk_cell BK240.out 1).trans rfl,(blk_cell BK240.out 2).trans rfl⟩ (fun hHeld=>?_)
                clear hK K
                refine norm_ (a' := ?_) ?_ ?_
                rotate_left
                · show Act.put _ (some 49) _ = _
                  simp only [Act.put,List.setIfInBounds_toArray,List.set_cons_zero,List.set_cons_succ,i64_w,i32_w]
                  rfl
                exact norm_ (by simp only [putAll,Act.put,List.setIfInBounds_toArray,List.set_cons_zero,List.set_cons_succ]) (hCont (.slice Ao63 y261.length co63,.slice Ao62 y265.length co62) _ ⟨hHeld,(by (with_reducible repeat (first|apply rA15_|apply Kd.R_drewN|apply rD15_));exact Kd.R_mono HO249.out (fun _ hk=>⟨hk.1.1.1,⟨hk.1.1.2,⟨hk.1.2,hk.2⟩⟩⟩)),(by (with_reducible repeat (first|apply rA15_|apply Kd.R_drewN|apply rD15_));exact HO252.out),(by (with_reducible repeat (first|apply rA15_|apply Kd.R_drewN|apply rD15_));exact Kd.R_mono HO257.out (fun _ hk=>⟨hk.1.1.1,⟨hk.1.1.2,⟨hk.1.2,hk.2⟩⟩⟩)),(by (with_reducible repeat (first|apply rA15_|apply Kd.R_drewN|apply rD15_));exact Kd.R_mono HO263.out (fun _ hk=>⟨hk.1.1.1.1,⟨hk.1.1.2,⟨hk.1.2,hk.2⟩⟩⟩)),(by (with_reducible repeat (first|apply rA15_|apply Kd.R_drewN|apply rD15_));exact Kd.R_mono HO267.out (fun _ hk=>⟨hk.1.1.1.1,⟨hk.1.1.2,⟨hk.1.2,hk.2⟩⟩⟩)),(by (with_reducible repeat (first|apply Kd.V_alloc|apply Kd.V_drewN|apply Kd.V_drew));exact Kd.V_mono HO_239003.out (fun _ hk=>⟨hk.1.1.1,⟨hk.1.1.2.1,⟨hk.1.1.2.2.1,⟨hk.1.1.2.2.2.1,⟨hk.1.2,⟨hk.2,⟨hk.1.1.2.2.2.2.1,⟨hk.1.1.2.2.2.2.2.1,⟨hk.1.1.2.2.2.2.2.2.1,⟨hk.1.1.2.2.2.2.2.2.2.1,hk.1.1.2.2.2.2.2.2.2.2⟩⟩⟩⟩⟩⟩⟩⟩⟩⟩)),(by (with_reducible repeat (first|refine kN15_ ?_ _|refine kD15_ ?_|refine kA15_ ?_ _));exact BK238.out),(by (with_reducible repeat (first|refine kN15_ ?_ _|refine kD15_ ?_|refine kA15_ ?_ _));exact BK239.out),(by (with_reducible repeat (first|refine kN15_ ?_ _|refine kD15_ ?_|refine kA15_ ?_ _));exact BK240.out),(by (with_reducible repeat (first|refine kN15_ ?_ _|refine kD15_ ?_|refine kA15_ ?_ _));exact BK254.out),(by (with_reducible repeat (first|refine kN15_ ?_ _|refine kD15_ ?_|refine kA15_ ?_ _));exact BK260.out),(by repeat (first|(with_reducible first|exact HB.out|apply bA15_|apply bN15_|apply bD15_|refine bS15_ ?_ GE238.out|refine bS15_ ?_ GE239.out|refine bS15_ ?_ GE240.out|refine bS15_ ?_ GE254.out|refine bS15_ ?_ GE260.out)|exact HB.out))⟩)
              · skip
                refine goes_ Try.func126 (by kernel_rfl) rfl #[.agg #[.int .i64 a0_0,.int .i64 a0_1,.int .i64 a0_2]] (by rfl) rfl rfl (by (try simp only [List.map_toArray,List.map_cons,List.map_nil]);first|done|rfl|(simp only [List.length_drop,List.length_take];rfl)) ?_
                with_reducible refine (impl_Geometry_all.calls a0_0 a0_1 a0_2 t264 _ A33.out).mono ?_
                rintro e w57 ⟨rfl, hb⟩
                refine ⟨_, rfl, ?_⟩
                have n0_:=mk15_ (Kd.V_below (by (with_reducible repeat (first|apply Kd.V_alloc|apply Kd.V_drewN|apply Kd.V_drew));exact HO_239003.out) hb)
                have n1_:=mk15_ (Kd.R_below (by (with_reducible repeat (first|apply rA15_|apply Kd.R_drewN|apply rD15_));exact HO249.out) hb)
                have n2_:=mk15_ (Kd.R_below (by (with_reducible repeat (first|apply rA15_|apply Kd.R_drewN|apply rD15_));exact HO252.out) hb)
                have n3_:=mk15_ (Kd.R_below (by (with_reducible repeat (first|apply rA15_|apply Kd.R_drewN|apply rD15_));exact HO257.out) hb)
                have n4_:=mk15_ (blk_below (g:=gb238) (o:=.cells #[.int .i64 a0_0,.int .i64 a0_1,.int .i64 a0_2,.slice A0_3 l0_3.length c0_3,.int .i64 a0_4,.int .i64 a0_5,.bool a0_6,.int .i64 a0_7] 40 (0,0)) (by (with_reducible repeat (first|refine kN15_ ?_ _|refine kD15_ ?_|refine kA15_ ?_ _));exact BK238.out) hb)
                have n5_:=mk15_ (blk_below (g:=gb239) (o:=.cells #[.int .i64 0,.int .i64 0,.int .i64 0,.slice none 0 0,.int .i64 0,.int .i64 0,.bool false,.int .i64 0,.int .i64 0,.int .i64 0,.slice none 0 0,.slice none 0 0,.slice none 0 0,.int .i64 0,.int .i64 0,.slice none 0 0,.slice none 0 0,.int .i64 0,.int .i64 0] 44 (0,0)) (by (with_reducible repeat (first|refine kN15_ ?_ _|refine kD15_ ?_|refine kA15_ ?_ _));exact BK239.out) hb)
                have n6_:=mk15_ (blk_below (g:=gb240) (o:=.cells #[.int .i64 a0_0,.int .i64 a0_1,.int .i64 a0_2] 37 (0,0)) (by (with_reducible repeat (first|refine kN15_ ?_ _|refine kD15_ ?_|refine kA15_ ?_ _));exact BK240.out) hb)
                have n7_:=mk15_ (blk_below (g:=gb254) (o:=.cells #[.int .i64 t245,.int .i64 t246,.slice Ao43 t247.length co43,.slice Ao45 t250.length co45] 41 (0,0)) (by (with_reducible repeat (first|refine kN15_ ?_ _|refine kD15_ ?_|refine kA15_ ?_ _));exact BK254.out) hb)
                have n8_:=mk15_ (blk_below (g:=gb260) (o:=.cells #[.slice Ao49 t255.length co49,.int .i64 t258] 42 (0,0)) (by (with_reducible repeat (first|refine kN15_ ?_ _|refine kD15_ ?_|refine kA15_ ?_ _));exact BK260.out) hb)
                have n9_:=mk15_ (bT15_ (by repeat (first|(with_reducible first|exact HB.out|apply bA15_|apply bN15_|apply bD15_|refine bS15_ ?_ GE238.out|refine bS15_ ?_ GE239.out|refine bS15_ ?_ GE240.out|refine bS15_ ?_ GE254.out|refine bS15_ ?_ GE260.out)|exact HB.out)) hb)
                clear HO_239003
                clear HO249
                clear HO252
                clear HO257
                clear BK238
                clear BK239
                clear BK240
                clear BK254
                clear BK260
                clear HB
                have HO_239003 := n0_
                have HO249 := n1_
                have HO252 := n2_
                have HO257 := n3_
                have BK238 := n4_
                have BK239 := n5_
                have BK240 := n6_
                have BK254 := n7_
                have BK260 := n8_
                have HB := n9_
                clear n0_ n1_ n2_ n3_ n4_ n5_ n6_ n7_ n8_ n9_
                (try clear hb)
                (try clear hb2)
                (try clear hk)
                (try clear hi)
                refine hK.out _ _ ⟨(blk_cell BK238.out 0).trans rfl,(blk_cell BK238.out 1).trans rfl,(blk_cell BK238.out 2).trans rfl,(blk_cell BK238.out 3).trans rfl,(blk_cell BK238.out 4).trans rfl,(blk_cell BK238.out 5).trans rfl,(blk_cell BK238.out 6).trans rfl,(blk_cell BK238.out 7).trans rfl,(blk_cell BK254.out 0).trans rfl,(blk_cell BK254.out 1).trans rfl,(blk_cell BK254.out 2).trans rfl,(blk_cell BK254.out 3).trans rfl,(blk_cell BK260.out 0).trans rfl,(blk_cell BK260.out 1).trans rfl,(blk_cell BK240.out 0).trans rfl,(blk_cell BK240.out 1).trans rfl,(blk_cell BK240.out 2).trans rfl⟩ (fun hHeld=>?_)
                clear hK K
                refine norm_ (a' := ?_) ?_ ?_
                rotate_left
                · show Act.put _ (some 48) _ = _
                  simp only [Act.put,List.setIfInBounds_toArray,List.set_cons_zero,List.set_cons_succ,i64_w,i32_w]
                  rfl
                refine two_ (i:=3) (j:=6) (Ni:=some 46) (Nj:=some 49) #[true,true,true,true,true,true,false,true,true,false,false,false] #[true,true,true,false,true,true,true,true,true,false,false,false] rfl rfl rfl rfl (two_of HT_.out (by kernel_rfl)) (by decide) (by decide) (fun K hK=>?_) (fun K hK=>?_)
                · skip
                  refine Kd.R_lit_step (Kd.int .i64) _ 2 ?hg (N:=46) ?hd (xs:=([(-1),(-1)]:List Int)) (inner:=[.int .i64 (-1),.int .i64 (-1)]) (ok:=fun _=>True) (okp:=fun _=>True) ?hr ?hp (fun _ hk=>hk) trivial (Below.refl _ _) (Nat.le_refl _) (by simp) ?_;(case hd=>rfl);(case hg=>rfl);(case hr=>first|(go_simp;done)|(go_simp;rfl));(case hp=>exact (Reps.one (show Kd.M (Kd.int .i64) _ _ _ (-1) [.int .i64 (-1)] from rfl) (Reps.one (show Kd.M (Kd.int .i64) _ _ _ (-1) [.int .i64 (-1)] from rfl) (Reps.none _ _))))
                  intro v262 w58 ho59 hb hg_ hnew_
                  clear hg_ hnew_
                  (first|rw [← Ny261.out] at ho59|(simp only [Int.reduceToNat] at ho59;rw [← Ny261.out] at ho59))
                  have n0_:=mk15_ (Kd.V_elder' (by (with_reducible repeat (first|apply Kd.V_alloc|apply Kd.V_drewN|apply Kd.V_drew));exact HO_239003.out) (Kd.R_base ho59) hb)
                  have n1_:=mk15_ (Kd.R_elder' (by (with_reducible repeat (first|apply rA15_|apply Kd.R_drewN|apply rD15_));exact HO249.out) (Kd.R_base ho59) hb)
                  have n2_:=mk15_ (Kd.R_below (by (with_reducible repeat (first|apply rA15_|apply Kd.R_drewN|apply rD15_));exact HO252.out) hb)
                  have n3_:=mk15_ (Kd.R_elder' (by (with_reducible repeat (first|apply rA15_|apply Kd.R_drewN|apply rD15_));exact HO257.out) (Kd.R_base ho59) hb)
                  have n4_:=mk15_ (Kd.R_lower (Kd.R_new' (Kd.R_new' (Kd.R_newM (M:=fun k_=>(w.heap.size≤k_)) ho59 (bZ15_ (by repeat (first|(with_reducible first|exact HB.out|apply bA15_|apply bN15_|apply bD15_|refine bS15_ ?_ GE238.out|refine bS15_ ?_ GE239.out|refine bS15_ ?_ GE240.out|refine bS15_ ?_ GE254.out|refine bS15_ ?_ GE260.out)|exact HB.out))) (fun k_ h_=>h_)) (Kd.R_lt (by (with_reducible repeat (first|apply rA15_|apply Kd.R_drewN|apply rD15_));exact HO249.out))) (Kd.R_lt (by (with_reducible repeat (first|apply rA15_|apply Kd.R_drewN|apply rD15_));exact HO257.out))) (bZ15_ (by repeat (first|(with_reducible first|exact HB.out|apply bA15_|apply bN15_|apply bD15_|refine bS15_ ?_ GE238.out|refine bS15_ ?_ GE239.out|refine bS15_ ?_ GE240.out|refine bS15_ ?_ GE254.out|refine bS15_ ?_ GE260.out)|exact HB.out))))
                  have n5_:=mk15_ (blk_below (g:=gb238) (o:=.cells #[.int .i64 a0_0,.int .i64 a0_1,.int .i64 a0_2,.slice A0_3 l0_3.length c0_3,.int .i64 a0_4,.int .i64 a0_5,.bool a0_6,.int .i64 a0_7] 40 (0,0)) (by (with_reducible repeat (first|refine kN15_ ?_ _|refine kD15_ ?_|refine kA15_ ?_ _));exact BK238.out) hb)
                  have n6_:=mk15_ (blk_below (g:=gb239) (o:=.cells #[.int .i64 0,.int .i64 0,.int .i64 0,.slice none 0 0,.int .i64 0,.int .i64 0,.bool false,.int .i64 0,.int .i64 0,.int .i64 0,.slice none 0 0,.slice none 0 0,.slice none 0 0,.int .i64 0,.int .i64 0,.slice none 0 0,.slice none 0 0,.int .i64 0,.int .i64 0] 44 (0,0)) (by (with_reducible repeat (first|refine kN15_ ?_ _|refine kD15_ ?_|refine kA15_ ?_ _));exact BK239.out) hb)
                  have n7_:=mk15_ (blk_below (g:=gb240) (o:=.cells #[.int .i64 a0_0,.int .i64 a0_1,.int .i64 a0_2] 37 (0,0)) (by (with_reducible repeat (first|refine kN15_ ?_ _|refine kD15_ ?_|refine kA15_ ?_ _));exact BK240.out) hb)
                  have n8_:=mk15_ (blk_below (g:=gb254) (o:=.cells #[.int .i64 t245,.int .i64 t246,.slice Ao43 t247.length co43,.slice Ao45 t250.length co45] 41 (0,0)) (by (with_reducible repeat (first|refine kN15_ ?_ _|refine kD15_ ?_|refine kA15_ ?_ _));exact BK254.out) hb)
                  have n9_:=mk15_ (blk_below (g:=gb260) (o:=.cells #[.slice Ao49 t255.length co49,.int .i64 t258] 42 (0,0)) (by (with_reducible repeat (first|refine kN15_ ?_ _|refine kD15_ ?_|refine kA15_ ?_ _));exact BK260.out) hb)
                  have n10_:=mk15_ (bT15_ (by repeat (first|(with_reducible first|exact HB.out|apply bA15_|apply bN15_|apply bD15_|refine bS15_ ?_ GE238.out|refine bS15_ ?_ GE239.out|refine bS15_ ?_ GE240.out|refine bS15_ ?_ GE254.out|refine bS15_ ?_ GE260.out)|exact HB.out)) hb)
                  clear HO_239003
                  clear HO249
                  clear HO252
                  clear HO257
                  clear BK238
                  clear BK239
                  clear BK240
                  clear BK254
                  clear BK260
                  clear HB
                  have HO_239003 := n0_
                  have HO249 := n1_
                  have HO252 := n2_
                  have HO257 := n3_
                  have HO263 := n4_
                  have BK238 := n5_
                  have BK239 := n6_
                  have BK240 := n7_
                  have BK254 := n8_
                  have BK260 := n9_
                  have HB := n10_
                  clear n0_ n1_ n2_ n3_ n4_ n5_ n6_ n7_ n8_ n9_ n10_
                  clear hb ho59
                  refine hK.out _ _ ⟨(blk_cell BK238.out 0).trans rfl,(blk_cell BK238.out 1).trans rfl,(blk_cell BK238.out 2).trans rfl,(blk_cell BK238.out 3).trans rfl,(blk_cell BK238.out 4).trans rfl,(blk_cell BK238.out 5).trans rfl,(blk_cell BK238.out 6).trans rfl,(blk_cell BK238.out 7).trans rfl,(blk_cell BK254.out 0).trans rfl,(blk_cell BK254.out 1).trans rfl,(blk_cell BK254.out 2).trans rfl,(blk_cell BK254.out 3).trans rfl,(blk_cell BK260.out 0).trans rfl,(blk_cell BK260.out 1).trans rfl,(blk_cell BK240.out 0).trans rfl,(blk_cell BK240.out 1).trans rfl,(blk_cell BK240.out 2).trans rfl⟩ (fun hHeld=>?_)
                  clear hK K
                  refine norm_ (a' := ?_) ?_ ?_
                  rotate_left
                  · show Act.put _ (some 46) _ = _
                    simp only [Act.put,List.setIfInBounds_toArray,List.set_cons_zero,List.set_cons_succ,i64_w,i32_w]
                    rfl
                  refine one_ (i:=6) (N:=some 49) #[true,true,true,true,true,true,true,true,true,false,false,false] rfl rfl (one_of HT_.out (by kernel_rfl)) (by decide) (fun K hK=>?_)
                  refine Kd.R_make_step (Kd.int .i64) _ 2 (by rfl) (N:=49) rfl 27 _ _ rfl t264 rfl rfl Try.underlying27 (.int .i64 0) 8 info2 rfl (by decide) (by omega) 0 (ok:=fun _=>True) (okp:=fun _=>True) rfl (fun _ hk=>hk) trivial (of_decide_eq_true (by first|(with_reducible assumption)|assumption)) (Nat.le_trans (Nat.mul_le_mul_right _ (of_decide_eq_true (by first|(with_reducible assumption)|assumption):t264.toNat≤35184372088832)) (by omega)) (Below.refl _ _) (Nat.le_refl _) ?_
                  intro v266 w60 ho61 hb hg_ hnew_
                  clear hg_ hnew_
                  (first|rw [← Ny265.out] at ho61|(simp only [Int.reduceToNat] at ho61;rw [← Ny265.out] at ho61))
                  have n0_:=mk15_ (Kd.V_elder' (by (with_reducible repeat (first|apply Kd.V_alloc|apply Kd.V_drewN|apply Kd.V_drew));exact HO_239003.out) (Kd.R_base ho61) hb)
                  have n1_:=mk15_ (Kd.R_elder' (by (with_reducible repeat (first|apply rA15_|apply Kd.R_drewN|apply rD15_));exact HO249.out) (Kd.R_base ho61) hb)
                  have n2_:=mk15_ (Kd.R_below (by (with_reducible repeat (first|apply rA15_|apply Kd.R_drewN|apply rD15_));exact HO252.out) hb)
                  have n3_:=mk15_ (Kd.R_elder' (by (with_reducible repeat (first|apply rA15_|apply Kd.R_drewN|apply rD15_));exact HO257.out) (Kd.R_base ho61) hb)
                  have n4_:=mk15_ (Kd.R_elder' (by (with_reducible repeat (first|apply rA15_|apply Kd.R_drewN|apply rD15_));exact HO263.out) (Kd.R_base ho61) hb)
                  have n5_:=mk15_ (Kd.R_lower (Kd.R_new' (Kd.R_new' (Kd.R_new' (Kd.R_newM (M:=fun k_=>(w.heap.size≤k_)) ho61 (bZ15_ (by repeat (first|(with_reducible first|exact HB.out|apply bA15_|apply bN15_|apply bD15_|refine bS15_ ?_ GE238.out|refine bS15_ ?_ GE239.out|refine bS15_ ?_ GE240.out|refine bS15_ ?_ GE254.out|refine bS15_ ?_ GE260.out)|exact HB.out))) (fun k_ h_=>h_)) (Kd.R_lt (by (with_reducible repeat (first|apply rA15_|apply Kd.R_drewN|apply rD15_));exact HO249.out))) (Kd.R_lt (by (with_reducible repeat (first|apply rA15_|apply Kd.R_drewN|apply rD15_));exact HO257.out))) (Kd.R_lt (by (with_reducible repeat (first|apply rA15_|apply Kd.R_drewN|apply rD15_));exact HO263.out))) (bZ15_ (by repeat (first|(with_reducible first|exact HB.out|apply bA15_|apply bN15_|apply bD15_|refine bS15_ ?_ GE238.out|refine bS15_ ?_ GE239.out|refine bS15_ ?_ GE240.out|refine bS15_ ?_ GE254.out|refine bS15_ ?_ GE260.out)|exact HB.out))))
                  have n6_:=mk15_ (blk_below (g:=gb238) (o:=.cells #[.int .i64 a0_0,.int .i64 a0_1,.int .i64 a0_2,.slice A0_3 l0_3.length c0_3,.int .i64 a0_4,.int .i64 a0_5,.bool a0_6,.int .i64 a0_7] 40 (0,0)) (by (with_reducible repeat (first|refine kN15_ ?_ _|refine kD15_ ?_|refine kA15_ ?_ _));exact BK238.out) hb)
                  have n7_:=mk15_ (blk_below (g:=gb239) (o:=.cells #[.int .i64 0,.int .i64 0,.int .i64 0,.slice none 0 0,.int .i64 0,.int .i64 0,.bool false,.int .i64 0,.int .i64 0,.int .i64 0,.slice none 0 0,.slice none 0 0,.slice none 0 0,.int .i64 0,.int .i64 0,.slice none 0 0,.slice none 0 0,.int .i64 0,.int .i64 0] 44 (0,0)) (by (with_reducible repeat (first|refine kN15_ ?_ _|refine kD15_ ?_|refine kA15_ ?_ _));exact BK239.out) hb)
                  have n8_:=mk15_ (blk_below (g:=gb240) (o:=.cells #[.int .i64 a0_0,.int .i64 a0_1,.int .i64 a0_2] 37 (0,0)) (by (with_reducible repeat (first|refine kN15_ ?_ _|refine kD15_ ?_|refine kA15_ ?_ _));exact BK240.out) hb)
                  have n9_:=mk15_ (blk_below (g:=gb254) (o:=.cells #[.int .i64 t245,.int .i64 t246,.slice Ao43 t247.length co43,.slice Ao45 t250.length co45] 41 (0,0)) (by (with_reducible repeat (first|refine kN15_ ?_ _|refine kD15_ ?_|refine kA15_ ?_ _));exact BK254.out) hb)
                  have n10_:=mk15_ (blk_below (g:=gb260) (o:=.cells #[.slice Ao49 t255.length co49,.int .i64 t258] 42 (0,0)) (by (with_reducible repeat (first|refine kN15_ ?_ _|refine kD15_ ?_|refine kA15_ ?_ _));exact BK260.out) hb)
                  have n11_:=mk15_ (bT15_ (by repeat (first|(with_reducible first|exact HB.out|apply bA15_|apply bN15_|apply bD15_|refine bS15_ ?_ GE238.out|refine bS15_ ?_ GE239.out|refine bS15_ ?_ GE240.out|refine bS15_ ?_ GE254.out|refine bS15_ ?_ GE260.out)|exact HB.out)) hb)
                  clear HO_239003
                  clear HO249
                  clear HO252
                  clear HO257
                  clear HO263
                  clear BK238
                  clear BK239
                  clear BK240
                  clear BK254
                  clear BK260
                  clear HB
                  have HO_239003 := n0_
                  have HO249 := n1_
                  have HO252 := n2_
                  have HO257 := n3_
                  have HO263 := n4_
                  have HO267 := n5_
                  have BK238 := n6_
                  have BK239 := n7_
                  have BK240 := n8_
                  have BK254 := n9_
                  have BK260 := n10_
                  have HB := n11_
                  clear n0_ n1_ n2_ n3_ n4_ n5_ n6_ n7_ n8_ n9_ n10_ n11_
                  clear hb ho61
                  obtain ⟨Ao62, co62, eo62⟩ := Kd.R_slice HO267.out
                  (first|subst eo62|(injection eo62 with f1_ f2_ f3_;have f4_:=f1_.symm;have f5_:=f3_.symm;clear f1_ f2_ f3_;subst f4_;subst f5_))
                  obtain ⟨Ao63, co63, eo63⟩ := Kd.R_slice HO263.out
                  (first|subst eo63|(injection eo63 with f1_ f2_ f3_;have f4_:=f1_.symm;have f5_:=f3_.symm;clear f1_ f2_ f3_;subst f4_;subst f5_))
                  refine hK.out _ _ ⟨(blk_cell BK238.out 0).trans rfl,(blk_cell BK238.out 1).trans rfl,(blk_cell BK238.out 2).trans rfl,(blk_cell BK238.out 3).trans rfl,(blk_cell BK238.out 4).trans rfl,(blk_cell BK238.out 5).trans rfl,(blk_cell BK238.out 6).trans rfl,(blk_cell BK238.out 7).trans rfl,(blk_cell BK254.out 0).trans rfl,(blk_cell BK254.out 1).trans rfl,(blk_cell BK254.out 2).trans rfl,(blk_cell BK254.out 3).trans rfl,(blk_cell BK260.out 0).trans rfl,(blk_cell BK260.out 1).trans rfl,(blk_cell BK240.out 0).trans rfl,(blk_cell BK240.out 1).trans rfl,(blk_cell BK240.out 2).trans rfl⟩ (fun hHeld=>?_)
                  clear hK K
                  refine norm_ (a' := ?_) ?_ ?_
                  rotate_left
                  · show Act.put _ (some 49) _ = _
                    simp only [Act.put,List.setIfInBounds_toArray,List.set_cons_zero,List.set_cons_succ,i64_w,i32_w]
                    rfl
                  exact norm_ (by simp only [putAll,Act.put,List.setIfInBounds_toArray,List.set_cons_zero,List.set_cons_succ]) (hCont (.slice Ao63 y261.length co63,.slice Ao62 y265.length co62) _ ⟨hHeld,(by (with_reducible repeat (first|apply rA15_|apply Kd.R_drewN|apply rD15_));exact Kd.R_mono HO249.out (fun _ hk=>⟨hk.1.1.1,⟨hk.1.1.2,⟨hk.1.2,hk.2⟩⟩⟩)),(by (with_reducible repeat (first|apply rA15_|apply Kd.R_drewN|apply rD15_));exact HO252.out),(by (with_reducible repeat (first|apply rA15_|apply Kd.R_drewN|apply rD15_));exact Kd.R_mono HO257.out (fun _ hk=>⟨hk.1.1.1,⟨hk.1.1.2,⟨hk.1.2,hk.2⟩⟩⟩)),(by (with_reducible repeat (first|apply rA15_|apply Kd.R_drewN|apply rD15_));exact Kd.R_mono HO263.out (fun _ hk=>⟨hk.1.1.1.1,⟨hk.1.1.2,⟨hk.1.2,hk.2⟩⟩⟩)),(by (with_reducible repeat (first|apply rA15_|apply Kd.R_drewN|apply rD15_));exact Kd.R_mono HO267.out (fun _ hk=>⟨hk.1.1.1.1,⟨hk.1.1.2,⟨hk.1.2,hk.2⟩⟩⟩)),(by (with_reducible repeat (first|apply Kd.V_alloc|apply Kd.V_drewN|apply Kd.V_drew));exact Kd.V_mono HO_239003.out (fun _ hk=>⟨hk.1.1.1,⟨hk.1.1.2.1,⟨hk.1.1.2.2.1,⟨hk.1.1.2.2.2.1,⟨hk.1.2,⟨hk.2,⟨hk.1.1.2.2.2.2.1,⟨hk.1.1.2.2.2.2.2.1,⟨hk.1.1.2.2.2.2.2.2.1,⟨hk.1.1.2.2.2.2.2.2.2.1,hk.1.1.2.2.2.2.2.2.2.2⟩⟩⟩⟩⟩⟩⟩⟩⟩⟩)),(by (with_reducible repeat (first|refine kN15_ ?_ _|refine kD15_ ?_|refine kA15_ ?_ _));exact BK238.out),(by (with_reducible repeat (first|refine kN15_ ?_ _|refine kD15_ ?_|refine kA15_ ?_ _));exact BK239.out),(by (with_reducible repeat (first|refine kN15_ ?_ _|refine kD15_ ?_|refine kA15_ ?_ _));exact BK240.out),(by (with_reducible repeat (first|refine kN15_ ?_ _|refine kD15_ ?_|refine kA15_ ?_ _));exact BK254.out),(by (with_reducible repeat (first|refine kN15_ ?_ _|refine kD15_ ?_|refine kA15_ ?_ _));exact BK260.out),(by repeat (first|(with_reducible first|exact HB.out|apply bA15_|apply bN15_|apply bD15_|refine bS15_ ?_ GE238.out|refine bS15_ ?_ GE239.out|refine bS15_ ?_ GE240.out|refine bS15_ ?_ GE254.out|refine bS15_ ?_ GE260.out)|exact HB.out))⟩)
                · skip
                  refine Kd.R_make_step (Kd.int .i64) _ 2 (by rfl) (N:=49) rfl 27 _ _ rfl t264 rfl rfl Try.underlying27 (.int .i64 0) 8 info2 rfl (by decide) (by omega) 0 (ok:=fun _=>True) (okp:=fun _=>True) rfl (fun _ hk=>hk) trivial (of_decide_eq_true (by first|(with_reducible assumption)|assumption)) (Nat.le_trans (Nat.mul_le_mul_right _ (of_decide_eq_true (by first|(with_reducible assumption)|assumption):t264.toNat≤35184372088832)) (by omega)) (Below.refl _ _) (Nat.le_refl _) ?_
                  intro v266 w58 ho59 hb hg_ hnew_
                  clear hg_ hnew_
                  (first|rw [← Ny265.out] at ho59|(simp only [Int.reduceToNat] at ho59;rw [← Ny265.out] at ho59))
                  have n0_:=mk15_ (Kd.V_elder' (by (with_reducible repeat (first|apply Kd.V_alloc|apply Kd.V_drewN|apply Kd.V_drew));exact HO_239003.out) (Kd.R_base ho59) hb)
                  have n1_:=mk15_ (Kd.R_elder' (by (with_reducible repeat (first|apply rA15_|apply Kd.R_drewN|apply rD15_));exact HO249.out) (Kd.R_base ho59) hb)
                  have n2_:=mk15_ (Kd.R_below (by (with_reducible repeat (first|apply rA15_|apply Kd.R_drewN|apply rD15_));exact HO252.out) hb)
                  have n3_:=mk15_ (Kd.R_elder' (by (with_reducible repeat (first|apply rA15_|apply Kd.R_drewN|apply rD15_));exact HO257.out) (Kd.R_base ho59) hb)
                  have n4_:=mk15_ (Kd.R_lower (Kd.R_new' (Kd.R_new' (Kd.R_newM (M:=fun k_=>(w.heap.size≤k_)) ho59 (bZ15_ (by repeat (first|(with_reducible first|exact HB.out|apply bA15_|apply bN15_|apply bD15_|refine bS15_ ?_ GE238.out|refine bS15_ ?_ GE239.out|refine bS15_ ?_ GE240.out|refine bS15_ ?_ GE254.out|refine bS15_ ?_ GE260.out)|exact HB.out))) (fun k_ h_=>h_)) (Kd.R_lt (by (with_reducible repeat (first|apply rA15_|apply Kd.R_drewN|apply rD15_));exact HO249.out))) (Kd.R_lt (by (with_reducible repeat (first|apply rA15_|apply Kd.R_drewN|apply rD15_));exact HO257.out))) (bZ15_ (by repeat (first|(with_reducible first|exact HB.out|apply bA15_|apply bN15_|apply bD15_|refine bS15_ ?_ GE238.out|refine bS15_ ?_ GE239.out|refine bS15_ ?_ GE240.out|refine bS15_ ?_ GE254.out|refine bS15_ ?_ GE260.out)|exact HB.out))))
                  have n5_:=mk15_ (blk_below (g:=gb238) (o:=.cells #[.int .i64 a0_0,.int .i64 a0_1,.int .i64 a0_2,.slice A0_3 l0_3.length c0_3,.int .i64 a0_4,.int .i64 a0_5,.bool a0_6,.int .i64 a0_7] 40 (0,0)) (by (with_reducible repeat (first|refine kN15_ ?_ _|refine kD15_ ?_|refine kA15_ ?_ _));exact BK238.out) hb)
                  have n6_:=mk15_ (blk_below (g:=gb239) (o:=.cells #[.int .i64 0,.int .i64 0,.int .i64 0,.slice none 0 0,.int .i64 0,.int .i64 0,.bool false,.int .i64 0,.int .i64 0,.int .i64 0,.slice none 0 0,.slice none 0 0,.slice none 0 0,.int .i64 0,.int .i64 0,.slice none 0 0,.slice none 0 0,.int .i64 0,.int .i64 0] 44 (0,0)) (by (with_reducible repeat (first|refine kN15_ ?_ _|refine kD15_ ?_|refine kA15_ ?_ _));exact BK239.out) hb)
                  have n7_:=mk15_ (blk_below (g:=gb240) (o:=.cells #[.int .i64 a0_0,.int .i64 a0_1,.int .i64 a0_2] 37 (0,0)) (by (with_reducible repeat (first|refine kN15_ ?_ _|refine kD15_ ?_|refine kA15_ ?_ _));exact BK240.out) hb)
                  have n8_:=mk15_ (blk_below (g:=gb254) (o:=.cells #[.int .i64 t245,.int .i64 t246,.slice Ao43 t247.length co43,.slice Ao45 t250.length co45] 41 (0,0)) (by (with_reducible repeat (first|refine kN15_ ?_ _|refine kD15_ ?_|refine kA15_ ?_ _));exact BK254.out) hb)
                  have n9_:=mk15_ (blk_below (g:=gb260) (o:=.cells #[.slice Ao49 t255.length co49,.int .i64 t258] 42 (0,0)) (by (with_reducible repeat (first|refine kN15_ ?_ _|refine kD15_ ?_|refine kA15_ ?_ _));exact BK260.out) hb)
                  have n10_:=mk15_ (bT15_ (by repeat (first|(with_reducible first|exact HB.out|apply bA15_|apply bN15_|apply bD15_|refine bS15_ ?_ GE238.out|refine bS15_ ?_ GE239.out|refine bS15_ ?_ GE240.out|refine bS15_ ?_ GE254.out|refine bS15_ ?_ GE260.out)|exact HB.out)) hb)
                  clear HO_239003
                  clear HO249
                  clear HO252
                  clear HO257
                  clear BK238
                  clear BK239
                  clear BK240
                  clear BK254
                  clear BK260
                  clear HB
                  have HO_239003 := n0_
                  have HO249 := n1_
                  have HO252 := n2_
                  have HO257 := n3_
                  have HO267 := n4_
                  have BK238 := n5_
                  have BK239 := n6_
                  have BK240 := n7_
                  have BK254 := n8_
                  have BK260 := n9_
                  have HB := n10_
                  clear n0_ n1_ n2_ n3_ n4_ n5_ n6_ n7_ n8_ n9_ n10_
                  clear hb ho59
                  refine hK.out _ _ ⟨(blk_cell BK238.out 0).trans rfl,(blk_cell BK238.out 1).trans rfl,(blk_cell BK238.out 2).trans rfl,(blk_cell BK238.out 3).trans rfl,(blk_cell BK238.out 4).trans rfl,(blk_cell BK238.out 5).trans rfl,(blk_cell BK238.out 6).trans rfl,(blk_cell BK238.out 7).trans rfl,(blk_cell BK254.out 0).trans rfl,(blk_cell BK254.out 1).trans rfl,(blk_cell BK254.out 2).trans rfl,(blk_cell BK254.out 3).trans rfl,(blk_cell BK260.out 0).trans rfl,(blk_cell BK260.out 1).trans rfl,(blk_cell BK240.out 0).trans rfl,(blk_cell BK240.out 1).trans rfl,(blk_cell BK240.out 2).trans rfl⟩ (fun hHeld=>?_)
                  clear hK K
                  refine norm_ (a' := ?_) ?_ ?_
                  rotate_left
                  · show Act.put _ (some 49) _ = _
                    simp only [Act.put,List.setIfInBounds_toArray,List.set_cons_zero,List.set_cons_succ,i64_w,i32_w]
                    rfl
                  refine one_ (i:=3) (N:=some 46) #[true,true,true,true,true,true,true,true,true,false,false,false] rfl rfl (one_of HT_.out (by kernel_rfl)) (by decide) (fun K hK=>?_)
                  refine Kd.R_lit_step (Kd.int .i64) _ 2 ?hg (N:=46) ?hd (xs:=([(-1),(-1)]:List Int)) (inner:=[.int .i64 (-1),.int .i64 (-1)]) (ok:=fun _=>True) (okp:=fun _=>True) ?hr ?hp (fun _ hk=>hk) trivial (Below.refl _ _) (Nat.le_refl _) (by simp) ?_;(case hd=>rfl);(case hg=>rfl);(case hr=>first|(go_simp;done)|(go_simp;rfl));(case hp=>exact (Reps.one (show Kd.M (Kd.int .i64) _ _ _ (-1) [.int .i64 (-1)] from rfl) (Reps.one (show Kd.M (Kd.int .i64) _ _ _ (-1) [.int .i64 (-1)] from rfl) (Reps.none _ _))))
                  intro v262 w60 ho61 hb hg_ hnew_
                  clear hg_ hnew_
                  (first|rw [← Ny261.out] at ho61|(simp only [Int.reduceToNat] at ho61;rw [← Ny261.out] at ho61))
                  have n0_:=mk15_ (Kd.V_elder' (by (with_reducible repeat (first|apply Kd.V_alloc|apply Kd.V_drewN|apply Kd.V_drew));exact HO_239003.out) (Kd.R_base ho61) hb)
                  have n1_:=mk15_ (Kd.R_elder' (by (with_reducible repeat (first|apply rA15_|apply Kd.R_drewN|apply rD15_));exact HO249.out) (Kd.R_base ho61) hb)
                  have n2_:=mk15_ (Kd.R_below (by (with_reducible repeat (first|apply rA15_|apply Kd.R_drewN|apply rD15_));exact HO252.out) hb)
                  have n3_:=mk15_ (Kd.R_elder' (by (with_reducible repeat (first|apply rA15_|apply Kd.R_drewN|apply rD15_));exact HO257.out) (Kd.R_base ho61) hb)
                  have n4_:=mk15_ (Kd.R_elder' (by (with_reducible repeat (first|apply rA15_|apply Kd.R_drewN|apply rD15_));exact HO267.out) (Kd.R_base ho61) hb)
                  have n5_:=mk15_ (Kd.R_lower (Kd.R_new' (Kd.R_new' (Kd.R_new' (Kd.R_newM (M:=fun k_=>(w.heap.size≤k_)) ho61 (bZ15_ (by repeat (first|(with_reducible first|exact HB.out|apply bA15_|apply bN15_|apply bD15_|refine bS15_ ?_ GE238.out|refine bS15_ ?_ GE239.out|refine bS15_ ?_ GE240.out|refine bS15_ ?_ GE254.out|refine bS15_ ?_ GE260.out)|exact HB.out))) (fun k_ h_=>h_)) (Kd.R_lt (by (with_reducible repeat (first|apply rA15_|apply Kd.R_drewN|apply rD15_));exact HO249.out))) (Kd.R_lt (by (with_reducible repeat (first|apply rA15_|apply Kd.R_drewN|apply rD15_));exact HO257.out))) (Kd.R_lt (by (with_reducible repeat (first|apply rA15_|apply Kd.R_drewN|apply rD15_));exact HO267.out))) (bZ15_ (by repeat (first|(with_reducible first|exact HB.out|apply bA15_|apply bN15_|apply bD15_|refine bS15_ ?_ GE238.out|refine bS15_ ?_ GE239.out|refine bS15_ ?_ GE240.out|refine bS15_ ?_ GE254.out|refine bS15_ ?_ GE260.out)|exact HB.out))))
                  have n6_:=mk15_ (blk_below (g:=gb238) (o:=.cells #[.int .i64 a0_0,.int .i64 a0_1,.int .i64 a0_2,.slice A0_3 l0_3.length c0_3,.int .i64 a0_4,.int .i64 a0_5,.bool a0_6,.int .i64 a0_7] 40 (0,0)) (by (with_reducible repeat (first|refine kN15_ ?_ _|refine kD15_ ?_|refine kA15_ ?_ _));exact BK238.out) hb)
                  have n7_:=mk15_ (blk_below (g:=gb239) (o:=.cells #[.int .i64 0,.int .i64 0,.int .i64 0,.slice none 0 0,.int .i64 0,.int .i64 0,.bool false,.int .i64 0,.int .i64 0,.int .i64 0,.slice none 0 0,.slice none 0 0,.slice none 0 0,.int .i64 0,.int .i64 0,.slice none 0 0,.slice none 0 0,.int .i64 0,.int .i64 0] 44 (0,0)) (by (with_reducible repeat (first|refine kN15_ ?_ _|refine kD15_ ?_|refine kA15_ ?_ _));exact BK239.out) hb)
                  have n8_:=mk15_ (blk_below (g:=gb240) (o:=.cells #[.int .i64 a0_0,.int .i64 a0_1,.int .i64 a0_2] 37 (0,0)) (by (with_reducible repeat (first|refine kN15_ ?_ _|refine kD15_ ?_|refine kA15_ ?_ _));exact BK240.out) hb)
                  have n9_:=mk15_ (blk_below (g:=gb254) (o:=.cells #[.int .i64 t245,.int .i64 t246,.slice Ao43 t247.length co43,.slice Ao45 t250.length co45] 41 (0,0)) (by (with_reducible repeat (first|refine kN15_ ?_ _|refine kD15_ ?_|refine kA15_ ?_ _));exact BK254.out) hb)
                  have n10_:=mk15_ (blk_below (g:=gb260) (o:=.cells #[.slice Ao49 t255.length co49,.int .i64 t258] 42 (0,0)) (by (with_reducible repeat (first|refine kN15_ ?_ _|refine kD15_ ?_|refine kA15_ ?_ _));exact BK260.out) hb)
                  have n11_:=mk15_ (bT15_ (by repeat (first|(with_reducible first|exact HB.out|apply bA15_|apply bN15_|apply bD15_|refine bS15_ ?_ GE238.out|refine bS15_ ?_ GE239.out|refine bS15_ ?_ GE240.out|refine bS15_ ?_ GE254.out|refine bS15_ ?_ GE260.out)|exact HB.out)) hb)
                  clear HO_239003
                  clear HO249
                  clear HO252
                  clear HO257
                  clear HO267
                  clear BK238
                  clear BK239
                  clear BK240
                  clear BK254
                  clear BK260
                  clear HB
                  have HO_239003 := n0_
                  have HO249 := n1_
                  have HO252 := n2_
                  have HO257 := n3_
                  have HO267 := n4_
                  have HO263 := n5_
                  have BK238 := n6_
                  have BK239 := n7_
                  have BK240 := n8_
                  have BK254 := n9_
                  have BK260 := n10_
                  have HB := n11_
                  clear n0_ n1_ n2_ n3_ n4_ n5_ n6_ n7_ n8_ n9_ n10_ n11_
                  clear hb ho61
                  obtain ⟨Ao62, co62, eo62⟩ := Kd.R_slice HO267.out
                  (first|subst eo62|(injection eo62 with f1_ f2_ f3_;have f4_:=f1_.symm;have f5_:=f3_.symm;clear f1_ f2_ f3_;subst f4_;subst f5_))
                  obtain ⟨Ao63, co63, eo63⟩ := Kd.R_slice HO263.out
                  (first|subst eo63|(injection eo63 with f1_ f2_ f3_;have f4_:=f1_.symm;have f5_:=f3_.symm;clear f1_ f2_ f3_;subst f4_;subst f5_))
                  refine hK.out _ _ ⟨(blk_cell BK238.out 0).trans rfl,(blk_cell BK238.out 1).trans rfl,(blk_cell BK238.out 2).trans rfl,(blk_cell BK238.out 3).trans rfl,(blk_cell BK238.out 4).trans rfl,(blk_cell BK238.out 5).trans rfl,(blk_cell BK238.out 6).trans rfl,(blk_cell BK238.out 7).trans rfl,(blk_cell BK254.out 0).trans rfl,(blk_cell BK254.out 1).trans rfl,(blk_cell BK254.out 2).trans rfl,(blk_cell BK254.out 3).trans rfl,(blk_cell BK260.out 0).trans rfl,(blk_cell BK260.out 1).trans rfl,(blk_cell BK240.out 0).trans rfl,(blk_cell BK240.out 1).trans rfl,(blk_cell BK240.out 2).trans rfl⟩ (fun hHeld=>?_)
                  clear hK K
                  refine norm_ (a' := ?_) ?_ ?_
                  rotate_left
                  · show Act.put _ (some 46) _ = _
                    simp only [Act.put,List.setIfInBounds_toArray,List.set_cons_zero,List.set_cons_succ,i64_w,i32_w]
                    rfl
                  exact norm_ (by simp only [putAll,Act.put,List.setIfInBounds_toArray,List.set_cons_zero,List.set_cons_succ]) (hCont (.slice Ao63 y261.length co63,.slice Ao62 y265.length co62) _ ⟨hHeld,(by (with_reducible repeat (first|apply rA15_|apply Kd.R_drewN|apply rD15_));exact Kd.R_mono HO249.out (fun _ hk=>⟨hk.1.1.1,⟨hk.1.1.2,⟨hk.2,hk.1.2⟩⟩⟩)),(by (with_reducible repeat (first|apply rA15_|apply Kd.R_drewN|apply rD15_));exact HO252.out),(by (with_reducible repeat (first|apply rA15_|apply Kd.R_drewN|apply rD15_));exact Kd.R_mono HO257.out (fun _ hk=>⟨hk.1.1.1,⟨hk.1.1.2,⟨hk.2,hk.1.2⟩⟩⟩)),(by (with_reducible repeat (first|apply rA15_|apply Kd.R_drewN|apply rD15_));exact Kd.R_mono HO263.out (fun _ hk=>⟨hk.1.1.1.1,⟨hk.1.1.2,⟨hk.1.2,hk.2⟩⟩⟩)),(by (with_reducible repeat (first|apply rA15_|apply Kd.R_drewN|apply rD15_));exact Kd.R_mono HO267.out (fun _ hk=>⟨hk.1.1.1.1,⟨hk.1.1.2,⟨hk.1.2,hk.2⟩⟩⟩)),(by (with_reducible repeat (first|apply Kd.V_alloc|apply Kd.V_drewN|apply Kd.V_drew));exact Kd.V_mono HO_239003.out (fun _ hk=>⟨hk.1.1.1,⟨hk.1.1.2.1,⟨hk.1.1.2.2.1,⟨hk.1.1.2.2.2.1,⟨hk.2,⟨hk.1.2,⟨hk.1.1.2.2.2.2.1,⟨hk.1.1.2.2.2.2.2.1,⟨hk.1.1.2.2.2.2.2.2.1,⟨hk.1.1.2.2.2.2.2.2.2.1,hk.1.1.2.2.2.2.2.2.2.2⟩⟩⟩⟩⟩⟩⟩⟩⟩⟩)),(by (with_reducible repeat (first|refine kN15_ ?_ _|refine kD15_ ?_|refine kA15_ ?_ _));exact BK238.out),(by (with_reducible repeat (first|refine kN15_ ?_ _|refine kD15_ ?_|refine kA15_ ?_ _));exact BK239.out),(by (with_reducible repeat (first|refine kN15_ ?_ _|refine kD15_ ?_|refine kA15_ ?_ _));exact BK240.out),(by (with_reducible repeat (first|refine kN15_ ?_ _|refine kD15_ ?_|refine kA15_ ?_ _));exact BK254.out),(by (with_reducible repeat (first|refine kN15_ ?_ _|refine kD15_ ?_|refine kA15_ ?_ _));exact BK260.out),(by repeat (first|(with_reducible first|exact HB.out|apply bA15_|apply bN15_|apply bD15_|refine bS15_ ?_ GE238.out|refine bS15_ ?_ GE239.out|refine bS15_ ?_ GE240.out|refine bS15_ ?_ GE254.out|refine bS15_ ?_ GE260.out)|exact HB.out))⟩)
            rintro ⟨v262,v266⟩ w64 ⟨hS_,h0_,h1_,h2_,h3_,h4_,h5_,h6_,h7_,h8_,h9_,h10_,h11_⟩
            have n0_:Aside0 (Kd.R (Kd.int .i64) 2 w64 w.heap.size (fun k_=>(w.heap.size≤k_)∧some k_≠(.slice Ao49 t255.length co49:Value).ownBlock∧some k_≠(v262:Value).ownBlock∧some k_≠(v266:Value).ownBlock) (.slice Ao43 t247.length co43) t247):=⟨h0_⟩
            have n1_:Aside0 (Kd.R Kd.bool 4 w64 w.heap.size (fun k_=>(w.heap.size≤k_)) (.slice Ao45 t250.length co45) t250):=⟨h1_⟩
            have n2_:Aside0 (Kd.R (Kd.int .i64) 2 w64 w.heap.size (fun k_=>(w.heap.size≤k_)∧some k_≠(.slice Ao43 t247.length co43:Value).ownBlock∧some k_≠(v262:Value).ownBlock∧some k_≠(v266:Value).ownBlock) (.slice Ao49 t255.length co49) t255):=⟨h2_⟩
            have n3_:Aside0 (Kd.R (Kd.int .i64) 2 w64 w.heap.size (fun k_=>(w.heap.size≤k_)∧some k_≠(.slice Ao43 t247.length co43:Value).ownBlock∧some k_≠(.slice Ao49 t255.length co49:Value).ownBlock∧some k_≠(v266:Value).ownBlock) v262 y261):=⟨h3_⟩
            have n4_:Aside0 (Kd.R (Kd.int .i64) 2 w64 w.heap.size (fun k_=>(w.heap.size≤k_)∧some k_≠(.slice Ao43 t247.length co43:Value).ownBlock∧some k_≠(.slice Ao49 t255.length co49:Value).ownBlock∧some k_≠(v262:Value).ownBlock) v266 y265):=⟨h4_⟩
            have n5_:Aside0 (Kd.V k120 120 w64 w.heap.size (fun k_=>(P0_3_ k_∨w.heap.size≤k_)∧some k_≠(.slice Ao43 t247.length co43:Value).ownBlock∧some k_≠(.slice Ao45 t250.length co45:Value).ownBlock∧some k_≠(.slice Ao49 t255.length co49:Value).ownBlock∧some k_≠(v262:Value).ownBlock∧some k_≠(v266:Value).ownBlock∧k_≠gb238∧k_≠gb239∧k_≠gb240∧k_≠gb254∧k_≠gb260) (.slice A0_3 l0_3.length c0_3) l0_3):=⟨h5_⟩
            have n6_:Aside0 (w64.heap[gb238]?=some (.cells #[.int .i64 a0_0,.int .i64 a0_1,.int .i64 a0_2,.slice A0_3 l0_3.length c0_3,.int .i64 a0_4,.int .i64 a0_5,.bool a0_6,.int .i64 a0_7] 40 (0,0))):=⟨h6_⟩
            have n7_:Aside0 (w64.heap[gb239]?=some (.cells #[.int .i64 0,.int .i64 0,.int .i64 0,.slice none 0 0,.int .i64 0,.int .i64 0,.bool false,.int .i64 0,.int .i64 0,.int .i64 0,.slice none 0 0,.slice none 0 0,.slice none 0 0,.int .i64 0,.int .i64 0,.slice none 0 0,.slice none 0 0,.int .i64 0,.int .i64 0] 44 (0,0))):=⟨h7_⟩
            have n8_:Aside0 (w64.heap[gb240]?=some (.cells #[.int .i64 a0_0,.int .i64 a0_1,.int .i64 a0_2] 37 (0,0))):=⟨h8_⟩
            have n9_:Aside0 (w64.heap[gb254]?=some (.cells #[.int .i64 t245,.int .i64 t246,.slice Ao43 t247.length co43,.slice Ao45 t250.length co45] 41 (0,0))):=⟨h9_⟩
            have n10_:Aside0 (w64.heap[gb260]?=some (.cells #[.slice Ao49 t255.length co49,.int .i64 t258] 42 (0,0))):=⟨h10_⟩
            have n11_ : Aside0 (Below w.heap.size w w64) := ⟨h11_⟩
            clear HO_239003
            clear HO249
            clear HO252
            clear HO257
            clear BK238
            clear BK239
            clear BK240
            clear BK254
            clear BK260
            clear HB
            clear h0_ h1_ h2_ h3_ h4_ h5_ h6_ h7_ h8_ h9_ h10_ h11_
            have HO249 := n0_
            have HO252 := n1_
            have HO257 := n2_
            have HO263 := n3_
            have HO267 := n4_
            have HO_239003 := n5_
            have BK238 := n6_
            have BK239 := n7_
            have BK240 := n8_
            have BK254 := n9_
            have BK260 := n10_
            have HB := n11_
            clear n0_ n1_ n2_ n3_ n4_ n5_ n6_ n7_ n8_ n9_ n10_ n11_
            have hHeld:w64.cell? ⟨gb238,0,none⟩=some (.int .i64 a0_0)∧w64.cell? ⟨gb238,1,none⟩=some (.int .i64 a0_1)∧w64.cell? ⟨gb238,2,none⟩=some (.int .i64 a0_2)∧w64.cell? ⟨gb238,3,none⟩=some (.slice A0_3 l0_3.length c0_3)∧w64.cell? ⟨gb238,4,none⟩=some (.int .i64 a0_4)∧w64.cell? ⟨gb238,5,none⟩=some (.int .i64 a0_5)∧w64.cell? ⟨gb238,6,none⟩=some (.bool a0_6)∧w64.cell? ⟨gb238,7,none⟩=some (.int .i64 a0_7)∧w64.cell? ⟨gb254,0,none⟩=some (.int .i64 t245)∧w64.cell? ⟨gb254,1,none⟩=some (.int .i64 t246)∧w64.cell? ⟨gb254,2,none⟩=some (.slice Ao43 t247.length co43)∧w64.cell? ⟨gb254,3,none⟩=some (.slice Ao45 t250.length co45)∧w64.cell? ⟨gb260,0,none⟩=some (.slice Ao49 t255.length co49)∧w64.cell? ⟨gb260,1,none⟩=some (.int .i64 t258)∧w64.cell? ⟨gb240,0,none⟩=some (.int .i64 a0_0)∧w64.cell? ⟨gb240,1,none⟩=some (.int .i64 a0_1)∧w64.cell? ⟨gb240,2,none⟩=some (.int .i64 a0_2):=hS_
            obtain ⟨Ao65, co65, eo65⟩ := Kd.R_slice HO267.out
            (first|subst eo65|(injection eo65 with f1_ f2_ f3_;have f4_:=f1_.symm;have f5_:=f3_.symm;clear f1_ f2_ f3_;subst f4_;subst f5_))
            obtain ⟨Ao66, co66, eo66⟩ := Kd.R_slice HO263.out
            (first|subst eo66|(injection eo66 with f1_ f2_ f3_;have f4_:=f1_.symm;have f5_:=f3_.symm;clear f1_ f2_ f3_;subst f4_;subst f5_))
            refine norm_ (a' := ?_) ?_ ?_
            rotate_left
            · simp only [putAll,Act.put,List.setIfInBounds_toArray,List.set_cons_zero,List.set_cons_succ]
              rfl
            refine pure_ (i:=9) (N:=some 52) (v:=?_) (a':=?_) #[true,true,true,true,true,true,true,true,true,true,false,false] rfl rfl (any_of HT_.out (by kernel_rfl)) (fun _ _ _ h=>h) (Or.inl ⟨by rfl,?_⟩) ?_ ?_
            rotate_left
            · intro w'
              go_simp
              with_reducible rfl
            rotate_left
            · simp only [Act.put,List.setIfInBounds_toArray,List.set_cons_zero,List.set_cons_succ,i64_w,i32_w]
              rfl
            refine one_ (i:=10) (N:=none) #[true,true,true,true,true,true,true,true,true,true,true,false] rfl rfl (one_of HT_.out (by kernel_rfl)) (by decide) (fun K hK=>?_)
            refine store_seg_step 44 (.tmp 8) (.tmp 52) rfl rfl rfl gb239 0 rfl [.int .i64 0,.int .i64 0,.int .i64 0,.slice none 0 0,.int .i64 0,.int .i64 0,.bool false,.int .i64 0,.int .i64 0,.int .i64 0,.slice none 0 0,.slice none 0 0,.slice none 0 0,.int .i64 0,.int .i64 0,.slice none 0 0,.slice none 0 0,.int .i64 0,.int .i64 0] BK239.out [.int .i64 a0_0,.int .i64 a0_1,.int .i64 a0_2,.slice A0_3 l0_3.length c0_3,.int .i64 a0_4,.int .i64 a0_5,.bool a0_6,.int .i64 a0_7,.int .i64 t245,.int .i64 t246,.slice Ao43 t247.length co43,.slice Ao45 t250.length co45,.slice Ao49 t255.length co49,.int .i64 t258,.int .i64 1,.slice Ao66 y261.length co66,.slice Ao65 y265.length co65,.int .i64 a2,.int .i64 a3] rfl (by kernel_rfl) (Nat.le_of_eq rfl) (allOne19 rfl rfl rfl rfl rfl rfl rfl rfl rfl rfl rfl rfl rfl rfl rfl rfl rfl rfl rfl) [.int .i64 a0_0,.int .i64 a0_1,.int .i64 a0_2,.slice A0_3 l0_3.length c0_3,.int .i64 a0_4,.int .i64 a0_5,.bool a0_6,.int .i64 a0_7,.int .i64 t245,.int .i64 t246,.slice Ao43 t247.length co43,.slice Ao45 t250.length co45,.slice Ao49 t255.length co49,.int .i64 t258,.int .i64 1,.slice Ao66 y261.length co66,.slice Ao65 y265.length co65,.int .i64 a2,.int .i64 a3] rfl ?_
            intro wz hbz hgz
            have MZ238:=mk15_ (blk_grown BK238.out hgz (fun hq_=>NB238_239.out (by injection hq_)))
            have MZ240:=mk15_ (blk_grown BK240.out hgz (fun hq_=>NB240_239.out (by injection hq_)))
            have MZ254:=mk15_ (blk_grown BK254.out hgz (fun hq_=>NB254_239.out (by injection hq_)))
            have MZ260:=mk15_ (blk_grown BK260.out hgz (fun hq_=>NB260_239.out (by injection hq_)))
            refine hK.out _ _ ⟨(blk_cell MZ238.out 0).trans rfl,(blk_cell MZ238.out 1).trans rfl,(blk_cell MZ238.out 2).trans rfl,(blk_cell MZ238.out 3).trans rfl,(blk_cell MZ238.out 4).trans rfl,(blk_cell MZ238.out 5).trans rfl,(blk_cell MZ238.out 6).trans rfl,(blk_cell MZ238.out 7).trans rfl,(blk_cell MZ254.out 0).trans rfl,(blk_cell MZ254.out 1).trans rfl,(blk_cell MZ254.out 2).trans rfl,(blk_cell MZ254.out 3).trans rfl,(blk_cell MZ260.out 0).trans rfl,(blk_cell MZ260.out 1).trans rfl,(blk_cell MZ240.out 0).trans rfl,(blk_cell MZ240.out 1).trans rfl,(blk_cell MZ240.out 2).trans rfl⟩ (fun hHeld=>?_)
            clear hK K
            refine pure_ (i:=11) (N:=some 9) (v:=?_) (a':=?_) #[true,true,true,true,true,true,true,true,true,true,true,true] rfl rfl (any_of HT_.out (by kernel_rfl)) (fun _ _ _ h=>h) (Or.inl ⟨by rfl,?_⟩) ?_ ?_
            rotate_left
            · intro w'
              go_simp
              with_reducible rfl
            rotate_left
            · simp only [Act.put,List.setIfInBounds_toArray,List.set_cons_zero,List.set_cons_succ,i64_w,i32_w]
              rfl
            refine done_ (done_of HT_.out (by kernel_rfl)) ?_
            try go_wp2
            refine bodyPost_ret (results_ct rfl _ _ gb239 44 #[.int .i64 a0_0,.int .i64 a0_1,.int .i64 a0_2,.slice A0_3 l0_3.length c0_3,.int .i64 a0_4,.int .i64 a0_5,.bool a0_6,.int .i64 a0_7,.int .i64 t245,.int .i64 t246,.slice Ao43 t247.length co43,.slice Ao45 t250.length co45,.slice Ao49 t255.length co49,.int .i64 t258,.int .i64 1,.slice Ao66 y261.length co66,.slice Ao65 y265.length co65,.int .i64 a2,.int .i64 a3] (0,0) _ rfl (by (with_reducible repeat (first|refine kN15_ ?_ _|refine kD15_ ?_|refine kA15_ ?_ _));exact hbz) Try.underlying44 rfl (by kernel_rfl)) rfl ?_
            have HB := Aside0.mk (below_grown2 HB.out hgz GE239.out)
            exact ⟨_,_,_,_,_,_,by first|rfl|(simp [errW_none,errW_some] <;> rfl)|(simp [*,errW_none,errW_some] <;> rfl),(by first|exact .inl ⟨rfl,rfl⟩|exact .inl rfl|simp),by (with_reducible repeat (first|apply rA15_|apply Kd.R_drewN|apply rD15_));exact Kd.R_mono (Kd.R_grown (Kd.R_types HO249.out BK239.out (by decide)) hgz (fun _ hk he_=>hk.2 (by injection he_))) (fun _ hk=>⟨hk.1.1,⟨hk.1.2.1,⟨hk.1.2.2.1,hk.1.2.2.2⟩⟩⟩),by (with_reducible repeat (first|apply rA15_|apply Kd.R_drewN|apply rD15_));exact Kd.R_mono (Kd.R_grown (Kd.R_types HO252.out BK239.out (by decide)) hgz (fun _ hk he_=>hk.2 (by injection he_))) (fun _ hk=>hk.1),by (with_reducible repeat (first|apply rA15_|apply Kd.R_drewN|apply rD15_));exact Kd.R_mono (Kd.R_grown (Kd.R_types HO257.out BK239.out (by decide)) hgz (fun _ hk he_=>hk.2 (by injection he_))) (fun _ hk=>⟨hk.1.1,⟨hk.1.2.1,⟨hk.1.2.2.1,hk.1.2.2.2⟩⟩⟩),by (with_reducible repeat (first|apply rA15_|apply Kd.R_drewN|apply rD15_));exact Kd.R_mono (Kd.R_grown (Kd.R_types HO263.out BK239.out (by decide)) hgz (fun _ hk he_=>hk.2 (by injection he_))) (fun _ hk=>⟨hk.1.1,⟨hk.1.2.1,⟨hk.1.2.2.1,hk.1.2.2.2⟩⟩⟩),by (with_reducible repeat (first|apply rA15_|apply Kd.R_drewN|apply rD15_));exact Kd.R_mono (Kd.R_grown (Kd.R_types HO267.out BK239.out (by decide)) hgz (fun _ hk he_=>hk.2 (by injection he_))) (fun _ hk=>⟨hk.1.1,⟨hk.1.2.1,⟨hk.1.2.2.1,hk.1.2.2.2⟩⟩⟩),by repeat (first|(with_reducible first|exact HB.out|apply bA15_|apply bN15_|apply bD15_|refine bS15_ ?_ GE238.out|refine bS15_ ?_ GE239.out|refine bS15_ ?_ GE240.out|refine bS15_ ?_ GE254.out|refine bS15_ ?_ GE260.out)|exact HB.out)⟩
          · rw [if_neg c35] at H
            exact absurd H (by simp)
        · rw [if_neg c34] at H
          exact absurd H (by simp)

end Go.Proofs.Ytaecdlhomihejaa.Q
