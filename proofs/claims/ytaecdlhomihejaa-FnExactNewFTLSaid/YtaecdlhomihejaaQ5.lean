/- The program's functions as Lean functions,and for each the proof that the machine's call comes to what its function says. Conditions: those that stand before each theorem. -/
import Derived.Test.YtaecdlhomihejaaQ0
import Derived.Test.YtaecdlhomihejaaStoreSeg
import Derived.Test.YtaecdlhomihejaaQ4
namespace Go.Proofs.Ytaecdlhomihejaa.Q
open Go.RowKit Go.Proofs.YtaecdlhomihejaaW.PrintWords Go.Proofs.YtaecdlhomihejaaW.PrintLast Go.Proofs.YtaecdlhomihejaaW.PrintMore
abbrev kN5_ := @blk_drewN
abbrev kD5_ := @blk_drew
abbrev kA5_ := @blk_alloc
abbrev rA5_ := @Kd.R_alloc
abbrev rD5_ := @Kd.R_drew
abbrev bA5_ := @below_alloc
abbrev bN5_ := @pw_below_drewN
abbrev bD5_ := @below_drew1
abbrev bS5_ := @below_set
abbrev mk5_ := @Aside0.mk
abbrev fZ5_ := @blk_frozen
abbrev sA5_ := @Kd.S_alloc
abbrev sB5_ := @Kd.S_below
abbrev bT5_ := @below_step
abbrev bZ5_ := @below_size
attribute [local go_sem] min2_int min_two
set_option linter.unusedVariables false
set_option linter.unusedSimpArgs false

def spec_l14New.f (a0_0:Int) (a0_1:Int) (a0_2:Int) (l0_3:List (S120)) (a0_4:Int) (a0_5:Int) (a0_6:Bool) (a0_7:Int) (a1_0:Int) (a1_1:Int) (l1_2:List Int) (l1_3:List Bool) (a2:Int) (a3:Int):Option (Int × Int × Int × (List (S120)) × Int × Int × Bool × Int × Int × Int × List Int × List Bool × List Int × Int × Int × List Int × List Int × Int × Int):=(spec_l13New.f (l1_2.length:Int)).bind fun bt193=>(if 0≤(l0_3.length:Int) then (if ((l0_3.length:Int):Int).toNat≤35184372088832 then (some (a0_0,a0_1,a0_2,l0_3,a0_4,a0_5,a0_6,a0_7,a1_0,a1_1,l1_2,l1_3,bt193.1,bt193.2,1,(([(-1),(-1)]:List Int)),(List.replicate ((l0_3.length:Int):Int).toNat 0),a2,a3)) else (none)) else (none))
def spec_l14New.T1:Bool × List (List Nat × List Nat):=(true,[([],[]),([],[]),([],[]),([2],[2]),([3],[3]),([4],[4]),([],[]),([],[]),([7],[7]),([8],[8]),([9,9],[9]),([],[]),([],[]),([0,1,5,6,10,11,12],[0,1,5,6,10,11,12]),([13,5,0,1,2,3,4,5,6,7,8,9,10,11,12,13],[13])])
def spec_l14New.B1 : List Nat := [0, 0, 0, 4, 12, 28, 0, 0, 128, 384, 896, 0, 0, 8191, 16383]
theorem spec_l14New.tab1 : rtab .any (opsOf Try.f119 1) = spec_l14New.T1 := by kernel_rfl
theorem spec_l14New.bits1 : waitsOk spec_l14New.T1.2 spec_l14New.B1 = true := by kernel_rfl
set_option maxHeartbeats 8000000 in
set_option maxRecDepth 100000 in
theorem spec_l14New.calls (a0_0:Int) (a0_1:Int) (a0_2:Int) (P0_3_:Nat→Prop) (A0_3:Option Addr) (c0_3:Nat) (l0_3:List (S120)) (a0_4:Int) (a0_5:Int) (a0_6:Bool) (a0_7:Int) (a1_0:Int) (a1_1:Int) (P1_2_:Nat→Prop) (u9000_:Value) (l1_2:List Int) (P1_3_:Nat→Prop) (u9001_:Value) (l1_3:List Bool) (a2:Int) (a3:Int) (r1:Int) (r2:Int) (r3:Int) (r4:List (S120)) (r5:Int) (r6:Int) (r7:Bool) (r8:Int) (r9:Int) (r10:Int) (r11:List Int) (r12:List Bool) (r13:List Int) (r14:Int) (r15:Int) (r16:List Int) (r17:List Int) (r18:Int) (r19:Int) (w0 w:World) (hB:Below w0.heap.size w0 w) (hs0_3:Kd.V k120 120 w w0.heap.size (fun k_=>P0_3_ k_∧some k_≠(u9000_:Value).ownBlock∧some k_≠(u9001_:Value).ownBlock) (.slice A0_3 l0_3.length c0_3) l0_3) (ho1_2:Kd.R (Kd.int .i64) 2 w w0.heap.size P1_2_ u9000_ l1_2) (ho1_3:Kd.R Kd.bool 4 w w0.heap.size P1_3_ u9001_ l1_3) (h:spec_l14New.f a0_0 a0_1 a0_2 l0_3 a0_4 a0_5 a0_6 a0_7 a1_0 a1_1 l1_2 l1_3 a2 a3=some (r1,r2,r3,r4,r5,r6,r7,r8,r9,r10,r11,r12,r13,r14,r15,r16,r17,r18,r19)) :
    Calls Try.prog 119 #[.agg #[.int .i64 a0_0,.int .i64 a0_1,.int .i64 a0_2,.slice A0_3 l0_3.length c0_3,.int .i64 a0_4,.int .i64 a0_5,.bool a0_6,.int .i64 a0_7],.agg #[.int .i64 a1_0,.int .i64 a1_1,u9000_,u9001_],.int .i64 a2,.int .i64 a3] w fun e w'=>∃ v3_ v10_ v11_ v12_ v15_ v16_:Value,e=.returned (.agg #[.int .i64 r1,.int .i64 r2,.int .i64 r3,v3_,.int .i64 r5,.int .i64 r6,.bool r7,.int .i64 r8,.int .i64 r9,.int .i64 r10,v10_,v11_,v12_,.int .i64 r14,.int .i64 r15,v15_,v16_,.int .i64 r18,.int .i64 r19])∧Kd.V k120 120 w' w0.heap.size (fun k_=>((P1_2_ k_∨P1_3_ k_∨P0_3_ k_)∨w.heap.size≤k_)∧some k_≠(v10_:Value).ownBlock∧some k_≠(v11_:Value).ownBlock∧some k_≠(v12_:Value).ownBlock∧some k_≠(v15_:Value).ownBlock∧some k_≠(v16_:Value).ownBlock) v3_ r4∧Kd.R (Kd.int .i64) 2 w' w0.heap.size (fun k_=>((P1_2_ k_∨P1_3_ k_)∨w.heap.size≤k_)∧some k_≠(v12_:Value).ownBlock∧some k_≠(v15_:Value).ownBlock∧some k_≠(v16_:Value).ownBlock) v10_ r11∧Kd.R Kd.bool 4 w' w0.heap.size (fun k_=>((P1_2_ k_∨P1_3_ k_)∨w.heap.size≤k_)) v11_ r12∧Kd.R (Kd.int .i64) 2 w' w0.heap.size (fun k_=>((P1_2_ k_∨P1_3_ k_)∨w.heap.size≤k_)∧some k_≠(v10_:Value).ownBlock∧some k_≠(v15_:Value).ownBlock∧some k_≠(v16_:Value).ownBlock) v12_ r13∧Kd.R (Kd.int .i64) 2 w' w0.heap.size (fun k_=>((P1_2_ k_∨P1_3_ k_)∨w.heap.size≤k_)∧some k_≠(v10_:Value).ownBlock∧some k_≠(v12_:Value).ownBlock∧some k_≠(v16_:Value).ownBlock) v15_ r16∧Kd.R (Kd.int .i64) 2 w' w0.heap.size (fun k_=>((P1_2_ k_∨P1_3_ k_)∨w.heap.size≤k_)∧some k_≠(v10_:Value).ownBlock∧some k_≠(v12_:Value).ownBlock∧some k_≠(v15_:Value).ownBlock) v16_ r17∧Below w0.heap.size w0 w'∧Kept w w' (fun k_=>P1_2_ k_∨P1_3_ k_):=by
  have hu40 := Try.underlying40
  have hu41 := Try.underlying41
  have hu44 := Try.underlying44
  have HO0_3:=mk5_ (show Kd.V k120 120 w w0.heap.size (fun k_=>((P1_2_ k_∨P1_3_ k_∨P0_3_ k_)∨w.heap.size≤k_)∧some k_≠(u9000_:Value).ownBlock∧some k_≠(u9001_:Value).ownBlock) (.slice A0_3 l0_3.length c0_3) l0_3 from Kd.V_mono hs0_3 (fun k_ hk=>⟨.inl (.inr (.inr hk.1)),hk.2⟩))
  have HO1_2:=mk5_ (show Kd.R (Kd.int .i64) 2 w w0.heap.size (fun k_=>((P1_2_ k_∨P1_3_ k_)∨w.heap.size≤k_)) u9000_ l1_2 from Kd.R_mono ho1_2 (fun k_ hk=>(.inl (.inl hk))))
  have HO1_3:=mk5_ (show Kd.R Kd.bool 4 w w0.heap.size (fun k_=>((P1_2_ k_∨P1_3_ k_)∨w.heap.size≤k_)) u9001_ l1_3 from Kd.R_mono ho1_3 (fun k_ hk=>(.inl (.inr hk))))
  have HK := Aside0.mk (Kept.refl w (fun k_ => P1_2_ k_ ∨ P1_3_ k_))
  have HW0 := Aside0.mk hB.size
  have HB := Aside0.mk hB
  clear hB
  have H:((spec_l13New.f (l1_2.length:Int)).bind fun bt193=>(if 0≤(l0_3.length:Int) then (if ((l0_3.length:Int):Int).toNat≤35184372088832 then (some (a0_0,a0_1,a0_2,l0_3,a0_4,a0_5,a0_6,a0_7,a1_0,a1_1,l1_2,l1_3,bt193.1,bt193.2,1,(([(-1),(-1)]:List Int)),(List.replicate ((l0_3.length:Int):Int).toNat 0),a2,a3)) else (none)) else (none)))=some (r1,r2,r3,r4,r5,r6,r7,r8,r9,r10,r11,r12,r13,r14,r15,r16,r17,r18,r19):=h
  clear h
  replace H := Option.bind_eq_some_iff.mp H
  obtain ⟨⟨t193, t196⟩, A50, H⟩ := H
  replace H:(if 0≤(l0_3.length:Int) then (if ((l0_3.length:Int):Int).toNat≤35184372088832 then (some (a0_0,a0_1,a0_2,l0_3,a0_4,a0_5,a0_6,a0_7,a1_0,a1_1,l1_2,l1_3,t193,t196,1,(([(-1),(-1)]:List Int)),(List.replicate ((l0_3.length:Int):Int).toNat 0),a2,a3)) else (none)) else (none))=some (r1,r2,r3,r4,r5,r6,r7,r8,r9,r10,r11,r12,r13,r14,r15,r16,r17,r18,r19):=H
  have A5 := Aside0.mk A50
  clear A50
  obtain ⟨y197, hy197⟩ : ∃ y_ : List Int, y_ = (([(-1), (-1)] : List Int)) := ⟨_, rfl⟩
  replace H:(if 0≤(l0_3.length:Int) then (if ((l0_3.length:Int):Int).toNat≤35184372088832 then (some (a0_0,a0_1,a0_2,l0_3,a0_4,a0_5,a0_6,a0_7,a1_0,a1_1,l1_2,l1_3,t193,t196,1,y197,(List.replicate ((l0_3.length:Int):Int).toNat 0),a2,a3)) else (none)) else (none))=some (r1,r2,r3,r4,r5,r6,r7,r8,r9,r10,r11,r12,r13,r14,r15,r16,r17,r18,r19):=by first|(rw [hy197];with_reducible exact H)|(have H2_:=(Option.bind_some _ _).symm.trans H;rw [hy197];with_reducible exact H2_)|(have H2_:=(Option.bind_some _ _).symm.trans H;with_reducible exact H2_)|with_reducible exact H|(rw [hy197];exact H)|exact H
  have Ny197 := Aside0.mk hy197
  clear hy197
  by_cases c6 : 0 ≤ (l0_3.length : Int)
  · rw [if_pos c6] at H
    have c6b0 := eq_true c6
    have c6b1 : decide (0 ≤ (l0_3.length : Int)) = true := decide_eq_true c6
    clear c6
    by_cases c7 : ((l0_3.length : Int) : Int).toNat ≤ 35184372088832
    · rw [if_pos c7] at H
      have c7b0 := eq_true c7
      have c7b1:decide (((l0_3.length:Int):Int).toNat≤35184372088832)=true:=decide_eq_true c7
      clear c7
      obtain ⟨y200,hy200⟩:∃ y_:List Int,y_=(List.replicate ((l0_3.length:Int):Int).toNat 0):=⟨_,rfl⟩
      replace H:(some (a0_0,a0_1,a0_2,l0_3,a0_4,a0_5,a0_6,a0_7,a1_0,a1_1,l1_2,l1_3,t193,t196,1,y197,y200,a2,a3))=some (r1,r2,r3,r4,r5,r6,r7,r8,r9,r10,r11,r12,r13,r14,r15,r16,r17,r18,r19):=by first|(rw [hy200];with_reducible exact H)|(have H2_:=(Option.bind_some _ _).symm.trans H;rw [hy200];with_reducible exact H2_)|(have H2_:=(Option.bind_some _ _).symm.trans H;with_reducible exact H2_)|with_reducible exact H|(rw [hy200];exact H)|exact H
      have Ny200 := Aside0.mk hy200
      clear hy200
      simp only [Option.some.injEq, Prod.mk.injEq] at H
      obtain ⟨rfl,rfl,rfl,rfl,rfl,rfl,rfl,rfl,rfl,rfl,rfl,rfl,rfl,rfl,rfl,rfl,rfl,rfl,rfl⟩:=H
      go_enter Try.func119, Try.ntmps119
      try go_wp2_with (first|((with_reducible refine gate_dst (N:=4) rfl ?_);refine box_event ?hg (N:=4) ?hd (cs:=#[.int .i64 a0_0,.int .i64 a0_1,.int .i64 a0_2,.slice A0_3 l0_3.length c0_3,.int .i64 a0_4,.int .i64 a0_5,.bool a0_6,.int .i64 a0_7]) (t:=40) ?hr ?_;(case hd=>rfl);(case hg=>rfl);(case hr=>first|(go_simp;done)|(go_simp;rfl));intro gb190 hg w8 hbox hb;have n0_:=mk5_ (Kd.R_below (by (with_reducible repeat (first|apply rA5_|apply Kd.R_drewN|apply rD5_));exact HO1_2.out) hb);have n1_:=mk5_ (Kd.R_below (by (with_reducible repeat (first|apply rA5_|apply Kd.R_drewN|apply rD5_));exact HO1_3.out) hb);have n2_:=mk5_ (Kd.V_below (Kd.V_elderB (by (with_reducible repeat (first|apply Kd.V_alloc|apply Kd.V_drewN|apply Kd.V_drew));exact HO0_3.out) gb190 (Nat.le_of_eq hg.symm)) hb);have n3_:=mk5_ (Kept.below (S:=(fun k_=>P1_2_ k_∨P1_3_ k_)) (by repeat (first|(with_reducible first|exact HK.out|apply Kept.alloc|apply Kept.drewN|apply Kept.drew)|exact HK.out)) hb);have n4_:=mk5_ (bT5_ (by repeat (first|(with_reducible first|exact HB.out|apply bA5_|apply bN5_|apply bD5_)|exact HB.out)) hb);have n5_:=mk5_ (hbox);have n6_:=mk5_ ((by rw [hg];exact (by first|exact HK.out.1|exact (show Kept w _ (fun k_=>P1_2_ k_∨P1_3_ k_) from by repeat (first|(with_reducible first|exact HK.out|apply Kept.alloc|apply Kept.drewN|apply Kept.drew)|exact HK.out)).1):w.heap.size≤gb190));have n7_:=mk5_ ((by rw [hg];exact (bZ5_ (by repeat (first|(with_reducible first|exact HB.out|apply bA5_|apply bN5_|apply bD5_)|exact HB.out))):w0.heap.size≤gb190));clear HO1_2;clear HO1_3;clear HO0_3;clear HK;clear HB;have HO1_2:=n0_;have HO1_3:=n1_;have HO0_3:=n2_;have HK:=n3_;have HB:=n4_;have BK190:=n5_;have GW190:=n6_;have GE190:=n7_;clear n0_ n1_ n2_ n3_ n4_ n5_ n6_ n7_;clear hb hbox hg;obtain ⟨Ao9,co9,eo9⟩:=Kd.R_slice HO1_2.out;subst eo9;obtain ⟨Ao10,co10,eo10⟩:=Kd.R_slice HO1_3.out;subst eo10)|((with_reducible refine gate_dst (N:=5) rfl ?_);refine box_event ?hg (N:=5) ?hd (cs:=#[.int .i64 a1_0,.int .i64 a1_1,.slice Ao9 l1_2.length co9,.slice Ao10 l1_3.length co10]) (t:=41) ?hr ?_;(case hd=>rfl);(case hg=>rfl);(case hr=>first|(go_simp;done)|(go_simp;rfl));intro gb191 hg w11 hbox hb;have n0_:=mk5_ (Kd.R_below (by (with_reducible repeat (first|apply rA5_|apply Kd.R_drewN|apply rD5_));exact HO1_2.out) hb);have n1_:=mk5_ (Kd.R_below (by (with_reducible repeat (first|apply rA5_|apply Kd.R_drewN|apply rD5_));exact HO1_3.out) hb);have n2_:=mk5_ (Kd.V_below (Kd.V_elderB (by (with_reducible repeat (first|apply Kd.V_alloc|apply Kd.V_drewN|apply Kd.V_drew));exact HO0_3.out) gb191 (Nat.le_of_eq hg.symm)) hb);have n3_:=mk5_ (blk_below (g:=gb190) (o:=.cells #[.int .i64 a0_0,.int .i64 a0_1,.int .i64 a0_2,.slice A0_3 l0_3.length c0_3,.int .i64 a0_4,.int .i64 a0_5,.bool a0_6,.int .i64 a0_7] 40 (0,0)) (by (with_reducible repeat (first|refine kN5_ ?_ _|refine kD5_ ?_|refine kA5_ ?_ _));exact BK190.out) hb);have n4_:=mk5_ (Kept.below (S:=(fun k_=>P1_2_ k_∨P1_3_ k_)) (by repeat (first|(with_reducible first|exact HK.out|apply Kept.alloc|apply Kept.drewN|apply Kept.drew|refine Kept.setCell ?_ (.inr GW190.out) _)|exact HK.out)) hb);have n5_:=mk5_ (bT5_ (by repeat (first|(with_reducible first|exact HB.out|apply bA5_|apply bN5_|apply bD5_|refine bS5_ ?_ GE190.out)|exact HB.out)) hb);have n6_:=mk5_ (hbox);have n7_:=mk5_ ((by rw [hg];exact (by first|exact HK.out.1|exact (show Kept w _ (fun k_=>P1_2_ k_∨P1_3_ k_) from by repeat (first|(with_reducible first|exact HK.out|apply Kept.alloc|apply Kept.drewN|apply Kept.drew|refine Kept.setCell ?_ (.inr GW190.out) _)|exact HK.out)).1):w.heap.size≤gb191));have n8_:=mk5_ ((by rw [hg];exact (bZ5_ (by repeat (first|(with_reducible first|exact HB.out|apply bA5_|apply bN5_|apply bD5_|refine bS5_ ?_ GE190.out)|exact HB.out))):w0.heap.size≤gb191));have n9_:=mk5_ ((by rw [hg];exact Nat.ne_of_lt (blk_lt (g:=gb190) (o:=.cells #[.int .i64 a0_0,.int .i64 a0_1,.int .i64 a0_2,.slice A0_3 l0_3.length c0_3,.int .i64 a0_4,.int .i64 a0_5,.bool a0_6,.int .i64 a0_7] 40 (0,0)) (by (with_reducible repeat (first|refine kN5_ ?_ _|refine kD5_ ?_|refine kA5_ ?_ _));exact BK190.out)):gb190≠gb191));have n10_:=mk5_ ((by rw [hg];exact Nat.ne_of_gt (blk_lt (g:=gb190) (o:=.cells #[.int .i64 a0_0,.int .i64 a0_1,.int .i64 a0_2,.slice A0_3 l0_3.length c0_3,.int .i64 a0_4,.int .i64 a0_5,.bool a0_6,.int .i64 a0_7] 40 (0,0)) (by (with_reducible repeat (first|refine kN5_ ?_ _|refine kD5_ ?_|refine kA5_ ?_ _));exact BK190.out)):gb191≠gb190));clear HO1_2;clear HO1_3;clear HO0_3;clear BK190;clear HK;clear HB;have HO1_2:=n0_;have HO1_3:=n1_;have HO0_3:=n2_;have BK190:=n3_;have HK:=n4_;have HB:=n5_;have BK191:=n6_;have GW191:=n7_;have GE191:=n8_;have NB190_191:=n9_;have NB191_190:=n10_;clear n0_ n1_ n2_ n3_ n4_ n5_ n6_ n7_ n8_ n9_ n10_;clear hb hbox hg)|((with_reducible refine gate_dst (N:=8) rfl ?_);refine box_event ?hg (N:=8) ?hd (cs:=#[.int .i64 0,.int .i64 0,.int .i64 0,.slice none 0 0,.int .i64 0,.int .i64 0,.bool false,.int .i64 0,.int .i64 0,.int .i64 0,.slice none 0 0,.slice none 0 0,.slice none 0 0,.int .i64 0,.int .i64 0,.slice none 0 0,.slice none 0 0,.int .i64 0,.int .i64 0]) (t:=44) ?hr ?_;(case hd=>rfl);(case hg=>rfl);(case hr=>first|(go_simp;done)|(go_simp;rfl));intro gb192 hg w12 hbox hb;have n0_:=mk5_ (Kd.R_below (by (with_reducible repeat (first|apply rA5_|apply Kd.R_drewN|apply rD5_));exact HO1_2.out) hb);have n1_:=mk5_ (Kd.R_below (by (with_reducible repeat (first|apply rA5_|apply Kd.R_drewN|apply rD5_));exact HO1_3.out) hb);have n2_:=mk5_ (Kd.V_below (Kd.V_elderB (by (with_reducible repeat (first|apply Kd.V_alloc|apply Kd.V_drewN|apply Kd.V_drew));exact HO0_3.out) gb192 (Nat.le_of_eq hg.symm)) hb);have n3_:=mk5_ (blk_below (g:=gb190) (o:=.cells #[.int .i64 a0_0,.int .i64 a0_1,.int .i64 a0_2,.slice A0_3 l0_3.length c0_3,.int .i64 a0_4,.int .i64 a0_5,.bool a0_6,.int .i64 a0_7] 40 (0,0)) (by (with_reducible repeat (first|refine kN5_ ?_ _|refine kD5_ ?_|refine kA5_ ?_ _));exact BK190.out) hb);have n4_:=mk5_ (blk_below (g:=gb191) (o:=.cells #[.int .i64 a1_0,.int .i64 a1_1,.slice Ao9 l1_2.length co9,.slice Ao10 l1_3.length co10] 41 (0,0)) (by (with_reducible repeat (first|refine kN5_ ?_ _|refine kD5_ ?_|refine kA5_ ?_ _));exact BK191.out) hb);have n5_:=mk5_ (Kept.below (S:=(fun k_=>P1_2_ k_∨P1_3_ k_)) (by repeat (first|(with_reducible first|exact HK.out|apply Kept.alloc|apply Kept.drewN|apply Kept.drew|refine Kept.setCell ?_ (.inr GW190.out) _|refine Kept.setCell ?_ (.inr GW191.out) _)|exact HK.out)) hb);have n6_:=mk5_ (bT5_ (by repeat (first|(with_reducible first|exact HB.out|apply bA5_|apply bN5_|apply bD5_|refine bS5_ ?_ GE190.out|refine bS5_ ?_ GE191.out)|exact HB.out)) hb);have n7_:=mk5_ (hbox);have n8_:=mk5_ ((by rw [hg];exact (by first|exact HK.out.1|exact (show Kept w _ (fun k_=>P1_2_ k_∨P1_3_ k_) from by repeat (first|(with_reducible first|exact HK.out|apply Kept.alloc|apply Kept.drewN|apply Kept.drew|refine Kept.setCell ?_ (.inr GW190.out) _|refine Kept.setCell ?_ (.inr GW191.out) _)|exact HK.out)).1):w.heap.size≤gb192));have n9_:=mk5_ ((by rw [hg];exact (bZ5_ (by repeat (first|(with_reducible first|exact HB.out|apply bA5_|apply bN5_|apply bD5_|refine bS5_ ?_ GE190.out|refine bS5_ ?_ GE191.out)|exact HB.out))):w0.heap.size≤gb192));have n10_:=mk5_ ((by rw [hg];exact Nat.ne_of_lt (blk_lt (g:=gb190) (o:=.cells #[.int .i64 a0_0,.int .i64 a0_1,.int .i64 a0_2,.slice A0_3 l0_3.length c0_3,.int .i64 a0_4,.int .i64 a0_5,.bool a0_6,.int .i64 a0_7] 40 (0,0)) (by (with_reducible repeat (first|refine kN5_ ?_ _|refine kD5_ ?_|refine kA5_ ?_ _));exact BK190.out)):gb190≠gb192));have n11_:=mk5_ ((by rw [hg];exact Nat.ne_of_gt (blk_lt (g:=gb190) (o:=.cells #[.int .i64 a0_0,.int .i64 a0_1,.int .i64 a0_2,.slice A0_3 l0_3.length c0_3,.int .i64 a0_4,.int .i64 a0_5,.bool a0_6,.int .i64 a0_7] 40 (0,0)) (by (with_reducible repeat (first|refine kN5_ ?_ _|refine kD5_ ?_|refine kA5_ ?_ _));exact BK190.out)):gb192≠gb190));have n12_:=mk5_ ((by rw [hg];exact Nat.ne_of_lt (blk_lt (g:=gb191) (o:=.cells #[.int .i64 a1_0,.int .i64 a1_1,.slice Ao9 l1_2.length co9,.slice Ao10 l1_3.length co10] 41 (0,0)) (by (with_reducible repeat (first|refine kN5_ ?_ _|refine kD5_ ?_|refine kA5_ ?_ _));exact BK191.out)):gb191≠gb192));have n13_:=mk5_ ((by rw [hg];exact Nat.ne_of_gt (blk_lt (g:=gb191) (o:=.cells #[.int .i64 a1_0,.int .i64 a1_1,.slice Ao9 l1_2.length co9,.slice Ao10 l1_3.length co10] 41 (0,0)) (by (with_reducible repeat (first|refine kN5_ ?_ _|refine kD5_ ?_|refine kA5_ ?_ _));exact BK191.out)):gb192≠gb191));clear HO1_2;clear HO1_3;clear HO0_3;clear BK190;clear BK191;clear HK;clear HB;have HO1_2:=n0_;have HO1_3:=n1_;have HO0_3:=n2_;have BK190:=n3_;have BK191:=n4_;have HK:=n5_;have HB:=n6_;have BK192:=n7_;have GW192:=n8_;have GE192:=n9_;have NB190_192:=n10_;have NB192_190:=n11_;have NB191_192:=n12_;have NB192_191:=n13_;clear n0_ n1_ n2_ n3_ n4_ n5_ n6_ n7_ n8_ n9_ n10_ n11_ n12_ n13_;clear hb hbox hg))
      have n0_ := Aside0.mk (Kd.R_drew HO1_2.out)
      have n1_ := Aside0.mk (Kd.R_drew HO1_3.out)
      have n2_ := Aside0.mk (Kd.V_drew HO0_3.out)
      have n3_ := Aside0.mk (blk_drew BK190.out)
      have n4_ := Aside0.mk (blk_drew BK191.out)
      have n5_ := Aside0.mk (blk_drew BK192.out)
      have n6_ := Aside0.mk (Kept.drew HK.out)
      have n7_ := Aside0.mk (below_drew1 HB.out)
      clear HO1_2
      clear HO1_3
      clear HO0_3
      clear BK190
      clear BK191
      clear BK192
      clear HK
      clear HB
      have HO1_2 := n0_
      have HO1_3 := n1_
      have HO0_3 := n2_
      have BK190 := n3_
      have BK191 := n4_
      have BK192 := n5_
      have HK := n6_
      have HB := n7_
      clear n0_ n1_ n2_ n3_ n4_ n5_ n6_ n7_
      refine start_ (n:=15) (S:=fun w'=>w'.cell? ⟨gb190,0,none⟩=some (.int .i64 a0_0)∧w'.cell? ⟨gb190,1,none⟩=some (.int .i64 a0_1)∧w'.cell? ⟨gb190,2,none⟩=some (.int .i64 a0_2)∧w'.cell? ⟨gb190,3,none⟩=some (.slice A0_3 l0_3.length c0_3)∧w'.cell? ⟨gb190,4,none⟩=some (.int .i64 a0_4)∧w'.cell? ⟨gb190,5,none⟩=some (.int .i64 a0_5)∧w'.cell? ⟨gb190,6,none⟩=some (.bool a0_6)∧w'.cell? ⟨gb190,7,none⟩=some (.int .i64 a0_7)∧w'.cell? ⟨gb191,0,none⟩=some (.int .i64 a1_0)∧w'.cell? ⟨gb191,1,none⟩=some (.int .i64 a1_1)∧w'.cell? ⟨gb191,2,none⟩=some (.slice Ao9 l1_2.length co9)∧w'.cell? ⟨gb191,3,none⟩=some (.slice Ao10 l1_3.length co10)) (ds:=[]) #[false,false,false,false,false,false,false,false,false,false,false,false,false,false,false] (by kernel_rfl) rfl rfl ⟨(blk_cell BK190.out 0).trans rfl,(blk_cell BK190.out 1).trans rfl,(blk_cell BK190.out 2).trans rfl,(blk_cell BK190.out 3).trans rfl,(blk_cell BK190.out 4).trans rfl,(blk_cell BK190.out 5).trans rfl,(blk_cell BK190.out 6).trans rfl,(blk_cell BK190.out 7).trans rfl,(blk_cell BK191.out 0).trans rfl,(blk_cell BK191.out 1).trans rfl,(blk_cell BK191.out 2).trans rfl,(blk_cell BK191.out 3).trans rfl⟩ (fun hHeld=>?_);refine with_tabW spec_l14New.tab1 spec_l14New.bits1 (fun HT_ HW_=>?_)
      generalize w12.drew = w13 at HO1_2 HO1_3 HO0_3 BK190 BK191 BK192 HK HB hHeld ⊢
      refine pure_ (i:=2) (N:=some 11) (v:=?_) (a':=?_) #[false,false,true,false,false,false,false,false,false,false,false,false,false,false,false] rfl rfl (any_of HT_.out (by kernel_rfl)) (fun _ _ _ h=>h) (Or.inl ⟨by rfl,?_⟩) ?_ ?_
      rotate_left
      · intro w'
        go_simp
        with_reducible rfl
      rotate_left
      · simp only [Act.put,List.setIfInBounds_toArray,List.set_cons_zero,List.set_cons_succ,i64_w,i32_w]
        rfl
      refine pure_ (i:=7) (N:=some 16) (v:=?_) (a':=?_) #[false,false,true,false,false,false,false,true,false,false,false,false,false,false,false] rfl rfl (any_of HT_.out (by kernel_rfl)) (fun _ _ _ h=>h) (Or.inl ⟨by rfl,?_⟩) ?_ ?_
      rotate_left
      · intro w'
        go_simp
        with_reducible rfl
      rotate_left
      · simp only [Act.put,List.setIfInBounds_toArray,List.set_cons_zero,List.set_cons_succ,i64_w,i32_w]
        rfl
      refine pure_ (i:=11) (N:=some 20) (v:=?_) (a':=?_) #[false,false,true,false,false,false,false,true,false,false,false,true,false,false,false] rfl rfl (any_of HT_.out (by kernel_rfl)) (fun _ _ _ h=>h) (Or.inl ⟨by rfl,?_⟩) ?_ ?_
      rotate_left
      · intro w'
        go_simp
        with_reducible rfl
      rotate_left
      · simp only [Act.put,List.setIfInBounds_toArray,List.set_cons_zero,List.set_cons_succ,i64_w,i32_w]
        rfl
      refine pure_ (i:=12) (N:=some 21) (v:=?_) (a':=?_) #[false,false,true,false,false,false,false,true,false,false,false,true,true,false,false] rfl rfl (any_of HT_.out (by kernel_rfl)) (fun _ _ _ h=>h) (Or.inl ⟨by rfl,?_⟩) ?_ ?_
      rotate_left
      · intro w'
        go_simp
        with_reducible rfl
      rotate_left
      · simp only [Act.put,List.setIfInBounds_toArray,List.set_cons_zero,List.set_cons_succ,i64_w,i32_w]
        rfl
      refine take_ (i:=0) (N:=some 9) (v:=?_) (a':=?_) #[true,false,true,false,false,false,false,true,false,false,false,true,true,false,false] rfl rfl (take_ofW HT_.out HW_.out (by kernel_rfl)) (fun _ _ _ h=>h) (Or.inl ⟨by rfl,?_⟩) hHeld ?_ ?_
      rotate_left
      · rintro w' ⟨s0, s1, s2, s3, s4, s5, s6, s7, s8, s9, s10, s11⟩
        go_simp
        with_reducible rfl
      rotate_left
      · simp only [Act.put,List.setIfInBounds_toArray,List.set_cons_zero,List.set_cons_succ,i64_w,i32_w]
        rfl
      refine take_ (i:=1) (N:=some 10) (v:=?_) (a':=?_) #[true,true,true,false,false,false,false,true,false,false,false,true,true,false,false] rfl rfl (take_ofW HT_.out HW_.out (by kernel_rfl)) (fun _ _ _ h=>h) (Or.inl ⟨by rfl,?_⟩) hHeld ?_ ?_
      rotate_left
      · rintro w' ⟨s0, s1, s2, s3, s4, s5, s6, s7, s8, s9, s10, s11⟩
        go_simp
        with_reducible rfl
      rotate_left
      · simp only [Act.put,List.setIfInBounds_toArray,List.set_cons_zero,List.set_cons_succ,i64_w,i32_w]
        rfl
      refine take_ (i:=3) (N:=some 12) (v:=?_) (a':=?_) #[true,true,true,true,false,false,false,true,false,false,false,true,true,false,false] rfl rfl (take_ofW HT_.out HW_.out (by kernel_rfl)) (fun _ _ _ h=>h) (Or.inl ⟨by rfl,?_⟩) hHeld ?_ ?_
      rotate_left
      · rintro w' ⟨s0, s1, s2, s3, s4, s5, s6, s7, s8, s9, s10, s11⟩
        go_simp
        with_reducible rfl
      rotate_left
      · simp only [Act.put,List.setIfInBounds_toArray,List.set_cons_zero,List.set_cons_succ,i64_w,i32_w]
        rfl
      refine pure_ (i:=4) (N:=some 13) (v:=?_) (a':=?_) #[true,true,true,true,true,false,false,true,false,false,false,true,true,false,false] rfl rfl (any_of HT_.out (by kernel_rfl)) (fun _ _ _ h=>h) (Or.inl ⟨by rfl,?_⟩) ?_ ?_
      rotate_left
      · intro w'
        go_simp
        with_reducible rfl
      rotate_left
      · simp only [Act.put,List.setIfInBounds_toArray,List.set_cons_zero,List.set_cons_succ,i64_w,i32_w]
        rfl
      refine take_ (i:=8) (N:=some 17) (v:=?_) (a':=?_) #[true,true,true,true,true,false,false,true,true,false,false,true,true,false,false] rfl rfl (take_ofW HT_.out HW_.out (by kernel_rfl)) (fun _ _ _ h=>h) (Or.inl ⟨by rfl,?_⟩) hHeld ?_ ?_
      rotate_left
      · rintro w' ⟨s0, s1, s2, s3, s4, s5, s6, s7, s8, s9, s10, s11⟩
        go_simp
        with_reducible rfl
      rotate_left
      · simp only [Act.put,List.setIfInBounds_toArray,List.set_cons_zero,List.set_cons_succ,i64_w,i32_w]
        rfl
      refine pure_ (i:=9) (N:=some 18) (v:=?_) (a':=?_) #[true,true,true,true,true,false,false,true,true,true,false,true,true,false,false] rfl rfl (any_of HT_.out (by kernel_rfl)) (fun _ _ _ h=>h) (Or.inl ⟨by rfl,?_⟩) ?_ ?_
      rotate_left
      · intro w'
        go_simp
        with_reducible rfl
      rotate_left
      · simp only [Act.put,List.setIfInBounds_toArray,List.set_cons_zero,List.set_cons_succ,i64_w,i32_w]
        rfl
      refine join_ (σ:=Value × Value × Value) 2 #[true,true,true,true,true,true,true,true,true,true,true,true,true,false,false] (fun s_=>[(14,.agg #[s_.1,.int .i64 t196]),(15,s_.2.1),(19,s_.2.2)]) (fun s_ w'=>(w'.cell? ⟨gb190,0,none⟩=some (.int .i64 a0_0)∧w'.cell? ⟨gb190,1,none⟩=some (.int .i64 a0_1)∧w'.cell? ⟨gb190,2,none⟩=some (.int .i64 a0_2)∧w'.cell? ⟨gb190,3,none⟩=some (.slice A0_3 l0_3.length c0_3)∧w'.cell? ⟨gb190,4,none⟩=some (.int .i64 a0_4)∧w'.cell? ⟨gb190,5,none⟩=some (.int .i64 a0_5)∧w'.cell? ⟨gb190,6,none⟩=some (.bool a0_6)∧w'.cell? ⟨gb190,7,none⟩=some (.int .i64 a0_7)∧w'.cell? ⟨gb191,0,none⟩=some (.int .i64 a1_0)∧w'.cell? ⟨gb191,1,none⟩=some (.int .i64 a1_1)∧w'.cell? ⟨gb191,2,none⟩=some (.slice Ao9 l1_2.length co9)∧w'.cell? ⟨gb191,3,none⟩=some (.slice Ao10 l1_3.length co10))∧(Kd.V k120 120 w' w0.heap.size (fun k_=>((P1_2_ k_∨P1_3_ k_∨P0_3_ k_)∨w.heap.size≤k_)∧some k_≠(s_.1:Value).ownBlock∧some k_≠(s_.2.1:Value).ownBlock∧some k_≠(.slice Ao9 l1_2.length co9:Value).ownBlock∧some k_≠(.slice Ao10 l1_3.length co10:Value).ownBlock∧some k_≠(s_.2.2:Value).ownBlock∧k_≠gb190∧k_≠gb191∧k_≠gb192) (.slice A0_3 l0_3.length c0_3) l0_3)∧(Kd.R (Kd.int .i64) 2 w' w0.heap.size (fun k_=>((P1_2_ k_∨P1_3_ k_)∨w.heap.size≤k_)∧some k_≠(s_.2.1:Value).ownBlock∧some k_≠(.slice Ao9 l1_2.length co9:Value).ownBlock∧some k_≠(s_.2.2:Value).ownBlock) s_.1 t193)∧(Kd.R (Kd.int .i64) 2 w' w0.heap.size (fun k_=>((P1_2_ k_∨P1_3_ k_)∨w.heap.size≤k_)∧some k_≠(s_.1:Value).ownBlock∧some k_≠(.slice Ao9 l1_2.length co9:Value).ownBlock∧some k_≠(s_.2.2:Value).ownBlock) s_.2.1 y197)∧(Kd.R (Kd.int .i64) 2 w' w0.heap.size (fun k_=>((P1_2_ k_∨P1_3_ k_)∨w.heap.size≤k_)∧some k_≠(s_.1:Value).ownBlock∧some k_≠(s_.2.1:Value).ownBlock∧some k_≠(s_.2.2:Value).ownBlock) (.slice Ao9 l1_2.length co9) l1_2)∧(Kd.R Kd.bool 4 w' w0.heap.size (fun k_=>((P1_2_ k_∨P1_3_ k_)∨w.heap.size≤k_)) (.slice Ao10 l1_3.length co10) l1_3)∧(Kd.R (Kd.int .i64) 2 w' w0.heap.size (fun k_=>((P1_2_ k_∨P1_3_ k_)∨w.heap.size≤k_)∧some k_≠(s_.1:Value).ownBlock∧some k_≠(s_.2.1:Value).ownBlock∧some k_≠(.slice Ao9 l1_2.length co9:Value).ownBlock) s_.2.2 y200)∧(w'.heap[gb190]?=some (.cells #[.int .i64 a0_0,.int .i64 a0_1,.int .i64 a0_2,.slice A0_3 l0_3.length c0_3,.int .i64 a0_4,.int .i64 a0_5,.bool a0_6,.int .i64 a0_7] 40 (0,0)))∧(w'.heap[gb191]?=some (.cells #[.int .i64 a1_0,.int .i64 a1_1,.slice Ao9 l1_2.length co9,.slice Ao10 l1_3.length co10] 41 (0,0)))∧(w'.heap[gb192]?=some (.cells #[.int .i64 0,.int .i64 0,.int .i64 0,.slice none 0 0,.int .i64 0,.int .i64 0,.bool false,.int .i64 0,.int .i64 0,.int .i64 0,.slice none 0 0,.slice none 0 0,.slice none 0 0,.int .i64 0,.int .i64 0,.slice none 0 0,.slice none 0 0,.int .i64 0,.int .i64 0] 44 (0,0)))∧(Kept w w' (fun k_=>P1_2_ k_∨P1_3_ k_))∧(Below w0.heap.size w0 w')) ?_ ?_
      rotate_left
      · intro hJ5_6_10
        refine join_ (σ:=Value × Value) 3 #[true,true,true,true,true,true,true,true,true,true,false,true,true,false,false] (fun s_=>[(14,.agg #[s_.1,.int .i64 t196]),(15,s_.2)]) (fun s_ w'=>(w'.cell? ⟨gb190,0,none⟩=some (.int .i64 a0_0)∧w'.cell? ⟨gb190,1,none⟩=some (.int .i64 a0_1)∧w'.cell? ⟨gb190,2,none⟩=some (.int .i64 a0_2)∧w'.cell? ⟨gb190,3,none⟩=some (.slice A0_3 l0_3.length c0_3)∧w'.cell? ⟨gb190,4,none⟩=some (.int .i64 a0_4)∧w'.cell? ⟨gb190,5,none⟩=some (.int .i64 a0_5)∧w'.cell? ⟨gb190,6,none⟩=some (.bool a0_6)∧w'.cell? ⟨gb190,7,none⟩=some (.int .i64 a0_7)∧w'.cell? ⟨gb191,0,none⟩=some (.int .i64 a1_0)∧w'.cell? ⟨gb191,1,none⟩=some (.int .i64 a1_1)∧w'.cell? ⟨gb191,2,none⟩=some (.slice Ao9 l1_2.length co9)∧w'.cell? ⟨gb191,3,none⟩=some (.slice Ao10 l1_3.length co10))∧(Kd.V k120 120 w' w0.heap.size (fun k_=>((P1_2_ k_∨P1_3_ k_∨P0_3_ k_)∨w.heap.size≤k_)∧some k_≠(s_.1:Value).ownBlock∧some k_≠(s_.2:Value).ownBlock∧some k_≠(.slice Ao9 l1_2.length co9:Value).ownBlock∧some k_≠(.slice Ao10 l1_3.length co10:Value).ownBlock∧k_≠gb190∧k_≠gb191∧k_≠gb192) (.slice A0_3 l0_3.length c0_3) l0_3)∧(Kd.R (Kd.int .i64) 2 w' w0.heap.size (fun k_=>((P1_2_ k_∨P1_3_ k_)∨w.heap.size≤k_)∧some k_≠(s_.2:Value).ownBlock∧some k_≠(.slice Ao9 l1_2.length co9:Value).ownBlock) s_.1 t193)∧(Kd.R (Kd.int .i64) 2 w' w0.heap.size (fun k_=>((P1_2_ k_∨P1_3_ k_)∨w.heap.size≤k_)∧some k_≠(s_.1:Value).ownBlock∧some k_≠(.slice Ao9 l1_2.length co9:Value).ownBlock) s_.2 y197)∧(Kd.R (Kd.int .i64) 2 w' w0.heap.size (fun k_=>((P1_2_ k_∨P1_3_ k_)∨w.heap.size≤k_)∧some k_≠(s_.1:Value).ownBlock∧some k_≠(s_.2:Value).ownBlock) (.slice Ao9 l1_2.length co9) l1_2)∧(Kd.R Kd.bool 4 w' w0.heap.size (fun k_=>((P1_2_ k_∨P1_3_ k_)∨w.heap.size≤k_)) (.slice Ao10 l1_3.length co10) l1_3)∧(w'.heap[gb190]?=some (.cells #[.int .i64 a0_0,.int .i64 a0_1,.int .i64 a0_2,.slice A0_3 l0_3.length c0_3,.int .i64 a0_4,.int .i64 a0_5,.bool a0_6,.int .i64 a0_7] 40 (0,0)))∧(w'.heap[gb191]?=some (.cells #[.int .i64 a1_0,.int .i64 a1_1,.slice Ao9 l1_2.length co9,.slice Ao10 l1_3.length co10] 41 (0,0)))∧(w'.heap[gb192]?=some (.cells #[.int .i64 0,.int .i64 0,.int .i64 0,.slice none 0 0,.int .i64 0,.int .i64 0,.bool false,.int .i64 0,.int .i64 0,.int .i64 0,.slice none 0 0,.slice none 0 0,.slice none 0 0,.int .i64 0,.int .i64 0,.slice none 0 0,.slice none 0 0,.int .i64 0,.int .i64 0] 44 (0,0)))∧(Kept w w' (fun k_=>P1_2_ k_∨P1_3_ k_))∧(Below w0.heap.size w0 w')) ?_ ?_
        rotate_left
        · intro hJ5_6
          refine join_ (σ:=Value × Value) 3 #[true,true,true,true,true,true,false,true,true,true,true,true,true,false,false] (fun s_=>[(14,.agg #[s_.1,.int .i64 t196]),(19,s_.2)]) (fun s_ w'=>(w'.cell? ⟨gb190,0,none⟩=some (.int .i64 a0_0)∧w'.cell? ⟨gb190,1,none⟩=some (.int .i64 a0_1)∧w'.cell? ⟨gb190,2,none⟩=some (.int .i64 a0_2)∧w'.cell? ⟨gb190,3,none⟩=some (.slice A0_3 l0_3.length c0_3)∧w'.cell? ⟨gb190,4,none⟩=some (.int .i64 a0_4)∧w'.cell? ⟨gb190,5,none⟩=some (.int .i64 a0_5)∧w'.cell? ⟨gb190,6,none⟩=some (.bool a0_6)∧w'.cell? ⟨gb190,7,none⟩=some (.int .i64 a0_7)∧w'.cell? ⟨gb191,0,none⟩=some (.int .i64 a1_0)∧w'.cell? ⟨gb191,1,none⟩=some (.int .i64 a1_1)∧w'.cell? ⟨gb191,2,none⟩=some (.slice Ao9 l1_2.length co9)∧w'.cell? ⟨gb191,3,none⟩=some (.slice Ao10 l1_3.length co10))∧(Kd.V k120 120 w' w0.heap.size (fun k_=>((P1_2_ k_∨P1_3_ k_∨P0_3_ k_)∨w.heap.size≤k_)∧some k_≠(s_.1:Value).ownBlock∧some k_≠(.slice Ao9 l1_2.length co9:Value).ownBlock∧some k_≠(.slice Ao10 l1_3.length co10:Value).ownBlock∧some k_≠(s_.2:Value).ownBlock∧k_≠gb190∧k_≠gb191∧k_≠gb192) (.slice A0_3 l0_3.length c0_3) l0_3)∧(Kd.R (Kd.int .i64) 2 w' w0.heap.size (fun k_=>((P1_2_ k_∨P1_3_ k_)∨w.heap.size≤k_)∧some k_≠(.slice Ao9 l1_2.length co9:Value).ownBlock∧some k_≠(s_.2:Value).ownBlock) s_.1 t193)∧(Kd.R (Kd.int .i64) 2 w' w0.heap.size (fun k_=>((P1_2_ k_∨P1_3_ k_)∨w.heap.size≤k_)∧some k_≠(s_.1:Value).ownBlock∧some k_≠(s_.2:Value).ownBlock) (.slice Ao9 l1_2.length co9) l1_2)∧(Kd.R Kd.bool 4 w' w0.heap.size (fun k_=>((P1_2_ k_∨P1_3_ k_)∨w.heap.size≤k_)) (.slice Ao10 l1_3.length co10) l1_3)∧(Kd.R (Kd.int .i64) 2 w' w0.heap.size (fun k_=>((P1_2_ k_∨P1_3_ k_)∨w.heap.size≤k_)∧some k_≠(s_.1:Value).ownBlock∧some k_≠(.slice Ao9 l1_2.length co9:Value).ownBlock) s_.2 y200)∧(w'.heap[gb190]?=some (.cells #[.int .i64 a0_0,.int .i64 a0_1,.int .i64 a0_2,.slice A0_3 l0_3.length c0_3,.int .i64 a0_4,.int .i64 a0_5,.bool a0_6,.int .i64 a0_7] 40 (0,0)))∧(w'.heap[gb191]?=some (.cells #[.int .i64 a1_0,.int .i64 a1_1,.slice Ao9 l1_2.length co9,.slice Ao10 l1_3.length co10] 41 (0,0)))∧(w'.heap[gb192]?=some (.cells #[.int .i64 0,.int .i64 0,.int .i64 0,.slice none 0 0,.int .i64 0,.int .i64 0,.bool false,.int .i64 0,.int .i64 0,.int .i64 0,.slice none 0 0,.slice none 0 0,.slice none 0 0,.int .i64 0,.int .i64 0,.slice none 0 0,.slice none 0 0,.int .i64 0,.int .i64 0] 44 (0,0)))∧(Kept w w' (fun k_=>P1_2_ k_∨P1_3_ k_))∧(Below w0.heap.size w0 w')) ?_ ?_
          rotate_left
          · intro hJ5_10
            refine join_ (σ:=Value × Value) 3 #[true,true,true,true,true,false,true,true,true,true,true,true,true,false,false] (fun s_=>[(15,s_.1),(19,s_.2)]) (fun s_ w'=>(w'.cell? ⟨gb190,0,none⟩=some (.int .i64 a0_0)∧w'.cell? ⟨gb190,1,none⟩=some (.int .i64 a0_1)∧w'.cell? ⟨gb190,2,none⟩=some (.int .i64 a0_2)∧w'.cell? ⟨gb190,3,none⟩=some (.slice A0_3 l0_3.length c0_3)∧w'.cell? ⟨gb190,4,none⟩=some (.int .i64 a0_4)∧w'.cell? ⟨gb190,5,none⟩=some (.int .i64 a0_5)∧w'.cell? ⟨gb190,6,none⟩=some (.bool a0_6)∧w'.cell? ⟨gb190,7,none⟩=some (.int .i64 a0_7)∧w'.cell? ⟨gb191,0,none⟩=some (.int .i64 a1_0)∧w'.cell? ⟨gb191,1,none⟩=some (.int .i64 a1_1)∧w'.cell? ⟨gb191,2,none⟩=some (.slice Ao9 l1_2.length co9)∧w'.cell? ⟨gb191,3,none⟩=some (.slice Ao10 l1_3.length co10))∧(Kd.V k120 120 w' w0.heap.size (fun k_=>((P1_2_ k_∨P1_3_ k_∨P0_3_ k_)∨w.heap.size≤k_)∧some k_≠(s_.1:Value).ownBlock∧some k_≠(.slice Ao9 l1_2.length co9:Value).ownBlock∧some k_≠(.slice Ao10 l1_3.length co10:Value).ownBlock∧some k_≠(s_.2:Value).ownBlock∧k_≠gb190∧k_≠gb191∧k_≠gb192) (.slice A0_3 l0_3.length c0_3) l0_3)∧(Kd.R (Kd.int .i64) 2 w' w0.heap.size (fun k_=>((P1_2_ k_∨P1_3_ k_)∨w.heap.size≤k_)∧some k_≠(.slice Ao9 l1_2.length co9:Value).ownBlock∧some k_≠(s_.2:Value).ownBlock) s_.1 y197)∧(Kd.R (Kd.int .i64) 2 w' w0.heap.size (fun k_=>((P1_2_ k_∨P1_3_ k_)∨w.heap.size≤k_)∧some k_≠(s_.1:Value).ownBlock∧some k_≠(s_.2:Value).ownBlock) (.slice Ao9 l1_2.length co9) l1_2)∧(Kd.R Kd.bool 4 w' w0.heap.size (fun k_=>((P1_2_ k_∨P1_3_ k_)∨w.heap.size≤k_)) (.slice Ao10 l1_3.length co10) l1_3)∧(Kd.R (Kd.int .i64) 2 w' w0.heap.size (fun k_=>((P1_2_ k_∨P1_3_ k_)∨w.heap.size≤k_)∧some k_≠(s_.1:Value).ownBlock∧some k_≠(.slice Ao9 l1_2.length co9:Value).ownBlock) s_.2 y200)∧(w'.heap[gb190]?=some (.cells #[.int .i64 a0_0,.int .i64 a0_1,.int .i64 a0_2,.slice A0_3 l0_3.length c0_3,.int .i64 a0_4,.int .i64 a0_5,.bool a0_6,.int .i64 a0_7] 40 (0,0)))∧(w'.heap[gb191]?=some (.cells #[.int .i64 a1_0,.int .i64 a1_1,.slice Ao9 l1_2.length co9,.slice Ao10 l1_3.length co10] 41 (0,0)))∧(w'.heap[gb192]?=some (.cells #[.int .i64 0,.int .i64 0,.int .i64 0,.slice none 0 0,.int .i64 0,.int .i64 0,.bool false,.int .i64 0,.int .i64 0,.int .i64 0,.slice none 0 0,.slice none 0 0,.slice none 0 0,.int .i64 0,.int .i64 0,.slice none 0 0,.slice none 0 0,.int .i64 0,.int .i64 0] 44 (0,0)))∧(Kept w w' (fun k_=>P1_2_ k_∨P1_3_ k_))∧(Below w0.heap.size w0 w')) ?_ ?_
            rotate_left
            · intro hJ6_10
              refine join_ (σ:=Value) 4 #[true,true,true,true,true,true,false,true,true,true,false,true,true,false,false] (fun s_=>[(14,.agg #[s_,.int .i64 t196])]) (fun s_ w'=>(w'.cell? ⟨gb190,0,none⟩=some (.int .i64 a0_0)∧w'.cell? ⟨gb190,1,none⟩=some (.int .i64 a0_1)∧w'.cell? ⟨gb190,2,none⟩=some (.int .i64 a0_2)∧w'.cell? ⟨gb190,3,none⟩=some (.slice A0_3 l0_3.length c0_3)∧w'.cell? ⟨gb190,4,none⟩=some (.int .i64 a0_4)∧w'.cell? ⟨gb190,5,none⟩=some (.int .i64 a0_5)∧w'.cell? ⟨gb190,6,none⟩=some (.bool a0_6)∧w'.cell? ⟨gb190,7,none⟩=some (.int .i64 a0_7)∧w'.cell? ⟨gb191,0,none⟩=some (.int .i64 a1_0)∧w'.cell? ⟨gb191,1,none⟩=some (.int .i64 a1_1)∧w'.cell? ⟨gb191,2,none⟩=some (.slice Ao9 l1_2.length co9)∧w'.cell? ⟨gb191,3,none⟩=some (.slice Ao10 l1_3.length co10))∧(Kd.V k120 120 w' w0.heap.size (fun k_=>((P1_2_ k_∨P1_3_ k_∨P0_3_ k_)∨w.heap.size≤k_)∧some k_≠(s_:Value).ownBlock∧some k_≠(.slice Ao9 l1_2.length co9:Value).ownBlock∧some k_≠(.slice Ao10 l1_3.length co10:Value).ownBlock∧k_≠gb190∧k_≠gb191∧k_≠gb192) (.slice A0_3 l0_3.length c0_3) l0_3)∧(Kd.R (Kd.int .i64) 2 w' w0.heap.size (fun k_=>((P1_2_ k_∨P1_3_ k_)∨w.heap.size≤k_)∧some k_≠(.slice Ao9 l1_2.length co9:Value).ownBlock) s_ t193)∧(Kd.R (Kd.int .i64) 2 w' w0.heap.size (fun k_=>((P1_2_ k_∨P1_3_ k_)∨w.heap.size≤k_)∧some k_≠(s_:Value).ownBlock) (.slice Ao9 l1_2.length co9) l1_2)∧(Kd.R Kd.bool 4 w' w0.heap.size (fun k_=>((P1_2_ k_∨P1_3_ k_)∨w.heap.size≤k_)) (.slice Ao10 l1_3.length co10) l1_3)∧(w'.heap[gb190]?=some (.cells #[.int .i64 a0_0,.int .i64 a0_1,.int .i64 a0_2,.slice A0_3 l0_3.length c0_3,.int .i64 a0_4,.int .i64 a0_5,.bool a0_6,.int .i64 a0_7] 40 (0,0)))∧(w'.heap[gb191]?=some (.cells #[.int .i64 a1_0,.int .i64 a1_1,.slice Ao9 l1_2.length co9,.slice Ao10 l1_3.length co10] 41 (0,0)))∧(w'.heap[gb192]?=some (.cells #[.int .i64 0,.int .i64 0,.int .i64 0,.slice none 0 0,.int .i64 0,.int .i64 0,.bool false,.int .i64 0,.int .i64 0,.int .i64 0,.slice none 0 0,.slice none 0 0,.slice none 0 0,.int .i64 0,.int .i64 0,.slice none 0 0,.slice none 0 0,.int .i64 0,.int .i64 0] 44 (0,0)))∧(Kept w w' (fun k_=>P1_2_ k_∨P1_3_ k_))∧(Below w0.heap.size w0 w')) ?_ ?_
              rotate_left
              · intro hJ5
                refine join_ (σ:=Value) 4 #[true,true,true,true,true,false,true,true,true,true,false,true,true,false,false] (fun s_=>[(15,s_)]) (fun s_ w'=>(w'.cell? ⟨gb190,0,none⟩=some (.int .i64 a0_0)∧w'.cell? ⟨gb190,1,none⟩=some (.int .i64 a0_1)∧w'.cell? ⟨gb190,2,none⟩=some (.int .i64 a0_2)∧w'.cell? ⟨gb190,3,none⟩=some (.slice A0_3 l0_3.length c0_3)∧w'.cell? ⟨gb190,4,none⟩=some (.int .i64 a0_4)∧w'.cell? ⟨gb190,5,none⟩=some (.int .i64 a0_5)∧w'.cell? ⟨gb190,6,none⟩=some (.bool a0_6)∧w'.cell? ⟨gb190,7,none⟩=some (.int .i64 a0_7)∧w'.cell? ⟨gb191,0,none⟩=some (.int .i64 a1_0)∧w'.cell? ⟨gb191,1,none⟩=some (.int .i64 a1_1)∧w'.cell? ⟨gb191,2,none⟩=some (.slice Ao9 l1_2.length co9)∧w'.cell? ⟨gb191,3,none⟩=some (.slice Ao10 l1_3.length co10))∧(Kd.V k120 120 w' w0.heap.size (fun k_=>((P1_2_ k_∨P1_3_ k_∨P0_3_ k_)∨w.heap.size≤k_)∧some k_≠(s_:Value).ownBlock∧some k_≠(.slice Ao9 l1_2.length co9:Value).ownBlock∧some k_≠(.slice Ao10 l1_3.length co10:Value).ownBlock∧k_≠gb190∧k_≠gb191∧k_≠gb192) (.slice A0_3 l0_3.length c0_3) l0_3)∧(Kd.R (Kd.int .i64) 2 w' w0.heap.size (fun k_=>((P1_2_ k_∨P1_3_ k_)∨w.heap.size≤k_)∧some k_≠(.slice Ao9 l1_2.length co9:Value).ownBlock) s_ y197)∧(Kd.R (Kd.int .i64) 2 w' w0.heap.size (fun k_=>((P1_2_ k_∨P1_3_ k_)∨w.heap.size≤k_)∧some k_≠(s_:Value).ownBlock) (.slice Ao9 l1_2.length co9) l1_2)∧(Kd.R Kd.bool 4 w' w0.heap.size (fun k_=>((P1_2_ k_∨P1_3_ k_)∨w.heap.size≤k_)) (.slice Ao10 l1_3.length co10) l1_3)∧(w'.heap[gb190]?=some (.cells #[.int .i64 a0_0,.int .i64 a0_1,.int .i64 a0_2,.slice A0_3 l0_3.length c0_3,.int .i64 a0_4,.int .i64 a0_5,.bool a0_6,.int .i64 a0_7] 40 (0,0)))∧(w'.heap[gb191]?=some (.cells #[.int .i64 a1_0,.int .i64 a1_1,.slice Ao9 l1_2.length co9,.slice Ao10 l1_3.length co10] 41 (0,0)))∧(w'.heap[gb192]?=some (.cells #[.int .i64 0,.int .i64 0,.int .i64 0,.slice none 0 0,.int .i64 0,.int .i64 0,.bool false,.int .i64 0,.int .i64 0,.int .i64 0,.slice none 0 0,.slice none 0 0,.slice none 0 0,.int .i64 0,.int .i64 0,.slice none 0 0,.slice none 0 0,.int .i64 0,.int .i64 0] 44 (0,0)))∧(Kept w w' (fun k_=>P1_2_ k_∨P1_3_ k_))∧(Below w0.heap.size w0 w')) ?_ ?_
                rotate_left
                · intro hJ6
                  refine join_ (σ:=Value) 4 #[true,true,true,true,true,false,false,true,true,true,true,true,true,false,false] (fun s_=>[(19,s_)]) (fun s_ w'=>(w'.cell? ⟨gb190,0,none⟩=some (.int .i64 a0_0)∧w'.cell? ⟨gb190,1,none⟩=some (.int .i64 a0_1)∧w'.cell? ⟨gb190,2,none⟩=some (.int .i64 a0_2)∧w'.cell? ⟨gb190,3,none⟩=some (.slice A0_3 l0_3.length c0_3)∧w'.cell? ⟨gb190,4,none⟩=some (.int .i64 a0_4)∧w'.cell? ⟨gb190,5,none⟩=some (.int .i64 a0_5)∧w'.cell? ⟨gb190,6,none⟩=some (.bool a0_6)∧w'.cell? ⟨gb190,7,none⟩=some (.int .i64 a0_7)∧w'.cell? ⟨gb191,0,none⟩=some (.int .i64 a1_0)∧w'.cell? ⟨gb191,1,none⟩=some (.int .i64 a1_1)∧w'.cell? ⟨gb191,2,none⟩=some (.slice Ao9 l1_2.length co9)∧w'.cell? ⟨gb191,3,none⟩=some (.slice Ao10 l1_3.length co10))∧(Kd.V k120 120 w' w0.heap.size (fun k_=>((P1_2_ k_∨P1_3_ k_∨P0_3_ k_)∨w.heap.size≤k_)∧some k_≠(.slice Ao9 l1_2.length co9:Value).ownBlock∧some k_≠(.slice Ao10 l1_3.length co10:Value).ownBlock∧some k_≠(s_:Value).ownBlock∧k_≠gb190∧k_≠gb191∧k_≠gb192) (.slice A0_3 l0_3.length c0_3) l0_3)∧(Kd.R (Kd.int .i64) 2 w' w0.heap.size (fun k_=>((P1_2_ k_∨P1_3_ k_)∨w.heap.size≤k_)∧some k_≠(s_:Value).ownBlock) (.slice Ao9 l1_2.length co9) l1_2)∧(Kd.R Kd.bool 4 w' w0.heap.size (fun k_=>((P1_2_ k_∨P1_3_ k_)∨w.heap.size≤k_)) (.slice Ao10 l1_3.length co10) l1_3)∧(Kd.R (Kd.int .i64) 2 w' w0.heap.size (fun k_=>((P1_2_ k_∨P1_3_ k_)∨w.heap.size≤k_)∧some k_≠(.slice Ao9 l1_2.length co9:Value).ownBlock) s_ y200)∧(w'.heap[gb190]?=some (.cells #[.int .i64 a0_0,.int .i64 a0_1,.int .i64 a0_2,.slice A0_3 l0_3.length c0_3,.int .i64 a0_4,.int .i64 a0_5,.bool a0_6,.int .i64 a0_7] 40 (0,0)))∧(w'.heap[gb191]?=some (.cells #[.int .i64 a1_0,.int .i64 a1_1,.slice Ao9 l1_2.length co9,.slice Ao10 l1_3.length co10] 41 (0,0)))∧(w'.heap[gb192]?=some (.cells #[.int .i64 0,.int .i64 0,.int .i64 0,.slice none 0 0,.int .i64 0,.int .i64 0,.bool false,.int .i64 0,.int .i64 0,.int .i64 0,.slice none 0 0,.slice none 0 0,.slice none 0 0,.int .i64 0,.int .i64 0,.slice none 0 0,.slice none 0 0,.int .i64 0,.int .i64 0] 44 (0,0)))∧(Kept w w' (fun k_=>P1_2_ k_∨P1_3_ k_))∧(Below w0.heap.size w0 w')) ?_ ?_
                  rotate_left
                  · intro hJ10
                    refine three_ (i:=5) (j:=6) (k:=10) (Ni:=some 14) (Nj:=some 15) (Nk:=some 19) #[true,true,true,true,true,true,false,true,true,true,false,true,true,false,false] #[true,true,true,true,true,false,true,true,true,true,false,true,true,false,false] #[true,true,true,true,true,false,false,true,true,true,true,true,true,false,false] rfl rfl rfl rfl rfl rfl (three_of HT_.out (by kernel_rfl)) (by decide) (by decide) (by decide) (fun K hK=>?_) (fun K hK=>?_) (fun K hK=>?_)
                    · skip
                      refine goes_ Try.func173 (by kernel_rfl) rfl #[.int .i64 (l1_2.length:Int)] (by rfl) rfl rfl (by (try simp only [List.map_toArray,List.map_cons,List.map_nil]);first|done|rfl|(simp only [List.length_drop,List.length_take];rfl)) ?_
                      with_reducible refine (spec_l13New.calls (l1_2.length:Int) t193 t196 _ A5.out).mono ?_
                      rintro e w14 ⟨v194, rfl, ho0, hb⟩
                      refine ⟨_, rfl, ?_⟩
                      have n0_:=mk5_ (Kd.R_elder' (by (with_reducible repeat (first|apply rA5_|apply Kd.R_drewN|apply rD5_));exact HO1_2.out) (Kd.R_base ho0) hb)
                      have n1_:=mk5_ (Kd.R_below (by (with_reducible repeat (first|apply rA5_|apply Kd.R_drewN|apply rD5_));exact HO1_3.out) hb)
                      have n2_:=mk5_ (Kd.V_elder' (by (with_reducible repeat (first|apply Kd.V_alloc|apply Kd.V_drewN|apply Kd.V_drew));exact HO0_3.out) (Kd.R_base ho0) hb)
                      have n3_:=mk5_ (Kd.R_lower (Kd.R_new' (Kd.R_newM (M:=fun k_=>((P1_2_ k_∨P1_3_ k_)∨w.heap.size≤k_)) ho0 (by first|exact HK.out.1|exact (show Kept w _ (fun k_=>P1_2_ k_∨P1_3_ k_) from by repeat (first|(with_reducible first|exact HK.out|apply Kept.alloc|apply Kept.drewN|apply Kept.drew|refine Kept.setCell ?_ (.inr GW190.out) _|refine Kept.setCell ?_ (.inr GW191.out) _|refine Kept.setCell ?_ (.inr GW192.out) _)|exact HK.out)).1) (fun k_ h_=>.inr h_)) (Kd.R_lt (by (with_reducible repeat (first|apply rA5_|apply Kd.R_drewN|apply rD5_));exact HO1_2.out))) (bZ5_ (by repeat (first|(with_reducible first|exact HB.out|apply bA5_|apply bN5_|apply bD5_|refine bS5_ ?_ GE190.out|refine bS5_ ?_ GE191.out|refine bS5_ ?_ GE192.out)|exact HB.out))))
                      have n4_:=mk5_ (blk_below (g:=gb190) (o:=.cells #[.int .i64 a0_0,.int .i64 a0_1,.int .i64 a0_2,.slice A0_3 l0_3.length c0_3,.int .i64 a0_4,.int .i64 a0_5,.bool a0_6,.int .i64 a0_7] 40 (0,0)) (by (with_reducible repeat (first|refine kN5_ ?_ _|refine kD5_ ?_|refine kA5_ ?_ _));exact BK190.out) hb)
                      have n5_:=mk5_ (blk_below (g:=gb191) (o:=.cells #[.int .i64 a1_0,.int .i64 a1_1,.slice Ao9 l1_2.length co9,.slice Ao10 l1_3.length co10] 41 (0,0)) (by (with_reducible repeat (first|refine kN5_ ?_ _|refine kD5_ ?_|refine kA5_ ?_ _));exact BK191.out) hb)
                      have n6_:=mk5_ (blk_below (g:=gb192) (o:=.cells #[.int .i64 0,.int .i64 0,.int .i64 0,.slice none 0 0,.int .i64 0,.int .i64 0,.bool false,.int .i64 0,.int .i64 0,.int .i64 0,.slice none 0 0,.slice none 0 0,.slice none 0 0,.int .i64 0,.int .i64 0,.slice none 0 0,.slice none 0 0,.int .i64 0,.int .i64 0] 44 (0,0)) (by (with_reducible repeat (first|refine kN5_ ?_ _|refine kD5_ ?_|refine kA5_ ?_ _));exact BK192.out) hb)
                      have n7_:=mk5_ (Kept.below (S:=(fun k_=>P1_2_ k_∨P1_3_ k_)) (by repeat (first|(with_reducible first|exact HK.out|apply Kept.alloc|apply Kept.drewN|apply Kept.drew|refine Kept.setCell ?_ (.inr GW190.out) _|refine Kept.setCell ?_ (.inr GW191.out) _|refine Kept.setCell ?_ (.inr GW192.out) _)|exact HK.out)) hb)
                      have n8_:=mk5_ (bT5_ (by repeat (first|(with_reducible first|exact HB.out|apply bA5_|apply bN5_|apply bD5_|refine bS5_ ?_ GE190.out|refine bS5_ ?_ GE191.out|refine bS5_ ?_ GE192.out)|exact HB.out)) hb)
                      clear HO1_2
                      clear HO1_3
                      clear HO0_3
                      clear BK190
                      clear BK191
                      clear BK192
                      clear HK
                      clear HB
                      have HO1_2 := n0_
                      have HO1_3 := n1_
                      have HO0_3 := n2_
                      have HO195 := n3_
                      have BK190 := n4_
                      have BK191 := n5_
                      have BK192 := n6_
                      have HK := n7_
                      have HB := n8_
                      clear n0_ n1_ n2_ n3_ n4_ n5_ n6_ n7_ n8_
                      (try clear hb)
                      (try clear hb2)
                      (try clear hk)
                      (try clear hi)
                      (try clear ho0)
                      refine hK.out _ _ ⟨(blk_cell BK190.out 0).trans rfl,(blk_cell BK190.out 1).trans rfl,(blk_cell BK190.out 2).trans rfl,(blk_cell BK190.out 3).trans rfl,(blk_cell BK190.out 4).trans rfl,(blk_cell BK190.out 5).trans rfl,(blk_cell BK190.out 6).trans rfl,(blk_cell BK190.out 7).trans rfl,(blk_cell BK191.out 0).trans rfl,(blk_cell BK191.out 1).trans rfl,(blk_cell BK191.out 2).trans rfl,(blk_cell BK191.out 3).trans rfl⟩ (fun hHeld=>?_)
                      clear hK K
                      refine norm_ (a' := ?_) ?_ ?_
                      rotate_left
                      · show Act.put _ (some 14) _ = _
                        simp only [Act.put,List.setIfInBounds_toArray,List.set_cons_zero,List.set_cons_succ,i64_w,i32_w]
                        rfl
                      exact norm_ (by first|(simp only [putAll,Act.put,List.setIfInBounds_toArray,List.set_cons_zero,List.set_cons_succ];done)|(simp only [putAll,Act.put,List.setIfInBounds_toArray,List.set_cons_zero,List.set_cons_succ];rfl)) (hJ5 (v194) _ ⟨hHeld,(by (with_reducible repeat (first|apply Kd.V_alloc|apply Kd.V_drewN|apply Kd.V_drew));exact Kd.V_mono HO0_3.out (fun _ hk=>⟨hk.1.1.1.1.1,⟨hk.2,⟨hk.1.1.1.1.2.1,⟨hk.1.1.1.1.2.2,⟨hk.1.1.1.2,⟨hk.1.1.2,hk.1.2⟩⟩⟩⟩⟩⟩)),(by (with_reducible repeat (first|apply rA5_|apply Kd.R_drewN|apply rD5_));exact Kd.R_mono HO195.out (fun _ hk=>by first|exact ⟨hk.1.1,hk.2⟩|simp [hk])),(by (with_reducible repeat (first|apply rA5_|apply Kd.R_drewN|apply rD5_));exact HO1_2.out),(by (with_reducible repeat (first|apply rA5_|apply Kd.R_drewN|apply rD5_));exact HO1_3.out),(by (with_reducible repeat (first|refine kN5_ ?_ _|refine kD5_ ?_|refine kA5_ ?_ _));exact BK190.out),(by (with_reducible repeat (first|refine kN5_ ?_ _|refine kD5_ ?_|refine kA5_ ?_ _));exact BK191.out),(by (with_reducible repeat (first|refine kN5_ ?_ _|refine kD5_ ?_|refine kA5_ ?_ _));exact BK192.out),(by repeat (first|(with_reducible first|exact HK.out|apply Kept.alloc|apply Kept.drewN|apply Kept.drew|refine Kept.setCell ?_ (.inr GW190.out) _|refine Kept.setCell ?_ (.inr GW191.out) _|refine Kept.setCell ?_ (.inr GW192.out) _)|exact HK.out)),(by repeat (first|(with_reducible first|exact HB.out|apply bA5_|apply bN5_|apply bD5_|refine bS5_ ?_ GE190.out|refine bS5_ ?_ GE191.out|refine bS5_ ?_ GE192.out)|exact HB.out))⟩)
                    · skip
                      refine Kd.R_lit_step (Kd.int .i64) _ 2 ?hg (N:=15) ?hd (xs:=([(-1),(-1)]:List Int)) (inner:=[.int .i64 (-1),.int .i64 (-1)]) (ok:=fun _=>True) (okp:=fun _=>True) ?hr ?hp (fun _ hk=>hk) trivial (Below.refl _ _) (Nat.le_refl _) (by simp) ?_;(case hd=>rfl);(case hg=>rfl);(case hr=>first|(go_simp;done)|(go_simp;rfl));(case hp=>exact (Reps.one (show Kd.M (Kd.int .i64) _ _ _ (-1) [.int .i64 (-1)] from rfl) (Reps.one (show Kd.M (Kd.int .i64) _ _ _ (-1) [.int .i64 (-1)] from rfl) (Reps.none _ _))))
                      intro v198 w14 ho15 hb hg_ hnew_
                      clear hg_ hnew_
                      (first|rw [← Ny197.out] at ho15|(simp only [Int.reduceToNat] at ho15;rw [← Ny197.out] at ho15))
                      have n0_:=mk5_ (Kd.R_elder' (by (with_reducible repeat (first|apply rA5_|apply Kd.R_drewN|apply rD5_));exact HO1_2.out) (Kd.R_base ho15) hb)
                      have n1_:=mk5_ (Kd.R_below (by (with_reducible repeat (first|apply rA5_|apply Kd.R_drewN|apply rD5_));exact HO1_3.out) hb)
                      have n2_:=mk5_ (Kd.V_elder' (by (with_reducible repeat (first|apply Kd.V_alloc|apply Kd.V_drewN|apply Kd.V_drew));exact HO0_3.out) (Kd.R_base ho15) hb)
                      have n3_:=mk5_ (Kd.R_lower (Kd.R_new' (Kd.R_newM (M:=fun k_=>((P1_2_ k_∨P1_3_ k_)∨w.heap.size≤k_)) ho15 (by first|exact HK.out.1|exact (show Kept w _ (fun k_=>P1_2_ k_∨P1_3_ k_) from by repeat (first|(with_reducible first|exact HK.out|apply Kept.alloc|apply Kept.drewN|apply Kept.drew|refine Kept.setCell ?_ (.inr GW190.out) _|refine Kept.setCell ?_ (.inr GW191.out) _|refine Kept.setCell ?_ (.inr GW192.out) _)|exact HK.out)).1) (fun k_ h_=>.inr h_)) (Kd.R_lt (by (with_reducible repeat (first|apply rA5_|apply Kd.R_drewN|apply rD5_));exact HO1_2.out))) (bZ5_ (by repeat (first|(with_reducible first|exact HB.out|apply bA5_|apply bN5_|apply bD5_|refine bS5_ ?_ GE190.out|refine bS5_ ?_ GE191.out|refine bS5_ ?_ GE192.out)|exact HB.out))))
                      have n4_:=mk5_ (blk_below (g:=gb190) (o:=.cells #[.int .i64 a0_0,.int .i64 a0_1,.int .i64 a0_2,.slice A0_3 l0_3.length c0_3,.int .i64 a0_4,.int .i64 a0_5,.bool a0_6,.int .i64 a0_7] 40 (0,0)) (by (with_reducible repeat (first|refine kN5_ ?_ _|refine kD5_ ?_|refine kA5_ ?_ _));exact BK190.out) hb)
                      have n5_:=mk5_ (blk_below (g:=gb191) (o:=.cells #[.int .i64 a1_0,.int .i64 a1_1,.slice Ao9 l1_2.length co9,.slice Ao10 l1_3.length co10] 41 (0,0)) (by (with_reducible repeat (first|refine kN5_ ?_ _|refine kD5_ ?_|refine kA5_ ?_ _));exact BK191.out) hb)
                      have n6_:=mk5_ (blk_below (g:=gb192) (o:=.cells #[.int .i64 0,.int .i64 0,.int .i64 0,.slice none 0 0,.int .i64 0,.int .i64 0,.bool false,.int .i64 0,.int .i64 0,.int .i64 0,.slice none 0 0,.slice none 0 0,.slice none 0 0,.int .i64 0,.int .i64 0,.slice none 0 0,.slice none 0 0,.int .i64 0,.int .i64 0] 44 (0,0)) (by (with_reducible repeat (first|refine kN5_ ?_ _|refine kD5_ ?_|refine kA5_ ?_ _));exact BK192.out) hb)
                      have n7_:=mk5_ (Kept.below (S:=(fun k_=>P1_2_ k_∨P1_3_ k_)) (by repeat (first|(with_reducible first|exact HK.out|apply Kept.alloc|apply Kept.drewN|apply Kept.drew|refine Kept.setCell ?_ (.inr GW190.out) _|refine Kept.setCell ?_ (.inr GW191.out) _|refine Kept.setCell ?_ (.inr GW192.out) _)|exact HK.out)) hb)
                      have n8_:=mk5_ (bT5_ (by repeat (first|(with_reducible first|exact HB.out|apply bA5_|apply bN5_|apply bD5_|refine bS5_ ?_ GE190.out|refine bS5_ ?_ GE191.out|refine bS5_ ?_ GE192.out)|exact HB.out)) hb)
                      clear HO1_2
                      clear HO1_3
                      clear HO0_3
                      clear BK190
                      clear BK191
                      clear BK192
                      clear HK
                      clear HB
                      have HO1_2 := n0_
                      have HO1_3 := n1_
                      have HO0_3 := n2_
                      have HO199 := n3_
                      have BK190 := n4_
                      have BK191 := n5_
                      have BK192 := n6_
                      have HK := n7_
                      have HB := n8_
                      clear n0_ n1_ n2_ n3_ n4_ n5_ n6_ n7_ n8_
                      clear hb ho15
                      refine hK.out _ _ ⟨(blk_cell BK190.out 0).trans rfl,(blk_cell BK190.out 1).trans rfl,(blk_cell BK190.out 2).trans rfl,(blk_cell BK190.out 3).trans rfl,(blk_cell BK190.out 4).trans rfl,(blk_cell BK190.out 5).trans rfl,(blk_cell BK190.out 6).trans rfl,(blk_cell BK190.out 7).trans rfl,(blk_cell BK191.out 0).trans rfl,(blk_cell BK191.out 1).trans rfl,(blk_cell BK191.out 2).trans rfl,(blk_cell BK191.out 3).trans rfl⟩ (fun hHeld=>?_)
                      clear hK K
                      refine norm_ (a' := ?_) ?_ ?_
                      rotate_left
                      · show Act.put _ (some 15) _ = _
                        simp only [Act.put,List.setIfInBounds_toArray,List.set_cons_zero,List.set_cons_succ,i64_w,i32_w]
                        rfl
                      exact norm_ (by first|(simp only [putAll,Act.put,List.setIfInBounds_toArray,List.set_cons_zero,List.set_cons_succ];done)|(simp only [putAll,Act.put,List.setIfInBounds_toArray,List.set_cons_zero,List.set_cons_succ];rfl)) (hJ6 (v198) _ ⟨hHeld,(by (with_reducible repeat (first|apply Kd.V_alloc|apply Kd.V_drewN|apply Kd.V_drew));exact Kd.V_mono HO0_3.out (fun _ hk=>⟨hk.1.1.1.1.1,⟨hk.2,⟨hk.1.1.1.1.2.1,⟨hk.1.1.1.1.2.2,⟨hk.1.1.1.2,⟨hk.1.1.2,hk.1.2⟩⟩⟩⟩⟩⟩)),(by (with_reducible repeat (first|apply rA5_|apply Kd.R_drewN|apply rD5_));exact Kd.R_mono HO199.out (fun _ hk=>by first|exact ⟨hk.1.1,hk.2⟩|simp [hk])),(by (with_reducible repeat (first|apply rA5_|apply Kd.R_drewN|apply rD5_));exact HO1_2.out),(by (with_reducible repeat (first|apply rA5_|apply Kd.R_drewN|apply rD5_));exact HO1_3.out),(by (with_reducible repeat (first|refine kN5_ ?_ _|refine kD5_ ?_|refine kA5_ ?_ _));exact BK190.out),(by (with_reducible repeat (first|refine kN5_ ?_ _|refine kD5_ ?_|refine kA5_ ?_ _));exact BK191.out),(by (with_reducible repeat (first|refine kN5_ ?_ _|refine kD5_ ?_|refine kA5_ ?_ _));exact BK192.out),(by repeat (first|(with_reducible first|exact HK.out|apply Kept.alloc|apply Kept.drewN|apply Kept.drew|refine Kept.setCell ?_ (.inr GW190.out) _|refine Kept.setCell ?_ (.inr GW191.out) _|refine Kept.setCell ?_ (.inr GW192.out) _)|exact HK.out)),(by repeat (first|(with_reducible first|exact HB.out|apply bA5_|apply bN5_|apply bD5_|refine bS5_ ?_ GE190.out|refine bS5_ ?_ GE191.out|refine bS5_ ?_ GE192.out)|exact HB.out))⟩)
                    · skip
                      refine Kd.R_make_step (Kd.int .i64) _ 2 (by rfl) (N:=19) rfl 27 _ _ rfl (l0_3.length:Int) rfl rfl Try.underlying27 (.int .i64 0) 8 info2 rfl (by decide) (by omega) 0 (ok:=fun _=>True) (okp:=fun _=>True) rfl (fun _ hk=>hk) trivial (of_decide_eq_true (by first|(with_reducible assumption)|assumption)) (Nat.le_trans (Nat.mul_le_mul_right _ (of_decide_eq_true (by first|(with_reducible assumption)|assumption):(l0_3.length:Int).toNat≤35184372088832)) (by omega)) (Below.refl _ _) (Nat.le_refl _) ?_
                      intro v201 w14 ho15 hb hg_ hnew_
                      clear hg_ hnew_
                      (first|rw [← Ny200.out] at ho15|(simp only [Int.reduceToNat] at ho15;rw [← Ny200.out] at ho15))
                      have n0_:=mk5_ (Kd.R_elder' (by (with_reducible repeat (first|apply rA5_|apply Kd.R_drewN|apply rD5_));exact HO1_2.out) (Kd.R_base ho15) hb)
                      have n1_:=mk5_ (Kd.R_below (by (with_reducible repeat (first|apply rA5_|apply Kd.R_drewN|apply rD5_));exact HO1_3.out) hb)
                      have n2_:=mk5_ (Kd.V_elder' (by (with_reducible repeat (first|apply Kd.V_alloc|apply Kd.V_drewN|apply Kd.V_drew));exact HO0_3.out) (Kd.R_base ho15) hb)
                      have n3_:=mk5_ (Kd.R_lower (Kd.R_new' (Kd.R_newM (M:=fun k_=>((P1_2_ k_∨P1_3_ k_)∨w.heap.size≤k_)) ho15 (by first|exact HK.out.1|exact (show Kept w _ (fun k_=>P1_2_ k_∨P1_3_ k_) from by repeat (first|(with_reducible first|exact HK.out|apply Kept.alloc|apply Kept.drewN|apply Kept.drew|refine Kept.setCell ?_ (.inr GW190.out) _|refine Kept.setCell ?_ (.inr GW191.out) _|refine Kept.setCell ?_ (.inr GW192.out) _)|exact HK.out)).1) (fun k_ h_=>.inr h_)) (Kd.R_lt (by (with_reducible repeat (first|apply rA5_|apply Kd.R_drewN|apply rD5_));exact HO1_2.out))) (bZ5_ (by repeat (first|(with_reducible first|exact HB.out|apply bA5_|apply bN5_|apply bD5_|refine bS5_ ?_ GE190.out|refine bS5_ ?_ GE191.out|refine bS5_ ?_ GE192.out)|exact HB.out))))
                      have n4_:=mk5_ (blk_below (g:=gb190) (o:=.cells #[.int .i64 a0_0,.int .i64 a0_1,.int .i64 a0_2,.slice A0_3 l0_3.length c0_3,.int .i64 a0_4,.int .i64 a0_5,.bool a0_6,.int .i64 a0_7] 40 (0,0)) (by (with_reducible repeat (first|refine kN5_ ?_ _|refine kD5_ ?_|refine kA5_ ?_ _));exact BK190.out) hb)
                      have n5_:=mk5_ (blk_below (g:=gb191) (o:=.cells #[.int .i64 a1_0,.int .i64 a1_1,.slice Ao9 l1_2.length co9,.slice Ao10 l1_3.length co10] 41 (0,0)) (by (with_reducible repeat (first|refine kN5_ ?_ _|refine kD5_ ?_|refine kA5_ ?_ _));exact BK191.out) hb)
                      have n6_:=mk5_ (blk_below (g:=gb192) (o:=.cells #[.int .i64 0,.int .i64 0,.int .i64 0,.slice none 0 0,.int .i64 0,.int .i64 0,.bool false,.int .i64 0,.int .i64 0,.int .i64 0,.slice none 0 0,.slice none 0 0,.slice none 0 0,.int .i64 0,.int .i64 0,.slice none 0 0,.slice none 0 0,.int .i64 0,.int .i64 0] 44 (0,0)) (by (with_reducible repeat (first|refine kN5_ ?_ _|refine kD5_ ?_|refine kA5_ ?_ _));exact BK192.out) hb)
                      have n7_:=mk5_ (Kept.below (S:=(fun k_=>P1_2_ k_∨P1_3_ k_)) (by repeat (first|(with_reducible first|exact HK.out|apply Kept.alloc|apply Kept.drewN|apply Kept.drew|refine Kept.setCell ?_ (.inr GW190.out) _|refine Kept.setCell ?_ (.inr GW191.out) _|refine Kept.setCell ?_ (.inr GW192.out) _)|exact HK.out)) hb)
                      have n8_:=mk5_ (bT5_ (by repeat (first|(with_reducible first|exact HB.out|apply bA5_|apply bN5_|apply bD5_|refine bS5_ ?_ GE190.out|refine bS5_ ?_ GE191.out|refine bS5_ ?_ GE192.out)|exact HB.out)) hb)
                      clear HO1_2
                      clear HO1_3
                      clear HO0_3
                      clear BK190
                      clear BK191
                      clear BK192
                      clear HK
                      clear HB
                      have HO1_2 := n0_
                      have HO1_3 := n1_
                      have HO0_3 := n2_
                      have HO202 := n3_
                      have BK190 := n4_
                      have BK191 := n5_
                      have BK192 := n6_
                      have HK := n7_
                      have HB := n8_
                      clear n0_ n1_ n2_ n3_ n4_ n5_ n6_ n7_ n8_
                      clear hb ho15
                      refine hK.out _ _ ⟨(blk_cell BK190.out 0).trans rfl,(blk_cell BK190.out 1).trans rfl,(blk_cell BK190.out 2).trans rfl,(blk_cell BK190.out 3).trans rfl,(blk_cell BK190.out 4).trans rfl,(blk_cell BK190.out 5).trans rfl,(blk_cell BK190.out 6).trans rfl,(blk_cell BK190.out 7).trans rfl,(blk_cell BK191.out 0).trans rfl,(blk_cell BK191.out 1).trans rfl,(blk_cell BK191.out 2).trans rfl,(blk_cell BK191.out 3).trans rfl⟩ (fun hHeld=>?_)
                      clear hK K
                      refine norm_ (a' := ?_) ?_ ?_
                      rotate_left
                      · show Act.put _ (some 19) _ = _
                        simp only [Act.put,List.setIfInBounds_toArray,List.set_cons_zero,List.set_cons_succ,i64_w,i32_w]
                        rfl
                      exact norm_ (by first|(simp only [putAll,Act.put,List.setIfInBounds_toArray,List.set_cons_zero,List.set_cons_succ];done)|(simp only [putAll,Act.put,List.setIfInBounds_toArray,List.set_cons_zero,List.set_cons_succ];rfl)) (hJ10 (v201) _ ⟨hHeld,(by (with_reducible repeat (first|apply Kd.V_alloc|apply Kd.V_drewN|apply Kd.V_drew));exact Kd.V_mono HO0_3.out (fun _ hk=>⟨hk.1.1.1.1.1,⟨hk.1.1.1.1.2.1,⟨hk.1.1.1.1.2.2,⟨hk.2,⟨hk.1.1.1.2,⟨hk.1.1.2,hk.1.2⟩⟩⟩⟩⟩⟩)),(by (with_reducible repeat (first|apply rA5_|apply Kd.R_drewN|apply rD5_));exact HO1_2.out),(by (with_reducible repeat (first|apply rA5_|apply Kd.R_drewN|apply rD5_));exact HO1_3.out),(by (with_reducible repeat (first|apply rA5_|apply Kd.R_drewN|apply rD5_));exact Kd.R_mono HO202.out (fun _ hk=>by first|exact ⟨hk.1.1,hk.2⟩|simp [hk])),(by (with_reducible repeat (first|refine kN5_ ?_ _|refine kD5_ ?_|refine kA5_ ?_ _));exact BK190.out),(by (with_reducible repeat (first|refine kN5_ ?_ _|refine kD5_ ?_|refine kA5_ ?_ _));exact BK191.out),(by (with_reducible repeat (first|refine kN5_ ?_ _|refine kD5_ ?_|refine kA5_ ?_ _));exact BK192.out),(by repeat (first|(with_reducible first|exact HK.out|apply Kept.alloc|apply Kept.drewN|apply Kept.drew|refine Kept.setCell ?_ (.inr GW190.out) _|refine Kept.setCell ?_ (.inr GW191.out) _|refine Kept.setCell ?_ (.inr GW192.out) _)|exact HK.out)),(by repeat (first|(with_reducible first|exact HB.out|apply bA5_|apply bN5_|apply bD5_|refine bS5_ ?_ GE190.out|refine bS5_ ?_ GE191.out|refine bS5_ ?_ GE192.out)|exact HB.out))⟩)
                  · skip
                    rintro v201 w16 ⟨hS_, h0_, h1_, h2_, h3_, h4_, h5_, h6_, h7_, h8_⟩
                    have n0_:Aside0 (Kd.V k120 120 w16 w0.heap.size (fun k_=>((P1_2_ k_∨P1_3_ k_∨P0_3_ k_)∨w.heap.size≤k_)∧some k_≠(.slice Ao9 l1_2.length co9:Value).ownBlock∧some k_≠(.slice Ao10 l1_3.length co10:Value).ownBlock∧some k_≠(v201:Value).ownBlock∧k_≠gb190∧k_≠gb191∧k_≠gb192) (.slice A0_3 l0_3.length c0_3) l0_3):=⟨h0_⟩
                    have n1_:Aside0 (Kd.R (Kd.int .i64) 2 w16 w0.heap.size (fun k_=>((P1_2_ k_∨P1_3_ k_)∨w.heap.size≤k_)∧some k_≠(v201:Value).ownBlock) (.slice Ao9 l1_2.length co9) l1_2):=⟨h1_⟩
                    have n2_:Aside0 (Kd.R Kd.bool 4 w16 w0.heap.size (fun k_=>((P1_2_ k_∨P1_3_ k_)∨w.heap.size≤k_)) (.slice Ao10 l1_3.length co10) l1_3):=⟨h2_⟩
                    have n3_:Aside0 (Kd.R (Kd.int .i64) 2 w16 w0.heap.size (fun k_=>((P1_2_ k_∨P1_3_ k_)∨w.heap.size≤k_)∧some k_≠(.slice Ao9 l1_2.length co9:Value).ownBlock) v201 y200):=⟨h3_⟩
                    have n4_:Aside0 (w16.heap[gb190]?=some (.cells #[.int .i64 a0_0,.int .i64 a0_1,.int .i64 a0_2,.slice A0_3 l0_3.length c0_3,.int .i64 a0_4,.int .i64 a0_5,.bool a0_6,.int .i64 a0_7] 40 (0,0))):=⟨h4_⟩
                    have n5_:Aside0 (w16.heap[gb191]?=some (.cells #[.int .i64 a1_0,.int .i64 a1_1,.slice Ao9 l1_2.length co9,.slice Ao10 l1_3.length co10] 41 (0,0))):=⟨h5_⟩
                    have n6_:Aside0 (w16.heap[gb192]?=some (.cells #[.int .i64 0,.int .i64 0,.int .i64 0,.slice none 0 0,.int .i64 0,.int .i64 0,.bool false,.int .i64 0,.int .i64 0,.int .i64 0,.slice none 0 0,.slice none 0 0,.slice none 0 0,.int .i64 0,.int .i64 0,.slice none 0 0,.slice none 0 0,.int .i64 0,.int .i64 0] 44 (0,0))):=⟨h6_⟩
                    have n7_ : Aside0 (Kept w w16 (fun k_ => P1_2_ k_ ∨ P1_3_ k_)) := ⟨h7_⟩
                    have n8_ : Aside0 (Below w0.heap.size w0 w16) := ⟨h8_⟩
                    clear HO1_2
                    clear HO1_3
                    clear HO0_3
                    clear BK190
                    clear BK191
                    clear BK192
                    clear HK
                    clear HB
                    clear h0_ h1_ h2_ h3_ h4_ h5_ h6_ h7_ h8_
                    have HO0_3 := n0_
                    have HO1_2 := n1_
                    have HO1_3 := n2_
                    have HO202 := n3_
                    have BK190 := n4_
                    have BK191 := n5_
                    have BK192 := n6_
                    have HK := n7_
                    have HB := n8_
                    clear n0_ n1_ n2_ n3_ n4_ n5_ n6_ n7_ n8_
                    have hHeld:w16.cell? ⟨gb190,0,none⟩=some (.int .i64 a0_0)∧w16.cell? ⟨gb190,1,none⟩=some (.int .i64 a0_1)∧w16.cell? ⟨gb190,2,none⟩=some (.int .i64 a0_2)∧w16.cell? ⟨gb190,3,none⟩=some (.slice A0_3 l0_3.length c0_3)∧w16.cell? ⟨gb190,4,none⟩=some (.int .i64 a0_4)∧w16.cell? ⟨gb190,5,none⟩=some (.int .i64 a0_5)∧w16.cell? ⟨gb190,6,none⟩=some (.bool a0_6)∧w16.cell? ⟨gb190,7,none⟩=some (.int .i64 a0_7)∧w16.cell? ⟨gb191,0,none⟩=some (.int .i64 a1_0)∧w16.cell? ⟨gb191,1,none⟩=some (.int .i64 a1_1)∧w16.cell? ⟨gb191,2,none⟩=some (.slice Ao9 l1_2.length co9)∧w16.cell? ⟨gb191,3,none⟩=some (.slice Ao10 l1_3.length co10):=hS_
                    refine norm_ (a' := ?_) ?_ ?_
                    rotate_left
                    · simp only [putAll,Act.put,List.setIfInBounds_toArray,List.set_cons_zero,List.set_cons_succ]
                      rfl
                    refine two_ (i:=5) (j:=6) (Ni:=some 14) (Nj:=some 15) #[true,true,true,true,true,true,false,true,true,true,true,true,true,false,false] #[true,true,true,true,true,false,true,true,true,true,true,true,true,false,false] rfl rfl rfl rfl (two_of HT_.out (by kernel_rfl)) (by decide) (by decide) (fun K hK=>?_) (fun K hK=>?_)
                    · skip
                      refine goes_ Try.func173 (by kernel_rfl) rfl #[.int .i64 (l1_2.length:Int)] (by rfl) rfl rfl (by (try simp only [List.map_toArray,List.map_cons,List.map_nil]);first|done|rfl|(simp only [List.length_drop,List.length_take];rfl)) ?_
                      with_reducible refine (spec_l13New.calls (l1_2.length:Int) t193 t196 _ A5.out).mono ?_
                      rintro e w17 ⟨v194, rfl, ho0, hb⟩
                      refine ⟨_, rfl, ?_⟩
                      have n0_:=mk5_ (Kd.R_elder' (by (with_reducible repeat (first|apply rA5_|apply Kd.R_drewN|apply rD5_));exact HO1_2.out) (Kd.R_base ho0) hb)
                      have n1_:=mk5_ (Kd.R_below (by (with_reducible repeat (first|apply rA5_|apply Kd.R_drewN|apply rD5_));exact HO1_3.out) hb)
                      have n2_:=mk5_ (Kd.V_elder' (by (with_reducible repeat (first|apply Kd.V_alloc|apply Kd.V_drewN|apply Kd.V_drew));exact HO0_3.out) (Kd.R_base ho0) hb)
                      have n3_:=mk5_ (Kd.R_elder' (by (with_reducible repeat (first|apply rA5_|apply Kd.R_drewN|apply rD5_));exact HO202.out) (Kd.R_base ho0) hb)
                      have n4_:=mk5_ (Kd.R_lower (Kd.R_new' (Kd.R_new' (Kd.R_newM (M:=fun k_=>((P1_2_ k_∨P1_3_ k_)∨w.heap.size≤k_)) ho0 (by first|exact HK.out.1|exact (show Kept w _ (fun k_=>P1_2_ k_∨P1_3_ k_) from by repeat (first|(with_reducible first|exact HK.out|apply Kept.alloc|apply Kept.drewN|apply Kept.drew|refine Kept.setCell ?_ (.inr GW190.out) _|refine Kept.setCell ?_ (.inr GW191.out) _|refine Kept.setCell ?_ (.inr GW192.out) _)|exact HK.out)).1) (fun k_ h_=>.inr h_)) (Kd.R_lt (by (with_reducible repeat (first|apply rA5_|apply Kd.R_drewN|apply rD5_));exact HO1_2.out))) (Kd.R_lt (by (with_reducible repeat (first|apply rA5_|apply Kd.R_drewN|apply rD5_));exact HO202.out))) (bZ5_ (by repeat (first|(with_reducible first|exact HB.out|apply bA5_|apply bN5_|apply bD5_|refine bS5_ ?_ GE190.out|refine bS5_ ?_ GE191.out|refine bS5_ ?_ GE192.out)|exact HB.out))))
                      have n5_:=mk5_ (blk_below (g:=gb190) (o:=.cells #[.int .i64 a0_0,.int .i64 a0_1,.int .i64 a0_2,.slice A0_3 l0_3.length c0_3,.int .i64 a0_4,.int .i64 a0_5,.bool a0_6,.int .i64 a0_7] 40 (0,0)) (by (with_reducible repeat (first|refine kN5_ ?_ _|refine kD5_ ?_|refine kA5_ ?_ _));exact BK190.out) hb)
                      have n6_:=mk5_ (blk_below (g:=gb191) (o:=.cells #[.int .i64 a1_0,.int .i64 a1_1,.slice Ao9 l1_2.length co9,.slice Ao10 l1_3.length co10] 41 (0,0)) (by (with_reducible repeat (first|refine kN5_ ?_ _|refine kD5_ ?_|refine kA5_ ?_ _));exact BK191.out) hb)
                      have n7_:=mk5_ (blk_below (g:=gb192) (o:=.cells #[.int .i64 0,.int .i64 0,.int .i64 0,.slice none 0 0,.int .i64 0,.int .i64 0,.bool false,.int .i64 0,.int .i64 0,.int .i64 0,.slice none 0 0,.slice none 0 0,.slice none 0 0,.int .i64 0,.int .i64 0,.slice none 0 0,.slice none 0 0,.int .i64 0,.int .i64 0] 44 (0,0)) (by (with_reducible repeat (first|refine kN5_ ?_ _|refine kD5_ ?_|refine kA5_ ?_ _));exact BK192.out) hb)
                      have n8_:=mk5_ (Kept.below (S:=(fun k_=>P1_2_ k_∨P1_3_ k_)) (by repeat (first|(with_reducible first|exact HK.out|apply Kept.alloc|apply Kept.drewN|apply Kept.drew|refine Kept.setCell ?_ (.inr GW190.out) _|refine Kept.setCell ?_ (.inr GW191.out) _|refine Kept.setCell ?_ (.inr GW192.out) _)|exact HK.out)) hb)
                      have n9_:=mk5_ (bT5_ (by repeat (first|(with_reducible first|exact HB.out|apply bA5_|apply bN5_|apply bD5_|refine bS5_ ?_ GE190.out|refine bS5_ ?_ GE191.out|refine bS5_ ?_ GE192.out)|exact HB.out)) hb)
                      clear HO1_2
                      clear HO1_3
                      clear HO0_3
                      clear HO202
                      clear BK190
                      clear BK191
                      clear BK192
                      clear HK
                      clear HB
                      have HO1_2 := n0_
                      have HO1_3 := n1_
                      have HO0_3 := n2_
                      have HO202 := n3_
                      have HO195 := n4_
                      have BK190 := n5_
                      have BK191 := n6_
                      have BK192 := n7_
                      have HK := n8_
                      have HB := n9_
                      clear n0_ n1_ n2_ n3_ n4_ n5_ n6_ n7_ n8_ n9_
                      (try clear hb)
                      (try clear hb2)
                      (try clear hk)
                      (try clear hi)
                      (try clear ho0)
                      refine hK.out _ _ ⟨(blk_cell BK190.out 0).trans rfl,(blk_cell BK190.out 1).trans rfl,(blk_cell BK190.out 2).trans rfl,(blk_cell BK190.out 3).trans rfl,(blk_cell BK190.out 4).trans rfl,(blk_cell BK190.out 5).trans rfl,(blk_cell BK190.out 6).trans rfl,(blk_cell BK190.out 7).trans rfl,(blk_cell BK191.out 0).trans rfl,(blk_cell BK191.out 1).trans rfl,(blk_cell BK191.out 2).trans rfl,(blk_cell BK191.out 3).trans rfl⟩ (fun hHeld=>?_)
                      clear hK K
                      refine norm_ (a' := ?_) ?_ ?_
                      rotate_left
                      · show Act.put _ (some 14) _ = _
                        simp only [Act.put,List.setIfInBounds_toArray,List.set_cons_zero,List.set_cons_succ,i64_w,i32_w]
                        rfl
                      exact norm_ (by first|(simp only [putAll,Act.put,List.setIfInBounds_toArray,List.set_cons_zero,List.set_cons_succ];done)|(simp only [putAll,Act.put,List.setIfInBounds_toArray,List.set_cons_zero,List.set_cons_succ];rfl)) (hJ5_10 (v194,v201) _ ⟨hHeld,(by (with_reducible repeat (first|apply Kd.V_alloc|apply Kd.V_drewN|apply Kd.V_drew));exact Kd.V_mono HO0_3.out (fun _ hk=>⟨hk.1.1,⟨hk.2,⟨hk.1.2.1,⟨hk.1.2.2.1,⟨hk.1.2.2.2.1,⟨hk.1.2.2.2.2.1,⟨hk.1.2.2.2.2.2.1,hk.1.2.2.2.2.2.2⟩⟩⟩⟩⟩⟩⟩)),(by (with_reducible repeat (first|apply rA5_|apply Kd.R_drewN|apply rD5_));exact Kd.R_mono HO195.out (fun _ hk=>⟨hk.1.1.1,⟨hk.1.2,hk.2⟩⟩)),(by (with_reducible repeat (first|apply rA5_|apply Kd.R_drewN|apply rD5_));exact Kd.R_mono HO1_2.out (fun _ hk=>⟨hk.1.1,⟨hk.2,hk.1.2⟩⟩)),(by (with_reducible repeat (first|apply rA5_|apply Kd.R_drewN|apply rD5_));exact HO1_3.out),(by (with_reducible repeat (first|apply rA5_|apply Kd.R_drewN|apply rD5_));exact Kd.R_mono HO202.out (fun _ hk=>⟨hk.1.1,⟨hk.2,hk.1.2⟩⟩)),(by (with_reducible repeat (first|refine kN5_ ?_ _|refine kD5_ ?_|refine kA5_ ?_ _));exact BK190.out),(by (with_reducible repeat (first|refine kN5_ ?_ _|refine kD5_ ?_|refine kA5_ ?_ _));exact BK191.out),(by (with_reducible repeat (first|refine kN5_ ?_ _|refine kD5_ ?_|refine kA5_ ?_ _));exact BK192.out),(by repeat (first|(with_reducible first|exact HK.out|apply Kept.alloc|apply Kept.drewN|apply Kept.drew|refine Kept.setCell ?_ (.inr GW190.out) _|refine Kept.setCell ?_ (.inr GW191.out) _|refine Kept.setCell ?_ (.inr GW192.out) _)|exact HK.out)),(by repeat (first|(with_reducible first|exact HB.out|apply bA5_|apply bN5_|apply bD5_|refine bS5_ ?_ GE190.out|refine bS5_ ?_ GE191.out|refine bS5_ ?_ GE192.out)|exact HB.out))⟩)
                    · skip
                      refine Kd.R_lit_step (Kd.int .i64) _ 2 ?hg (N:=15) ?hd (xs:=([(-1),(-1)]:List Int)) (inner:=[.int .i64 (-1),.int .i64 (-1)]) (ok:=fun _=>True) (okp:=fun _=>True) ?hr ?hp (fun _ hk=>hk) trivial (Below.refl _ _) (Nat.le_refl _) (by simp) ?_;(case hd=>rfl);(case hg=>rfl);(case hr=>first|(go_simp;done)|(go_simp;rfl));(case hp=>exact (Reps.one (show Kd.M (Kd.int .i64) _ _ _ (-1) [.int .i64 (-1)] from rfl) (Reps.one (show Kd.M (Kd.int .i64) _ _ _ (-1) [.int .i64 (-1)] from rfl) (Reps.none _ _))))
                      intro v198 w17 ho18 hb hg_ hnew_
                      clear hg_ hnew_
                      (first|rw [← Ny197.out] at ho18|(simp only [Int.reduceToNat] at ho18;rw [← Ny197.out] at ho18))
                      have n0_:=mk5_ (Kd.R_elder' (by (with_reducible repeat (first|apply rA5_|apply Kd.R_drewN|apply rD5_));exact HO1_2.out) (Kd.R_base ho18) hb)
                      have n1_:=mk5_ (Kd.R_below (by (with_reducible repeat (first|apply rA5_|apply Kd.R_drewN|apply rD5_));exact HO1_3.out) hb)
                      have n2_:=mk5_ (Kd.V_elder' (by (with_reducible repeat (first|apply Kd.V_alloc|apply Kd.V_drewN|apply Kd.V_drew));exact HO0_3.out) (Kd.R_base ho18) hb)
                      have n3_:=mk5_ (Kd.R_elder' (by (with_reducible repeat (first|apply rA5_|apply Kd.R_drewN|apply rD5_));exact HO202.out) (Kd.R_base ho18) hb)
                      have n4_:=mk5_ (Kd.R_lower (Kd.R_new' (Kd.R_new' (Kd.R_newM (M:=fun k_=>((P1_2_ k_∨P1_3_ k_)∨w.heap.size≤k_)) ho18 (by first|exact HK.out.1|exact (show Kept w _ (fun k_=>P1_2_ k_∨P1_3_ k_) from by repeat (first|(with_reducible first|exact HK.out|apply Kept.alloc|apply Kept.drewN|apply Kept.drew|refine Kept.setCell ?_ (.inr GW190.out) _|refine Kept.setCell ?_ (.inr GW191.out) _|refine Kept.setCell ?_ (.inr GW192.out) _)|exact HK.out)).1) (fun k_ h_=>.inr h_)) (Kd.R_lt (by (with_reducible repeat (first|apply rA5_|apply Kd.R_drewN|apply rD5_));exact HO1_2.out))) (Kd.R_lt (by (with_reducible repeat (first|apply rA5_|apply Kd.R_drewN|apply rD5_));exact HO202.out))) (bZ5_ (by repeat (first|(with_reducible first|exact HB.out|apply bA5_|apply bN5_|apply bD5_|refine bS5_ ?_ GE190.out|refine bS5_ ?_ GE191.out|refine bS5_ ?_ GE192.out)|exact HB.out))))
                      have n5_:=mk5_ (blk_below (g:=gb190) (o:=.cells #[.int .i64 a0_0,.int .i64 a0_1,.int .i64 a0_2,.slice A0_3 l0_3.length c0_3,.int .i64 a0_4,.int .i64 a0_5,.bool a0_6,.int .i64 a0_7] 40 (0,0)) (by (with_reducible repeat (first|refine kN5_ ?_ _|refine kD5_ ?_|refine kA5_ ?_ _));exact BK190.out) hb)
                      have n6_:=mk5_ (blk_below (g:=gb191) (o:=.cells #[.int .i64 a1_0,.int .i64 a1_1,.slice Ao9 l1_2.length co9,.slice Ao10 l1_3.length co10] 41 (0,0)) (by (with_reducible repeat (first|refine kN5_ ?_ _|refine kD5_ ?_|refine kA5_ ?_ _));exact BK191.out) hb)
                      have n7_:=mk5_ (blk_below (g:=gb192) (o:=.cells #[.int .i64 0,.int .i64 0,.int .i64 0,.slice none 0 0,.int .i64 0,.int .i64 0,.bool false,.int .i64 0,.int .i64 0,.int .i64 0,.slice none 0 0,.slice none 0 0,.slice none 0 0,.int .i64 0,.int .i64 0,.slice none 0 0,.slice none 0 0,.int .i64 0,.int .i64 0] 44 (0,0)) (by (with_reducible repeat (first|refine kN5_ ?_ _|refine kD5_ ?_|refine kA5_ ?_ _));exact BK192.out) hb)
                      have n8_:=mk5_ (Kept.below (S:=(fun k_=>P1_2_ k_∨P1_3_ k_)) (by repeat (first|(with_reducible first|exact HK.out|apply Kept.alloc|apply Kept.drewN|apply Kept.drew|refine Kept.setCell ?_ (.inr GW190.out) _|refine Kept.setCell ?_ (.inr GW191.out) _|refine Kept.setCell ?_ (.inr GW192.out) _)|exact HK.out)) hb)
                      have n9_:=mk5_ (bT5_ (by repeat (first|(with_reducible first|exact HB.out|apply bA5_|apply bN5_|apply bD5_|refine bS5_ ?_ GE190.out|refine bS5_ ?_ GE191.out|refine bS5_ ?_ GE192.out)|exact HB.out)) hb)
                      clear HO1_2
                      clear HO1_3
                      clear HO0_3
                      clear HO202
                      clear BK190
                      clear BK191
                      clear BK192
                      clear HK
                      clear HB
                      have HO1_2 := n0_
                      have HO1_3 := n1_
                      have HO0_3 := n2_
                      have HO202 := n3_
                      have HO199 := n4_
                      have BK190 := n5_
                      have BK191 := n6_
                      have BK192 := n7_
                      have HK := n8_
                      have HB := n9_
                      clear n0_ n1_ n2_ n3_ n4_ n5_ n6_ n7_ n8_ n9_
                      clear hb ho18
                      refine hK.out _ _ ⟨(blk_cell BK190.out 0).trans rfl,(blk_cell BK190.out 1).trans rfl,(blk_cell BK190.out 2).trans rfl,(blk_cell BK190.out 3).trans rfl,(blk_cell BK190.out 4).trans rfl,(blk_cell BK190.out 5).trans rfl,(blk_cell BK190.out 6).trans rfl,(blk_cell BK190.out 7).trans rfl,(blk_cell BK191.out 0).trans rfl,(blk_cell BK191.out 1).trans rfl,(blk_cell BK191.out 2).trans rfl,(blk_cell BK191.out 3).trans rfl⟩ (fun hHeld=>?_)
                      clear hK K
                      refine norm_ (a' := ?_) ?_ ?_
                      rotate_left
                      · show Act.put _ (some 15) _ = _
                        simp only [Act.put,List.setIfInBounds_toArray,List.set_cons_zero,List.set_cons_succ,i64_w,i32_w]
                        rfl
                      exact norm_ (by first|(simp only [putAll,Act.put,List.setIfInBounds_toArray,List.set_cons_zero,List.set_cons_succ];done)|(simp only [putAll,Act.put,List.setIfInBounds_toArray,List.set_cons_zero,List.set_cons_succ];rfl)) (hJ6_10 (v198,v201) _ ⟨hHeld,(by (with_reducible repeat (first|apply Kd.V_alloc|apply Kd.V_drewN|apply Kd.V_drew));exact Kd.V_mono HO0_3.out (fun _ hk=>⟨hk.1.1,⟨hk.2,⟨hk.1.2.1,⟨hk.1.2.2.1,⟨hk.1.2.2.2.1,⟨hk.1.2.2.2.2.1,⟨hk.1.2.2.2.2.2.1,hk.1.2.2.2.2.2.2⟩⟩⟩⟩⟩⟩⟩)),(by (with_reducible repeat (first|apply rA5_|apply Kd.R_drewN|apply rD5_));exact Kd.R_mono HO199.out (fun _ hk=>⟨hk.1.1.1,⟨hk.1.2,hk.2⟩⟩)),(by (with_reducible repeat (first|apply rA5_|apply Kd.R_drewN|apply rD5_));exact Kd.R_mono HO1_2.out (fun _ hk=>⟨hk.1.1,⟨hk.2,hk.1.2⟩⟩)),(by (with_reducible repeat (first|apply rA5_|apply Kd.R_drewN|apply rD5_));exact HO1_3.out),(by (with_reducible repeat (first|apply rA5_|apply Kd.R_drewN|apply rD5_));exact Kd.R_mono HO202.out (fun _ hk=>⟨hk.1.1,⟨hk.2,hk.1.2⟩⟩)),(by (with_reducible repeat (first|refine kN5_ ?_ _|refine kD5_ ?_|refine kA5_ ?_ _));exact BK190.out),(by (with_reducible repeat (first|refine kN5_ ?_ _|refine kD5_ ?_|refine kA5_ ?_ _));exact BK191.out),(by (with_reducible repeat (first|refine kN5_ ?_ _|refine kD5_ ?_|refine kA5_ ?_ _));exact BK192.out),(by repeat (first|(with_reducible first|exact HK.out|apply Kept.alloc|apply Kept.drewN|apply Kept.drew|refine Kept.setCell ?_ (.inr GW190.out) _|refine Kept.setCell ?_ (.inr GW191.out) _|refine Kept.setCell ?_ (.inr GW192.out) _)|exact HK.out)),(by repeat (first|(with_reducible first|exact HB.out|apply bA5_|apply bN5_|apply bD5_|refine bS5_ ?_ GE190.out|refine bS5_ ?_ GE191.out|refine bS5_ ?_ GE192.out)|exact HB.out))⟩)
                · skip
                  rintro v198 w16 ⟨hS_, h0_, h1_, h2_, h3_, h4_, h5_, h6_, h7_, h8_⟩
                  have n0_:Aside0 (Kd.V k120 120 w16 w0.heap.size (fun k_=>((P1_2_ k_∨P1_3_ k_∨P0_3_ k_)∨w.heap.size≤k_)∧some k_≠(v198:Value).ownBlock∧some k_≠(.slice Ao9 l1_2.length co9:Value).ownBlock∧some k_≠(.slice Ao10 l1_3.length co10:Value).ownBlock∧k_≠gb190∧k_≠gb191∧k_≠gb192) (.slice A0_3 l0_3.length c0_3) l0_3):=⟨h0_⟩
                  have n1_:Aside0 (Kd.R (Kd.int .i64) 2 w16 w0.heap.size (fun k_=>((P1_2_ k_∨P1_3_ k_)∨w.heap.size≤k_)∧some k_≠(.slice Ao9 l1_2.length co9:Value).ownBlock) v198 y197):=⟨h1_⟩
                  have n2_:Aside0 (Kd.R (Kd.int .i64) 2 w16 w0.heap.size (fun k_=>((P1_2_ k_∨P1_3_ k_)∨w.heap.size≤k_)∧some k_≠(v198:Value).ownBlock) (.slice Ao9 l1_2.length co9) l1_2):=⟨h2_⟩
                  have n3_:Aside0 (Kd.R Kd.bool 4 w16 w0.heap.size (fun k_=>((P1_2_ k_∨P1_3_ k_)∨w.heap.size≤k_)) (.slice Ao10 l1_3.length co10) l1_3):=⟨h3_⟩
                  have n4_:Aside0 (w16.heap[gb190]?=some (.cells #[.int .i64 a0_0,.int .i64 a0_1,.int .i64 a0_2,.slice A0_3 l0_3.length c0_3,.int .i64 a0_4,.int .i64 a0_5,.bool a0_6,.int .i64 a0_7] 40 (0,0))):=⟨h4_⟩
                  have n5_:Aside0 (w16.heap[gb191]?=some (.cells #[.int .i64 a1_0,.int .i64 a1_1,.slice Ao9 l1_2.length co9,.slice Ao10 l1_3.length co10] 41 (0,0))):=⟨h5_⟩
                  have n6_:Aside0 (w16.heap[gb192]?=some (.cells #[.int .i64 0,.int .i64 0,.int .i64 0,.slice none 0 0,.int .i64 0,.int .i64 0,.bool false,.int .i64 0,.int .i64 0,.int .i64 0,.slice none 0 0,.slice none 0 0,.slice none 0 0,.int .i64 0,.int .i64 0,.slice none 0 0,.slice none 0 0,.int .i64 0,.int .i64 0] 44 (0,0))):=⟨h6_⟩
                  have n7_ : Aside0 (Kept w w16 (fun k_ => P1_2_ k_ ∨ P1_3_ k_)) := ⟨h7_⟩
                  have n8_ : Aside0 (Below w0.heap.size w0 w16) := ⟨h8_⟩
                  clear HO1_2
                  clear HO1_3
                  clear HO0_3
                  clear BK190
                  clear BK191
                  clear BK192
                  clear HK
                  clear HB
                  clear h0_ h1_ h2_ h3_ h4_ h5_ h6_ h7_ h8_
                  have HO0_3 := n0_
                  have HO199 := n1_
                  have HO1_2 := n2_
                  have HO1_3 := n3_
                  have BK190 := n4_
                  have BK191 := n5_
                  have BK192 := n6_
                  have HK := n7_
                  have HB := n8_
                  clear n0_ n1_ n2_ n3_ n4_ n5_ n6_ n7_ n8_
                  have hHeld:w16.cell? ⟨gb190,0,none⟩=some (.int .i64 a0_0)∧w16.cell? ⟨gb190,1,none⟩=some (.int .i64 a0_1)∧w16.cell? ⟨gb190,2,none⟩=some (.int .i64 a0_2)∧w16.cell? ⟨gb190,3,none⟩=some (.slice A0_3 l0_3.length c0_3)∧w16.cell? ⟨gb190,4,none⟩=some (.int .i64 a0_4)∧w16.cell? ⟨gb190,5,none⟩=some (.int .i64 a0_5)∧w16.cell? ⟨gb190,6,none⟩=some (.bool a0_6)∧w16.cell? ⟨gb190,7,none⟩=some (.int .i64 a0_7)∧w16.cell? ⟨gb191,0,none⟩=some (.int .i64 a1_0)∧w16.cell? ⟨gb191,1,none⟩=some (.int .i64 a1_1)∧w16.cell? ⟨gb191,2,none⟩=some (.slice Ao9 l1_2.length co9)∧w16.cell? ⟨gb191,3,none⟩=some (.slice Ao10 l1_3.length co10):=hS_
                  refine norm_ (a' := ?_) ?_ ?_
                  rotate_left
                  · simp only [putAll,Act.put,List.setIfInBounds_toArray,List.set_cons_zero,List.set_cons_succ]
                    rfl
                  refine two_ (i:=5) (j:=10) (Ni:=some 14) (Nj:=some 19) #[true,true,true,true,true,true,true,true,true,true,false,true,true,false,false] #[true,true,true,true,true,false,true,true,true,true,true,true,true,false,false] rfl rfl rfl rfl (two_of HT_.out (by kernel_rfl)) (by decide) (by decide) (fun K hK=>?_) (fun K hK=>?_)
                  · skip
                    refine goes_ Try.func173 (by kernel_rfl) rfl #[.int .i64 (l1_2.length:Int)] (by rfl) rfl rfl (by (try simp only [List.map_toArray,List.map_cons,List.map_nil]);first|done|rfl|(simp only [List.length_drop,List.length_take];rfl)) ?_
                    with_reducible refine (spec_l13New.calls (l1_2.length:Int) t193 t196 _ A5.out).mono ?_
                    rintro e w17 ⟨v194, rfl, ho0, hb⟩
                    refine ⟨_, rfl, ?_⟩
                    have n0_:=mk5_ (Kd.R_elder' (by (with_reducible repeat (first|apply rA5_|apply Kd.R_drewN|apply rD5_));exact HO1_2.out) (Kd.R_base ho0) hb)
                    have n1_:=mk5_ (Kd.R_below (by (with_reducible repeat (first|apply rA5_|apply Kd.R_drewN|apply rD5_));exact HO1_3.out) hb)
                    have n2_:=mk5_ (Kd.V_elder' (by (with_reducible repeat (first|apply Kd.V_alloc|apply Kd.V_drewN|apply Kd.V_drew));exact HO0_3.out) (Kd.R_base ho0) hb)
                    have n3_:=mk5_ (Kd.R_elder' (by (with_reducible repeat (first|apply rA5_|apply Kd.R_drewN|apply rD5_));exact HO199.out) (Kd.R_base ho0) hb)
                    have n4_:=mk5_ (Kd.R_lower (Kd.R_new' (Kd.R_new' (Kd.R_newM (M:=fun k_=>((P1_2_ k_∨P1_3_ k_)∨w.heap.size≤k_)) ho0 (by first|exact HK.out.1|exact (show Kept w _ (fun k_=>P1_2_ k_∨P1_3_ k_) from by repeat (first|(with_reducible first|exact HK.out|apply Kept.alloc|apply Kept.drewN|apply Kept.drew|refine Kept.setCell ?_ (.inr GW190.out) _|refine Kept.setCell ?_ (.inr GW191.out) _|refine Kept.setCell ?_ (.inr GW192.out) _)|exact HK.out)).1) (fun k_ h_=>.inr h_)) (Kd.R_lt (by (with_reducible repeat (first|apply rA5_|apply Kd.R_drewN|apply rD5_));exact HO1_2.out))) (Kd.R_lt (by (with_reducible repeat (first|apply rA5_|apply Kd.R_drewN|apply rD5_));exact HO199.out))) (bZ5_ (by repeat (first|(with_reducible first|exact HB.out|apply bA5_|apply bN5_|apply bD5_|refine bS5_ ?_ GE190.out|refine bS5_ ?_ GE191.out|refine bS5_ ?_ GE192.out)|exact HB.out))))
                    have n5_:=mk5_ (blk_below (g:=gb190) (o:=.cells #[.int .i64 a0_0,.int .i64 a0_1,.int .i64 a0_2,.slice A0_3 l0_3.length c0_3,.int .i64 a0_4,.int .i64 a0_5,.bool a0_6,.int .i64 a0_7] 40 (0,0)) (by (with_reducible repeat (first|refine kN5_ ?_ _|refine kD5_ ?_|refine kA5_ ?_ _));exact BK190.out) hb)
                    have n6_:=mk5_ (blk_below (g:=gb191) (o:=.cells #[.int .i64 a1_0,.int .i64 a1_1,.slice Ao9 l1_2.length co9,.slice Ao10 l1_3.length co10] 41 (0,0)) (by (with_reducible repeat (first|refine kN5_ ?_ _|refine kD5_ ?_|refine kA5_ ?_ _));exact BK191.out) hb)
                    have n7_:=mk5_ (blk_below (g:=gb192) (o:=.cells #[.int .i64 0,.int .i64 0,.int .i64 0,.slice none 0 0,.int .i64 0,.int .i64 0,.bool false,.int .i64 0,.int .i64 0,.int .i64 0,.slice none 0 0,.slice none 0 0,.slice none 0 0,.int .i64 0,.int .i64 0,.slice none 0 0,.slice none 0 0,.int .i64 0,.int .i64 0] 44 (0,0)) (by (with_reducible repeat (first|refine kN5_ ?_ _|refine kD5_ ?_|refine kA5_ ?_ _));exact BK192.out) hb)
                    have n8_:=mk5_ (Kept.below (S:=(fun k_=>P1_2_ k_∨P1_3_ k_)) (by repeat (first|(with_reducible first|exact HK.out|apply Kept.alloc|apply Kept.drewN|apply Kept.drew|refine Kept.setCell ?_ (.inr GW190.out) _|refine Kept.setCell ?_ (.inr GW191.out) _|refine Kept.setCell ?_ (.inr GW192.out) _)|exact HK.out)) hb)
                    have n9_:=mk5_ (bT5_ (by repeat (first|(with_reducible first|exact HB.out|apply bA5_|apply bN5_|apply bD5_|refine bS5_ ?_ GE190.out|refine bS5_ ?_ GE191.out|refine bS5_ ?_ GE192.out)|exact HB.out)) hb)
                    clear HO1_2
                    clear HO1_3
                    clear HO0_3
                    clear HO199
                    clear BK190
                    clear BK191
                    clear BK192
                    clear HK
                    clear HB
                    have HO1_2 := n0_
                    have HO1_3 := n1_
                    have HO0_3 := n2_
                    have HO199 := n3_
                    have HO195 := n4_
                    have BK190 := n5_
                    have BK191 := n6_
                    have BK192 := n7_
                    have HK := n8_
                    have HB := n9_
                    clear n0_ n1_ n2_ n3_ n4_ n5_ n6_ n7_ n8_ n9_
                    (try clear hb)
                    (try clear hb2)
                    (try clear hk)
                    (try clear hi)
                    (try clear ho0)
                    refine hK.out _ _ ⟨(blk_cell BK190.out 0).trans rfl,(blk_cell BK190.out 1).trans rfl,(blk_cell BK190.out 2).trans rfl,(blk_cell BK190.out 3).trans rfl,(blk_cell BK190.out 4).trans rfl,(blk_cell BK190.out 5).trans rfl,(blk_cell BK190.out 6).trans rfl,(blk_cell BK190.out 7).trans rfl,(blk_cell BK191.out 0).trans rfl,(blk_cell BK191.out 1).trans rfl,(blk_cell BK191.out 2).trans rfl,(blk_cell BK191.out 3).trans rfl⟩ (fun hHeld=>?_)
                    clear hK K
                    refine norm_ (a' := ?_) ?_ ?_
                    rotate_left
                    · show Act.put _ (some 14) _ = _
                      simp only [Act.put,List.setIfInBounds_toArray,List.set_cons_zero,List.set_cons_succ,i64_w,i32_w]
                      rfl
                    exact norm_ (by first|(simp only [putAll,Act.put,List.setIfInBounds_toArray,List.set_cons_zero,List.set_cons_succ];done)|(simp only [putAll,Act.put,List.setIfInBounds_toArray,List.set_cons_zero,List.set_cons_succ];rfl)) (hJ5_6 (v194,v198) _ ⟨hHeld,(by (with_reducible repeat (first|apply Kd.V_alloc|apply Kd.V_drewN|apply Kd.V_drew));exact Kd.V_mono HO0_3.out (fun _ hk=>⟨hk.1.1,⟨hk.2,⟨hk.1.2.1,⟨hk.1.2.2.1,⟨hk.1.2.2.2.1,⟨hk.1.2.2.2.2.1,⟨hk.1.2.2.2.2.2.1,hk.1.2.2.2.2.2.2⟩⟩⟩⟩⟩⟩⟩)),(by (with_reducible repeat (first|apply rA5_|apply Kd.R_drewN|apply rD5_));exact Kd.R_mono HO195.out (fun _ hk=>⟨hk.1.1.1,⟨hk.2,hk.1.2⟩⟩)),(by (with_reducible repeat (first|apply rA5_|apply Kd.R_drewN|apply rD5_));exact Kd.R_mono HO199.out (fun _ hk=>⟨hk.1.1,⟨hk.2,hk.1.2⟩⟩)),(by (with_reducible repeat (first|apply rA5_|apply Kd.R_drewN|apply rD5_));exact Kd.R_mono HO1_2.out (fun _ hk=>⟨hk.1.1,⟨hk.2,hk.1.2⟩⟩)),(by (with_reducible repeat (first|apply rA5_|apply Kd.R_drewN|apply rD5_));exact HO1_3.out),(by (with_reducible repeat (first|refine kN5_ ?_ _|refine kD5_ ?_|refine kA5_ ?_ _));exact BK190.out),(by (with_reducible repeat (first|refine kN5_ ?_ _|refine kD5_ ?_|refine kA5_ ?_ _));exact BK191.out),(by (with_reducible repeat (first|refine kN5_ ?_ _|refine kD5_ ?_|refine kA5_ ?_ _));exact BK192.out),(by repeat (first|(with_reducible first|exact HK.out|apply Kept.alloc|apply Kept.drewN|apply Kept.drew|refine Kept.setCell ?_ (.inr GW190.out) _|refine Kept.setCell ?_ (.inr GW191.out) _|refine Kept.setCell ?_ (.inr GW192.out) _)|exact HK.out)),(by repeat (first|(with_reducible first|exact HB.out|apply bA5_|apply bN5_|apply bD5_|refine bS5_ ?_ GE190.out|refine bS5_ ?_ GE191.out|refine bS5_ ?_ GE192.out)|exact HB.out))⟩)
                  · skip
                    refine Kd.R_make_step (Kd.int .i64) _ 2 (by rfl) (N:=19) rfl 27 _ _ rfl (l0_3.length:Int) rfl rfl Try.underlying27 (.int .i64 0) 8 info2 rfl (by decide) (by omega) 0 (ok:=fun _=>True) (okp:=fun _=>True) rfl (fun _ hk=>hk) trivial (of_decide_eq_true (by first|(with_reducible assumption)|assumption)) (Nat.le_trans (Nat.mul_le_mul_right _ (of_decide_eq_true (by first|(with_reducible assumption)|assumption):(l0_3.length:Int).toNat≤35184372088832)) (by omega)) (Below.refl _ _) (Nat.le_refl _) ?_
                    intro v201 w17 ho18 hb hg_ hnew_
                    clear hg_ hnew_
                    (first|rw [← Ny200.out] at ho18|(simp only [Int.reduceToNat] at ho18;rw [← Ny200.out] at ho18))
                    have n0_:=mk5_ (Kd.R_elder' (by (with_reducible repeat (first|apply rA5_|apply Kd.R_drewN|apply rD5_));exact HO1_2.out) (Kd.R_base ho18) hb)
                    have n1_:=mk5_ (Kd.R_below (by (with_reducible repeat (first|apply rA5_|apply Kd.R_drewN|apply rD5_));exact HO1_3.out) hb)
                    have n2_:=mk5_ (Kd.V_elder' (by (with_reducible repeat (first|apply Kd.V_alloc|apply Kd.V_drewN|apply Kd.V_drew));exact HO0_3.out) (Kd.R_base ho18) hb)
                    have n3_:=mk5_ (Kd.R_elder' (by (with_reducible repeat (first|apply rA5_|apply Kd.R_drewN|apply rD5_));exact HO199.out) (Kd.R_base ho18) hb)
                    have n4_:=mk5_ (Kd.R_lower (Kd.R_new' (Kd.R_new' (Kd.R_newM (M:=fun k_=>((P1_2_ k_∨P1_3_ k_)∨w.heap.size≤k_)) ho18 (by first|exact HK.out.1|exact (show Kept w _ (fun k_=>P1_2_ k_∨P1_3_ k_) from by repeat (first|(with_reducible first|exact HK.out|apply Kept.alloc|apply Kept.drewN|apply Kept.drew|refine Kept.setCell ?_ (.inr GW190.out) _|refine Kept.setCell ?_ (.inr GW191.out) _|refine Kept.setCell ?_ (.inr GW192.out) _)|exact HK.out)).1) (fun k_ h_=>.inr h_)) (Kd.R_lt (by (with_reducible repeat (first|apply rA5_|apply Kd.R_drewN|apply rD5_));exact HO1_2.out))) (Kd.R_lt (by (with_reducible repeat (first|apply rA5_|apply Kd.R_drewN|apply rD5_));exact HO199.out))) (bZ5_ (by repeat (first|(with_reducible first|exact HB.out|apply bA5_|apply bN5_|apply bD5_|refine bS5_ ?_ GE190.out|refine bS5_ ?_ GE191.out|refine bS5_ ?_ GE192.out)|exact HB.out))))
                    have n5_:=mk5_ (blk_below (g:=gb190) (o:=.cells #[.int .i64 a0_0,.int .i64 a0_1,.int .i64 a0_2,.slice A0_3 l0_3.length c0_3,.int .i64 a0_4,.int .i64 a0_5,.bool a0_6,.int .i64 a0_7] 40 (0,0)) (by (with_reducible repeat (first|refine kN5_ ?_ _|refine kD5_ ?_|refine kA5_ ?_ _));exact BK190.out) hb)
                    have n6_:=mk5_ (blk_below (g:=gb191) (o:=.cells #[.int .i64 a1_0,.int .i64 a1_1,.slice Ao9 l1_2.length co9,.slice Ao10 l1_3.length co10] 41 (0,0)) (by (with_reducible repeat (first|refine kN5_ ?_ _|refine kD5_ ?_|refine kA5_ ?_ _));exact BK191.out) hb)
                    have n7_:=mk5_ (blk_below (g:=gb192) (o:=.cells #[.int .i64 0,.int .i64 0,.int .i64 0,.slice none 0 0,.int .i64 0,.int .i64 0,.bool false,.int .i64 0,.int .i64 0,.int .i64 0,.slice none 0 0,.slice none 0 0,.slice none 0 0,.int .i64 0,.int .i64 0,.slice none 0 0,.slice none 0 0,.int .i64 0,.int .i64 0] 44 (0,0)) (by (with_reducible repeat (first|refine kN5_ ?_ _|refine kD5_ ?_|refine kA5_ ?_ _));exact BK192.out) hb)
                    have n8_:=mk5_ (Kept.below (S:=(fun k_=>P1_2_ k_∨P1_3_ k_)) (by repeat (first|(with_reducible first|exact HK.out|apply Kept.alloc|apply Kept.drewN|apply Kept.drew|refine Kept.setCell ?_ (.inr GW190.out) _|refine Kept.setCell ?_ (.inr GW191.out) _|refine Kept.setCell ?_ (.inr GW192.out) _)|exact HK.out)) hb)
                    have n9_:=mk5_ (bT5_ (by repeat (first|(with_reducible first|exact HB.out|apply bA5_|apply bN5_|apply bD5_|refine bS5_ ?_ GE190.out|refine bS5_ ?_ GE191.out|refine bS5_ ?_ GE192.out)|exact HB.out)) hb)
                    clear HO1_2
                    clear HO1_3
                    clear HO0_3
                    clear HO199
                    clear BK190
                    clear BK191
                    clear BK192
                    clear HK
                    clear HB
                    have HO1_2 := n0_
                    have HO1_3 := n1_
                    have HO0_3 := n2_
                    have HO199 := n3_
                    have HO202 := n4_
                    have BK190 := n5_
                    have BK191 := n6_
                    have BK192 := n7_
                    have HK := n8_
                    have HB := n9_
                    clear n0_ n1_ n2_ n3_ n4_ n5_ n6_ n7_ n8_ n9_
                    clear hb ho18
                    refine hK.out _ _ ⟨(blk_cell BK190.out 0).trans rfl,(blk_cell BK190.out 1).trans rfl,(blk_cell BK190.out 2).trans rfl,(blk_cell BK190.out 3).trans rfl,(blk_cell BK190.out 4).trans rfl,(blk_cell BK190.out 5).trans rfl,(blk_cell BK190.out 6).trans rfl,(blk_cell BK190.out 7).trans rfl,(blk_cell BK191.out 0).trans rfl,(blk_cell BK191.out 1).trans rfl,(blk_cell BK191.out 2).trans rfl,(blk_cell BK191.out 3).trans rfl⟩ (fun hHeld=>?_)
                    clear hK K
                    refine norm_ (a' := ?_) ?_ ?_
                    rotate_left
                    · show Act.put _ (some 19) _ = _
                      simp only [Act.put,List.setIfInBounds_toArray,List.set_cons_zero,List.set_cons_succ,i64_w,i32_w]
                      rfl
                    exact norm_ (by first|(simp only [putAll,Act.put,List.setIfInBounds_toArray,List.set_cons_zero,List.set_cons_succ];done)|(simp only [putAll,Act.put,List.setIfInBounds_toArray,List.set_cons_zero,List.set_cons_succ];rfl)) (hJ6_10 (v198,v201) _ ⟨hHeld,(by (with_reducible repeat (first|apply Kd.V_alloc|apply Kd.V_drewN|apply Kd.V_drew));exact Kd.V_mono HO0_3.out (fun _ hk=>⟨hk.1.1,⟨hk.1.2.1,⟨hk.1.2.2.1,⟨hk.1.2.2.2.1,⟨hk.2,⟨hk.1.2.2.2.2.1,⟨hk.1.2.2.2.2.2.1,hk.1.2.2.2.2.2.2⟩⟩⟩⟩⟩⟩⟩)),(by (with_reducible repeat (first|apply rA5_|apply Kd.R_drewN|apply rD5_));exact Kd.R_mono HO199.out (fun _ hk=>⟨hk.1.1,⟨hk.1.2,hk.2⟩⟩)),(by (with_reducible repeat (first|apply rA5_|apply Kd.R_drewN|apply rD5_));exact Kd.R_mono HO1_2.out (fun _ hk=>⟨hk.1.1,⟨hk.1.2,hk.2⟩⟩)),(by (with_reducible repeat (first|apply rA5_|apply Kd.R_drewN|apply rD5_));exact HO1_3.out),(by (with_reducible repeat (first|apply rA5_|apply Kd.R_drewN|apply rD5_));exact Kd.R_mono HO202.out (fun _ hk=>⟨hk.1.1.1,⟨hk.2,hk.1.2⟩⟩)),(by (with_reducible repeat (first|refine kN5_ ?_ _|refine kD5_ ?_|refine kA5_ ?_ _));exact BK190.out),(by (with_reducible repeat (first|refine kN5_ ?_ _|refine kD5_ ?_|refine kA5_ ?_ _));exact BK191.out),(by (with_reducible repeat (first|refine kN5_ ?_ _|refine kD5_ ?_|refine kA5_ ?_ _));exact BK192.out),(by repeat (first|(with_reducible first|exact HK.out|apply Kept.alloc|apply Kept.drewN|apply Kept.drew|refine Kept.setCell ?_ (.inr GW190.out) _|refine Kept.setCell ?_ (.inr GW191.out) _|refine Kept.setCell ?_ (.inr GW192.out) _)|exact HK.out)),(by repeat (first|(with_reducible first|exact HB.out|apply bA5_|apply bN5_|apply bD5_|refine bS5_ ?_ GE190.out|refine bS5_ ?_ GE191.out|refine bS5_ ?_ GE192.out)|exact HB.out))⟩)
              · skip
                rintro v194 w15 ⟨hS_, h0_, h1_, h2_, h3_, h4_, h5_, h6_, h7_, h8_⟩
                have n0_:Aside0 (Kd.V k120 120 w15 w0.heap.size (fun k_=>((P1_2_ k_∨P1_3_ k_∨P0_3_ k_)∨w.heap.size≤k_)∧some k_≠(v194:Value).ownBlock∧some k_≠(.slice Ao9 l1_2.length co9:Value).ownBlock∧some k_≠(.slice Ao10 l1_3.length co10:Value).ownBlock∧k_≠gb190∧k_≠gb191∧k_≠gb192) (.slice A0_3 l0_3.length c0_3) l0_3):=⟨h0_⟩
                have n1_:Aside0 (Kd.R (Kd.int .i64) 2 w15 w0.heap.size (fun k_=>((P1_2_ k_∨P1_3_ k_)∨w.heap.size≤k_)∧some k_≠(.slice Ao9 l1_2.length co9:Value).ownBlock) v194 t193):=⟨h1_⟩
                have n2_:Aside0 (Kd.R (Kd.int .i64) 2 w15 w0.heap.size (fun k_=>((P1_2_ k_∨P1_3_ k_)∨w.heap.size≤k_)∧some k_≠(v194:Value).ownBlock) (.slice Ao9 l1_2.length co9) l1_2):=⟨h2_⟩
                have n3_:Aside0 (Kd.R Kd.bool 4 w15 w0.heap.size (fun k_=>((P1_2_ k_∨P1_3_ k_)∨w.heap.size≤k_)) (.slice Ao10 l1_3.length co10) l1_3):=⟨h3_⟩
                have n4_:Aside0 (w15.heap[gb190]?=some (.cells #[.int .i64 a0_0,.int .i64 a0_1,.int .i64 a0_2,.slice A0_3 l0_3.length c0_3,.int .i64 a0_4,.int .i64 a0_5,.bool a0_6,.int .i64 a0_7] 40 (0,0))):=⟨h4_⟩
                have n5_:Aside0 (w15.heap[gb191]?=some (.cells #[.int .i64 a1_0,.int .i64 a1_1,.slice Ao9 l1_2.length co9,.slice Ao10 l1_3.length co10] 41 (0,0))):=⟨h5_⟩
                have n6_:Aside0 (w15.heap[gb192]?=some (.cells #[.int .i64 0,.int .i64 0,.int .i64 0,.slice none 0 0,.int .i64 0,.int .i64 0,.bool false,.int .i64 0,.int .i64 0,.int .i64 0,.slice none 0 0,.slice none 0 0,.slice none 0 0,.int .i64 0,.int .i64 0,.slice none 0 0,.slice none 0 0,.int .i64 0,.int .i64 0] 44 (0,0))):=⟨h6_⟩
                have n7_ : Aside0 (Kept w w15 (fun k_ => P1_2_ k_ ∨ P1_3_ k_)) := ⟨h7_⟩
                have n8_ : Aside0 (Below w0.heap.size w0 w15) := ⟨h8_⟩
                clear HO1_2
                clear HO1_3
                clear HO0_3
                clear BK190
                clear BK191
                clear BK192
                clear HK
                clear HB
                clear h0_ h1_ h2_ h3_ h4_ h5_ h6_ h7_ h8_
                have HO0_3 := n0_
                have HO195 := n1_
                have HO1_2 := n2_
                have HO1_3 := n3_
                have BK190 := n4_
                have BK191 := n5_
                have BK192 := n6_
                have HK := n7_
                have HB := n8_
                clear n0_ n1_ n2_ n3_ n4_ n5_ n6_ n7_ n8_
                have hHeld:w15.cell? ⟨gb190,0,none⟩=some (.int .i64 a0_0)∧w15.cell? ⟨gb190,1,none⟩=some (.int .i64 a0_1)∧w15.cell? ⟨gb190,2,none⟩=some (.int .i64 a0_2)∧w15.cell? ⟨gb190,3,none⟩=some (.slice A0_3 l0_3.length c0_3)∧w15.cell? ⟨gb190,4,none⟩=some (.int .i64 a0_4)∧w15.cell? ⟨gb190,5,none⟩=some (.int .i64 a0_5)∧w15.cell? ⟨gb190,6,none⟩=some (.bool a0_6)∧w15.cell? ⟨gb190,7,none⟩=some (.int .i64 a0_7)∧w15.cell? ⟨gb191,0,none⟩=some (.int .i64 a1_0)∧w15.cell? ⟨gb191,1,none⟩=some (.int .i64 a1_1)∧w15.cell? ⟨gb191,2,none⟩=some (.slice Ao9 l1_2.length co9)∧w15.cell? ⟨gb191,3,none⟩=some (.slice Ao10 l1_3.length co10):=hS_
                refine norm_ (a' := ?_) ?_ ?_
                rotate_left
                · simp only [putAll,Act.put,List.setIfInBounds_toArray,List.set_cons_zero,List.set_cons_succ]
                  rfl
                refine two_ (i:=6) (j:=10) (Ni:=some 15) (Nj:=some 19) #[true,true,true,true,true,true,true,true,true,true,false,true,true,false,false] #[true,true,true,true,true,true,false,true,true,true,true,true,true,false,false] rfl rfl rfl rfl (two_of HT_.out (by kernel_rfl)) (by decide) (by decide) (fun K hK=>?_) (fun K hK=>?_)
                · skip
                  refine Kd.R_lit_step (Kd.int .i64) _ 2 ?hg (N:=15) ?hd (xs:=([(-1),(-1)]:List Int)) (inner:=[.int .i64 (-1),.int .i64 (-1)]) (ok:=fun _=>True) (okp:=fun _=>True) ?hr ?hp (fun _ hk=>hk) trivial (Below.refl _ _) (Nat.le_refl _) (by simp) ?_;(case hd=>rfl);(case hg=>rfl);(case hr=>first|(go_simp;done)|(go_simp;rfl));(case hp=>exact (Reps.one (show Kd.M (Kd.int .i64) _ _ _ (-1) [.int .i64 (-1)] from rfl) (Reps.one (show Kd.M (Kd.int .i64) _ _ _ (-1) [.int .i64 (-1)] from rfl) (Reps.none _ _))))
                  intro v198 w16 ho17 hb hg_ hnew_
                  clear hg_ hnew_
                  (first|rw [← Ny197.out] at ho17|(simp only [Int.reduceToNat] at ho17;rw [← Ny197.out] at ho17))
                  have n0_:=mk5_ (Kd.R_elder' (by (with_reducible repeat (first|apply rA5_|apply Kd.R_drewN|apply rD5_));exact HO1_2.out) (Kd.R_base ho17) hb)
                  have n1_:=mk5_ (Kd.R_below (by (with_reducible repeat (first|apply rA5_|apply Kd.R_drewN|apply rD5_));exact HO1_3.out) hb)
                  have n2_:=mk5_ (Kd.V_elder' (by (with_reducible repeat (first|apply Kd.V_alloc|apply Kd.V_drewN|apply Kd.V_drew));exact HO0_3.out) (Kd.R_base ho17) hb)
                  have n3_:=mk5_ (Kd.R_elder' (by (with_reducible repeat (first|apply rA5_|apply Kd.R_drewN|apply rD5_));exact HO195.out) (Kd.R_base ho17) hb)
                  have n4_:=mk5_ (Kd.R_lower (Kd.R_new' (Kd.R_new' (Kd.R_newM (M:=fun k_=>((P1_2_ k_∨P1_3_ k_)∨w.heap.size≤k_)) ho17 (by first|exact HK.out.1|exact (show Kept w _ (fun k_=>P1_2_ k_∨P1_3_ k_) from by repeat (first|(with_reducible first|exact HK.out|apply Kept.alloc|apply Kept.drewN|apply Kept.drew|refine Kept.setCell ?_ (.inr GW190.out) _|refine Kept.setCell ?_ (.inr GW191.out) _|refine Kept.setCell ?_ (.inr GW192.out) _)|exact HK.out)).1) (fun k_ h_=>.inr h_)) (Kd.R_lt (by (with_reducible repeat (first|apply rA5_|apply Kd.R_drewN|apply rD5_));exact HO1_2.out))) (Kd.R_lt (by (with_reducible repeat (first|apply rA5_|apply Kd.R_drewN|apply rD5_));exact HO195.out))) (bZ5_ (by repeat (first|(with_reducible first|exact HB.out|apply bA5_|apply bN5_|apply bD5_|refine bS5_ ?_ GE190.out|refine bS5_ ?_ GE191.out|refine bS5_ ?_ GE192.out)|exact HB.out))))
                  have n5_:=mk5_ (blk_below (g:=gb190) (o:=.cells #[.int .i64 a0_0,.int .i64 a0_1,.int .i64 a0_2,.slice A0_3 l0_3.length c0_3,.int .i64 a0_4,.int .i64 a0_5,.bool a0_6,.int .i64 a0_7] 40 (0,0)) (by (with_reducible repeat (first|refine kN5_ ?_ _|refine kD5_ ?_|refine kA5_ ?_ _));exact BK190.out) hb)
                  have n6_:=mk5_ (blk_below (g:=gb191) (o:=.cells #[.int .i64 a1_0,.int .i64 a1_1,.slice Ao9 l1_2.length co9,.slice Ao10 l1_3.length co10] 41 (0,0)) (by (with_reducible repeat (first|refine kN5_ ?_ _|refine kD5_ ?_|refine kA5_ ?_ _));exact BK191.out) hb)
                  have n7_:=mk5_ (blk_below (g:=gb192) (o:=.cells #[.int .i64 0,.int .i64 0,.int .i64 0,.slice none 0 0,.int .i64 0,.int .i64 0,.bool false,.int .i64 0,.int .i64 0,.int .i64 0,.slice none 0 0,.slice none 0 0,.slice none 0 0,.int .i64 0,.int .i64 0,.slice none 0 0,.slice none 0 0,.int .i64 0,.int .i64 0] 44 (0,0)) (by (with_reducible repeat (first|refine kN5_ ?_ _|refine kD5_ ?_|refine kA5_ ?_ _));exact BK192.out) hb)
                  have n8_:=mk5_ (Kept.below (S:=(fun k_=>P1_2_ k_∨P1_3_ k_)) (by repeat (first|(with_reducible first|exact HK.out|apply Kept.alloc|apply Kept.drewN|apply Kept.drew|refine Kept.setCell ?_ (.inr GW190.out) _|refine Kept.setCell ?_ (.inr GW191.out) _|refine Kept.setCell ?_ (.inr GW192.out) _)|exact HK.out)) hb)
                  have n9_:=mk5_ (bT5_ (by repeat (first|(with_reducible first|exact HB.out|apply bA5_|apply bN5_|apply bD5_|refine bS5_ ?_ GE190.out|refine bS5_ ?_ GE191.out|refine bS5_ ?_ GE192.out)|exact HB.out)) hb)
                  clear HO1_2
                  clear HO1_3
                  clear HO0_3
                  clear HO195
                  clear BK190
                  clear BK191
                  clear BK192
                  clear HK
                  clear HB
                  have HO1_2 := n0_
                  have HO1_3 := n1_
                  have HO0_3 := n2_
                  have HO195 := n3_
                  have HO199 := n4_
                  have BK190 := n5_
                  have BK191 := n6_
                  have BK192 := n7_
                  have HK := n8_
                  have HB := n9_
                  clear n0_ n1_ n2_ n3_ n4_ n5_ n6_ n7_ n8_ n9_
                  clear hb ho17
                  refine hK.out _ _ ⟨(blk_cell BK190.out 0).trans rfl,(blk_cell BK190.out 1).trans rfl,(blk_cell BK190.out 2).trans rfl,(blk_cell BK190.out 3).trans rfl,(blk_cell BK190.out 4).trans rfl,(blk_cell BK190.out 5).trans rfl,(blk_cell BK190.out 6).trans rfl,(blk_cell BK190.out 7).trans rfl,(blk_cell BK191.out 0).trans rfl,(blk_cell BK191.out 1).trans rfl,(blk_cell BK191.out 2).trans rfl,(blk_cell BK191.out 3).trans rfl⟩ (fun hHeld=>?_)
                  clear hK K
                  refine norm_ (a' := ?_) ?_ ?_
                  rotate_left
                  · show Act.put _ (some 15) _ = _
                    simp only [Act.put,List.setIfInBounds_toArray,List.set_cons_zero,List.set_cons_succ,i64_w,i32_w]
                    rfl
                  exact norm_ (by first|(simp only [putAll,Act.put,List.setIfInBounds_toArray,List.set_cons_zero,List.set_cons_succ];done)|(simp only [putAll,Act.put,List.setIfInBounds_toArray,List.set_cons_zero,List.set_cons_succ];rfl)) (hJ5_6 (v194,v198) _ ⟨hHeld,(by (with_reducible repeat (first|apply Kd.V_alloc|apply Kd.V_drewN|apply Kd.V_drew));exact Kd.V_mono HO0_3.out (fun _ hk=>⟨hk.1.1,⟨hk.1.2.1,⟨hk.2,⟨hk.1.2.2.1,⟨hk.1.2.2.2.1,⟨hk.1.2.2.2.2.1,⟨hk.1.2.2.2.2.2.1,hk.1.2.2.2.2.2.2⟩⟩⟩⟩⟩⟩⟩)),(by (with_reducible repeat (first|apply rA5_|apply Kd.R_drewN|apply rD5_));exact Kd.R_mono HO195.out (fun _ hk=>⟨hk.1.1,⟨hk.2,hk.1.2⟩⟩)),(by (with_reducible repeat (first|apply rA5_|apply Kd.R_drewN|apply rD5_));exact Kd.R_mono HO199.out (fun _ hk=>⟨hk.1.1.1,⟨hk.2,hk.1.2⟩⟩)),(by (with_reducible repeat (first|apply rA5_|apply Kd.R_drewN|apply rD5_));exact Kd.R_mono HO1_2.out (fun _ hk=>⟨hk.1.1,⟨hk.1.2,hk.2⟩⟩)),(by (with_reducible repeat (first|apply rA5_|apply Kd.R_drewN|apply rD5_));exact HO1_3.out),(by (with_reducible repeat (first|refine kN5_ ?_ _|refine kD5_ ?_|refine kA5_ ?_ _));exact BK190.out),(by (with_reducible repeat (first|refine kN5_ ?_ _|refine kD5_ ?_|refine kA5_ ?_ _));exact BK191.out),(by (with_reducible repeat (first|refine kN5_ ?_ _|refine kD5_ ?_|refine kA5_ ?_ _));exact BK192.out),(by repeat (first|(with_reducible first|exact HK.out|apply Kept.alloc|apply Kept.drewN|apply Kept.drew|refine Kept.setCell ?_ (.inr GW190.out) _|refine Kept.setCell ?_ (.inr GW191.out) _|refine Kept.setCell ?_ (.inr GW192.out) _)|exact HK.out)),(by repeat (first|(with_reducible first|exact HB.out|apply bA5_|apply bN5_|apply bD5_|refine bS5_ ?_ GE190.out|refine bS5_ ?_ GE191.out|refine bS5_ ?_ GE192.out)|exact HB.out))⟩)
                · skip
                  refine Kd.R_make_step (Kd.int .i64) _ 2 (by rfl) (N:=19) rfl 27 _ _ rfl (l0_3.length:Int) rfl rfl Try.underlying27 (.int .i64 0) 8 info2 rfl (by decide) (by omega) 0 (ok:=fun _=>True) (okp:=fun _=>True) rfl (fun _ hk=>hk) trivial (of_decide_eq_true (by first|(with_reducible assumption)|assumption)) (Nat.le_trans (Nat.mul_le_mul_right _ (of_decide_eq_true (by first|(with_reducible assumption)|assumption):(l0_3.length:Int).toNat≤35184372088832)) (by omega)) (Below.refl _ _) (Nat.le_refl _) ?_
                  intro v201 w16 ho17 hb hg_ hnew_
                  clear hg_ hnew_
                  (first|rw [← Ny200.out] at ho17|(simp only [Int.reduceToNat] at ho17;rw [← Ny200.out] at ho17))
                  have n0_:=mk5_ (Kd.R_elder' (by (with_reducible repeat (first|apply rA5_|apply Kd.R_drewN|apply rD5_));exact HO1_2.out) (Kd.R_base ho17) hb)
                  have n1_:=mk5_ (Kd.R_below (by (with_reducible repeat (first|apply rA5_|apply Kd.R_drewN|apply rD5_));exact HO1_3.out) hb)
                  have n2_:=mk5_ (Kd.V_elder' (by (with_reducible repeat (first|apply Kd.V_alloc|apply Kd.V_drewN|apply Kd.V_drew));exact HO0_3.out) (Kd.R_base ho17) hb)
                  have n3_:=mk5_ (Kd.R_elder' (by (with_reducible repeat (first|apply rA5_|apply Kd.R_drewN|apply rD5_));exact HO195.out) (Kd.R_base ho17) hb)
                  have n4_:=mk5_ (Kd.R_lower (Kd.R_new' (Kd.R_new' (Kd.R_newM (M:=fun k_=>((P1_2_ k_∨P1_3_ k_)∨w.heap.size≤k_)) ho17 (by first|exact HK.out.1|exact (show Kept w _ (fun k_=>P1_2_ k_∨P1_3_ k_) from by repeat (first|(with_reducible first|exact HK.out|apply Kept.alloc|apply Kept.drewN|apply Kept.drew|refine Kept.setCell ?_ (.inr GW190.out) _|refine Kept.setCell ?_ (.inr GW191.out) _|refine Kept.setCell ?_ (.inr GW192.out) _)|exact HK.out)).1) (fun k_ h_=>.inr h_)) (Kd.R_lt (by (with_reducible repeat (first|apply rA5_|apply Kd.R_drewN|apply rD5_));exact HO1_2.out))) (Kd.R_lt (by (with_reducible repeat (first|apply rA5_|apply Kd.R_drewN|apply rD5_));exact HO195.out))) (bZ5_ (by repeat (first|(with_reducible first|exact HB.out|apply bA5_|apply bN5_|apply bD5_|refine bS5_ ?_ GE190.out|refine bS5_ ?_ GE191.out|refine bS5_ ?_ GE192.out)|exact HB.out))))
                  have n5_:=mk5_ (blk_below (g:=gb190) (o:=.cells #[.int .i64 a0_0,.int .i64 a0_1,.int .i64 a0_2,.slice A0_3 l0_3.length c0_3,.int .i64 a0_4,.int .i64 a0_5,.bool a0_6,.int .i64 a0_7] 40 (0,0)) (by (with_reducible repeat (first|refine kN5_ ?_ _|refine kD5_ ?_|refine kA5_ ?_ _));exact BK190.out) hb)
                  have n6_:=mk5_ (blk_below (g:=gb191) (o:=.cells #[.int .i64 a1_0,.int .i64 a1_1,.slice Ao9 l1_2.length co9,.slice Ao10 l1_3.length co10] 41 (0,0)) (by (with_reducible repeat (first|refine kN5_ ?_ _|refine kD5_ ?_|refine kA5_ ?_ _));exact BK191.out) hb)
                  have n7_:=mk5_ (blk_below (g:=gb192) (o:=.cells #[.int .i64 0,.int .i64 0,.int .i64 0,.slice none 0 0,.int .i64 0,.int .i64 0,.bool false,.int .i64 0,.int .i64 0,.int .i64 0,.slice none 0 0,.slice none 0 0,.slice none 0 0,.int .i64 0,.int .i64 0,.slice none 0 0,.slice none 0 0,.int .i64 0,.int .i64 0] 44 (0,0)) (by (with_reducible repeat (first|refine kN5_ ?_ _|refine kD5_ ?_|refine kA5_ ?_ _));exact BK192.out) hb)
                  have n8_:=mk5_ (Kept.below (S:=(fun k_=>P1_2_ k_∨P1_3_ k_)) (by repeat (first|(with_reducible first|exact HK.out|apply Kept.alloc|apply Kept.drewN|apply Kept.drew|refine Kept.setCell ?_ (.inr GW190.out) _|refine Kept.setCell ?_ (.inr GW191.out) _|refine Kept.setCell ?_ (.inr GW192.out) _)|exact HK.out)) hb)
                  have n9_:=mk5_ (bT5_ (by repeat (first|(with_reducible first|exact HB.out|apply bA5_|apply bN5_|apply bD5_|refine bS5_ ?_ GE190.out|refine bS5_ ?_ GE191.out|refine bS5_ ?_ GE192.out)|exact HB.out)) hb)
                  clear HO1_2
                  clear HO1_3
                  clear HO0_3
                  clear HO195
                  clear BK190
                  clear BK191
                  clear BK192
                  clear HK
                  clear HB
                  have HO1_2 := n0_
                  have HO1_3 := n1_
                  have HO0_3 := n2_
                  have HO195 := n3_
                  have HO202 := n4_
                  have BK190 := n5_
                  have BK191 := n6_
                  have BK192 := n7_
                  have HK := n8_
                  have HB := n9_
                  clear n0_ n1_ n2_ n3_ n4_ n5_ n6_ n7_ n8_ n9_
                  clear hb ho17
                  refine hK.out _ _ ⟨(blk_cell BK190.out 0).trans rfl,(blk_cell BK190.out 1).trans rfl,(blk_cell BK190.out 2).trans rfl,(blk_cell BK190.out 3).trans rfl,(blk_cell BK190.out 4).trans rfl,(blk_cell BK190.out 5).trans rfl,(blk_cell BK190.out 6).trans rfl,(blk_cell BK190.out 7).trans rfl,(blk_cell BK191.out 0).trans rfl,(blk_cell BK191.out 1).trans rfl,(blk_cell BK191.out 2).trans rfl,(blk_cell BK191.out 3).trans rfl⟩ (fun hHeld=>?_)
                  clear hK K
                  refine norm_ (a' := ?_) ?_ ?_
                  rotate_left
                  · show Act.put _ (some 19) _ = _
                    simp only [Act.put,List.setIfInBounds_toArray,List.set_cons_zero,List.set_cons_succ,i64_w,i32_w]
                    rfl
                  exact norm_ (by first|(simp only [putAll,Act.put,List.setIfInBounds_toArray,List.set_cons_zero,List.set_cons_succ];done)|(simp only [putAll,Act.put,List.setIfInBounds_toArray,List.set_cons_zero,List.set_cons_succ];rfl)) (hJ5_10 (v194,v201) _ ⟨hHeld,(by (with_reducible repeat (first|apply Kd.V_alloc|apply Kd.V_drewN|apply Kd.V_drew));exact Kd.V_mono HO0_3.out (fun _ hk=>⟨hk.1.1,⟨hk.1.2.1,⟨hk.1.2.2.1,⟨hk.1.2.2.2.1,⟨hk.2,⟨hk.1.2.2.2.2.1,⟨hk.1.2.2.2.2.2.1,hk.1.2.2.2.2.2.2⟩⟩⟩⟩⟩⟩⟩)),(by (with_reducible repeat (first|apply rA5_|apply Kd.R_drewN|apply rD5_));exact Kd.R_mono HO195.out (fun _ hk=>⟨hk.1.1,⟨hk.1.2,hk.2⟩⟩)),(by (with_reducible repeat (first|apply rA5_|apply Kd.R_drewN|apply rD5_));exact Kd.R_mono HO1_2.out (fun _ hk=>⟨hk.1.1,⟨hk.1.2,hk.2⟩⟩)),(by (with_reducible repeat (first|apply rA5_|apply Kd.R_drewN|apply rD5_));exact HO1_3.out),(by (with_reducible repeat (first|apply rA5_|apply Kd.R_drewN|apply rD5_));exact Kd.R_mono HO202.out (fun _ hk=>⟨hk.1.1.1,⟨hk.2,hk.1.2⟩⟩)),(by (with_reducible repeat (first|refine kN5_ ?_ _|refine kD5_ ?_|refine kA5_ ?_ _));exact BK190.out),(by (with_reducible repeat (first|refine kN5_ ?_ _|refine kD5_ ?_|refine kA5_ ?_ _));exact BK191.out),(by (with_reducible repeat (first|refine kN5_ ?_ _|refine kD5_ ?_|refine kA5_ ?_ _));exact BK192.out),(by repeat (first|(with_reducible first|exact HK.out|apply Kept.alloc|apply Kept.drewN|apply Kept.drew|refine Kept.setCell ?_ (.inr GW190.out) _|refine Kept.setCell ?_ (.inr GW191.out) _|refine Kept.setCell ?_ (.inr GW192.out) _)|exact HK.out)),(by repeat (first|(with_reducible first|exact HB.out|apply bA5_|apply bN5_|apply bD5_|refine bS5_ ?_ GE190.out|refine bS5_ ?_ GE191.out|refine bS5_ ?_ GE192.out)|exact HB.out))⟩)
            · skip
              rintro ⟨v198, v201⟩ w18 ⟨hS_, h0_, h1_, h2_, h3_, h4_, h5_, h6_, h7_, h8_, h9_⟩
              have n0_:Aside0 (Kd.V k120 120 w18 w0.heap.size (fun k_=>((P1_2_ k_∨P1_3_ k_∨P0_3_ k_)∨w.heap.size≤k_)∧some k_≠(v198:Value).ownBlock∧some k_≠(.slice Ao9 l1_2.length co9:Value).ownBlock∧some k_≠(.slice Ao10 l1_3.length co10:Value).ownBlock∧some k_≠(v201:Value).ownBlock∧k_≠gb190∧k_≠gb191∧k_≠gb192) (.slice A0_3 l0_3.length c0_3) l0_3):=⟨h0_⟩
              have n1_:Aside0 (Kd.R (Kd.int .i64) 2 w18 w0.heap.size (fun k_=>((P1_2_ k_∨P1_3_ k_)∨w.heap.size≤k_)∧some k_≠(.slice Ao9 l1_2.length co9:Value).ownBlock∧some k_≠(v201:Value).ownBlock) v198 y197):=⟨h1_⟩
              have n2_:Aside0 (Kd.R (Kd.int .i64) 2 w18 w0.heap.size (fun k_=>((P1_2_ k_∨P1_3_ k_)∨w.heap.size≤k_)∧some k_≠(v198:Value).ownBlock∧some k_≠(v201:Value).ownBlock) (.slice Ao9 l1_2.length co9) l1_2):=⟨h2_⟩
              have n3_:Aside0 (Kd.R Kd.bool 4 w18 w0.heap.size (fun k_=>((P1_2_ k_∨P1_3_ k_)∨w.heap.size≤k_)) (.slice Ao10 l1_3.length co10) l1_3):=⟨h3_⟩
              have n4_:Aside0 (Kd.R (Kd.int .i64) 2 w18 w0.heap.size (fun k_=>((P1_2_ k_∨P1_3_ k_)∨w.heap.size≤k_)∧some k_≠(v198:Value).ownBlock∧some k_≠(.slice Ao9 l1_2.length co9:Value).ownBlock) v201 y200):=⟨h4_⟩
              have n5_:Aside0 (w18.heap[gb190]?=some (.cells #[.int .i64 a0_0,.int .i64 a0_1,.int .i64 a0_2,.slice A0_3 l0_3.length c0_3,.int .i64 a0_4,.int .i64 a0_5,.bool a0_6,.int .i64 a0_7] 40 (0,0))):=⟨h5_⟩
              have n6_:Aside0 (w18.heap[gb191]?=some (.cells #[.int .i64 a1_0,.int .i64 a1_1,.slice Ao9 l1_2.length co9,.slice Ao10 l1_3.length co10] 41 (0,0))):=⟨h6_⟩
              have n7_:Aside0 (w18.heap[gb192]?=some (.cells #[.int .i64 0,.int .i64 0,.int .i64 0,.slice none 0 0,.int .i64 0,.int .i64 0,.bool false,.int .i64 0,.int .i64 0,.int .i64 0,.slice none 0 0,.slice none 0 0,.slice none 0 0,.int .i64 0,.int .i64 0,.slice none 0 0,.slice none 0 0,.int .i64 0,.int .i64 0] 44 (0,0))):=⟨h7_⟩
              have n8_ : Aside0 (Kept w w18 (fun k_ => P1_2_ k_ ∨ P1_3_ k_)) := ⟨h8_⟩
              have n9_ : Aside0 (Below w0.heap.size w0 w18) := ⟨h9_⟩
              clear HO1_2
              clear HO1_3
              clear HO0_3
              clear BK190
              clear BK191
              clear BK192
              clear HK
              clear HB
              clear h0_ h1_ h2_ h3_ h4_ h5_ h6_ h7_ h8_ h9_
              have HO0_3 := n0_
              have HO199 := n1_
              have HO1_2 := n2_
              have HO1_3 := n3_
              have HO202 := n4_
              have BK190 := n5_
              have BK191 := n6_
              have BK192 := n7_
              have HK := n8_
              have HB := n9_
              clear n0_ n1_ n2_ n3_ n4_ n5_ n6_ n7_ n8_ n9_
              have hHeld:w18.cell? ⟨gb190,0,none⟩=some (.int .i64 a0_0)∧w18.cell? ⟨gb190,1,none⟩=some (.int .i64 a0_1)∧w18.cell? ⟨gb190,2,none⟩=some (.int .i64 a0_2)∧w18.cell? ⟨gb190,3,none⟩=some (.slice A0_3 l0_3.length c0_3)∧w18.cell? ⟨gb190,4,none⟩=some (.int .i64 a0_4)∧w18.cell? ⟨gb190,5,none⟩=some (.int .i64 a0_5)∧w18.cell? ⟨gb190,6,none⟩=some (.bool a0_6)∧w18.cell? ⟨gb190,7,none⟩=some (.int .i64 a0_7)∧w18.cell? ⟨gb191,0,none⟩=some (.int .i64 a1_0)∧w18.cell? ⟨gb191,1,none⟩=some (.int .i64 a1_1)∧w18.cell? ⟨gb191,2,none⟩=some (.slice Ao9 l1_2.length co9)∧w18.cell? ⟨gb191,3,none⟩=some (.slice Ao10 l1_3.length co10):=hS_
              refine norm_ (a' := ?_) ?_ ?_
              rotate_left
              · simp only [putAll,Act.put,List.setIfInBounds_toArray,List.set_cons_zero,List.set_cons_succ]
                rfl
              refine one_ (i:=5) (N:=some 14) #[true,true,true,true,true,true,true,true,true,true,true,true,true,false,false] rfl rfl (one_of HT_.out (by kernel_rfl)) (by decide) (fun K hK=>?_)
              refine goes_ Try.func173 (by kernel_rfl) rfl #[.int .i64 (l1_2.length:Int)] (by rfl) rfl rfl (by (try simp only [List.map_toArray,List.map_cons,List.map_nil]);first|done|rfl|(simp only [List.length_drop,List.length_take];rfl)) ?_
              with_reducible refine (spec_l13New.calls (l1_2.length:Int) t193 t196 _ A5.out).mono ?_
              rintro e w19 ⟨v194, rfl, ho0, hb⟩
              refine ⟨_, rfl, ?_⟩
              have n0_:=mk5_ (Kd.R_elder' (by (with_reducible repeat (first|apply rA5_|apply Kd.R_drewN|apply rD5_));exact HO1_2.out) (Kd.R_base ho0) hb)
              have n1_:=mk5_ (Kd.R_below (by (with_reducible repeat (first|apply rA5_|apply Kd.R_drewN|apply rD5_));exact HO1_3.out) hb)
              have n2_:=mk5_ (Kd.V_elder' (by (with_reducible repeat (first|apply Kd.V_alloc|apply Kd.V_drewN|apply Kd.V_drew));exact HO0_3.out) (Kd.R_base ho0) hb)
              have n3_:=mk5_ (Kd.R_elder' (by (with_reducible repeat (first|apply rA5_|apply Kd.R_drewN|apply rD5_));exact HO199.out) (Kd.R_base ho0) hb)
              have n4_:=mk5_ (Kd.R_elder' (by (with_reducible repeat (first|apply rA5_|apply Kd.R_drewN|apply rD5_));exact HO202.out) (Kd.R_base ho0) hb)
              have n5_:=mk5_ (Kd.R_lower (Kd.R_new' (Kd.R_new' (Kd.R_new' (Kd.R_newM (M:=fun k_=>((P1_2_ k_∨P1_3_ k_)∨w.heap.size≤k_)) ho0 (by first|exact HK.out.1|exact (show Kept w _ (fun k_=>P1_2_ k_∨P1_3_ k_) from by repeat (first|(with_reducible first|exact HK.out|apply Kept.alloc|apply Kept.drewN|apply Kept.drew|refine Kept.setCell ?_ (.inr GW190.out) _|refine Kept.setCell ?_ (.inr GW191.out) _|refine Kept.setCell ?_ (.inr GW192.out) _)|exact HK.out)).1) (fun k_ h_=>.inr h_)) (Kd.R_lt (by (with_reducible repeat (first|apply rA5_|apply Kd.R_drewN|apply rD5_));exact HO1_2.out))) (Kd.R_lt (by (with_reducible repeat (first|apply rA5_|apply Kd.R_drewN|apply rD5_));exact HO199.out))) (Kd.R_lt (by (with_reducible repeat (first|apply rA5_|apply Kd.R_drewN|apply rD5_));exact HO202.out))) (bZ5_ (by repeat (first|(with_reducible first|exact HB.out|apply bA5_|apply bN5_|apply bD5_|refine bS5_ ?_ GE190.out|refine bS5_ ?_ GE191.out|refine bS5_ ?_ GE192.out)|exact HB.out))))
              have n6_:=mk5_ (blk_below (g:=gb190) (o:=.cells #[.int .i64 a0_0,.int .i64 a0_1,.int .i64 a0_2,.slice A0_3 l0_3.length c0_3,.int .i64 a0_4,.int .i64 a0_5,.bool a0_6,.int .i64 a0_7] 40 (0,0)) (by (with_reducible repeat (first|refine kN5_ ?_ _|refine kD5_ ?_|refine kA5_ ?_ _));exact BK190.out) hb)
              have n7_:=mk5_ (blk_below (g:=gb191) (o:=.cells #[.int .i64 a1_0,.int .i64 a1_1,.slice Ao9 l1_2.length co9,.slice Ao10 l1_3.length co10] 41 (0,0)) (by (with_reducible repeat (first|refine kN5_ ?_ _|refine kD5_ ?_|refine kA5_ ?_ _));exact BK191.out) hb)
              have n8_:=mk5_ (blk_below (g:=gb192) (o:=.cells #[.int .i64 0,.int .i64 0,.int .i64 0,.slice none 0 0,.int .i64 0,.int .i64 0,.bool false,.int .i64 0,.int .i64 0,.int .i64 0,.slice none 0 0,.slice none 0 0,.slice none 0 0,.int .i64 0,.int .i64 0,.slice none 0 0,.slice none 0 0,.int .i64 0,.int .i64 0] 44 (0,0)) (by (with_reducible repeat (first|refine kN5_ ?_ _|refine kD5_ ?_|refine kA5_ ?_ _));exact BK192.out) hb)
              have n9_:=mk5_ (Kept.below (S:=(fun k_=>P1_2_ k_∨P1_3_ k_)) (by repeat (first|(with_reducible first|exact HK.out|apply Kept.alloc|apply Kept.drewN|apply Kept.drew|refine Kept.setCell ?_ (.inr GW190.out) _|refine Kept.setCell ?_ (.inr GW191.out) _|refine Kept.setCell ?_ (.inr GW192.out) _)|exact HK.out)) hb)
              have n10_:=mk5_ (bT5_ (by repeat (first|(with_reducible first|exact HB.out|apply bA5_|apply bN5_|apply bD5_|refine bS5_ ?_ GE190.out|refine bS5_ ?_ GE191.out|refine bS5_ ?_ GE192.out)|exact HB.out)) hb)
              clear HO1_2
              clear HO1_3
              clear HO0_3
              clear HO199
              clear HO202
              clear BK190
              clear BK191
              clear BK192
              clear HK
              clear HB
              have HO1_2 := n0_
              have HO1_3 := n1_
              have HO0_3 := n2_
              have HO199 := n3_
              have HO202 := n4_
              have HO195 := n5_
              have BK190 := n6_
              have BK191 := n7_
              have BK192 := n8_
              have HK := n9_
              have HB := n10_
              clear n0_ n1_ n2_ n3_ n4_ n5_ n6_ n7_ n8_ n9_ n10_
              (try clear hb)
              (try clear hb2)
              (try clear hk)
              (try clear hi)
              (try clear ho0)
              obtain ⟨Ao20, co20, eo20⟩ := Kd.R_slice HO202.out
              (first|subst eo20|(injection eo20 with f1_ f2_ f3_;have f4_:=f1_.symm;have f5_:=f3_.symm;clear f1_ f2_ f3_;subst f4_;subst f5_))
              obtain ⟨Ao21, co21, eo21⟩ := Kd.R_slice HO199.out
              (first|subst eo21|(injection eo21 with f1_ f2_ f3_;have f4_:=f1_.symm;have f5_:=f3_.symm;clear f1_ f2_ f3_;subst f4_;subst f5_))
              obtain ⟨Ao22, co22, eo22⟩ := Kd.R_slice HO195.out
              (first|subst eo22|(injection eo22 with f1_ f2_ f3_;have f4_:=f1_.symm;have f5_:=f3_.symm;clear f1_ f2_ f3_;subst f4_;subst f5_))
              refine hK.out _ _ ⟨(blk_cell BK190.out 0).trans rfl,(blk_cell BK190.out 1).trans rfl,(blk_cell BK190.out 2).trans rfl,(blk_cell BK190.out 3).trans rfl,(blk_cell BK190.out 4).trans rfl,(blk_cell BK190.out 5).trans rfl,(blk_cell BK190.out 6).trans rfl,(blk_cell BK190.out 7).trans rfl,(blk_cell BK191.out 0).trans rfl,(blk_cell BK191.out 1).trans rfl,(blk_cell BK191.out 2).trans rfl,(blk_cell BK191.out 3).trans rfl⟩ (fun hHeld=>?_)
              clear hK K
              refine norm_ (a' := ?_) ?_ ?_
              rotate_left
              · show Act.put _ (some 14) _ = _
                simp only [Act.put,List.setIfInBounds_toArray,List.set_cons_zero,List.set_cons_succ,i64_w,i32_w]
                rfl
              exact norm_ (by first|(simp only [putAll,Act.put,List.setIfInBounds_toArray,List.set_cons_zero,List.set_cons_succ];done)|(simp only [putAll,Act.put,List.setIfInBounds_toArray,List.set_cons_zero,List.set_cons_succ];rfl)) (hJ5_6_10 (.slice Ao22 t193.length co22,.slice Ao21 y197.length co21,.slice Ao20 y200.length co20) _ ⟨hHeld,(by (with_reducible repeat (first|apply Kd.V_alloc|apply Kd.V_drewN|apply Kd.V_drew));exact Kd.V_mono HO0_3.out (fun _ hk=>⟨hk.1.1,⟨hk.2,⟨hk.1.2.1,⟨hk.1.2.2.1,⟨hk.1.2.2.2.1,⟨hk.1.2.2.2.2.1,⟨hk.1.2.2.2.2.2.1,⟨hk.1.2.2.2.2.2.2.1,hk.1.2.2.2.2.2.2.2⟩⟩⟩⟩⟩⟩⟩⟩)),(by (with_reducible repeat (first|apply rA5_|apply Kd.R_drewN|apply rD5_));exact Kd.R_mono HO195.out (fun _ hk=>⟨hk.1.1.1.1,⟨hk.1.2,⟨hk.1.1.2,hk.2⟩⟩⟩)),(by (with_reducible repeat (first|apply rA5_|apply Kd.R_drewN|apply rD5_));exact Kd.R_mono HO199.out (fun _ hk=>⟨hk.1.1,⟨hk.2,⟨hk.1.2.1,hk.1.2.2⟩⟩⟩)),(by (with_reducible repeat (first|apply rA5_|apply Kd.R_drewN|apply rD5_));exact Kd.R_mono HO1_2.out (fun _ hk=>⟨hk.1.1,⟨hk.2,⟨hk.1.2.1,hk.1.2.2⟩⟩⟩)),(by (with_reducible repeat (first|apply rA5_|apply Kd.R_drewN|apply rD5_));exact HO1_3.out),(by (with_reducible repeat (first|apply rA5_|apply Kd.R_drewN|apply rD5_));exact Kd.R_mono HO202.out (fun _ hk=>⟨hk.1.1,⟨hk.2,⟨hk.1.2.1,hk.1.2.2⟩⟩⟩)),(by (with_reducible repeat (first|refine kN5_ ?_ _|refine kD5_ ?_|refine kA5_ ?_ _));exact BK190.out),(by (with_reducible repeat (first|refine kN5_ ?_ _|refine kD5_ ?_|refine kA5_ ?_ _));exact BK191.out),(by (with_reducible repeat (first|refine kN5_ ?_ _|refine kD5_ ?_|refine kA5_ ?_ _));exact BK192.out),(by repeat (first|(with_reducible first|exact HK.out|apply Kept.alloc|apply Kept.drewN|apply Kept.drew|refine Kept.setCell ?_ (.inr GW190.out) _|refine Kept.setCell ?_ (.inr GW191.out) _|refine Kept.setCell ?_ (.inr GW192.out) _)|exact HK.out)),(by repeat (first|(with_reducible first|exact HB.out|apply bA5_|apply bN5_|apply bD5_|refine bS5_ ?_ GE190.out|refine bS5_ ?_ GE191.out|refine bS5_ ?_ GE192.out)|exact HB.out))⟩)
          · skip
            rintro ⟨v194, v201⟩ w17 ⟨hS_, h0_, h1_, h2_, h3_, h4_, h5_, h6_, h7_, h8_, h9_⟩
            have n0_:Aside0 (Kd.V k120 120 w17 w0.heap.size (fun k_=>((P1_2_ k_∨P1_3_ k_∨P0_3_ k_)∨w.heap.size≤k_)∧some k_≠(v194:Value).ownBlock∧some k_≠(.slice Ao9 l1_2.length co9:Value).ownBlock∧some k_≠(.slice Ao10 l1_3.length co10:Value).ownBlock∧some k_≠(v201:Value).ownBlock∧k_≠gb190∧k_≠gb191∧k_≠gb192) (.slice A0_3 l0_3.length c0_3) l0_3):=⟨h0_⟩
            have n1_:Aside0 (Kd.R (Kd.int .i64) 2 w17 w0.heap.size (fun k_=>((P1_2_ k_∨P1_3_ k_)∨w.heap.size≤k_)∧some k_≠(.slice Ao9 l1_2.length co9:Value).ownBlock∧some k_≠(v201:Value).ownBlock) v194 t193):=⟨h1_⟩
            have n2_:Aside0 (Kd.R (Kd.int .i64) 2 w17 w0.heap.size (fun k_=>((P1_2_ k_∨P1_3_ k_)∨w.heap.size≤k_)∧some k_≠(v194:Value).ownBlock∧some k_≠(v201:Value).ownBlock) (.slice Ao9 l1_2.length co9) l1_2):=⟨h2_⟩
            have n3_:Aside0 (Kd.R Kd.bool 4 w17 w0.heap.size (fun k_=>((P1_2_ k_∨P1_3_ k_)∨w.heap.size≤k_)) (.slice Ao10 l1_3.length co10) l1_3):=⟨h3_⟩
            have n4_:Aside0 (Kd.R (Kd.int .i64) 2 w17 w0.heap.size (fun k_=>((P1_2_ k_∨P1_3_ k_)∨w.heap.size≤k_)∧some k_≠(v194:Value).ownBlock∧some k_≠(.slice Ao9 l1_2.length co9:Value).ownBlock) v201 y200):=⟨h4_⟩
            have n5_:Aside0 (w17.heap[gb190]?=some (.cells #[.int .i64 a0_0,.int .i64 a0_1,.int .i64 a0_2,.slice A0_3 l0_3.length c0_3,.int .i64 a0_4,.int .i64 a0_5,.bool a0_6,.int .i64 a0_7] 40 (0,0))):=⟨h5_⟩
            have n6_:Aside0 (w17.heap[gb191]?=some (.cells #[.int .i64 a1_0,.int .i64 a1_1,.slice Ao9 l1_2.length co9,.slice Ao10 l1_3.length co10] 41 (0,0))):=⟨h6_⟩
            have n7_:Aside0 (w17.heap[gb192]?=some (.cells #[.int .i64 0,.int .i64 0,.int .i64 0,.slice none 0 0,.int .i64 0,.int .i64 0,.bool false,.int .i64 0,.int .i64 0,.int .i64 0,.slice none 0 0,.slice none 0 0,.slice none 0 0,.int .i64 0,.int .i64 0,.slice none 0 0,.slice none 0 0,.int .i64 0,.int .i64 0] 44 (0,0))):=⟨h7_⟩
            have n8_ : Aside0 (Kept w w17 (fun k_ => P1_2_ k_ ∨ P1_3_ k_)) := ⟨h8_⟩
            have n9_ : Aside0 (Below w0.heap.size w0 w17) := ⟨h9_⟩
            clear HO1_2
            clear HO1_3
            clear HO0_3
            clear BK190
            clear BK191
            clear BK192
            clear HK
            clear HB
            clear h0_ h1_ h2_ h3_ h4_ h5_ h6_ h7_ h8_ h9_
            have HO0_3 := n0_
            have HO195 := n1_
            have HO1_2 := n2_
            have HO1_3 := n3_
            have HO202 := n4_
            have BK190 := n5_
            have BK191 := n6_
            have BK192 := n7_
            have HK := n8_
            have HB := n9_
            clear n0_ n1_ n2_ n3_ n4_ n5_ n6_ n7_ n8_ n9_
            have hHeld:w17.cell? ⟨gb190,0,none⟩=some (.int .i64 a0_0)∧w17.cell? ⟨gb190,1,none⟩=some (.int .i64 a0_1)∧w17.cell? ⟨gb190,2,none⟩=some (.int .i64 a0_2)∧w17.cell? ⟨gb190,3,none⟩=some (.slice A0_3 l0_3.length c0_3)∧w17.cell? ⟨gb190,4,none⟩=some (.int .i64 a0_4)∧w17.cell? ⟨gb190,5,none⟩=some (.int .i64 a0_5)∧w17.cell? ⟨gb190,6,none⟩=some (.bool a0_6)∧w17.cell? ⟨gb190,7,none⟩=some (.int .i64 a0_7)∧w17.cell? ⟨gb191,0,none⟩=some (.int .i64 a1_0)∧w17.cell? ⟨gb191,1,none⟩=some (.int .i64 a1_1)∧w17.cell? ⟨gb191,2,none⟩=some (.slice Ao9 l1_2.length co9)∧w17.cell? ⟨gb191,3,none⟩=some (.slice Ao10 l1_3.length co10):=hS_
            refine norm_ (a' := ?_) ?_ ?_
            rotate_left
            · simp only [putAll,Act.put,List.setIfInBounds_toArray,List.set_cons_zero,List.set_cons_succ]
              rfl
            refine one_ (i:=6) (N:=some 15) #[true,true,true,true,true,true,true,true,true,true,true,true,true,false,false] rfl rfl (one_of HT_.out (by kernel_rfl)) (by decide) (fun K hK=>?_)
            refine Kd.R_lit_step (Kd.int .i64) _ 2 ?hg (N:=15) ?hd (xs:=([(-1),(-1)]:List Int)) (inner:=[.int .i64 (-1),.int .i64 (-1)]) (ok:=fun _=>True) (okp:=fun _=>True) ?hr ?hp (fun _ hk=>hk) trivial (Below.refl _ _) (Nat.le_refl _) (by simp) ?_;(case hd=>rfl);(case hg=>rfl);(case hr=>first|(go_simp;done)|(go_simp;rfl));(case hp=>exact (Reps.one (show Kd.M (Kd.int .i64) _ _ _ (-1) [.int .i64 (-1)] from rfl) (Reps.one (show Kd.M (Kd.int .i64) _ _ _ (-1) [.int .i64 (-1)] from rfl) (Reps.none _ _))))
            intro v198 w18 ho19 hb hg_ hnew_
            clear hg_ hnew_
            (first|rw [← Ny197.out] at ho19|(simp only [Int.reduceToNat] at ho19;rw [← Ny197.out] at ho19))
            have n0_:=mk5_ (Kd.R_elder' (by (with_reducible repeat (first|apply rA5_|apply Kd.R_drewN|apply rD5_));exact HO1_2.out) (Kd.R_base ho19) hb)
            have n1_:=mk5_ (Kd.R_below (by (with_reducible repeat (first|apply rA5_|apply Kd.R_drewN|apply rD5_));exact HO1_3.out) hb)
            have n2_:=mk5_ (Kd.V_elder' (by (with_reducible repeat (first|apply Kd.V_alloc|apply Kd.V_drewN|apply Kd.V_drew));exact HO0_3.out) (Kd.R_base ho19) hb)
            have n3_:=mk5_ (Kd.R_elder' (by (with_reducible repeat (first|apply rA5_|apply Kd.R_drewN|apply rD5_));exact HO195.out) (Kd.R_base ho19) hb)
            have n4_:=mk5_ (Kd.R_elder' (by (with_reducible repeat (first|apply rA5_|apply Kd.R_drewN|apply rD5_));exact HO202.out) (Kd.R_base ho19) hb)
            have n5_:=mk5_ (Kd.R_lower (Kd.R_new' (Kd.R_new' (Kd.R_new' (Kd.R_newM (M:=fun k_=>((P1_2_ k_∨P1_3_ k_)∨w.heap.size≤k_)) ho19 (by first|exact HK.out.1|exact (show Kept w _ (fun k_=>P1_2_ k_∨P1_3_ k_) from by repeat (first|(with_reducible first|exact HK.out|apply Kept.alloc|apply Kept.drewN|apply Kept.drew|refine Kept.setCell ?_ (.inr GW190.out) _|refine Kept.setCell ?_ (.inr GW191.out) _|refine Kept.setCell ?_ (.inr GW192.out) _)|exact HK.out)).1) (fun k_ h_=>.inr h_)) (Kd.R_lt (by (with_reducible repeat (first|apply rA5_|apply Kd.R_drewN|apply rD5_));exact HO1_2.out))) (Kd.R_lt (by (with_reducible repeat (first|apply rA5_|apply Kd.R_drewN|apply rD5_));exact HO195.out))) (Kd.R_lt (by (with_reducible repeat (first|apply rA5_|apply Kd.R_drewN|apply rD5_));exact HO202.out))) (bZ5_ (by repeat (first|(with_reducible first|exact HB.out|apply bA5_|apply bN5_|apply bD5_|refine bS5_ ?_ GE190.out|refine bS5_ ?_ GE191.out|refine bS5_ ?_ GE192.out)|exact HB.out))))
            have n6_:=mk5_ (blk_below (g:=gb190) (o:=.cells #[.int .i64 a0_0,.int .i64 a0_1,.int .i64 a0_2,.slice A0_3 l0_3.length c0_3,.int .i64 a0_4,.int .i64 a0_5,.bool a0_6,.int .i64 a0_7] 40 (0,0)) (by (with_reducible repeat (first|refine kN5_ ?_ _|refine kD5_ ?_|refine kA5_ ?_ _));exact BK190.out) hb)
            have n7_:=mk5_ (blk_below (g:=gb191) (o:=.cells #[.int .i64 a1_0,.int .i64 a1_1,.slice Ao9 l1_2.length co9,.slice Ao10 l1_3.length co10] 41 (0,0)) (by (with_reducible repeat (first|refine kN5_ ?_ _|refine kD5_ ?_|refine kA5_ ?_ _));exact BK191.out) hb)
            have n8_:=mk5_ (blk_below (g:=gb192) (o:=.cells #[.int .i64 0,.int .i64 0,.int .i64 0,.slice none 0 0,.int .i64 0,.int .i64 0,.bool false,.int .i64 0,.int .i64 0,.int .i64 0,.slice none 0 0,.slice none 0 0,.slice none 0 0,.int .i64 0,.int .i64 0,.slice none 0 0,.slice none 0 0,.int .i64 0,.int .i64 0] 44 (0,0)) (by (with_reducible repeat (first|refine kN5_ ?_ _|refine kD5_ ?_|refine kA5_ ?_ _));exact BK192.out) hb)
            have n9_:=mk5_ (Kept.below (S:=(fun k_=>P1_2_ k_∨P1_3_ k_)) (by repeat (first|(with_reducible first|exact HK.out|apply Kept.alloc|apply Kept.drewN|apply Kept.drew|refine Kept.setCell ?_ (.inr GW190.out) _|refine Kept.setCell ?_ (.inr GW191.out) _|refine Kept.setCell ?_ (.inr GW192.out) _)|exact HK.out)) hb)
            have n10_:=mk5_ (bT5_ (by repeat (first|(with_reducible first|exact HB.out|apply bA5_|apply bN5_|apply bD5_|refine bS5_ ?_ GE190.out|refine bS5_ ?_ GE191.out|refine bS5_ ?_ GE192.out)|exact HB.out)) hb)
            clear HO1_2
            clear HO1_3
            clear HO0_3
            clear HO195
            clear HO202
            clear BK190
            clear BK191
            clear BK192
            clear HK
            clear HB
            have HO1_2 := n0_
            have HO1_3 := n1_
            have HO0_3 := n2_
            have HO195 := n3_
            have HO202 := n4_
            have HO199 := n5_
            have BK190 := n6_
            have BK191 := n7_
            have BK192 := n8_
            have HK := n9_
            have HB := n10_
            clear n0_ n1_ n2_ n3_ n4_ n5_ n6_ n7_ n8_ n9_ n10_
            clear hb ho19
            obtain ⟨Ao20, co20, eo20⟩ := Kd.R_slice HO202.out
            (first|subst eo20|(injection eo20 with f1_ f2_ f3_;have f4_:=f1_.symm;have f5_:=f3_.symm;clear f1_ f2_ f3_;subst f4_;subst f5_))
            obtain ⟨Ao21, co21, eo21⟩ := Kd.R_slice HO199.out
            (first|subst eo21|(injection eo21 with f1_ f2_ f3_;have f4_:=f1_.symm;have f5_:=f3_.symm;clear f1_ f2_ f3_;subst f4_;subst f5_))
            obtain ⟨Ao22, co22, eo22⟩ := Kd.R_slice HO195.out
            (first|subst eo22|(injection eo22 with f1_ f2_ f3_;have f4_:=f1_.symm;have f5_:=f3_.symm;clear f1_ f2_ f3_;subst f4_;subst f5_))
            refine hK.out _ _ ⟨(blk_cell BK190.out 0).trans rfl,(blk_cell BK190.out 1).trans rfl,(blk_cell BK190.out 2).trans rfl,(blk_cell BK190.out 3).trans rfl,(blk_cell BK190.out 4).trans rfl,(blk_cell BK190.out 5).trans rfl,(blk_cell BK190.out 6).trans rfl,(blk_cell BK190.out 7).trans rfl,(blk_cell BK191.out 0).trans rfl,(blk_cell BK191.out 1).trans rfl,(blk_cell BK191.out 2).trans rfl,(blk_cell BK191.out 3).trans rfl⟩ (fun hHeld=>?_)
            clear hK K
            refine norm_ (a' := ?_) ?_ ?_
            rotate_left
            · show Act.put _ (some 15) _ = _
              simp only [Act.put,List.setIfInBounds_toArray,List.set_cons_zero,List.set_cons_succ,i64_w,i32_w]
              rfl
            exact norm_ (by first|(simp only [putAll,Act.put,List.setIfInBounds_toArray,List.set_cons_zero,List.set_cons_succ];done)|(simp only [putAll,Act.put,List.setIfInBounds_toArray,List.set_cons_zero,List.set_cons_succ];rfl)) (hJ5_6_10 (.slice Ao22 t193.length co22,.slice Ao21 y197.length co21,.slice Ao20 y200.length co20) _ ⟨hHeld,(by (with_reducible repeat (first|apply Kd.V_alloc|apply Kd.V_drewN|apply Kd.V_drew));exact Kd.V_mono HO0_3.out (fun _ hk=>⟨hk.1.1,⟨hk.1.2.1,⟨hk.2,⟨hk.1.2.2.1,⟨hk.1.2.2.2.1,⟨hk.1.2.2.2.2.1,⟨hk.1.2.2.2.2.2.1,⟨hk.1.2.2.2.2.2.2.1,hk.1.2.2.2.2.2.2.2⟩⟩⟩⟩⟩⟩⟩⟩)),(by (with_reducible repeat (first|apply rA5_|apply Kd.R_drewN|apply rD5_));exact Kd.R_mono HO195.out (fun _ hk=>⟨hk.1.1,⟨hk.2,⟨hk.1.2.1,hk.1.2.2⟩⟩⟩)),(by (with_reducible repeat (first|apply rA5_|apply Kd.R_drewN|apply rD5_));exact Kd.R_mono HO199.out (fun _ hk=>⟨hk.1.1.1.1,⟨hk.1.2,⟨hk.1.1.2,hk.2⟩⟩⟩)),(by (with_reducible repeat (first|apply rA5_|apply Kd.R_drewN|apply rD5_));exact Kd.R_mono HO1_2.out (fun _ hk=>⟨hk.1.1,⟨hk.1.2.1,⟨hk.2,hk.1.2.2⟩⟩⟩)),(by (with_reducible repeat (first|apply rA5_|apply Kd.R_drewN|apply rD5_));exact HO1_3.out),(by (with_reducible repeat (first|apply rA5_|apply Kd.R_drewN|apply rD5_));exact Kd.R_mono HO202.out (fun _ hk=>⟨hk.1.1,⟨hk.1.2.1,⟨hk.2,hk.1.2.2⟩⟩⟩)),(by (with_reducible repeat (first|refine kN5_ ?_ _|refine kD5_ ?_|refine kA5_ ?_ _));exact BK190.out),(by (with_reducible repeat (first|refine kN5_ ?_ _|refine kD5_ ?_|refine kA5_ ?_ _));exact BK191.out),(by (with_reducible repeat (first|refine kN5_ ?_ _|refine kD5_ ?_|refine kA5_ ?_ _));exact BK192.out),(by repeat (first|(with_reducible first|exact HK.out|apply Kept.alloc|apply Kept.drewN|apply Kept.drew|refine Kept.setCell ?_ (.inr GW190.out) _|refine Kept.setCell ?_ (.inr GW191.out) _|refine Kept.setCell ?_ (.inr GW192.out) _)|exact HK.out)),(by repeat (first|(with_reducible first|exact HB.out|apply bA5_|apply bN5_|apply bD5_|refine bS5_ ?_ GE190.out|refine bS5_ ?_ GE191.out|refine bS5_ ?_ GE192.out)|exact HB.out))⟩)
        · skip
          rintro ⟨v194, v198⟩ w17 ⟨hS_, h0_, h1_, h2_, h3_, h4_, h5_, h6_, h7_, h8_, h9_⟩
          have n0_:Aside0 (Kd.V k120 120 w17 w0.heap.size (fun k_=>((P1_2_ k_∨P1_3_ k_∨P0_3_ k_)∨w.heap.size≤k_)∧some k_≠(v194:Value).ownBlock∧some k_≠(v198:Value).ownBlock∧some k_≠(.slice Ao9 l1_2.length co9:Value).ownBlock∧some k_≠(.slice Ao10 l1_3.length co10:Value).ownBlock∧k_≠gb190∧k_≠gb191∧k_≠gb192) (.slice A0_3 l0_3.length c0_3) l0_3):=⟨h0_⟩
          have n1_:Aside0 (Kd.R (Kd.int .i64) 2 w17 w0.heap.size (fun k_=>((P1_2_ k_∨P1_3_ k_)∨w.heap.size≤k_)∧some k_≠(v198:Value).ownBlock∧some k_≠(.slice Ao9 l1_2.length co9:Value).ownBlock) v194 t193):=⟨h1_⟩
          have n2_:Aside0 (Kd.R (Kd.int .i64) 2 w17 w0.heap.size (fun k_=>((P1_2_ k_∨P1_3_ k_)∨w.heap.size≤k_)∧some k_≠(v194:Value).ownBlock∧some k_≠(.slice Ao9 l1_2.length co9:Value).ownBlock) v198 y197):=⟨h2_⟩
          have n3_:Aside0 (Kd.R (Kd.int .i64) 2 w17 w0.heap.size (fun k_=>((P1_2_ k_∨P1_3_ k_)∨w.heap.size≤k_)∧some k_≠(v194:Value).ownBlock∧some k_≠(v198:Value).ownBlock) (.slice Ao9 l1_2.length co9) l1_2):=⟨h3_⟩
          have n4_:Aside0 (Kd.R Kd.bool 4 w17 w0.heap.size (fun k_=>((P1_2_ k_∨P1_3_ k_)∨w.heap.size≤k_)) (.slice Ao10 l1_3.length co10) l1_3):=⟨h4_⟩
          have n5_:Aside0 (w17.heap[gb190]?=some (.cells #[.int .i64 a0_0,.int .i64 a0_1,.int .i64 a0_2,.slice A0_3 l0_3.length c0_3,.int .i64 a0_4,.int .i64 a0_5,.bool a0_6,.int .i64 a0_7] 40 (0,0))):=⟨h5_⟩
          have n6_:Aside0 (w17.heap[gb191]?=some (.cells #[.int .i64 a1_0,.int .i64 a1_1,.slice Ao9 l1_2.length co9,.slice Ao10 l1_3.length co10] 41 (0,0))):=⟨h6_⟩
          have n7_:Aside0 (w17.heap[gb192]?=some (.cells #[.int .i64 0,.int .i64 0,.int .i64 0,.slice none 0 0,.int .i64 0,.int .i64 0,.bool false,.int .i64 0,.int .i64 0,.int .i64 0,.slice none 0 0,.slice none 0 0,.slice none 0 0,.int .i64 0,.int .i64 0,.slice none 0 0,.slice none 0 0,.int .i64 0,.int .i64 0] 44 (0,0))):=⟨h7_⟩
          have n8_ : Aside0 (Kept w w17 (fun k_ => P1_2_ k_ ∨ P1_3_ k_)) := ⟨h8_⟩
          have n9_ : Aside0 (Below w0.heap.size w0 w17) := ⟨h9_⟩
          clear HO1_2
          clear HO1_3
          clear HO0_3
          clear BK190
          clear BK191
          clear BK192
          clear HK
          clear HB
          clear h0_ h1_ h2_ h3_ h4_ h5_ h6_ h7_ h8_ h9_
          have HO0_3 := n0_
          have HO195 := n1_
          have HO199 := n2_
          have HO1_2 := n3_
          have HO1_3 := n4_
          have BK190 := n5_
          have BK191 := n6_
          have BK192 := n7_
          have HK := n8_
          have HB := n9_
          clear n0_ n1_ n2_ n3_ n4_ n5_ n6_ n7_ n8_ n9_
          have hHeld:w17.cell? ⟨gb190,0,none⟩=some (.int .i64 a0_0)∧w17.cell? ⟨gb190,1,none⟩=some (.int .i64 a0_1)∧w17.cell? ⟨gb190,2,none⟩=some (.int .i64 a0_2)∧w17.cell? ⟨gb190,3,none⟩=some (.slice A0_3 l0_3.length c0_3)∧w17.cell? ⟨gb190,4,none⟩=some (.int .i64 a0_4)∧w17.cell? ⟨gb190,5,none⟩=some (.int .i64 a0_5)∧w17.cell? ⟨gb190,6,none⟩=some (.bool a0_6)∧w17.cell? ⟨gb190,7,none⟩=some (.int .i64 a0_7)∧w17.cell? ⟨gb191,0,none⟩=some (.int .i64 a1_0)∧w17.cell? ⟨gb191,1,none⟩=some (.int .i64 a1_1)∧w17.cell? ⟨gb191,2,none⟩=some (.slice Ao9 l1_2.length co9)∧w17.cell? ⟨gb191,3,none⟩=some (.slice Ao10 l1_3.length co10):=hS_
          refine norm_ (a' := ?_) ?_ ?_
          rotate_left
          · simp only [putAll,Act.put,List.setIfInBounds_toArray,List.set_cons_zero,List.set_cons_succ]
            rfl
          refine one_ (i:=10) (N:=some 19) #[true,true,true,true,true,true,true,true,true,true,true,true,true,false,false] rfl rfl (one_of HT_.out (by kernel_rfl)) (by decide) (fun K hK=>?_)
          refine Kd.R_make_step (Kd.int .i64) _ 2 (by rfl) (N:=19) rfl 27 _ _ rfl (l0_3.length:Int) rfl rfl Try.underlying27 (.int .i64 0) 8 info2 rfl (by decide) (by omega) 0 (ok:=fun _=>True) (okp:=fun _=>True) rfl (fun _ hk=>hk) trivial (of_decide_eq_true (by first|(with_reducible assumption)|assumption)) (Nat.le_trans (Nat.mul_le_mul_right _ (of_decide_eq_true (by first|(with_reducible assumption)|assumption):(l0_3.length:Int).toNat≤35184372088832)) (by omega)) (Below.refl _ _) (Nat.le_refl _) ?_
          intro v201 w18 ho19 hb hg_ hnew_
          clear hg_ hnew_
          (first|rw [← Ny200.out] at ho19|(simp only [Int.reduceToNat] at ho19;rw [← Ny200.out] at ho19))
          have n0_:=mk5_ (Kd.R_elder' (by (with_reducible repeat (first|apply rA5_|apply Kd.R_drewN|apply rD5_));exact HO1_2.out) (Kd.R_base ho19) hb)
          have n1_:=mk5_ (Kd.R_below (by (with_reducible repeat (first|apply rA5_|apply Kd.R_drewN|apply rD5_));exact HO1_3.out) hb)
          have n2_:=mk5_ (Kd.V_elder' (by (with_reducible repeat (first|apply Kd.V_alloc|apply Kd.V_drewN|apply Kd.V_drew));exact HO0_3.out) (Kd.R_base ho19) hb)
          have n3_:=mk5_ (Kd.R_elder' (by (with_reducible repeat (first|apply rA5_|apply Kd.R_drewN|apply rD5_));exact HO195.out) (Kd.R_base ho19) hb)
          have n4_:=mk5_ (Kd.R_elder' (by (with_reducible repeat (first|apply rA5_|apply Kd.R_drewN|apply rD5_));exact HO199.out) (Kd.R_base ho19) hb)
          have n5_:=mk5_ (Kd.R_lower (Kd.R_new' (Kd.R_new' (Kd.R_new' (Kd.R_newM (M:=fun k_=>((P1_2_ k_∨P1_3_ k_)∨w.heap.size≤k_)) ho19 (by first|exact HK.out.1|exact (show Kept w _ (fun k_=>P1_2_ k_∨P1_3_ k_) from by repeat (first|(with_reducible first|exact HK.out|apply Kept.alloc|apply Kept.drewN|apply Kept.drew|refine Kept.setCell ?_ (.inr GW190.out) _|refine Kept.setCell ?_ (.inr GW191.out) _|refine Kept.setCell ?_ (.inr GW192.out) _)|exact HK.out)).1) (fun k_ h_=>.inr h_)) (Kd.R_lt (by (with_reducible repeat (first|apply rA5_|apply Kd.R_drewN|apply rD5_));exact HO1_2.out))) (Kd.R_lt (by (with_reducible repeat (first|apply rA5_|apply Kd.R_drewN|apply rD5_));exact HO195.out))) (Kd.R_lt (by (with_reducible repeat (first|apply rA5_|apply Kd.R_drewN|apply rD5_));exact HO199.out))) (bZ5_ (by repeat (first|(with_reducible first|exact HB.out|apply bA5_|apply bN5_|apply bD5_|refine bS5_ ?_ GE190.out|refine bS5_ ?_ GE191.out|refine bS5_ ?_ GE192.out)|exact HB.out))))
          have n6_:=mk5_ (blk_below (g:=gb190) (o:=.cells #[.int .i64 a0_0,.int .i64 a0_1,.int .i64 a0_2,.slice A0_3 l0_3.length c0_3,.int .i64 a0_4,.int .i64 a0_5,.bool a0_6,.int .i64 a0_7] 40 (0,0)) (by (with_reducible repeat (first|refine kN5_ ?_ _|refine kD5_ ?_|refine kA5_ ?_ _));exact BK190.out) hb)
          have n7_:=mk5_ (blk_below (g:=gb191) (o:=.cells #[.int .i64 a1_0,.int .i64 a1_1,.slice Ao9 l1_2.length co9,.slice Ao10 l1_3.length co10] 41 (0,0)) (by (with_reducible repeat (first|refine kN5_ ?_ _|refine kD5_ ?_|refine kA5_ ?_ _));exact BK191.out) hb)
          have n8_:=mk5_ (blk_below (g:=gb192) (o:=.cells #[.int .i64 0,.int .i64 0,.int .i64 0,.slice none 0 0,.int .i64 0,.int .i64 0,.bool false,.int .i64 0,.int .i64 0,.int .i64 0,.slice none 0 0,.slice none 0 0,.slice none 0 0,.int .i64 0,.int .i64 0,.slice none 0 0,.slice none 0 0,.int .i64 0,.int .i64 0] 44 (0,0)) (by (with_reducible repeat (first|refine kN5_ ?_ _|refine kD5_ ?_|refine kA5_ ?_ _));exact BK192.out) hb)
          have n9_:=mk5_ (Kept.below (S:=(fun k_=>P1_2_ k_∨P1_3_ k_)) (by repeat (first|(with_reducible first|exact HK.out|apply Kept.alloc|apply Kept.drewN|apply Kept.drew|refine Kept.setCell ?_ (.inr GW190.out) _|refine Kept.setCell ?_ (.inr GW191.out) _|refine Kept.setCell ?_ (.inr GW192.out) _)|exact HK.out)) hb)
          have n10_:=mk5_ (bT5_ (by repeat (first|(with_reducible first|exact HB.out|apply bA5_|apply bN5_|apply bD5_|refine bS5_ ?_ GE190.out|refine bS5_ ?_ GE191.out|refine bS5_ ?_ GE192.out)|exact HB.out)) hb)
          clear HO1_2
          clear HO1_3
          clear HO0_3
          clear HO195
          clear HO199
          clear BK190
          clear BK191
          clear BK192
          clear HK
          clear HB
          have HO1_2 := n0_
          have HO1_3 := n1_
          have HO0_3 := n2_
          have HO195 := n3_
          have HO199 := n4_
          have HO202 := n5_
          have BK190 := n6_
          have BK191 := n7_
          have BK192 := n8_
          have HK := n9_
          have HB := n10_
          clear n0_ n1_ n2_ n3_ n4_ n5_ n6_ n7_ n8_ n9_ n10_
          clear hb ho19
          obtain ⟨Ao20, co20, eo20⟩ := Kd.R_slice HO202.out
          (first|subst eo20|(injection eo20 with f1_ f2_ f3_;have f4_:=f1_.symm;have f5_:=f3_.symm;clear f1_ f2_ f3_;subst f4_;subst f5_))
          obtain ⟨Ao21, co21, eo21⟩ := Kd.R_slice HO199.out
          (first|subst eo21|(injection eo21 with f1_ f2_ f3_;have f4_:=f1_.symm;have f5_:=f3_.symm;clear f1_ f2_ f3_;subst f4_;subst f5_))
          obtain ⟨Ao22, co22, eo22⟩ := Kd.R_slice HO195.out
          (first|subst eo22|(injection eo22 with f1_ f2_ f3_;have f4_:=f1_.symm;have f5_:=f3_.symm;clear f1_ f2_ f3_;subst f4_;subst f5_))
          refine hK.out _ _ ⟨(blk_cell BK190.out 0).trans rfl,(blk_cell BK190.out 1).trans rfl,(blk_cell BK190.out 2).trans rfl,(blk_cell BK190.out 3).trans rfl,(blk_cell BK190.out 4).trans rfl,(blk_cell BK190.out 5).trans rfl,(blk_cell BK190.out 6).trans rfl,(blk_cell BK190.out 7).trans rfl,(blk_cell BK191.out 0).trans rfl,(blk_cell BK191.out 1).trans rfl,(blk_cell BK191.out 2).trans rfl,(blk_cell BK191.out 3).trans rfl⟩ (fun hHeld=>?_)
          clear hK K
          refine norm_ (a' := ?_) ?_ ?_
          rotate_left
          · show Act.put _ (some 19) _ = _
            simp only [Act.put,List.setIfInBounds_toArray,List.set_cons_zero,List.set_cons_succ,i64_w,i32_w]
            rfl
          exact norm_ (by first|(simp only [putAll,Act.put,List.setIfInBounds_toArray,List.set_cons_zero,List.set_cons_succ];done)|(simp only [putAll,Act.put,List.setIfInBounds_toArray,List.set_cons_zero,List.set_cons_succ];rfl)) (hJ5_6_10 (.slice Ao22 t193.length co22,.slice Ao21 y197.length co21,.slice Ao20 y200.length co20) _ ⟨hHeld,(by (with_reducible repeat (first|apply Kd.V_alloc|apply Kd.V_drewN|apply Kd.V_drew));exact Kd.V_mono HO0_3.out (fun _ hk=>⟨hk.1.1,⟨hk.1.2.1,⟨hk.1.2.2.1,⟨hk.1.2.2.2.1,⟨hk.1.2.2.2.2.1,⟨hk.2,⟨hk.1.2.2.2.2.2.1,⟨hk.1.2.2.2.2.2.2.1,hk.1.2.2.2.2.2.2.2⟩⟩⟩⟩⟩⟩⟩⟩)),(by (with_reducible repeat (first|apply rA5_|apply Kd.R_drewN|apply rD5_));exact Kd.R_mono HO195.out (fun _ hk=>⟨hk.1.1,⟨hk.1.2.1,⟨hk.1.2.2,hk.2⟩⟩⟩)),(by (with_reducible repeat (first|apply rA5_|apply Kd.R_drewN|apply rD5_));exact Kd.R_mono HO199.out (fun _ hk=>⟨hk.1.1,⟨hk.1.2.1,⟨hk.1.2.2,hk.2⟩⟩⟩)),(by (with_reducible repeat (first|apply rA5_|apply Kd.R_drewN|apply rD5_));exact Kd.R_mono HO1_2.out (fun _ hk=>⟨hk.1.1,⟨hk.1.2.1,⟨hk.1.2.2,hk.2⟩⟩⟩)),(by (with_reducible repeat (first|apply rA5_|apply Kd.R_drewN|apply rD5_));exact HO1_3.out),(by (with_reducible repeat (first|apply rA5_|apply Kd.R_drewN|apply rD5_));exact Kd.R_mono HO202.out (fun _ hk=>⟨hk.1.1.1.1,⟨hk.1.2,⟨hk.2,hk.1.1.2⟩⟩⟩)),(by (with_reducible repeat (first|refine kN5_ ?_ _|refine kD5_ ?_|refine kA5_ ?_ _));exact BK190.out),(by (with_reducible repeat (first|refine kN5_ ?_ _|refine kD5_ ?_|refine kA5_ ?_ _));exact BK191.out),(by (with_reducible repeat (first|refine kN5_ ?_ _|refine kD5_ ?_|refine kA5_ ?_ _));exact BK192.out),(by repeat (first|(with_reducible first|exact HK.out|apply Kept.alloc|apply Kept.drewN|apply Kept.drew|refine Kept.setCell ?_ (.inr GW190.out) _|refine Kept.setCell ?_ (.inr GW191.out) _|refine Kept.setCell ?_ (.inr GW192.out) _)|exact HK.out)),(by repeat (first|(with_reducible first|exact HB.out|apply bA5_|apply bN5_|apply bD5_|refine bS5_ ?_ GE190.out|refine bS5_ ?_ GE191.out|refine bS5_ ?_ GE192.out)|exact HB.out))⟩)
      rintro ⟨v194, v198, v201⟩ w22 ⟨hS_, h0_, h1_, h2_, h3_, h4_, h5_, h6_, h7_, h8_, h9_, h10_⟩
      have n0_:Aside0 (Kd.V k120 120 w22 w0.heap.size (fun k_=>((P1_2_ k_∨P1_3_ k_∨P0_3_ k_)∨w.heap.size≤k_)∧some k_≠(v194:Value).ownBlock∧some k_≠(v198:Value).ownBlock∧some k_≠(.slice Ao9 l1_2.length co9:Value).ownBlock∧some k_≠(.slice Ao10 l1_3.length co10:Value).ownBlock∧some k_≠(v201:Value).ownBlock∧k_≠gb190∧k_≠gb191∧k_≠gb192) (.slice A0_3 l0_3.length c0_3) l0_3):=⟨h0_⟩
      have n1_:Aside0 (Kd.R (Kd.int .i64) 2 w22 w0.heap.size (fun k_=>((P1_2_ k_∨P1_3_ k_)∨w.heap.size≤k_)∧some k_≠(v198:Value).ownBlock∧some k_≠(.slice Ao9 l1_2.length co9:Value).ownBlock∧some k_≠(v201:Value).ownBlock) v194 t193):=⟨h1_⟩
      have n2_:Aside0 (Kd.R (Kd.int .i64) 2 w22 w0.heap.size (fun k_=>((P1_2_ k_∨P1_3_ k_)∨w.heap.size≤k_)∧some k_≠(v194:Value).ownBlock∧some k_≠(.slice Ao9 l1_2.length co9:Value).ownBlock∧some k_≠(v201:Value).ownBlock) v198 y197):=⟨h2_⟩
      have n3_:Aside0 (Kd.R (Kd.int .i64) 2 w22 w0.heap.size (fun k_=>((P1_2_ k_∨P1_3_ k_)∨w.heap.size≤k_)∧some k_≠(v194:Value).ownBlock∧some k_≠(v198:Value).ownBlock∧some k_≠(v201:Value).ownBlock) (.slice Ao9 l1_2.length co9) l1_2):=⟨h3_⟩
      have n4_:Aside0 (Kd.R Kd.bool 4 w22 w0.heap.size (fun k_=>((P1_2_ k_∨P1_3_ k_)∨w.heap.size≤k_)) (.slice Ao10 l1_3.length co10) l1_3):=⟨h4_⟩
      have n5_:Aside0 (Kd.R (Kd.int .i64) 2 w22 w0.heap.size (fun k_=>((P1_2_ k_∨P1_3_ k_)∨w.heap.size≤k_)∧some k_≠(v194:Value).ownBlock∧some k_≠(v198:Value).ownBlock∧some k_≠(.slice Ao9 l1_2.length co9:Value).ownBlock) v201 y200):=⟨h5_⟩
      have n6_:Aside0 (w22.heap[gb190]?=some (.cells #[.int .i64 a0_0,.int .i64 a0_1,.int .i64 a0_2,.slice A0_3 l0_3.length c0_3,.int .i64 a0_4,.int .i64 a0_5,.bool a0_6,.int .i64 a0_7] 40 (0,0))):=⟨h6_⟩
      have n7_:Aside0 (w22.heap[gb191]?=some (.cells #[.int .i64 a1_0,.int .i64 a1_1,.slice Ao9 l1_2.length co9,.slice Ao10 l1_3.length co10] 41 (0,0))):=⟨h7_⟩
      have n8_:Aside0 (w22.heap[gb192]?=some (.cells #[.int .i64 0,.int .i64 0,.int .i64 0,.slice none 0 0,.int .i64 0,.int .i64 0,.bool false,.int .i64 0,.int .i64 0,.int .i64 0,.slice none 0 0,.slice none 0 0,.slice none 0 0,.int .i64 0,.int .i64 0,.slice none 0 0,.slice none 0 0,.int .i64 0,.int .i64 0] 44 (0,0))):=⟨h8_⟩
      have n9_ : Aside0 (Kept w w22 (fun k_ => P1_2_ k_ ∨ P1_3_ k_)) := ⟨h9_⟩
      have n10_ : Aside0 (Below w0.heap.size w0 w22) := ⟨h10_⟩
      clear HO1_2
      clear HO1_3
      clear HO0_3
      clear BK190
      clear BK191
      clear BK192
      clear HK
      clear HB
      clear h0_ h1_ h2_ h3_ h4_ h5_ h6_ h7_ h8_ h9_ h10_
      have HO0_3 := n0_
      have HO195 := n1_
      have HO199 := n2_
      have HO1_2 := n3_
      have HO1_3 := n4_
      have HO202 := n5_
      have BK190 := n6_
      have BK191 := n7_
      have BK192 := n8_
      have HK := n9_
      have HB := n10_
      clear n0_ n1_ n2_ n3_ n4_ n5_ n6_ n7_ n8_ n9_ n10_
      have hHeld:w22.cell? ⟨gb190,0,none⟩=some (.int .i64 a0_0)∧w22.cell? ⟨gb190,1,none⟩=some (.int .i64 a0_1)∧w22.cell? ⟨gb190,2,none⟩=some (.int .i64 a0_2)∧w22.cell? ⟨gb190,3,none⟩=some (.slice A0_3 l0_3.length c0_3)∧w22.cell? ⟨gb190,4,none⟩=some (.int .i64 a0_4)∧w22.cell? ⟨gb190,5,none⟩=some (.int .i64 a0_5)∧w22.cell? ⟨gb190,6,none⟩=some (.bool a0_6)∧w22.cell? ⟨gb190,7,none⟩=some (.int .i64 a0_7)∧w22.cell? ⟨gb191,0,none⟩=some (.int .i64 a1_0)∧w22.cell? ⟨gb191,1,none⟩=some (.int .i64 a1_1)∧w22.cell? ⟨gb191,2,none⟩=some (.slice Ao9 l1_2.length co9)∧w22.cell? ⟨gb191,3,none⟩=some (.slice Ao10 l1_3.length co10):=hS_
      obtain ⟨Ao23, co23, eo23⟩ := Kd.R_slice HO202.out
      (first|subst eo23|(injection eo23 with f1_ f2_ f3_;have f4_:=f1_.symm;have f5_:=f3_.symm;clear f1_ f2_ f3_;subst f4_;subst f5_))
      obtain ⟨Ao24, co24, eo24⟩ := Kd.R_slice HO199.out
      (first|subst eo24|(injection eo24 with f1_ f2_ f3_;have f4_:=f1_.symm;have f5_:=f3_.symm;clear f1_ f2_ f3_;subst f4_;subst f5_))
      obtain ⟨Ao25, co25, eo25⟩ := Kd.R_slice HO195.out
      (first|subst eo25|(injection eo25 with f1_ f2_ f3_;have f4_:=f1_.symm;have f5_:=f3_.symm;clear f1_ f2_ f3_;subst f4_;subst f5_))
      refine norm_ (a' := ?_) ?_ ?_
      rotate_left
      · simp only [putAll,Act.put,List.setIfInBounds_toArray,List.set_cons_zero,List.set_cons_succ]
        rfl
      refine pure_ (i:=13) (N:=some 22) (v:=?_) (a':=?_) #[true,true,true,true,true,true,true,true,true,true,true,true,true,true,false] rfl rfl (any_of HT_.out (by kernel_rfl)) (fun _ _ _ h=>h) (Or.inl ⟨by rfl,?_⟩) ?_ ?_
      rotate_left
      · intro w'
        go_simp
        with_reducible rfl
      rotate_left
      · simp only [Act.put,List.setIfInBounds_toArray,List.set_cons_zero,List.set_cons_succ,i64_w,i32_w]
        rfl
      refine one_ (i:=14) (N:=none) #[true,true,true,true,true,true,true,true,true,true,true,true,true,true,true] rfl rfl (one_of HT_.out (by kernel_rfl)) (by decide) (fun K hK=>?_)
      refine store_seg_step 44 (.tmp 8) (.tmp 22) rfl rfl rfl gb192 0 rfl [.int .i64 0,.int .i64 0,.int .i64 0,.slice none 0 0,.int .i64 0,.int .i64 0,.bool false,.int .i64 0,.int .i64 0,.int .i64 0,.slice none 0 0,.slice none 0 0,.slice none 0 0,.int .i64 0,.int .i64 0,.slice none 0 0,.slice none 0 0,.int .i64 0,.int .i64 0] BK192.out [.int .i64 a0_0,.int .i64 a0_1,.int .i64 a0_2,.slice A0_3 l0_3.length c0_3,.int .i64 a0_4,.int .i64 a0_5,.bool a0_6,.int .i64 a0_7,.int .i64 a1_0,.int .i64 a1_1,.slice Ao9 l1_2.length co9,.slice Ao10 l1_3.length co10,.slice Ao25 t193.length co25,.int .i64 t196,.int .i64 1,.slice Ao24 y197.length co24,.slice Ao23 y200.length co23,.int .i64 a2,.int .i64 a3] rfl (by kernel_rfl) (Nat.le_of_eq rfl) (allOne19 rfl rfl rfl rfl rfl rfl rfl rfl rfl rfl rfl rfl rfl rfl rfl rfl rfl rfl rfl) [.int .i64 a0_0,.int .i64 a0_1,.int .i64 a0_2,.slice A0_3 l0_3.length c0_3,.int .i64 a0_4,.int .i64 a0_5,.bool a0_6,.int .i64 a0_7,.int .i64 a1_0,.int .i64 a1_1,.slice Ao9 l1_2.length co9,.slice Ao10 l1_3.length co10,.slice Ao25 t193.length co25,.int .i64 t196,.int .i64 1,.slice Ao24 y197.length co24,.slice Ao23 y200.length co23,.int .i64 a2,.int .i64 a3] rfl ?_
      intro wz hbz hgz
      have MZ190:=mk5_ (blk_grown BK190.out hgz (fun hq_=>NB190_192.out (by injection hq_)))
      have MZ191:=mk5_ (blk_grown BK191.out hgz (fun hq_=>NB191_192.out (by injection hq_)))
      refine hK.out _ _ ⟨(blk_cell MZ190.out 0).trans rfl,(blk_cell MZ190.out 1).trans rfl,(blk_cell MZ190.out 2).trans rfl,(blk_cell MZ190.out 3).trans rfl,(blk_cell MZ190.out 4).trans rfl,(blk_cell MZ190.out 5).trans rfl,(blk_cell MZ190.out 6).trans rfl,(blk_cell MZ190.out 7).trans rfl,(blk_cell MZ191.out 0).trans rfl,(blk_cell MZ191.out 1).trans rfl,(blk_cell MZ191.out 2).trans rfl,(blk_cell MZ191.out 3).trans rfl⟩ (fun hHeld=>?_)
      clear hK K
      refine done_ (done_of HT_.out (by kernel_rfl)) ?_
      try go_wp2
      refine bodyPost_ret (results_cell_row rfl _ _ gb192 44 #[.int .i64 a0_0,.int .i64 a0_1,.int .i64 a0_2,.slice A0_3 l0_3.length c0_3,.int .i64 a0_4,.int .i64 a0_5,.bool a0_6,.int .i64 a0_7,.int .i64 a1_0,.int .i64 a1_1,.slice Ao9 l1_2.length co9,.slice Ao10 l1_3.length co10,.slice Ao25 t193.length co25,.int .i64 t196,.int .i64 1,.slice Ao24 y197.length co24,.slice Ao23 y200.length co23,.int .i64 a2,.int .i64 a3] (0,0) _ rfl (by (with_reducible repeat (first|refine kN5_ ?_ _|refine kD5_ ?_|refine kA5_ ?_ _));exact hbz) Try.underlying44 rfl (by kernel_rfl)) rfl ?_
      have HB := Aside0.mk (below_grown2 HB.out hgz GE192.out)
      have HK:=mk5_ (Kept.of_grown hgz HK.out (fun k_ hk_=>by cases hk_;exact .inr GW192.out))
      exact ⟨_,_,_,_,_,_,by first|rfl|(simp [errW_none,errW_some] <;> rfl)|(simp [*,errW_none,errW_some] <;> rfl),by (with_reducible repeat (first|apply Kd.V_alloc|apply Kd.V_drewN|apply Kd.V_drew));exact Kd.V_mono (Kd.V_grown (Kd.V_mono HO0_3.out (fun k_ hk=>(⟨hk,hk.2.2.2.2.2.2.2.2⟩:_∧k_≠gb192))) hgz (fun _ hk he_=>hk.2 (by injection he_))) (fun _ hk=>⟨hk.1.1,⟨hk.1.2.2.2.1,⟨hk.1.2.2.2.2.1,⟨hk.1.2.1,⟨hk.1.2.2.1,hk.1.2.2.2.2.2.1⟩⟩⟩⟩⟩),by (with_reducible repeat (first|apply rA5_|apply Kd.R_drewN|apply rD5_));exact Kd.R_mono (Kd.R_grown (Kd.R_types HO1_2.out BK192.out (by decide)) hgz (fun _ hk he_=>hk.2 (by injection he_))) (fun _ hk=>⟨hk.1.1,⟨hk.1.2.1,⟨hk.1.2.2.1,hk.1.2.2.2⟩⟩⟩),by (with_reducible repeat (first|apply rA5_|apply Kd.R_drewN|apply rD5_));exact Kd.R_mono (Kd.R_grown (Kd.R_types HO1_3.out BK192.out (by decide)) hgz (fun _ hk he_=>hk.2 (by injection he_))) (fun _ hk=>hk.1),by (with_reducible repeat (first|apply rA5_|apply Kd.R_drewN|apply rD5_));exact Kd.R_mono (Kd.R_grown (Kd.R_types HO195.out BK192.out (by decide)) hgz (fun _ hk he_=>hk.2 (by injection he_))) (fun _ hk=>⟨hk.1.1,⟨hk.1.2.2.1,⟨hk.1.2.1,hk.1.2.2.2⟩⟩⟩),by (with_reducible repeat (first|apply rA5_|apply Kd.R_drewN|apply rD5_));exact Kd.R_mono (Kd.R_grown (Kd.R_types HO199.out BK192.out (by decide)) hgz (fun _ hk he_=>hk.2 (by injection he_))) (fun _ hk=>⟨hk.1.1,⟨hk.1.2.2.1,⟨hk.1.2.1,hk.1.2.2.2⟩⟩⟩),by (with_reducible repeat (first|apply rA5_|apply Kd.R_drewN|apply rD5_));exact Kd.R_mono (Kd.R_grown (Kd.R_types HO202.out BK192.out (by decide)) hgz (fun _ hk he_=>hk.2 (by injection he_))) (fun _ hk=>⟨hk.1.1,⟨hk.1.2.2.2,⟨hk.1.2.1,hk.1.2.2.1⟩⟩⟩),by repeat (first|(with_reducible first|exact HB.out|apply bA5_|apply bN5_|apply bD5_|refine bS5_ ?_ GE190.out|refine bS5_ ?_ GE191.out|refine bS5_ ?_ GE192.out)|exact HB.out),by repeat (first|(with_reducible first|exact HK.out|apply Kept.alloc|apply Kept.drewN|apply Kept.drew|refine Kept.setCell ?_ (.inr GW190.out) _|refine Kept.setCell ?_ (.inr GW191.out) _|refine Kept.setCell ?_ (.inr GW192.out) _)|exact HK.out)⟩
    · rw [if_neg c7] at H
      exact absurd H (by simp)
  · rw [if_neg c6] at H
    exact absurd H (by simp)

end Go.Proofs.Ytaecdlhomihejaa.Q
