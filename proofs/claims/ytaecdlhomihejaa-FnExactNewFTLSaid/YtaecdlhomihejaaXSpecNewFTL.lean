/- spec.NewFTL and the program's, case by case. Conditions: those before each theorem. -/
import Derived.Test.YtaecdlhomihejaaQ5
import Derived.Test.YtaecdlhomihejaaQ6
import Derived.Test.YtaecdlhomihejaaQ4
import Derived.Test.YtaecdlhomihejaaStoreSeg
namespace Go.Proofs.Ytaecdlhomihejaa.Q
open Go.RowKit Go.Proofs.YtaecdlhomihejaaW.PrintWords Go.Proofs.YtaecdlhomihejaaW.PrintMore Go.Proofs.YtaecdlhomihejaaW.PrintLast
abbrev kNXSpecNewFTL_ := @blk_drewN
abbrev kDXSpecNewFTL_ := @blk_drew
abbrev kAXSpecNewFTL_ := @blk_alloc
abbrev rAXSpecNewFTL_ := @Kd.R_alloc
abbrev rDXSpecNewFTL_ := @Kd.R_drew
abbrev bAXSpecNewFTL_ := @below_alloc
abbrev bNXSpecNewFTL_ := @pw_below_drewN
abbrev bDXSpecNewFTL_ := @below_drew1
abbrev bSXSpecNewFTL_ := @below_set
abbrev mkXSpecNewFTL_ := @Aside0.mk
abbrev fZXSpecNewFTL_ := @blk_frozen
abbrev sAXSpecNewFTL_ := @Kd.S_alloc
abbrev sBXSpecNewFTL_ := @Kd.S_below
abbrev bTXSpecNewFTL_ := @below_step
abbrev bZXSpecNewFTL_ := @below_size
set_option linter.unusedVariables false
set_option linter.unusedSimpArgs false
theorem infoF_:∃ z:Value,(Try.prog.info? 40).map (fun i=>(i.zero,i.size))=some (some z,8)∧z.cells.size=8:=⟨((Try.prog.info? 40).bind (·.zero)).getD .nilIface,by kernel_rfl,by kernel_rfl⟩
theorem infoT_:∃ z:Value,(Try.prog.info? 44).map (fun i=>(i.zero,i.size))=some (some z,19)∧z.cells.size=19:=⟨((Try.prog.info? 44).bind (·.zero)).getD .nilIface,by kernel_rfl,by kernel_rfl⟩
structure RFTL (w:World) (A3:Option Addr) (c3:Nat) (L:List (S120)) (A10:Option Addr) (c10:Nat) (M:List Int) (A11:Option Addr) (c11:Nat) (T:List Bool) (A12:Option Addr) (c12:Nat) (H:List Int) (A15:Option Addr) (c15:Nat) (O:List Int) (A16:Option Addr) (c16:Nat) (X:List Int):Prop where
  r3 : Kd.C k120 w A3 L.length L
  l3 : L.length ≤ c3
  r10 : Kd.C (Kd.int .i64) w A10 M.length M
  l10 : M.length ≤ c10
  r11 : Kd.C Kd.bool w A11 T.length T
  l11 : T.length ≤ c11
  r12 : Kd.C (Kd.int .i64) w A12 H.length H
  l12 : H.length ≤ c12
  r15 : Kd.C (Kd.int .i64) w A15 O.length O
  l15 : O.length ≤ c15
  r16 : Kd.C (Kd.int .i64) w A16 X.length X
  l16 : X.length ≤ c16
theorem RFTL.below {w w1:World} {A3 A10 A11 A12 A15 A16:Option Addr} {c3 c10 c11 c12 c15 c16:Nat} {L:List (S120)} {M H O X:List Int} {T:List Bool} (h:RFTL w A3 c3 L A10 c10 M A11 c11 T A12 c12 H A15 c15 O A16 c16 X) (hb:Below w.heap.size w w1):RFTL w1 A3 c3 L A10 c10 M A11 c11 T A12 c12 H A15 c15 O A16 c16 X :=
  ⟨Kd.C_below h.r3 hb,h.l3,Kd.C_below h.r10 hb,h.l10,Kd.C_below h.r11 hb,h.l11,Kd.C_below h.r12 hb,h.l12,Kd.C_below h.r15 hb,h.l15,Kd.C_below h.r16 hb,h.l16⟩
set_option maxHeartbeats 8000000 in
set_option maxRecDepth 100000 in
theorem specNewFTL_geo (k:Nat) (g0 g1 g2 lo bo po:Int) (w:World) (hA:spec_NewFlash.f k g0 g1 g2=some (0,0,0,[],0,0,false,0,1)) :
    Calls Try.prog 50 #[.agg #[.int .i64 g0,.int .i64 g1,.int .i64 g2],.int .i64 lo,.int .i64 bo,.int .i64 po] w fun e w'=>e=.returned (.tuple #[.agg #[.int .i64 0,.int .i64 0,.int .i64 0,.slice none 0 0,.int .i64 0,.int .i64 0,.bool false,.int .i64 0,.int .i64 0,.int .i64 0,.slice none 0 0,.slice none 0 0,.slice none 0 0,.int .i64 0,.int .i64 0,.slice none 0 0,.slice none 0 0,.int .i64 0,.int .i64 0],.int .i64 1])∧Below w.heap.size w w':=by
  have HA := Aside0.mk hA
  clear hA
  obtain ⟨z40, hz40, hzc40⟩ := infoF_
  obtain ⟨z44, hz44, hzc44⟩ := infoT_
  have BK4 := Aside0.mk (blk_new w (.cells #[.int .i64 g0, .int .i64 g1, .int .i64 g2] 37))
  have HB:=mkXSpecNewFTL_ (bAXSpecNewFTL_ (Below.refl w.heap.size w) (.cells #[.int .i64 g0,.int .i64 g1,.int .i64 g2] 37))
  go_enter Try.func50, Try.ntmps50
  go_wp2_with (first
    | ((with_reducible refine gate_dst (N:=8) rfl ?_);refine alloc_event 8 44 rfl rfl rfl [.int .i64 0,.int .i64 0,.int .i64 0,.slice none 0 0,.int .i64 0,.int .i64 0,.bool false,.int .i64 0,.int .i64 0,.int .i64 0,.slice none 0 0,.slice none 0 0,.slice none 0 0,.int .i64 0,.int .i64 0,.slice none 0 0,.slice none 0 0,.int .i64 0,.int .i64 0] (by kernel_rfl) ?_;intro b8 hg W1 hbox hb;have GE8:=mkXSpecNewFTL_ (show w.heap.size≤b8 from (by rw [hg];exact bZXSpecNewFTL_ HB.out));have n0_:=mkXSpecNewFTL_ (blk_below BK4.out hb);have n1_:=mkXSpecNewFTL_ (bTXSpecNewFTL_ HB.out hb);clear BK4 HB;have BK4:=n0_;have HB:=n1_;clear n0_ n1_;have BK8:=mkXSpecNewFTL_ hbox;clear hg hbox hb;have z0:=(blk_cell BK4.out 0).trans rfl;have z1:=(blk_cell BK4.out 1).trans rfl;have z2:=(blk_cell BK4.out 2).trans rfl;(try simp only [Act.put,List.setIfInBounds_toArray,List.set_cons_zero,List.set_cons_succ]))
    | (go_at_call 117;refine Calls.mono (spec_NewFlash.calls k g0 g1 g2 0 0 0 [] 0 0 false 0 1 _ HA.out) ?_;rintro e W2 ⟨v3,rfl,hs3,hb⟩;obtain ⟨A3,c3,e3⟩:=Kd.S_slice hs3;subst e3;have HS:=mkXSpecNewFTL_ hs3;clear hs3;clear z0 z1 z2;have n0_:=mkXSpecNewFTL_ (blk_below BK4.out hb);have n1_:=mkXSpecNewFTL_ (bTXSpecNewFTL_ HB.out hb);have n2_:=mkXSpecNewFTL_ (blk_below BK8.out hb);clear BK4 HB BK8;have BK4:=n0_;have HB:=n1_;have BK8:=n2_;clear n0_ n1_ n2_;clear hb;have z0:=(blk_cell BK4.out 0).trans rfl;have z1:=(blk_cell BK4.out 1).trans rfl;have z2:=(blk_cell BK4.out 2).trans rfl;(try simp only [Act.put,List.setIfInBounds_toArray,List.set_cons_zero,List.set_cons_succ]))
    | ((with_reducible refine gate_dst (N:=10) rfl ?_);refine alloc_store_event 10 40 _ rfl rfl rfl rfl rfl (cs:=[.int .i64 0,.int .i64 0,.int .i64 0,.slice A3 ([]:List (S120)).length c3,.int .i64 0,.int .i64 0,.bool false,.int .i64 0]) rfl rfl (by intro q hq;simp only [List.mem_cons,List.not_mem_nil,or_false] at hq;rcases hq with rfl|rfl|rfl|rfl|rfl|rfl|rfl|rfl <;> rfl) hz40 hzc40 ?_;intro b10 hg W3 hbox hb;have n0_:=mkXSpecNewFTL_ (blk_below BK4.out hb);have n1_:=mkXSpecNewFTL_ (bTXSpecNewFTL_ HB.out hb);have n2_:=mkXSpecNewFTL_ (blk_below BK8.out hb);have n3_:=mkXSpecNewFTL_ (sBXSpecNewFTL_ HS.out hb);clear BK4 HB BK8 HS;have BK4:=n0_;have HB:=n1_;have BK8:=n2_;have HS:=n3_;clear n0_ n1_ n2_ n3_;have BK10:=mkXSpecNewFTL_ hbox;clear hg hbox hb;have z0:=(blk_cell BK4.out 0).trans rfl;have z1:=(blk_cell BK4.out 1).trans rfl;have z2:=(blk_cell BK4.out 2).trans rfl;(try simp only [Act.put,List.setIfInBounds_toArray,List.set_cons_zero,List.set_cons_succ]))
    | ((with_reducible refine gate_store (t:=44) (p:=8) rfl ?_);refine store_seg_event 44 (.tmp 8) (.tmp 19) rfl rfl rfl b8 0 rfl [.int .i64 0,.int .i64 0,.int .i64 0,.slice none 0 0,.int .i64 0,.int .i64 0,.bool false,.int .i64 0,.int .i64 0,.int .i64 0,.slice none 0 0,.slice none 0 0,.slice none 0 0,.int .i64 0,.int .i64 0,.slice none 0 0,.slice none 0 0,.int .i64 0,.int .i64 0] BK8.out [.int .i64 0,.int .i64 0,.int .i64 0,.slice none 0 0,.int .i64 0,.int .i64 0,.bool false,.int .i64 0,.int .i64 0,.int .i64 0,.slice none 0 0,.slice none 0 0,.slice none 0 0,.int .i64 0,.int .i64 0,.slice none 0 0,.slice none 0 0,.int .i64 0,.int .i64 0] rfl (by kernel_rfl) (Nat.le_of_eq rfl) (allOne19 rfl rfl rfl rfl rfl rfl rfl rfl rfl rfl rfl rfl rfl rfl rfl rfl rfl rfl rfl) [.int .i64 0,.int .i64 0,.int .i64 0,.slice none 0 0,.int .i64 0,.int .i64 0,.bool false,.int .i64 0,.int .i64 0,.int .i64 0,.slice none 0 0,.slice none 0 0,.slice none 0 0,.int .i64 0,.int .i64 0,.slice none 0 0,.slice none 0 0,.int .i64 0,.int .i64 0] rfl ?_;intro W4 hbz hgz;have n0:=mkXSpecNewFTL_ (below_grown2 HB.out hgz GE8.out);clear HB;have HB:=n0;have BZ:=mkXSpecNewFTL_ hbz;clear n0 hbz hgz BK8;(try simp only [Act.put,List.setIfInBounds_toArray,List.set_cons_zero,List.set_cons_succ])))
  refine bodyPost_ret (results_ct rfl _ _ b8 44 #[.int .i64 0,.int .i64 0,.int .i64 0,.slice none 0 0,.int .i64 0,.int .i64 0,.bool false,.int .i64 0,.int .i64 0,.int .i64 0,.slice none 0 0,.slice none 0 0,.slice none 0 0,.int .i64 0,.int .i64 0,.slice none 0 0,.slice none 0 0,.int .i64 0,.int .i64 0] (0,0) _ rfl BZ.out Try.underlying44 rfl (by kernel_rfl)) rfl ?_
  exact ⟨rfl, HB.out⟩
set_option maxHeartbeats 8000000 in
set_option maxRecDepth 100000 in
theorem specNewFTL_par (k:Nat) (g0 g1 g2 lo bo po:Int) (d0 d1 d2:Int) (L:List (S120)) (d4 d5:Int) (d6:Bool) (d7:Int) (w:World) (hA:spec_NewFlash.f k g0 g1 g2=some (d0,d1,d2,L,d4,d5,d6,d7,0)) (hP:spec_l14Params.f g0 g1 g2 lo bo po=some false) :
    Calls Try.prog 50 #[.agg #[.int .i64 g0,.int .i64 g1,.int .i64 g2],.int .i64 lo,.int .i64 bo,.int .i64 po] w fun e w'=>e=.returned (.tuple #[.agg #[.int .i64 0,.int .i64 0,.int .i64 0,.slice none 0 0,.int .i64 0,.int .i64 0,.bool false,.int .i64 0,.int .i64 0,.int .i64 0,.slice none 0 0,.slice none 0 0,.slice none 0 0,.int .i64 0,.int .i64 0,.slice none 0 0,.slice none 0 0,.int .i64 0,.int .i64 0],.int .i64 2])∧Below w.heap.size w w':=by
  have HA := Aside0.mk hA
  have HP := Aside0.mk hP
  clear hA hP
  obtain ⟨z40, hz40, hzc40⟩ := infoF_
  obtain ⟨z44, hz44, hzc44⟩ := infoT_
  have BK4 := Aside0.mk (blk_new w (.cells #[.int .i64 g0, .int .i64 g1, .int .i64 g2] 37))
  have HB:=mkXSpecNewFTL_ (bAXSpecNewFTL_ (Below.refl w.heap.size w) (.cells #[.int .i64 g0,.int .i64 g1,.int .i64 g2] 37))
  go_enter Try.func50, Try.ntmps50
  go_wp2_with (first
    | ((with_reducible refine gate_dst (N:=8) rfl ?_);refine alloc_event 8 44 rfl rfl rfl [.int .i64 0,.int .i64 0,.int .i64 0,.slice none 0 0,.int .i64 0,.int .i64 0,.bool false,.int .i64 0,.int .i64 0,.int .i64 0,.slice none 0 0,.slice none 0 0,.slice none 0 0,.int .i64 0,.int .i64 0,.slice none 0 0,.slice none 0 0,.int .i64 0,.int .i64 0] (by kernel_rfl) ?_;intro b8 hg W1 hbox hb;have GE8:=mkXSpecNewFTL_ (show w.heap.size≤b8 from (by rw [hg];exact bZXSpecNewFTL_ HB.out));have n0_:=mkXSpecNewFTL_ (blk_below BK4.out hb);have n1_:=mkXSpecNewFTL_ (bTXSpecNewFTL_ HB.out hb);clear BK4 HB;have BK4:=n0_;have HB:=n1_;clear n0_ n1_;have BK8:=mkXSpecNewFTL_ hbox;clear hg hbox hb;have z0:=(blk_cell BK4.out 0).trans rfl;have z1:=(blk_cell BK4.out 1).trans rfl;have z2:=(blk_cell BK4.out 2).trans rfl;(try simp only [Act.put,List.setIfInBounds_toArray,List.set_cons_zero,List.set_cons_succ]))
    | (go_at_call 117;refine Calls.mono (spec_NewFlash.calls k g0 g1 g2 d0 d1 d2 L d4 d5 d6 d7 0 _ HA.out) ?_;rintro e W2 ⟨v3,rfl,hs3,hb⟩;obtain ⟨A3,c3,e3⟩:=Kd.S_slice hs3;subst e3;have HS:=mkXSpecNewFTL_ hs3;clear hs3;clear z0 z1 z2;have n0_:=mkXSpecNewFTL_ (blk_below BK4.out hb);have n1_:=mkXSpecNewFTL_ (bTXSpecNewFTL_ HB.out hb);have n2_:=mkXSpecNewFTL_ (blk_below BK8.out hb);clear BK4 HB BK8;have BK4:=n0_;have HB:=n1_;have BK8:=n2_;clear n0_ n1_ n2_;clear hb;have z0:=(blk_cell BK4.out 0).trans rfl;have z1:=(blk_cell BK4.out 1).trans rfl;have z2:=(blk_cell BK4.out 2).trans rfl;(try simp only [Act.put,List.setIfInBounds_toArray,List.set_cons_zero,List.set_cons_succ]))
    | ((with_reducible refine gate_dst (N:=10) rfl ?_);refine alloc_store_event 10 40 _ rfl rfl rfl rfl rfl (cs:=[.int .i64 d0,.int .i64 d1,.int .i64 d2,.slice A3 L.length c3,.int .i64 d4,.int .i64 d5,.bool d6,.int .i64 d7]) rfl rfl (by intro q hq;simp only [List.mem_cons,List.not_mem_nil,or_false] at hq;rcases hq with rfl|rfl|rfl|rfl|rfl|rfl|rfl|rfl <;> rfl) hz40 hzc40 ?_;intro b10 hg W3 hbox hb;have n0_:=mkXSpecNewFTL_ (blk_below BK4.out hb);have n1_:=mkXSpecNewFTL_ (bTXSpecNewFTL_ HB.out hb);have n2_:=mkXSpecNewFTL_ (blk_below BK8.out hb);have n3_:=mkXSpecNewFTL_ (sBXSpecNewFTL_ HS.out hb);clear BK4 HB BK8 HS;have BK4:=n0_;have HB:=n1_;have BK8:=n2_;have HS:=n3_;clear n0_ n1_ n2_ n3_;have BK10:=mkXSpecNewFTL_ hbox;clear hg hbox hb;have z0:=(blk_cell BK4.out 0).trans rfl;have z1:=(blk_cell BK4.out 1).trans rfl;have z2:=(blk_cell BK4.out 2).trans rfl;(try simp only [Act.put,List.setIfInBounds_toArray,List.set_cons_zero,List.set_cons_succ]))
    | (go_at_call 118;refine Calls.mono (spec_l14Params.calls g0 g1 g2 lo bo po false _ HP.out) ?_;rintro e W4 ⟨rfl,hb⟩;clear z0 z1 z2;have n0_:=mkXSpecNewFTL_ (blk_below BK4.out hb);have n1_:=mkXSpecNewFTL_ (bTXSpecNewFTL_ HB.out hb);have n2_:=mkXSpecNewFTL_ (blk_below BK8.out hb);have n3_:=mkXSpecNewFTL_ (sBXSpecNewFTL_ HS.out hb);have n4_:=mkXSpecNewFTL_ (blk_below BK10.out hb);clear BK4 HB BK8 HS BK10;have BK4:=n0_;have HB:=n1_;have BK8:=n2_;have HS:=n3_;have BK10:=n4_;clear n0_ n1_ n2_ n3_ n4_;clear hb;have z0:=(blk_cell BK4.out 0).trans rfl;have z1:=(blk_cell BK4.out 1).trans rfl;have z2:=(blk_cell BK4.out 2).trans rfl;(try simp only [Act.put,List.setIfInBounds_toArray,List.set_cons_zero,List.set_cons_succ]))
    | ((with_reducible refine gate_store (t:=44) (p:=8) rfl ?_);refine store_seg_event 44 (.tmp 8) (.tmp 27) rfl rfl rfl b8 0 rfl [.int .i64 0,.int .i64 0,.int .i64 0,.slice none 0 0,.int .i64 0,.int .i64 0,.bool false,.int .i64 0,.int .i64 0,.int .i64 0,.slice none 0 0,.slice none 0 0,.slice none 0 0,.int .i64 0,.int .i64 0,.slice none 0 0,.slice none 0 0,.int .i64 0,.int .i64 0] BK8.out [.int .i64 0,.int .i64 0,.int .i64 0,.slice none 0 0,.int .i64 0,.int .i64 0,.bool false,.int .i64 0,.int .i64 0,.int .i64 0,.slice none 0 0,.slice none 0 0,.slice none 0 0,.int .i64 0,.int .i64 0,.slice none 0 0,.slice none 0 0,.int .i64 0,.int .i64 0] rfl (by kernel_rfl) (Nat.le_of_eq rfl) (allOne19 rfl rfl rfl rfl rfl rfl rfl rfl rfl rfl rfl rfl rfl rfl rfl rfl rfl rfl rfl) [.int .i64 0,.int .i64 0,.int .i64 0,.slice none 0 0,.int .i64 0,.int .i64 0,.bool false,.int .i64 0,.int .i64 0,.int .i64 0,.slice none 0 0,.slice none 0 0,.slice none 0 0,.int .i64 0,.int .i64 0,.slice none 0 0,.slice none 0 0,.int .i64 0,.int .i64 0] rfl ?_;intro W5 hbz hgz;have n0:=mkXSpecNewFTL_ (below_grown2 HB.out hgz GE8.out);clear HB;have HB:=n0;have BZ:=mkXSpecNewFTL_ hbz;clear n0 hbz hgz BK8;(try simp only [Act.put,List.setIfInBounds_toArray,List.set_cons_zero,List.set_cons_succ])))
  refine bodyPost_ret (results_ct rfl _ _ b8 44 #[.int .i64 0,.int .i64 0,.int .i64 0,.slice none 0 0,.int .i64 0,.int .i64 0,.bool false,.int .i64 0,.int .i64 0,.int .i64 0,.slice none 0 0,.slice none 0 0,.slice none 0 0,.int .i64 0,.int .i64 0,.slice none 0 0,.slice none 0 0,.int .i64 0,.int .i64 0] (0,0) _ rfl BZ.out Try.underlying44 rfl (by kernel_rfl)) rfl ?_
  exact ⟨rfl, HB.out⟩
set_option maxHeartbeats 8000000 in
set_option maxRecDepth 100000 in
theorem specNewFTL_ok (k:Nat) (g0 g1 g2 lo bo po:Int) (d0 d1 d2:Int) (L:List (S120)) (d4 d5:Int) (d6:Bool) (d7:Int) (m0 m1:Int) (M:List Int) (T:List Bool) (r0 r1 r2:Int) (RL:List (S120)) (r4 r5:Int) (r6:Bool) (r7 r8 r9:Int) (RM:List Int) (RT:List Bool) (RH:List Int) (r13 r14:Int) (RO RX:List Int) (r17 r18:Int) (w:World) (hA:spec_NewFlash.f k g0 g1 g2=some (d0,d1,d2,L,d4,d5,d6,d7,0)) (hP:spec_l14Params.f g0 g1 g2 lo bo po=some true) (hM:spec_l09New.f k lo (wrap64 (g0 * g1)) g2=some (m0,m1,M,T)) (hN:spec_l14New.f d0 d1 d2 L d4 d5 d6 d7 m0 m1 M T bo po=some (r0,r1,r2,RL,r4,r5,r6,r7,r8,r9,RM,RT,RH,r13,r14,RO,RX,r17,r18)) :
    Calls Try.prog 50 #[.agg #[.int .i64 g0,.int .i64 g1,.int .i64 g2],.int .i64 lo,.int .i64 bo,.int .i64 po] w fun e w'=>∃ A3 c3 A10 c10 A11 c11 A12 c12 A15 c15 A16 c16,e=.returned (.tuple #[.agg #[.int .i64 r0,.int .i64 r1,.int .i64 r2,.slice A3 RL.length c3,.int .i64 r4,.int .i64 r5,.bool r6,.int .i64 r7,.int .i64 r8,.int .i64 r9,.slice A10 RM.length c10,.slice A11 RT.length c11,.slice A12 RH.length c12,.int .i64 r13,.int .i64 r14,.slice A15 RO.length c15,.slice A16 RX.length c16,.int .i64 r17,.int .i64 r18],.int .i64 0])∧RFTL w' A3 c3 RL A10 c10 RM A11 c11 RT A12 c12 RH A15 c15 RO A16 c16 RX∧Below w.heap.size w w':=by
  have HA := Aside0.mk hA
  have HP := Aside0.mk hP
  have HM := Aside0.mk hM
  have HN := Aside0.mk hN
  clear hA hP hM hN
  obtain ⟨z40, hz40, hzc40⟩ := infoF_
  obtain ⟨z44, hz44, hzc44⟩ := infoT_
  have BK4 := Aside0.mk (blk_new w (.cells #[.int .i64 g0, .int .i64 g1, .int .i64 g2] 37))
  have HB:=mkXSpecNewFTL_ (bAXSpecNewFTL_ (Below.refl w.heap.size w) (.cells #[.int .i64 g0,.int .i64 g1,.int .i64 g2] 37))
  go_enter Try.func50, Try.ntmps50
  go_wp2_with (first
    | ((with_reducible refine gate_dst (N:=8) rfl ?_);refine alloc_event 8 44 rfl rfl rfl [.int .i64 0,.int .i64 0,.int .i64 0,.slice none 0 0,.int .i64 0,.int .i64 0,.bool false,.int .i64 0,.int .i64 0,.int .i64 0,.slice none 0 0,.slice none 0 0,.slice none 0 0,.int .i64 0,.int .i64 0,.slice none 0 0,.slice none 0 0,.int .i64 0,.int .i64 0] (by kernel_rfl) ?_;intro b8 hg W1 hbox hb;have GE8:=mkXSpecNewFTL_ (show w.heap.size≤b8 from (by rw [hg];exact bZXSpecNewFTL_ HB.out));have n0_:=mkXSpecNewFTL_ (blk_below BK4.out hb);have n1_:=mkXSpecNewFTL_ (bTXSpecNewFTL_ HB.out hb);clear BK4 HB;have BK4:=n0_;have HB:=n1_;clear n0_ n1_;have BK8:=mkXSpecNewFTL_ hbox;clear hg hbox hb;have z0:=(blk_cell BK4.out 0).trans rfl;have z1:=(blk_cell BK4.out 1).trans rfl;have z2:=(blk_cell BK4.out 2).trans rfl;(try simp only [Act.put,List.setIfInBounds_toArray,List.set_cons_zero,List.set_cons_succ]))
    | (go_at_call 117;refine Calls.mono (spec_NewFlash.calls k g0 g1 g2 d0 d1 d2 L d4 d5 d6 d7 0 _ HA.out) ?_;rintro e W2 ⟨v3,rfl,hs3,hb⟩;obtain ⟨A3,c3,e3⟩:=Kd.S_slice hs3;subst e3;have HS:=mkXSpecNewFTL_ hs3;clear hs3;clear z0 z1 z2;have n0_:=mkXSpecNewFTL_ (blk_below BK4.out hb);have n1_:=mkXSpecNewFTL_ (bTXSpecNewFTL_ HB.out hb);have n2_:=mkXSpecNewFTL_ (blk_below BK8.out hb);clear BK4 HB BK8;have BK4:=n0_;have HB:=n1_;have BK8:=n2_;clear n0_ n1_ n2_;clear hb;have z0:=(blk_cell BK4.out 0).trans rfl;have z1:=(blk_cell BK4.out 1).trans rfl;have z2:=(blk_cell BK4.out 2).trans rfl;(try simp only [Act.put,List.setIfInBounds_toArray,List.set_cons_zero,List.set_cons_succ]))
    | ((with_reducible refine gate_dst (N:=10) rfl ?_);refine alloc_store_event 10 40 _ rfl rfl rfl rfl rfl (cs:=[.int .i64 d0,.int .i64 d1,.int .i64 d2,.slice A3 L.length c3,.int .i64 d4,.int .i64 d5,.bool d6,.int .i64 d7]) rfl rfl (by intro q hq;simp only [List.mem_cons,List.not_mem_nil,or_false] at hq;rcases hq with rfl|rfl|rfl|rfl|rfl|rfl|rfl|rfl <;> rfl) hz40 hzc40 ?_;intro b10 hg W3 hbox hb;have n0_:=mkXSpecNewFTL_ (blk_below BK4.out hb);have n1_:=mkXSpecNewFTL_ (bTXSpecNewFTL_ HB.out hb);have n2_:=mkXSpecNewFTL_ (blk_below BK8.out hb);have n3_:=mkXSpecNewFTL_ (sBXSpecNewFTL_ HS.out hb);clear BK4 HB BK8 HS;have BK4:=n0_;have HB:=n1_;have BK8:=n2_;have HS:=n3_;clear n0_ n1_ n2_ n3_;have BK10:=mkXSpecNewFTL_ hbox;clear hg hbox hb;have z0:=(blk_cell BK4.out 0).trans rfl;have z1:=(blk_cell BK4.out 1).trans rfl;have z2:=(blk_cell BK4.out 2).trans rfl;(try simp only [Act.put,List.setIfInBounds_toArray,List.set_cons_zero,List.set_cons_succ]))
    | (go_at_call 118;refine Calls.mono (spec_l14Params.calls g0 g1 g2 lo bo po true _ HP.out) ?_;rintro e W4 ⟨rfl,hb⟩;clear z0 z1 z2;have n0_:=mkXSpecNewFTL_ (blk_below BK4.out hb);have n1_:=mkXSpecNewFTL_ (bTXSpecNewFTL_ HB.out hb);have n2_:=mkXSpecNewFTL_ (blk_below BK8.out hb);have n3_:=mkXSpecNewFTL_ (sBXSpecNewFTL_ HS.out hb);have n4_:=mkXSpecNewFTL_ (blk_below BK10.out hb);clear BK4 HB BK8 HS BK10;have BK4:=n0_;have HB:=n1_;have BK8:=n2_;have HS:=n3_;have BK10:=n4_;clear n0_ n1_ n2_ n3_ n4_;clear hb;have z0:=(blk_cell BK4.out 0).trans rfl;have z1:=(blk_cell BK4.out 1).trans rfl;have z2:=(blk_cell BK4.out 2).trans rfl;(try simp only [Act.put,List.setIfInBounds_toArray,List.set_cons_zero,List.set_cons_succ])))
  have n0 := Aside0.mk (blk_drew BK4.out)
  have n1 := Aside0.mk (blk_drew BK8.out)
  have n2 := Aside0.mk (blk_drew BK10.out)
  have n3 := Aside0.mk (below_drew1 HB.out)
  have n4 := Aside0.mk (Kd.S_bound (Kd.S_drew HS.out))
  clear BK4 BK8 BK10 HB HS
  have BK4 := n0
  have BK8 := n1
  have BK10 := n2
  have HB := n3
  have HS := n4
  clear n0 n1 n2 n3 n4 z0 z1 z2
  refine start_ (n:=15) (S:=fun w'=>w'.cell? ⟨b10,0,none⟩=some (.int .i64 d0)∧w'.cell? ⟨b10,1,none⟩=some (.int .i64 d1)∧w'.cell? ⟨b10,2,none⟩=some (.int .i64 d2)∧w'.cell? ⟨b10,3,none⟩=some (.slice A3 L.length c3)∧w'.cell? ⟨b10,4,none⟩=some (.int .i64 d4)∧w'.cell? ⟨b10,5,none⟩=some (.int .i64 d5)∧w'.cell? ⟨b10,6,none⟩=some (.bool d6)∧w'.cell? ⟨b10,7,none⟩=some (.int .i64 d7)∧w'.cell? ⟨w.heap.size,0,none⟩=some (.int .i64 g0)∧w'.cell? ⟨w.heap.size,1,none⟩=some (.int .i64 g1)∧w'.cell? ⟨w.heap.size,2,none⟩=some (.int .i64 g2)) (ds:=[13]) #[false,false,false,false,false,false,false,false,false,false,false,false,false,false,false] (by kernel_rfl) rfl rfl ⟨(blk_cell BK10.out 0).trans rfl,(blk_cell BK10.out 1).trans rfl,(blk_cell BK10.out 2).trans rfl,(blk_cell BK10.out 3).trans rfl,(blk_cell BK10.out 4).trans rfl,(blk_cell BK10.out 5).trans rfl,(blk_cell BK10.out 6).trans rfl,(blk_cell BK10.out 7).trans rfl,(blk_cell BK4.out 0).trans rfl,(blk_cell BK4.out 1).trans rfl,(blk_cell BK4.out 2).trans rfl⟩ (fun hHeld=>?_)
  generalize World.drew _ = W5 at BK4 BK8 BK10 HB HS hHeld ⊢
  refine pure_ (i:=1) (N:=some 29) (v:=?_) (a':=?_) #[false,true,false,false,false,false,false,false,false,false,false,false,false,false,false] rfl rfl (by kernel_rfl) (fun _ _ _ h=>h) (Or.inl ⟨by rfl,?_⟩) ?_ ?_
  rotate_left
  · intro w'
    go_simp
    with_reducible rfl
  rotate_left
  · simp only [Act.put,List.setIfInBounds_toArray,List.set_cons_zero,List.set_cons_succ,i64_w,i32_w]
    rfl
  refine pure_ (i:=2) (N:=some 30) (v:=?_) (a':=?_) #[false,true,true,false,false,false,false,false,false,false,false,false,false,false,false] rfl rfl (by kernel_rfl) (fun _ _ _ h=>h) (Or.inl ⟨by rfl,?_⟩) ?_ ?_
  rotate_left
  · intro w'
    go_simp
    with_reducible rfl
  rotate_left
  · simp only [Act.put,List.setIfInBounds_toArray,List.set_cons_zero,List.set_cons_succ,i64_w,i32_w]
    rfl
  refine pure_ (i:=4) (N:=some 32) (v:=?_) (a':=?_) #[false,true,true,false,true,false,false,false,false,false,false,false,false,false,false] rfl rfl (by kernel_rfl) (fun _ _ _ h=>h) (Or.inl ⟨by rfl,?_⟩) ?_ ?_
  rotate_left
  · intro w'
    go_simp
    with_reducible rfl
  rotate_left
  · simp only [Act.put,List.setIfInBounds_toArray,List.set_cons_zero,List.set_cons_succ,i64_w,i32_w]
    rfl
  refine pure_ (i:=7) (N:=some 35) (v:=?_) (a':=?_) #[false,true,true,false,true,false,false,true,false,false,false,false,false,false,false] rfl rfl (by kernel_rfl) (fun _ _ _ h=>h) (Or.inl ⟨by rfl,?_⟩) ?_ ?_
  rotate_left
  · intro w'
    go_simp
    with_reducible rfl
  rotate_left
  · simp only [Act.put,List.setIfInBounds_toArray,List.set_cons_zero,List.set_cons_succ,i64_w,i32_w]
    rfl
  refine pure_ (i:=10) (N:=some 38) (v:=?_) (a':=?_) #[false,true,true,false,true,false,false,true,false,false,true,false,false,false,false] rfl rfl (by kernel_rfl) (fun _ _ _ h=>h) (Or.inl ⟨by rfl,?_⟩) ?_ ?_
  rotate_left
  · intro w'
    go_simp
    with_reducible rfl
  rotate_left
  · simp only [Act.put,List.setIfInBounds_toArray,List.set_cons_zero,List.set_cons_succ,i64_w,i32_w]
    rfl
  refine pure_ (i:=11) (N:=some 39) (v:=?_) (a':=?_) #[false,true,true,false,true,false,false,true,false,false,true,true,false,false,false] rfl rfl (by kernel_rfl) (fun _ _ _ h=>h) (Or.inl ⟨by rfl,?_⟩) ?_ ?_
  rotate_left
  · intro w'
    go_simp
    with_reducible rfl
  rotate_left
  · simp only [Act.put,List.setIfInBounds_toArray,List.set_cons_zero,List.set_cons_succ,i64_w,i32_w]
    rfl
  refine take_ (i:=0) (N:=some 28) (v:=?_) (a':=?_) #[true,true,true,false,true,false,false,true,false,false,true,true,false,false,false] rfl rfl (by kernel_rfl) (fun _ _ _ h=>h) (Or.inl ⟨by rfl,?_⟩) hHeld ?_ ?_
  rotate_left
  · rintro w' ⟨s0, s1, s2, s3, s4, s5, s6, s7, s8, s9, s10⟩
    go_simp
    with_reducible rfl
  rotate_left
  · simp only [Act.put,List.setIfInBounds_toArray,List.set_cons_zero,List.set_cons_succ,i64_w,i32_w]
    rfl
  refine take_ (i:=3) (N:=some 31) (v:=?_) (a':=?_) #[true,true,true,true,true,false,false,true,false,false,true,true,false,false,false] rfl rfl (by kernel_rfl) (fun _ _ _ h=>h) (Or.inl ⟨by rfl,?_⟩) hHeld ?_ ?_
  rotate_left
  · rintro w' ⟨s0, s1, s2, s3, s4, s5, s6, s7, s8, s9, s10⟩
    go_simp
    with_reducible rfl
  rotate_left
  · simp only [Act.put,List.setIfInBounds_toArray,List.set_cons_zero,List.set_cons_succ,i64_w,i32_w]
    rfl
  refine take_ (i:=5) (N:=some 33) (v:=?_) (a':=?_) #[true,true,true,true,true,true,false,true,false,false,true,true,false,false,false] rfl rfl (by kernel_rfl) (fun _ _ _ h=>h) (Or.inl ⟨by rfl,?_⟩) hHeld ?_ ?_
  rotate_left
  · rintro w' ⟨s0, s1, s2, s3, s4, s5, s6, s7, s8, s9, s10⟩
    go_simp
    with_reducible rfl
  rotate_left
  · simp only [Act.put,List.setIfInBounds_toArray,List.set_cons_zero,List.set_cons_succ,i64_w,i32_w]
    rfl
  refine pure_ (i:=6) (N:=some 34) (v:=?_) (a':=?_) #[true,true,true,true,true,true,true,true,false,false,true,true,false,false,false] rfl rfl (by kernel_rfl) (fun _ _ _ h=>h) (Or.inl ⟨by rfl,?_⟩) ?_ ?_
  rotate_left
  · intro w'
    go_simp
    with_reducible rfl
  rotate_left
  · simp only [Act.put,List.setIfInBounds_toArray,List.set_cons_zero,List.set_cons_succ,i64_w,i32_w]
    rfl
  refine take_ (i:=8) (N:=some 36) (v:=?_) (a':=?_) #[true,true,true,true,true,true,true,true,true,false,true,true,false,false,false] rfl rfl (by kernel_rfl) (fun _ _ _ h=>h) (Or.inl ⟨by rfl,?_⟩) hHeld ?_ ?_
  rotate_left
  · rintro w' ⟨s0, s1, s2, s3, s4, s5, s6, s7, s8, s9, s10⟩
    go_simp
    with_reducible rfl
  rotate_left
  · simp only [Act.put,List.setIfInBounds_toArray,List.set_cons_zero,List.set_cons_succ,i64_w,i32_w]
    rfl
  refine one_ (i:=9) (N:=some 37) #[true,true,true,true,true,true,true,true,true,true,true,true,false,false,false] rfl rfl (by kernel_rfl) (by decide) (fun K hK=>?_)
  refine goes_ Try.func120 (by kernel_rfl) rfl #[.int .i64 lo,.int .i64 (wrap64 (g0 * g1)),.int .i64 g2] (by rfl) rfl rfl (by simp only [List.map_toArray,List.map_cons,List.map_nil];rfl) ?_
  with_reducible refine (spec_l09New.calls k lo (wrap64 (g0 * g1)) g2 m0 m1 M T _ HM.out).mono ?_
  rintro e W6 ⟨v2, v3, rfl, hr2, hr3, hb⟩
  refine ⟨_, rfl, ?_⟩
  have BK4o := BK4
  have BK8o := BK8
  have BK10o := BK10
  have HBo := HB
  have n0_ := Aside0.mk (blk_below BK4.out hb)
  have n1_ := Aside0.mk (blk_below BK8.out hb)
  have n2_ := Aside0.mk (blk_below BK10.out hb)
  have n3_ := Aside0.mk (below_step HB.out hb)
  have n4_ := Aside0.mk (Kd.S_below HS.out hb)
  clear BK4 BK8 BK10 HB HS
  have BK4 := n0_
  have BK8 := n1_
  have BK10 := n2_
  have HB := n3_
  have HS := n4_
  clear n0_ n1_ n2_ n3_ n4_
  have HR2 := Aside0.mk hr2
  have HR3 := Aside0.mk hr3
  have HNB := Aside0.mk hb
  clear hr2 hr3 hb
  refine hK.out _ _ ⟨(blk_cell BK10.out 0).trans rfl,(blk_cell BK10.out 1).trans rfl,(blk_cell BK10.out 2).trans rfl,(blk_cell BK10.out 3).trans rfl,(blk_cell BK10.out 4).trans rfl,(blk_cell BK10.out 5).trans rfl,(blk_cell BK10.out 6).trans rfl,(blk_cell BK10.out 7).trans rfl,(blk_cell BK4.out 0).trans rfl,(blk_cell BK4.out 1).trans rfl,(blk_cell BK4.out 2).trans rfl⟩ (fun hHeld=>?_)
  clear hK K
  refine norm_ (a' := ?_) ?_ ?_
  rotate_left
  · show Act.put _ (some 37) _ = _
    simp only [Act.put,List.setIfInBounds_toArray,List.set_cons_zero,List.set_cons_succ,i64_w,i32_w]
    rfl
  refine one_ (i:=12) (N:=some 40) #[true,true,true,true,true,true,true,true,true,true,true,true,true,false,false] rfl rfl (by kernel_rfl) (by decide) (fun K hK=>?_)
  refine goes_ Try.func119 (by kernel_rfl) rfl #[.agg #[.int .i64 d0,.int .i64 d1,.int .i64 d2,.slice A3 L.length c3,.int .i64 d4,.int .i64 d5,.bool d6,.int .i64 d7],.agg #[.int .i64 m0,.int .i64 m1,v2,v3],.int .i64 bo,.int .i64 po] (by rfl) rfl rfl (by simp only [List.map_toArray,List.map_cons,List.map_nil];rfl) ?_
  with_reducible refine (spec_l14New.calls d0 d1 d2 (fun k_=>k_≠b8) A3 c3 L d4 d5 d6 d7 m0 m1 (fun k_=>k_≠b8) v2 M (fun k_=>k_≠b8) v3 T bo po r0 r1 r2 RL r4 r5 r6 r7 r8 r9 RM RT RH r13 r14 RO RX r17 r18 W5 W6 HNB.out (Kd.S_V (Kd.S_mono (Kd.S_types HS.out BK8.out (by decide)) (fun k_ hk_=>⟨hk_.2,fun he=>absurd (Nat.lt_of_lt_of_le hk_.1.2.2.1 (Kd.R_base HR2.out k_ he.symm)) (Nat.lt_irrefl _),fun he=>absurd (Nat.lt_of_lt_of_le hk_.1.2.2.1 (Kd.R_base HR3.out k_ he.symm)) (Nat.lt_irrefl _)⟩))) (Kd.R_mono (Kd.R_types HR2.out BK8.out (by decide)) (fun _ hk_=>hk_.2)) (Kd.R_mono (Kd.R_types HR3.out BK8.out (by decide)) (fun _ hk_=>hk_.2)) HN.out).mono ?_
  rintro e W7 ⟨v3_, v10_, v11_, v12_, v15_, v16_, rfl, q3, q10, q11, q12, q15, q16, hb, hk⟩
  refine ⟨_, rfl, ?_⟩
  have n0 := Aside0.mk (blk_below BK4o.out hb)
  have n1 := Aside0.mk (blk_below BK8o.out hb)
  have n2 := Aside0.mk (blk_below BK10o.out hb)
  have n3 := Aside0.mk (below_step HBo.out hb)
  have L8 := Aside0.mk (blk_lt BK8.out)
  clear BK4 BK8 BK10 HB BK4o BK8o BK10o HBo HS HR2 HR3 HNB hb hk
  have BK4 := n0
  have BK8 := n1
  have BK10 := n2
  have HB := n3
  clear n0 n1 n2 n3
  obtain ⟨A3r, c3r, e3, l3, f3⟩ := q3
  subst e3
  obtain ⟨A10, c10, e10⟩ := Kd.R_slice q10
  subst e10
  have Q10 := Aside0.mk (Kd.R_types q10 BK8.out (by decide))
  clear q10
  obtain ⟨A11, c11, e11⟩ := Kd.R_slice q11
  subst e11
  have Q11 := Aside0.mk (Kd.R_types q11 BK8.out (by decide))
  clear q11
  obtain ⟨A12, c12, e12⟩ := Kd.R_slice q12
  subst e12
  have Q12 := Aside0.mk (Kd.R_types q12 BK8.out (by decide))
  clear q12
  obtain ⟨A15, c15, e15⟩ := Kd.R_slice q15
  subst e15
  have Q15 := Aside0.mk (Kd.R_types q15 BK8.out (by decide))
  clear q15
  obtain ⟨A16, c16, e16⟩ := Kd.R_slice q16
  subst e16
  have Q16 := Aside0.mk (Kd.R_types q16 BK8.out (by decide))
  clear q16
  have F3 := Aside0.mk f3
  have L3 := Aside0.mk l3
  clear f3 l3
  refine hK.out _ _ ⟨(blk_cell BK10.out 0).trans rfl,(blk_cell BK10.out 1).trans rfl,(blk_cell BK10.out 2).trans rfl,(blk_cell BK10.out 3).trans rfl,(blk_cell BK10.out 4).trans rfl,(blk_cell BK10.out 5).trans rfl,(blk_cell BK10.out 6).trans rfl,(blk_cell BK10.out 7).trans rfl,(blk_cell BK4.out 0).trans rfl,(blk_cell BK4.out 1).trans rfl,(blk_cell BK4.out 2).trans rfl⟩ (fun hHeld=>?_)
  clear hK K
  refine norm_ (a' := ?_) ?_ ?_
  rotate_left
  · show Act.put _ (some 40) _ = _
    simp only [Act.put,List.setIfInBounds_toArray,List.set_cons_zero,List.set_cons_succ,i64_w,i32_w]
    rfl
  refine last_ (i:=13) (N:=none) #[true,true,true,true,true,true,true,true,true,true,true,true,true,true,false] rfl rfl (by kernel_rfl) (by decide) (fun K hK=>?_)
  refine store_seg_step 44 (.tmp 8) (.tmp 40) rfl rfl rfl b8 0 rfl [.int .i64 0,.int .i64 0,.int .i64 0,.slice none 0 0,.int .i64 0,.int .i64 0,.bool false,.int .i64 0,.int .i64 0,.int .i64 0,.slice none 0 0,.slice none 0 0,.slice none 0 0,.int .i64 0,.int .i64 0,.slice none 0 0,.slice none 0 0,.int .i64 0,.int .i64 0] BK8.out [.int .i64 r0,.int .i64 r1,.int .i64 r2,.slice A3r RL.length c3r,.int .i64 r4,.int .i64 r5,.bool r6,.int .i64 r7,.int .i64 r8,.int .i64 r9,.slice A10 RM.length c10,.slice A11 RT.length c11,.slice A12 RH.length c12,.int .i64 r13,.int .i64 r14,.slice A15 RO.length c15,.slice A16 RX.length c16,.int .i64 r17,.int .i64 r18] rfl (by kernel_rfl) (Nat.le_of_eq rfl) (allOne19 rfl rfl rfl rfl rfl rfl rfl rfl rfl rfl rfl rfl rfl rfl rfl rfl rfl rfl rfl) [.int .i64 r0,.int .i64 r1,.int .i64 r2,.slice A3r RL.length c3r,.int .i64 r4,.int .i64 r5,.bool r6,.int .i64 r7,.int .i64 r8,.int .i64 r9,.slice A10 RM.length c10,.slice A11 RT.length c11,.slice A12 RH.length c12,.int .i64 r13,.int .i64 r14,.slice A15 RO.length c15,.slice A16 RX.length c16,.int .i64 r17,.int .i64 r18] rfl ?_
  intro W8 hbz hgz
  have BZ := Aside0.mk hbz
  have n0 := Aside0.mk (below_grown2 HB.out hgz GE8.out)
  have HF:Aside0 (RFTL W8 A3r c3r RL A10 c10 RM A11 c11 RT A12 c12 RH A15 c15 RO A16 c16 RX):=⟨⟨Kd.F_now (Kd.F_grown F3.out hgz (fun k_ hk_ he_=>hk_.1.elim (fun q=>q.elim (fun z=>z (by injection he_)) (fun q=>q.elim (fun z=>z (by injection he_)) (fun z=>z (by injection he_)))) (fun z=>by injection he_ with he_;subst he_;exact Nat.lt_irrefl _ (Nat.lt_of_lt_of_le L8.out z)))),L3.out,(Kd.R_reads' (Kd.R_grown Q10.out hgz (fun _ hk_ he_=>hk_.2 (by injection he_)))).2.2,(Kd.R_reads' (Kd.R_grown Q10.out hgz (fun _ hk_ he_=>hk_.2 (by injection he_)))).2.1,(Kd.R_reads' (Kd.R_grown Q11.out hgz (fun _ hk_ he_=>hk_.2 (by injection he_)))).2.2,(Kd.R_reads' (Kd.R_grown Q11.out hgz (fun _ hk_ he_=>hk_.2 (by injection he_)))).2.1,(Kd.R_reads' (Kd.R_grown Q12.out hgz (fun _ hk_ he_=>hk_.2 (by injection he_)))).2.2,(Kd.R_reads' (Kd.R_grown Q12.out hgz (fun _ hk_ he_=>hk_.2 (by injection he_)))).2.1,(Kd.R_reads' (Kd.R_grown Q15.out hgz (fun _ hk_ he_=>hk_.2 (by injection he_)))).2.2,(Kd.R_reads' (Kd.R_grown Q15.out hgz (fun _ hk_ he_=>hk_.2 (by injection he_)))).2.1,(Kd.R_reads' (Kd.R_grown Q16.out hgz (fun _ hk_ he_=>hk_.2 (by injection he_)))).2.2,(Kd.R_reads' (Kd.R_grown Q16.out hgz (fun _ hk_ he_=>hk_.2 (by injection he_)))).2.1⟩⟩
  clear HB hbz hgz BK8 BK4 BK10
  have HB := n0
  clear n0
  refine hK.out _ _ ?_
  clear hK K
  refine pure_ (i:=14) (N:=some 9) (v:=?_) (a':=?_) #[true,true,true,true,true,true,true,true,true,true,true,true,true,true,true] rfl rfl (by kernel_rfl) (fun _ _ _ h=>h) (Or.inl ⟨by rfl,?_⟩) ?_ ?_
  rotate_left
  · intro w'
    go_simp
    with_reducible rfl
  rotate_left
  · simp only [Act.put,List.setIfInBounds_toArray,List.set_cons_zero,List.set_cons_succ,i64_w,i32_w]
    rfl
  refine done_ (by kernel_rfl) ?_
  try go_wp2
  refine bodyPost_ret (results_ct rfl _ _ b8 44 #[.int .i64 r0,.int .i64 r1,.int .i64 r2,.slice A3r RL.length c3r,.int .i64 r4,.int .i64 r5,.bool r6,.int .i64 r7,.int .i64 r8,.int .i64 r9,.slice A10 RM.length c10,.slice A11 RT.length c11,.slice A12 RH.length c12,.int .i64 r13,.int .i64 r14,.slice A15 RO.length c15,.slice A16 RX.length c16,.int .i64 r17,.int .i64 r18] (0,0) _ rfl BZ.out Try.underlying44 rfl (by kernel_rfl)) rfl ?_
  exact ⟨A3r, c3r, A10, c10, A11, c11, A12, c12, A15, c15, A16, c16, rfl, HF.out, HB.out⟩
end Go.Proofs.Ytaecdlhomihejaa.Q
