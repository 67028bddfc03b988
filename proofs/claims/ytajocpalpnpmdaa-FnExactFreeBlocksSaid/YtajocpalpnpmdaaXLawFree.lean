/- The law FnExactFreeBlocks: its walk over the known answers of its calls. Conditions: those before each theorem. -/
import Derived.Test.YtajocpalpnpmdaaXFreeC
import Derived.Test.YtajocpalpnpmdaaXToOwn
import Derived.Test.YtajocpalpnpmdaaOpaque
import Derived.Test.YtajocpalpnpmdaaQ6
import Derived.Test.YtajocpalpnpmdaaQ8
namespace Go.Proofs.Ytajocpalpnpmdaa.Q
open Go.RowKit Go.Proofs.YtajocpalpnpmdaaW.PrintWords Go.Proofs.YtajocpalpnpmdaaW.PrintMore Go.Proofs.YtajocpalpnpmdaaW.PrintLast
abbrev lSXLawFree_ := @List.setIfInBounds_toArray
abbrev lZXLawFree_ := @List.set_cons_zero
abbrev lCXLawFree_ := @List.set_cons_succ
abbrev mAXLawFree_ := @List.map_toArray
set_option linter.unusedVariables false
set_option linter.unusedSimpArgs false
set_option maxHeartbeats 16000000 in
set_option maxRecDepth 100000 in
theorem freeLaw_neg (v0:Value) (x0:TFFTLL) (t0:Int) (w:World) (HF0:FFTLL w v0 x0)
  (hSz:∀ W,Below w.heap.size w W→Calls Try.prog 5 #[v0,.int .i64 1048576] W fun e w'=>e=.returned (.int .i64 t0)∧Below W.heap.size W w') (hneg:t0 < 0) :
  Calls Try.prog 4 #[v0] w fun e w'=>e=.returned (.bool true)∧Below w.heap.size w w':=by
 obtain ⟨cs0, rfl, hlcs0, hocs0⟩ := FFTLL_cells HF0
 have HB := Aside0.mk (Below.refl w.heap.size w)
 clear HF0
 replace hSz := Aside0.mk hSz
 have c0_ : decide (t0 < 0) = true := decide_eq_true hneg
 clear hneg
 go_enter Try.func4, Try.ntmps4
 go_wp2_with (first
  | ((with_reducible refine gate_dst (N:=1) rfl ?_);(try (refine gate_guard (by rfl) ?_;dsimp only));refine box_event (cs:=cs0.toArray) (t:=34) rfl (N:=1) rfl (by first|(go_simp;done)|(go_simp;rfl)) ?_;intro b1 hg W1 hbox hb;have n0_:=Aside0.mk (below_step HB.out hb);have BK1:=Aside0.mk hbox;clear HB;have HB:=n0_;clear n0_;clear hg hb hbox;(try simp only [Act.put,lSXLawFree_,lZXLawFree_,lCXLawFree_]))
  | ((with_reducible refine gate_dst (N:=11) rfl ?_);(try (refine gate_guard (by rfl) ?_;dsimp only));refine wpList_load_mid rfl 34 (.tmp 1) rfl b1 0 rfl cs0 _ (range_of_blk BK1.out) Try.underlying34 rfl (by rw [hlcs0];kernel_rfl) ?_;(try simp only [Act.put,lSXLawFree_,lZXLawFree_,lCXLawFree_]))
  | ((with_reducible refine gate_dst (N:=13) rfl ?_);(try (refine gate_guard (by rfl) ?_;dsimp only));refine goesL_ (some 13) rfl rfl Try.func5 (by kernel_rfl) rfl #[.agg cs0.toArray,.int .i64 1048576] rfl (by first|rfl|(simp only [mAXLawFree_,List.map_cons,List.map_nil];rfl)) ?_;with_reducible refine Calls.mono (hSz.out _ HB.out) ?_;rintro e W2 ⟨rfl,hb⟩;refine ⟨_,rfl,?_⟩;have n0_:=Aside0.mk (below_step HB.out hb);have n1_:=Aside0.mk (blk_below BK1.out hb);clear HB BK1;have HB:=n0_;have BK1:=n1_;clear n0_ n1_;clear hb;(try simp only [Act.put,lSXLawFree_,lZXLawFree_,lCXLawFree_])))
 go_ret
 exact ⟨by first | rfl | simp [*], HB.out⟩
set_option maxHeartbeats 32000000 in
set_option maxRecDepth 100000 in
theorem freeLaw_pos (k:Nat) (v0:Value) (x0:TFFTLL) (x:TFFTLI) (R R':List Int) (t0 m r1:Int) (w:World) (HF0:FFTLL w v0 x0)
  (hSz:∀ W,Below w.heap.size w W→Calls Try.prog 5 #[v0,.int .i64 1048576] W fun e w'=>e=.returned (.int .i64 t0)∧Below W.heap.size W w')
  (hT:∀ W,Below w.heap.size w W→Calls Try.prog 7 #[v0] W fun e w'=>∃ v,e=.returned v∧FOwn w' W.heap.size v x∧Below W.heap.size W w')
  (hS:∀ W v,FFTLI W v x→Calls Try.prog 10 #[v] W fun e w'=>∃ u,e=.returned u∧Kd.R (Kd.int .i64) 2 w' W.heap.size (fun _=>True) u R∧Below W.heap.size W w')
  (hI:∀ W v,FFTLI W v x→Calls Try.prog 11 #[v] W fun e w'=>∃ u,e=.returned u∧Kd.R (Kd.int .i64) 2 w' W.heap.size (fun _=>True) u R∧Below W.heap.size W w')
  (hE:∀ W v v',FFTLI W v x→FFTLI W v' x→Calls Try.prog 9 #[v,v'] W fun e w'=>e=.returned (.bool true)∧Below W.heap.size W w')
  (hM:∀ (wa wb W:World) (v:Value),Below wa.heap.size wa W→Below wb.heap.size wb W→FOwn wb wa.heap.size v x→Calls Try.prog 13 #[v,.int .i64 1] W fun e w'=>e=.returned (.int .i64 m)∧Below wa.heap.size wa w'∧Kept W w' (fun k_=>wa.heap.size≤k_∧k_ < wb.heap.size))
  (hQ:∀ W A c A' c',Kd.C (Kd.int .i64) W A R.length R→R.length≤c→Kd.C (Kd.int .i64) W A' R.length R→R.length≤c'→Calls Try.prog 12 #[.slice A R.length c,.slice A' R.length c'] W fun e w'=>e=.returned (.bool true)∧Below W.heap.size W w')
  (hK : laws_markInt64S.f k R 1 = some (r1, R'))
  (hH:∀ W A c,Kd.C (Kd.int .i64) W A R'.length R'→R.length≤c→Calls Try.prog 15 #[.slice A R.length c,.int .i64 1] W fun e w'=>e=.returned (.int .i64 r1)∧Below W.heap.size W w')
  (hpos : 0 ≤ t0) (hm : 0 ≤ m) (hr1 : 0 ≤ r1) :
  Calls Try.prog 4 #[v0] w fun e w'=>e=.returned (.bool true)∧Below w.heap.size w w':=by
 obtain ⟨cs0, rfl, hlcs0, hocs0⟩ := FFTLL_cells HF0
 have HB := Aside0.mk (Below.refl w.heap.size w)
 clear HF0
 obtain ⟨z44, hz44, hzc44⟩ := info44_
 replace hSz := Aside0.mk hSz
 replace hT := Aside0.mk hT
 replace hS := Aside0.mk hS
 replace hI := Aside0.mk hI
 replace hE := Aside0.mk hE
 replace hM := Aside0.mk hM
 replace hQ := Aside0.mk hQ
 replace hK := Aside0.mk hK
 replace hH := Aside0.mk hH
 have c0_ : decide (t0 < 0) = false := decide_eq_false (by omega)
 have c1_ : decide (m < 0) = false := decide_eq_false (by omega)
 have c2_ : decide (r1 < 0) = false := decide_eq_false (by omega)
 clear hpos hm hr1
 go_enter Try.func4, Try.ntmps4
 go_upto_region 10 with (first
  | ((with_reducible refine gate_dst (N:=1) rfl ?_);(try (refine gate_guard (by rfl) ?_;dsimp only));refine box_event (cs:=cs0.toArray) (t:=34) rfl (N:=1) rfl (by first|(go_simp;done)|(go_simp;rfl)) ?_;intro b1 hg W1 hbox hb;have n0_:=Aside0.mk (below_step HB.out hb);have BK1:=Aside0.mk hbox;clear HB;have HB:=n0_;clear n0_;clear hg hb hbox;(try simp only [Act.put,lSXLawFree_,lZXLawFree_,lCXLawFree_]))
  | ((with_reducible refine gate_dst (N:=11) rfl ?_);(try (refine gate_guard (by rfl) ?_;dsimp only));refine wpList_load_mid rfl 34 (.tmp 1) rfl b1 0 rfl cs0 _ (range_of_blk BK1.out) Try.underlying34 rfl (by rw [hlcs0];kernel_rfl) ?_;(try simp only [Act.put,lSXLawFree_,lZXLawFree_,lCXLawFree_]))
  | ((with_reducible refine gate_dst (N:=13) rfl ?_);(try (refine gate_guard (by rfl) ?_;dsimp only));refine goesL_ (some 13) rfl rfl Try.func5 (by kernel_rfl) rfl #[.agg cs0.toArray,.int .i64 1048576] rfl (by first|rfl|(simp only [mAXLawFree_,List.map_cons,List.map_nil];rfl)) ?_;with_reducible refine Calls.mono (hSz.out _ HB.out) ?_;rintro e W2 ⟨rfl,hb⟩;refine ⟨_,rfl,?_⟩;have n0_:=Aside0.mk (below_step HB.out hb);have n1_:=Aside0.mk (blk_below BK1.out hb);clear HB BK1;have HB:=n0_;have BK1:=n1_;clear n0_ n1_;clear hb;(try simp only [Act.put,lSXLawFree_,lZXLawFree_,lCXLawFree_]))
  | ((with_reducible refine gate_dst (N:=16) rfl ?_);(try (refine gate_guard (by rfl) ?_;dsimp only));refine wpList_load_mid rfl 34 (.tmp 1) rfl b1 0 rfl cs0 _ (range_of_blk BK1.out) Try.underlying34 rfl (by rw [hlcs0];kernel_rfl) ?_;(try simp only [Act.put,lSXLawFree_,lZXLawFree_,lCXLawFree_]))
  | ((with_reducible refine gate_dst (N:=17) rfl ?_);(try (refine gate_guard (by rfl) ?_;dsimp only));refine goesL_ (some 17) rfl rfl Try.func7 (by kernel_rfl) rfl #[.agg cs0.toArray] rfl (by first|rfl|(simp only [mAXLawFree_,List.map_cons,List.map_nil];rfl)) ?_;with_reducible refine Calls.mono (hT.out _ HB.out) ?_;rintro e W3 ⟨v_,rfl,hO,hb⟩;obtain ⟨cs17,rfl,hl17,ho17⟩:=FFTLI_cells hO.reads;refine ⟨_,rfl,?_⟩;have n0_:=Aside0.mk (below_step HB.out hb);have n1_:=Aside0.mk (blk_below BK1.out hb);clear HB BK1;have HB:=n0_;have BK1:=n1_;clear n0_ n1_;have O17:=Aside0.mk hO;clear hO hb;(try simp only [Act.put,lSXLawFree_,lZXLawFree_,lCXLawFree_]))
  | ((with_reducible refine gate_dst (N:=18) rfl ?_);(try (refine gate_guard (by rfl) ?_;dsimp only));refine goesL_ (some 18) rfl rfl Try.func10 (by kernel_rfl) rfl #[.agg cs17.toArray] rfl (by first|rfl|(simp only [mAXLawFree_,List.map_cons,List.map_nil];rfl)) ?_;with_reducible refine Calls.mono (hS.out _ _ (FOwn.reads O17.out)) ?_;rintro e W4 ⟨u_,rfl,hR,hb⟩;obtain ⟨AW,cAW,rfl⟩:=Kd.R_slice hR;refine ⟨_,rfl,?_⟩;have n0_:=Aside0.mk (below_step HB.out hb);have n1_:=Aside0.mk (blk_below BK1.out hb);have n2_:=Aside0.mk (FOwn.below O17.out hb);clear HB BK1 O17;have HB:=n0_;have BK1:=n1_;have O17:=n2_;clear n0_ n1_ n2_;have RW:=Aside0.mk (Kd.R_reads' hR).2.2;have LW:=Aside0.mk (Kd.R_reads' hR).2.1;clear hR hb O17;(try simp only [Act.put,lSXLawFree_,lZXLawFree_,lCXLawFree_]))
  | ((with_reducible refine gate_dst (N:=19) rfl ?_);(try (refine gate_guard (by rfl) ?_;dsimp only));refine wpList_load_mid rfl 34 (.tmp 1) rfl b1 0 rfl cs0 _ (range_of_blk BK1.out) Try.underlying34 rfl (by rw [hlcs0];kernel_rfl) ?_;(try simp only [Act.put,lSXLawFree_,lZXLawFree_,lCXLawFree_]))
  | ((with_reducible refine gate_dst (N:=20) rfl ?_);(try (refine gate_guard (by rfl) ?_;dsimp only));refine goesL_ (some 20) rfl rfl Try.func7 (by kernel_rfl) rfl #[.agg cs0.toArray] rfl (by first|rfl|(simp only [mAXLawFree_,List.map_cons,List.map_nil];rfl)) ?_;have RWa:=RW;have HBa:=HB;have BKa:=BK1;with_reducible refine Calls.mono (hT.out _ HB.out) ?_;rintro e W5 ⟨v_,rfl,hO,hb⟩;obtain ⟨cs20,rfl,hl20,ho20⟩:=FFTLI_cells hO.reads;refine ⟨_,rfl,?_⟩;have n0_:=Aside0.mk (below_step HB.out hb);have n1_:=Aside0.mk (blk_below BK1.out hb);have n2_:=Aside0.mk (Kd.C_below RW.out hb);clear HB BK1 RW;have HB:=n0_;have BK1:=n1_;have RW:=n2_;clear n0_ n1_ n2_;have HAa:=Aside0.mk hb;have HBb:=Aside0.mk (Below.refl _ _:Below (W5).heap.size W5 W5);have Ogb:=Aside0.mk hO;have Og:=Aside0.mk hO;clear hO hb;(try simp only [Act.put,lSXLawFree_,lZXLawFree_,lCXLawFree_]))
  | ((with_reducible refine gate_dst (N:=5) rfl ?_);refine alloc_store_event 5 44 _ rfl rfl rfl rfl rfl (cs:=cs20) rfl rfl ho20 (by rw [hl20];exact hz44) (by rw [hl20];exact hzc44) ?_;intro b5 hg W6 hbox hb;have n0_:=Aside0.mk (below_step HB.out hb);have n1_:=Aside0.mk (blk_below BK1.out hb);have n2_:=Aside0.mk (Kd.C_below RW.out hb);have n3_:=Aside0.mk (FOwn.below Og.out hb);have n4_:=Aside0.mk (below_step HAa.out hb);have n5_:=Aside0.mk (below_step HBb.out hb);clear HB BK1 RW Og HAa HBb;have HB:=n0_;have BK1:=n1_;have RW:=n2_;have Og:=n3_;have HAa:=n4_;have HBb:=n5_;clear n0_ n1_ n2_ n3_ n4_ n5_;have BK5:=Aside0.mk hbox;clear hg hb hbox;(try simp only [Act.put,lSXLawFree_,lZXLawFree_,lCXLawFree_]))
  | ((with_reducible refine gate_dst (N:=21) rfl ?_);(try (refine gate_guard (by rfl) ?_;dsimp only));refine wpList_load_mid rfl 44 (.tmp 5) rfl b5 0 rfl cs20 _ (range_of_blk BK5.out) Try.underlying44 rfl (by rw [hl20];kernel_rfl) ?_;(try simp only [Act.put,lSXLawFree_,lZXLawFree_,lCXLawFree_]))
  | ((with_reducible refine gate_dst (N:=22) rfl ?_);(try (refine gate_guard (by rfl) ?_;dsimp only));refine goesL_ (some 22) rfl rfl Try.func11 (by kernel_rfl) rfl #[.agg cs20.toArray] rfl (by first|rfl|(simp only [mAXLawFree_,List.map_cons,List.map_nil];rfl)) ?_;have HBb1:=HBb;have HAa1:=HAa;with_reducible refine Calls.mono (hI.out _ _ (FOwn.reads Og.out)) ?_;rintro e W7 ⟨u_,rfl,hR,hb⟩;obtain ⟨AG,cAG,rfl⟩:=Kd.R_slice hR;refine ⟨_,rfl,?_⟩;have n0_:=Aside0.mk (below_step HB.out hb);have n1_:=Aside0.mk (blk_below BK1.out hb);have n2_:=Aside0.mk (Kd.C_below RW.out hb);have n3_:=Aside0.mk (FOwn.below Og.out hb);have n4_:=Aside0.mk (below_step HAa.out hb);have n5_:=Aside0.mk (below_step HBb.out hb);have n6_:=Aside0.mk (blk_below BK5.out hb);clear HB BK1 RW Og HAa HBb BK5;have HB:=n0_;have BK1:=n1_;have RW:=n2_;have Og:=n3_;have HAa:=n4_;have HBb:=n5_;have BK5:=n6_;clear n0_ n1_ n2_ n3_ n4_ n5_ n6_;have GB:Aside0 (∀ k_:Nat,(Value.slice AG R.length cAG).ownBlock=some k_→W5.heap.size≤k_):=⟨fun k_ hk_=>by have a1:=(tight_ty (Kd.R_tight rfl hR) k_ hk_).2.1;have a2:=HBb1.out.size;omega⟩;have G:=Aside0.mk (Kd.R_lower (Kd.R_tight rfl hR) (HAa1.out.size));have LG:=Aside0.mk (Kd.R_reads' hR).2.1;clear hR hb HBb1 HAa1;(try simp only [Act.put,lSXLawFree_,lZXLawFree_,lCXLawFree_]))
  | ((with_reducible refine gate_dst (N:=25) rfl ?_);(try (refine gate_guard (by rfl) ?_;dsimp only));refine goesL_ (some 25) rfl rfl Try.func12 (by kernel_rfl) rfl #[.slice AG R.length cAG,.slice AW R.length cAW] rfl (by first|rfl|(simp only [mAXLawFree_,List.map_cons,List.map_nil];rfl)) ?_;with_reducible refine Calls.mono (hQ.out _ _ _ _ _ (Kd.R_reads' G.out).2.2 LG.out RW.out LW.out) ?_;rintro e W8 ⟨rfl,hb⟩;refine ⟨_,rfl,?_⟩;have n0_:=Aside0.mk (below_step HB.out hb);have n1_:=Aside0.mk (blk_below BK1.out hb);have n2_:=Aside0.mk (Kd.C_below RW.out hb);have n3_:=Aside0.mk (FOwn.below Og.out hb);have n4_:=Aside0.mk (below_step HAa.out hb);have n5_:=Aside0.mk (below_step HBb.out hb);have n6_:=Aside0.mk (blk_below BK5.out hb);have n7_:=Aside0.mk (Kd.R_below G.out hb);clear HB BK1 RW Og HAa HBb BK5 G;have HB:=n0_;have BK1:=n1_;have RW:=n2_;have Og:=n3_;have HAa:=n4_;have HBb:=n5_;have BK5:=n6_;have G:=n7_;clear n0_ n1_ n2_ n3_ n4_ n5_ n6_ n7_;clear hb;(try simp only [Act.put,lSXLawFree_,lZXLawFree_,lCXLawFree_])))
 have n0_:=Aside0.mk (below_step HB.out (below_drew1 (Below.refl _ _)))
 have n1_:=Aside0.mk (blk_below BK1.out (below_drew1 (Below.refl _ _)))
 have n2_:=Aside0.mk (Kd.C_below RW.out (below_drew1 (Below.refl _ _)))
 have n3_:=Aside0.mk (FOwn.below Og.out (below_drew1 (Below.refl _ _)))
 have n4_:=Aside0.mk (below_step HAa.out (below_drew1 (Below.refl _ _)))
 have n5_:=Aside0.mk (below_step HBb.out (below_drew1 (Below.refl _ _)))
 have n6_:=Aside0.mk (blk_below BK5.out (below_drew1 (Below.refl _ _)))
 have n7_:=Aside0.mk (Kd.R_below G.out (below_drew1 (Below.refl _ _)))
 clear HB BK1 RW Og HAa HBb BK5 G
 have HB := n0_
 have BK1 := n1_
 have RW := n2_
 have Og := n3_
 have HAa := n4_
 have HBb := n5_
 have BK5 := n6_
 have G := n7_
 clear n0_ n1_ n2_ n3_ n4_ n5_ n6_ n7_
 refine start_ (n:=5) (S:=fun w'=>w'.heap[b5]?=some (.cells cs20.toArray 44 (0,0))∧w'.heap[b1]?=some (.cells cs0.toArray 34 (0,0))) (ds:=[]) #[false,false,false,false,false] (by kernel_rfl) rfl rfl ⟨BK5.out,BK1.out⟩ (fun hHeld=>?_)
 generalize World.drew _ = W9 at HB BK1 RW Og HAa HBb BK5 G hHeld ⊢
 refine take_ (i:=0) (N:=some 27) (v:=.agg cs20.toArray) (a':=?_) #[true,false,false,false,false] rfl rfl (by kernel_rfl) (fun _ _ _ h=>h) (yieldsIf_load_mid rfl 44 (.tmp 5) rfl b5 0 rfl cs20 _ (fun w' h=>range_of_blk h.1) Try.underlying44 rfl (by rw [hl20];kernel_rfl)) hHeld ?_ ?_
 rotate_left
 ·simp only [Act.put,lSXLawFree_,lZXLawFree_,lCXLawFree_,i64_w,i32_w]
  rfl
 refine take_ (i:=1) (N:=some 28) (v:=.agg cs0.toArray) (a':=?_) #[true,true,false,false,false] rfl rfl (by kernel_rfl) (fun _ _ _ h=>h) (yieldsIf_load_mid rfl 34 (.tmp 1) rfl b1 0 rfl cs0 _ (fun w' h=>range_of_blk h.2) Try.underlying34 rfl (by rw [hlcs0];kernel_rfl)) hHeld ?_ ?_
 rotate_left
 ·simp only [Act.put,lSXLawFree_,lZXLawFree_,lCXLawFree_,i64_w,i32_w]
  rfl
 refine one_ (i:=2) (N:=some 29) #[true,true,true,false,false] rfl rfl (by kernel_rfl) (by decide) (fun K hK=>?_)
 refine goes_ Try.func7 (by kernel_rfl) rfl #[.agg cs0.toArray] (by rfl) rfl rfl (by first|rfl|(simp only [mAXLawFree_,List.map_cons,List.map_nil];rfl)) ?_
 with_reducible refine Calls.mono (hT.out _ HB.out) ?_
 rintro e W10 ⟨v_, rfl, hO, hb⟩
 obtain ⟨cs29,rfl,hl29,ho29⟩:=FFTLI_cells hO.reads;refine ⟨_,rfl,?_⟩
 have n0_ := Aside0.mk (below_step HB.out hb)
 have n1_ := Aside0.mk (blk_below BK1.out hb)
 have n2_ := Aside0.mk (Kd.C_below RW.out hb)
 have n3_ := Aside0.mk (FOwn.below Og.out hb)
 have n4_ := Aside0.mk (below_step HAa.out hb)
 have n5_ := Aside0.mk (below_step HBb.out hb)
 have n6_ := Aside0.mk (blk_below BK5.out hb)
 have n7_ := Aside0.mk (Kd.R_below G.out hb)
 clear HB BK1 RW Og HAa HBb BK5 G
 have HB := n0_
 have BK1 := n1_
 have RW := n2_
 have Og := n3_
 have HAa := n4_
 have HBb := n5_
 have BK5 := n6_
 have G := n7_
 clear n0_ n1_ n2_ n3_ n4_ n5_ n6_ n7_
 have O29 := Aside0.mk hO
 clear hO hb
 refine hK.out _ _ ⟨BK5.out, BK1.out⟩ (fun hHeld => ?_)
 clear hK K
 refine norm_ (a' := ?_) ?_ ?_
 rotate_left
 ·show Act.put _ (some 29) _ = _
  simp only [Act.put,lSXLawFree_,lZXLawFree_,lCXLawFree_,i64_w,i32_w]
  rfl
 refine one_ (i:=3) (N:=some 30) #[true,true,true,true,false] rfl rfl (by kernel_rfl) (by decide) (fun K hK=>?_)
 refine goes_ Try.func9 (by kernel_rfl) rfl #[.agg cs20.toArray,.agg cs29.toArray] (by rfl) rfl rfl (by first|rfl|(simp only [mAXLawFree_,List.map_cons,List.map_nil];rfl)) ?_
 with_reducible refine Calls.mono (hE.out _ _ _ (FOwn.reads Og.out) (FOwn.reads O29.out)) ?_
 rintro e W11 ⟨rfl, hb⟩
 refine ⟨_, rfl, ?_⟩
 have n0_ := Aside0.mk (below_step HB.out hb)
 have n1_ := Aside0.mk (blk_below BK1.out hb)
 have n2_ := Aside0.mk (Kd.C_below RW.out hb)
 have n3_ := Aside0.mk (FOwn.below Og.out hb)
 have n4_ := Aside0.mk (below_step HAa.out hb)
 have n5_ := Aside0.mk (below_step HBb.out hb)
 have n6_ := Aside0.mk (blk_below BK5.out hb)
 have n7_ := Aside0.mk (Kd.R_below G.out hb)
 have n8_ := Aside0.mk (FOwn.below O29.out hb)
 clear HB BK1 RW Og HAa HBb BK5 G O29
 have HB := n0_
 have BK1 := n1_
 have RW := n2_
 have Og := n3_
 have HAa := n4_
 have HBb := n5_
 have BK5 := n6_
 have G := n7_
 have O29 := n8_
 clear n0_ n1_ n2_ n3_ n4_ n5_ n6_ n7_ n8_
 clear hb O29
 refine hK.out _ _ ⟨BK5.out, BK1.out⟩ (fun hHeld => ?_)
 clear hK K
 refine norm_ (a' := ?_) ?_ ?_
 rotate_left
 ·show Act.put _ (some 30) _ = _
  simp only [Act.put,lSXLawFree_,lZXLawFree_,lCXLawFree_,i64_w,i32_w]
  rfl
 refine pure_ (i:=4) (N:=some 31) (v:=?_) (a':=?_) #[true,true,true,true,true] rfl rfl (by kernel_rfl) (fun _ _ _ h=>h) (Or.inl ⟨by rfl,?_⟩) ?_ ?_
 rotate_left
 ·intro w'
  go_simp
  with_reducible rfl
 rotate_left
 ·simp only [Act.put,lSXLawFree_,lZXLawFree_,lCXLawFree_,i64_w,i32_w]
  rfl
 refine done_ (by kernel_rfl) ?_
 clear hHeld
 go_wp2_with (first
  | ((with_reducible refine gate_dst (N:=32) rfl ?_);(try (refine gate_guard (by rfl) ?_;dsimp only));refine wpList_load_mid rfl 44 (.tmp 5) rfl b5 0 rfl cs20 _ (range_of_blk BK5.out) Try.underlying44 rfl (by rw [hl20];kernel_rfl) ?_;(try simp only [Act.put,lSXLawFree_,lZXLawFree_,lCXLawFree_]))
  | ((with_reducible refine gate_dst (N:=34) rfl ?_);(try (refine gate_guard (by rfl) ?_;dsimp only));refine goesL_ (some 34) rfl rfl Try.func13 (by kernel_rfl) rfl #[.agg cs20.toArray,.int .i64 1] rfl (by first|rfl|(simp only [mAXLawFree_,List.map_cons,List.map_nil];rfl)) ?_;with_reducible refine Calls.mono (hM.out _ _ _ _ HAa.out HBb.out Ogb.out) ?_;rintro e W12 ⟨rfl,hb,hk⟩;refine ⟨_,rfl,?_⟩;have m0_:=Aside0.mk (tight_kept G.out hk (fun k_ hk_ hS_=>by have a1:=GB.out k_ hk_;have a2:=hS_.2;omega));clear G;have G:=m0_;clear m0_;clear Og Ogb HBb BK5 GB;have n0_:=Aside0.mk (below_step HBa.out hb);have n1_:=Aside0.mk (blk_below BKa.out hb);have n2_:=Aside0.mk (Kd.C_below RWa.out hb);have n3_:=Aside0.mk hb;clear HB BK1 RW HAa;have HB:=n0_;have BK1:=n1_;have RW:=n2_;have HAa:=n3_;clear n0_ n1_ n2_ n3_;clear hb hk;(try simp only [Act.put,lSXLawFree_,lZXLawFree_,lCXLawFree_]))
  | ((with_reducible refine gate_dst (N:=40) rfl ?_);(try (refine gate_guard (by rfl) ?_;dsimp only));refine goesL_ (some 40) rfl rfl Try.func12 (by kernel_rfl) rfl #[.slice AG R.length cAG,.slice AW R.length cAW] rfl (by first|rfl|(simp only [mAXLawFree_,List.map_cons,List.map_nil];rfl)) ?_;with_reducible refine Calls.mono (hQ.out _ _ _ _ _ (Kd.R_reads' G.out).2.2 LG.out RW.out LW.out) ?_;rintro e W13 ⟨rfl,hb⟩;refine ⟨_,rfl,?_⟩;have n0_:=Aside0.mk (below_step HB.out hb);have n1_:=Aside0.mk (blk_below BK1.out hb);have n2_:=Aside0.mk (Kd.C_below RW.out hb);have n3_:=Aside0.mk (below_step HAa.out hb);have n4_:=Aside0.mk (Kd.R_below G.out hb);clear HB BK1 RW HAa G;have HB:=n0_;have BK1:=n1_;have RW:=n2_;have HAa:=n3_;have G:=n4_;clear n0_ n1_ n2_ n3_ n4_;clear hb;(try simp only [Act.put,lSXLawFree_,lZXLawFree_,lCXLawFree_]))
  | ((with_reducible refine gate_dst (N:=45) rfl ?_);(try (refine gate_guard (by rfl) ?_;dsimp only));refine goesL_ (some 45) rfl rfl Try.func14 (by kernel_rfl) rfl #[.slice AG R.length cAG,.int .i64 1] rfl (by first|rfl|(simp only [mAXLawFree_,List.map_cons,List.map_nil];rfl)) ?_;with_reducible refine Calls.mono (laws_markInt64S.calls k _ _ R 1 r1 R' _ _ HAa.out G.out hK.out) ?_;rintro e W14 ⟨rfl,q_,hb,hk⟩;refine ⟨_,rfl,?_⟩;have GC:=Aside0.mk (Kd.R_reads' q_).2.2;clear G;have n0_:=Aside0.mk (below_step HBa.out hb);have n1_:=Aside0.mk (blk_below BKa.out hb);have n2_:=Aside0.mk (Kd.C_below RWa.out hb);have n3_:=Aside0.mk hb;clear HB BK1 RW HAa;have HB:=n0_;have BK1:=n1_;have RW:=n2_;have HAa:=n3_;clear n0_ n1_ n2_ n3_;clear hb hk q_;(try simp only [Act.put,lSXLawFree_,lZXLawFree_,lCXLawFree_]))
  | ((with_reducible refine gate_dst (N:=48) rfl ?_);(try (refine gate_guard (by rfl) ?_;dsimp only));refine goesL_ (some 48) rfl rfl Try.func15 (by kernel_rfl) rfl #[.slice AG R.length cAG,.int .i64 1] rfl (by first|rfl|(simp only [mAXLawFree_,List.map_cons,List.map_nil];rfl)) ?_;with_reducible refine Calls.mono (hH.out _ _ _ GC.out LG.out) ?_;rintro e W15 ⟨rfl,hb⟩;refine ⟨_,rfl,?_⟩;have n0_:=Aside0.mk (below_step HB.out hb);have n1_:=Aside0.mk (blk_below BK1.out hb);have n2_:=Aside0.mk (Kd.C_below RW.out hb);have n3_:=Aside0.mk (below_step HAa.out hb);have n4_:=Aside0.mk (Kd.C_below GC.out hb);clear HB BK1 RW HAa GC;have HB:=n0_;have BK1:=n1_;have RW:=n2_;have HAa:=n3_;have GC:=n4_;clear n0_ n1_ n2_ n3_ n4_;clear hb;(try simp only [Act.put,lSXLawFree_,lZXLawFree_,lCXLawFree_]))
  | ((with_reducible refine gate_dst (N:=54) rfl ?_);(try (refine gate_guard (by rfl) ?_;dsimp only));refine wpList_load_mid rfl 34 (.tmp 1) rfl b1 0 rfl cs0 _ (range_of_blk BK1.out) Try.underlying34 rfl (by rw [hlcs0];kernel_rfl) ?_;(try simp only [Act.put,lSXLawFree_,lZXLawFree_,lCXLawFree_]))
  | ((with_reducible refine gate_dst (N:=55) rfl ?_);(try (refine gate_guard (by rfl) ?_;dsimp only));refine goesL_ (some 55) rfl rfl Try.func7 (by kernel_rfl) rfl #[.agg cs0.toArray] rfl (by first|rfl|(simp only [mAXLawFree_,List.map_cons,List.map_nil];rfl)) ?_;with_reducible refine Calls.mono (hT.out _ HB.out) ?_;rintro e W16 ⟨v_,rfl,hO,hb⟩;obtain ⟨cs55,rfl,hl55,ho55⟩:=FFTLI_cells hO.reads;refine ⟨_,rfl,?_⟩;have n0_:=Aside0.mk (below_step HB.out hb);have n1_:=Aside0.mk (blk_below BK1.out hb);have n2_:=Aside0.mk (Kd.C_below RW.out hb);have n3_:=Aside0.mk (below_step HAa.out hb);have n4_:=Aside0.mk (Kd.C_below GC.out hb);clear HB BK1 RW HAa GC;have HB:=n0_;have BK1:=n1_;have RW:=n2_;have HAa:=n3_;have GC:=n4_;clear n0_ n1_ n2_ n3_ n4_;have O55:=Aside0.mk hO;clear hO hb;(try simp only [Act.put,lSXLawFree_,lZXLawFree_,lCXLawFree_]))
  | ((with_reducible refine gate_dst (N:=56) rfl ?_);(try (refine gate_guard (by rfl) ?_;dsimp only));refine goesL_ (some 56) rfl rfl Try.func11 (by kernel_rfl) rfl #[.agg cs55.toArray] rfl (by first|rfl|(simp only [mAXLawFree_,List.map_cons,List.map_nil];rfl)) ?_;with_reducible refine Calls.mono (hI.out _ _ (FOwn.reads O55.out)) ?_;rintro e W17 ⟨u_,rfl,hR,hb⟩;obtain ⟨AH,cAH,rfl⟩:=Kd.R_slice hR;refine ⟨_,rfl,?_⟩;have n0_:=Aside0.mk (below_step HB.out hb);have n1_:=Aside0.mk (blk_below BK1.out hb);have n2_:=Aside0.mk (Kd.C_below RW.out hb);have n3_:=Aside0.mk (below_step HAa.out hb);have n4_:=Aside0.mk (Kd.C_below GC.out hb);have n5_:=Aside0.mk (FOwn.below O55.out hb);clear HB BK1 RW HAa GC O55;have HB:=n0_;have BK1:=n1_;have RW:=n2_;have HAa:=n3_;have GC:=n4_;have O55:=n5_;clear n0_ n1_ n2_ n3_ n4_ n5_;have GH:=Aside0.mk (Kd.R_reads' hR).2.2;have LH:=Aside0.mk (Kd.R_reads' hR).2.1;clear hR hb O55;(try simp only [Act.put,lSXLawFree_,lZXLawFree_,lCXLawFree_]))
  | ((with_reducible refine gate_dst (N:=59) rfl ?_);(try (refine gate_guard (by rfl) ?_;dsimp only));refine goesL_ (some 59) rfl rfl Try.func12 (by kernel_rfl) rfl #[.slice AH R.length cAH,.slice AW R.length cAW] rfl (by first|rfl|(simp only [mAXLawFree_,List.map_cons,List.map_nil];rfl)) ?_;with_reducible refine Calls.mono (hQ.out _ _ _ _ _ GH.out LH.out RW.out LW.out) ?_;rintro e W18 ⟨rfl,hb⟩;refine ⟨_,rfl,?_⟩;have n0_:=Aside0.mk (below_step HB.out hb);have n1_:=Aside0.mk (blk_below BK1.out hb);have n2_:=Aside0.mk (Kd.C_below RW.out hb);have n3_:=Aside0.mk (below_step HAa.out hb);have n4_:=Aside0.mk (Kd.C_below GC.out hb);have n5_:=Aside0.mk (Kd.C_below GH.out hb);clear HB BK1 RW HAa GC GH;have HB:=n0_;have BK1:=n1_;have RW:=n2_;have HAa:=n3_;have GC:=n4_;have GH:=n5_;clear n0_ n1_ n2_ n3_ n4_ n5_;clear hb;(try simp only [Act.put,lSXLawFree_,lZXLawFree_,lCXLawFree_]))
  | ((with_reducible refine gate_dst (N:=63) rfl ?_);(try (refine gate_guard (by rfl) ?_;dsimp only));refine goesL_ (some 63) rfl rfl Try.func15 (by kernel_rfl) rfl #[.slice AG R.length cAG,.int .i64 1] rfl (by first|rfl|(simp only [mAXLawFree_,List.map_cons,List.map_nil];rfl)) ?_;with_reducible refine Calls.mono (hH.out _ _ _ GC.out LG.out) ?_;rintro e W19 ⟨rfl,hb⟩;refine ⟨_,rfl,?_⟩;have n0_:=Aside0.mk (below_step HB.out hb);have n1_:=Aside0.mk (blk_below BK1.out hb);have n2_:=Aside0.mk (Kd.C_below RW.out hb);have n3_:=Aside0.mk (below_step HAa.out hb);have n4_:=Aside0.mk (Kd.C_below GC.out hb);have n5_:=Aside0.mk (Kd.C_below GH.out hb);clear HB BK1 RW HAa GC GH;have HB:=n0_;have BK1:=n1_;have RW:=n2_;have HAa:=n3_;have GC:=n4_;have GH:=n5_;clear n0_ n1_ n2_ n3_ n4_ n5_;clear hb;(try simp only [Act.put,lSXLawFree_,lZXLawFree_,lCXLawFree_])))
 go_ret
 exact ⟨by first | rfl | simp [*], HB.out⟩
end Go.Proofs.Ytajocpalpnpmdaa.Q
