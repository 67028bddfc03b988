/- The program's functions as Lean functions,and for each the proof that the machine's call comes to what its function says. Conditions: those that stand before each theorem. -/
import Derived.Test.YtajocpalpnpmdaaQ0
import Derived.Test.YtajocpalpnpmdaaQ1
import Derived.Test.YtajocpalpnpmdaaQ2
namespace Go.Proofs.Ytajocpalpnpmdaa.Q
open Go.RowKit Go.Proofs.YtajocpalpnpmdaaW.PrintWords Go.Proofs.YtajocpalpnpmdaaW.PrintLast Go.Proofs.YtajocpalpnpmdaaW.PrintMore
abbrev kN3_ := @blk_drewN
abbrev kD3_ := @blk_drew
abbrev kA3_ := @blk_alloc
abbrev bA3_ := @below_alloc
abbrev bN3_ := @pw_below_drewN
abbrev bD3_ := @below_drew1
abbrev bS3_ := @below_set
abbrev mk3_ := @Aside0.mk
abbrev fZ3_ := @blk_frozen
abbrev bT3_ := @below_step
abbrev lS3_ := @List.setIfInBounds_toArray
abbrev lZ3_ := @List.set_cons_zero
abbrev lC3_ := @List.set_cons_succ
abbrev mA3_ := @List.map_toArray
abbrev mC3_ := @List.map_cons
abbrev mN3_ := @List.map_nil
set_option linter.unusedVariables false
set_option linter.unusedSimpArgs false

mutual
def spec_ValidFlash.j0:Nat→Bool→Int→Int→Int→List (S92)→Int→Int→Bool→Int→Option (Bool)
 | 0, _, _, _, _, _, _, _, _, _ => none
 | k+1,x37,x127000,x127001,x127002,x127003,x127004,x127005,x127006,x127007=>if x37=true then (some false) else (spec_ValidFlash.l0 k 0 x127000 x127001 x127002 x127003 x127004 x127005 x127006 x127007)
def spec_ValidFlash.l0:Nat→Int→Int→Int→Int→List (S92)→Int→Int→Bool→Int→Option (Bool)
 | 0, _, _, _, _, _, _, _, _, _ => none
 | k+1,x3,x127000,x127001,x127002,x127003,x127004,x127005,x127006,x127007=>if x3 < (x127003.length:Int) then (if 0≤x3 then ((spec_l06Block.f k ((rd_T92 x127003 x3).f0) ((rd_T92 x127003 x3).f1) ((rd_T92 x127003 x3).f2) ((rd_T92 x127003 x3).f3) x127002).bind fun t131=>(if t131=true then (spec_ValidFlash.l0 k (wrap64 (x3+1)) x127000 x127001 x127002 x127003 x127004 x127005 x127006 x127007) else (some false))) else (none)) else (some true)
end
def spec_ValidFlash.f (k:Nat) (a0_0:Int) (a0_1:Int) (a0_2:Int) (l0_3:List (S92)) (a0_4:Int) (a0_5:Int) (a0_6:Bool) (a0_7:Int):Option (Bool):=(spec_ValidGeometry.f a0_0 a0_1 a0_2).bind fun t127=>(if t127=true then (if (l0_3.length:Int)=(wrap64 (a0_0 * a0_1)) then ((spec_l00In.f a0_4 (-1) 1000000).bind fun t128=>(if t128=true then ((spec_l00In.f a0_5 0 91).bind fun t129=>(if t129=true then (spec_ValidFlash.j0 k (decide (a0_7 < 0)) a0_0 a0_1 a0_2 l0_3 a0_4 a0_5 a0_6 a0_7) else (spec_ValidFlash.j0 k true a0_0 a0_1 a0_2 l0_3 a0_4 a0_5 a0_6 a0_7))) else (spec_ValidFlash.j0 k true a0_0 a0_1 a0_2 l0_3 a0_4 a0_5 a0_6 a0_7))) else (spec_ValidFlash.j0 k true a0_0 a0_1 a0_2 l0_3 a0_4 a0_5 a0_6 a0_7)) else (spec_ValidFlash.j0 k true a0_0 a0_1 a0_2 l0_3 a0_4 a0_5 a0_6 a0_7))
def spec_ValidFlash.T6:Bool × List (List Nat × List Nat):=(true,[([],[]),([0],[0]),([],[]),([1,2],[1,2]),([3],[3]),([],[]),([5],[5]),([6],[6]),([4,7],[4,7]),([8],[8])])
def spec_ValidFlash.B6:List Nat:=[0,1,0,7,15,0,32,96,255,511]
theorem spec_ValidFlash.tab6:rtab .any (opsOf Try.f44 6)=spec_ValidFlash.T6:=by kernel_rfl
theorem spec_ValidFlash.bits6:waitsOk spec_ValidFlash.T6.2 spec_ValidFlash.B6=true:=by kernel_rfl
set_option maxHeartbeats 8000000 in
set_option maxRecDepth 100000 in
theorem spec_ValidFlash.calls (k:Nat) (a0_0:Int) (a0_1:Int) (a0_2:Int) (A0_3:Option Addr) (c0_3:Nat) (l0_3:List (S92)) (a0_4:Int) (a0_5:Int) (a0_6:Bool) (a0_7:Int) (r:Bool) (w:World) (hr0_3:Kd.C k92 w A0_3 l0_3.length l0_3) (hc0_3:l0_3.length≤c0_3) (h:spec_ValidFlash.f k a0_0 a0_1 a0_2 l0_3 a0_4 a0_5 a0_6 a0_7=some r) :
  Calls Try.prog 44 #[.agg #[.int .i64 a0_0,.int .i64 a0_1,.int .i64 a0_2,.slice A0_3 l0_3.length c0_3,.int .i64 a0_4,.int .i64 a0_5,.bool a0_6,.int .i64 a0_7]] w fun e w'=>e=.returned (.bool r)∧Below w.heap.size w w':=by
 have hu40 := Try.underlying40
 have hu37 := Try.underlying37
 have hu92 := Try.underlying92
 have HR0_3 := Aside0.mk hr0_3
 have HC0_3 := Aside0.mk hc0_3
 clear hr0_3 hc0_3
 have HB := Aside0.mk (Below.refl w.heap.size w)
 have H:((spec_ValidGeometry.f a0_0 a0_1 a0_2).bind fun t127=>(if t127=true then (if (l0_3.length:Int)=(wrap64 (a0_0 * a0_1)) then ((spec_l00In.f a0_4 (-1) 1000000).bind fun t128=>(if t128=true then ((spec_l00In.f a0_5 0 91).bind fun t129=>(if t129=true then (spec_ValidFlash.j0 k (decide (a0_7 < 0)) a0_0 a0_1 a0_2 l0_3 a0_4 a0_5 a0_6 a0_7) else (spec_ValidFlash.j0 k true a0_0 a0_1 a0_2 l0_3 a0_4 a0_5 a0_6 a0_7))) else (spec_ValidFlash.j0 k true a0_0 a0_1 a0_2 l0_3 a0_4 a0_5 a0_6 a0_7))) else (spec_ValidFlash.j0 k true a0_0 a0_1 a0_2 l0_3 a0_4 a0_5 a0_6 a0_7)) else (spec_ValidFlash.j0 k true a0_0 a0_1 a0_2 l0_3 a0_4 a0_5 a0_6 a0_7)))=some r:=h
 clear h
 have HC2 := Aside0.mk H
 clear H
 go_enter Try.func44, Try.ntmps44
 go_upto_region 1 with (first|((with_reducible refine gate_dst (N:=1) rfl ?_);(try (refine gate_guard (by rfl) ?_;dsimp only));refine box_event ?hg (N:=1) ?hd (cs:=#[.int .i64 a0_0,.int .i64 a0_1,.int .i64 a0_2,.slice A0_3 l0_3.length c0_3,.int .i64 a0_4,.int .i64 a0_5,.bool a0_6,.int .i64 a0_7]) (t:=40) ?hr ?_;(case hd=>rfl);(case hg=>rfl);(case hr=>first|(go_simp;done)|(go_simp;rfl));intro gb126 hg w3 hbox hb;have n0_:=mk3_ (bT3_ (by repeat (first|(with_reducible first|exact HB.out|apply bA3_|apply bN3_|apply bD3_)|exact HB.out)) hb);have n1_:=mk3_ (hbox);have n2_:=mk3_ ((by rw [hg];exact (below_size (by repeat (first|(with_reducible first|exact HB.out|apply bA3_|apply bN3_|apply bD3_)|exact HB.out))):w.heap.size≤gb126));have n3_:=mk3_ ((by rw [hg];exact (below_size (by repeat (first|(with_reducible first|exact HB.out|apply bA3_|apply bN3_|apply bD3_)|exact HB.out))):w.heap.size≤gb126));clear HB;have HB:=n0_;have BK126:=n1_;have GW126:=n2_;have GE126:=n3_;clear n0_ n1_ n2_ n3_;clear hb hbox hg))
 (try simp only [Act.put,lS3_,lZ3_,lC3_])
 go_cut [37] (fun v37 wc=>∃ (kq:Nat) (x37_1:Bool),v37=.bool x37_1∧Aside0 (spec_ValidFlash.j0 kq x37_1 a0_0 a0_1 a0_2 l0_3 a0_4 a0_5 a0_6 a0_7=some r)∧Aside0 (kq≤k)∧Aside0 (wc.heap[gb126]?=some (.cells #[.int .i64 a0_0,.int .i64 a0_1,.int .i64 a0_2,(.slice A0_3 l0_3.length c0_3),.int .i64 a0_4,.int .i64 a0_5,.bool a0_6,.int .i64 a0_7] 40 (0,0)))∧Aside0 (Below w.heap.size w wc))
 case first =>
  have H := HC2.out
  clear HC2
  replace H := Option.bind_eq_some_iff.mp H
  obtain ⟨t127, A40, H⟩ := H
  replace H:(if t127=true then (if (l0_3.length:Int)=(wrap64 (a0_0 * a0_1)) then ((spec_l00In.f a0_4 (-1) 1000000).bind fun t128=>(if t128=true then ((spec_l00In.f a0_5 0 91).bind fun t129=>(if t129=true then (spec_ValidFlash.j0 k (decide (a0_7 < 0)) a0_0 a0_1 a0_2 l0_3 a0_4 a0_5 a0_6 a0_7) else (spec_ValidFlash.j0 k true a0_0 a0_1 a0_2 l0_3 a0_4 a0_5 a0_6 a0_7))) else (spec_ValidFlash.j0 k true a0_0 a0_1 a0_2 l0_3 a0_4 a0_5 a0_6 a0_7))) else (spec_ValidFlash.j0 k true a0_0 a0_1 a0_2 l0_3 a0_4 a0_5 a0_6 a0_7)) else (spec_ValidFlash.j0 k true a0_0 a0_1 a0_2 l0_3 a0_4 a0_5 a0_6 a0_7))=some r:=H
  have A4 := Aside0.mk A40
  clear A40
  by_cases c5 : t127 = true
  ·subst c5
   have H1:(if (l0_3.length:Int)=(wrap64 (a0_0 * a0_1)) then ((spec_l00In.f a0_4 (-1) 1000000).bind fun t128=>(if t128=true then ((spec_l00In.f a0_5 0 91).bind fun t129=>(if t129=true then (spec_ValidFlash.j0 k (decide (a0_7 < 0)) a0_0 a0_1 a0_2 l0_3 a0_4 a0_5 a0_6 a0_7) else (spec_ValidFlash.j0 k true a0_0 a0_1 a0_2 l0_3 a0_4 a0_5 a0_6 a0_7))) else (spec_ValidFlash.j0 k true a0_0 a0_1 a0_2 l0_3 a0_4 a0_5 a0_6 a0_7))) else (spec_ValidFlash.j0 k true a0_0 a0_1 a0_2 l0_3 a0_4 a0_5 a0_6 a0_7))=some r:=by rw [if_pos rfl] at H;exact H
   clear H
   have H := H1
   clear H1
   by_cases c6 : (l0_3.length : Int) = (wrap64 (a0_0 * a0_1))
   ·rw [if_pos c6] at H
    have c6b0:((l0_3.length:Int) == (wrap64 (a0_0 * a0_1)))=true:=beq_iff_eq.mpr c6
    have c6b1:((l0_3.length:Int) != (wrap64 (a0_0 * a0_1)))=false:=bne_eq_false_iff_eq.mpr c6
    clear c6
    (first|rw [c6b0]|(simp only [i64_w,i32_w];rw [c6b0])|skip)
    replace H := Option.bind_eq_some_iff.mp H
    obtain ⟨t128, A70, H⟩ := H
    replace H:(if t128=true then ((spec_l00In.f a0_5 0 91).bind fun t129=>(if t129=true then (spec_ValidFlash.j0 k (decide (a0_7 < 0)) a0_0 a0_1 a0_2 l0_3 a0_4 a0_5 a0_6 a0_7) else (spec_ValidFlash.j0 k true a0_0 a0_1 a0_2 l0_3 a0_4 a0_5 a0_6 a0_7))) else (spec_ValidFlash.j0 k true a0_0 a0_1 a0_2 l0_3 a0_4 a0_5 a0_6 a0_7))=some r:=H
    have A7 := Aside0.mk A70
    clear A70
    by_cases c8 : t128 = true
    ·subst c8
     have H1:((spec_l00In.f a0_5 0 91).bind fun t129=>(if t129=true then (spec_ValidFlash.j0 k (decide (a0_7 < 0)) a0_0 a0_1 a0_2 l0_3 a0_4 a0_5 a0_6 a0_7) else (spec_ValidFlash.j0 k true a0_0 a0_1 a0_2 l0_3 a0_4 a0_5 a0_6 a0_7)))=some r:=by rw [if_pos rfl] at H;exact H
     clear H
     have H := H1
     clear H1
     replace H := Option.bind_eq_some_iff.mp H
     obtain ⟨t129, A90, H⟩ := H
     replace H:(if t129=true then (spec_ValidFlash.j0 k (decide (a0_7 < 0)) a0_0 a0_1 a0_2 l0_3 a0_4 a0_5 a0_6 a0_7) else (spec_ValidFlash.j0 k true a0_0 a0_1 a0_2 l0_3 a0_4 a0_5 a0_6 a0_7))=some r:=H
     have A9 := Aside0.mk A90
     clear A90
     by_cases c10 : t129 = true
     ·subst c10
      have H1:(spec_ValidFlash.j0 k (decide (a0_7 < 0)) a0_0 a0_1 a0_2 l0_3 a0_4 a0_5 a0_6 a0_7)=some r:=by rw [if_pos rfl] at H;exact H
      clear H
      have H := H1
      clear H1
      have H' := Aside0.mk H
      clear H
      have hcz11_0:w3.cell? ⟨gb126,0,none⟩=some (.int .i64 a0_0):=(blk_cell BK126.out 0).trans rfl
      have hcz11_1:w3.cell? ⟨gb126,1,none⟩=some (.int .i64 a0_1):=(blk_cell BK126.out 1).trans rfl
      have hcz11_2:w3.cell? ⟨gb126,2,none⟩=some (.int .i64 a0_2):=(blk_cell BK126.out 2).trans rfl
      have hcz11_3:w3.cell? ⟨gb126,3,none⟩=some (.slice A0_3 l0_3.length c0_3):=(blk_cell BK126.out 3).trans rfl
      have hcz11_4:w3.cell? ⟨gb126,4,none⟩=some (.int .i64 a0_4):=(blk_cell BK126.out 4).trans rfl
      have hcz11_5:w3.cell? ⟨gb126,5,none⟩=some (.int .i64 a0_5):=(blk_cell BK126.out 5).trans rfl
      have hcz11_6:w3.cell? ⟨gb126,6,none⟩=some (.bool a0_6):=(blk_cell BK126.out 6).trans rfl
      have hcz11_7:w3.cell? ⟨gb126,7,none⟩=some (.int .i64 a0_7):=(blk_cell BK126.out 7).trans rfl
      have hfz11_0 := blk_frozen BK126.out 0
      have hfz11_1 := blk_frozen BK126.out 1
      have hfz11_2 := blk_frozen BK126.out 2
      have hfz11_3 := blk_frozen BK126.out 3
      have hfz11_4 := blk_frozen BK126.out 4
      have hfz11_5 := blk_frozen BK126.out 5
      have hfz11_6 := blk_frozen BK126.out 6
      have hfz11_7 := blk_frozen BK126.out 7
      go_wp2_with (first|((with_reducible refine gate_callee (f:=68) rfl ?_);refine goesL_ (some 6) rfl rfl Try.func68 (by kernel_rfl) rfl #[.agg #[.int .i64 a0_0,.int .i64 a0_1,.int .i64 a0_2]] rfl (by (try simp only [mA3_,mC3_,mN3_]);first|done|rfl|(simp only [List.length_drop,List.length_take];rfl)) ?_;(with_reducible refine (spec_ValidGeometry.calls a0_0 a0_1 a0_2 true _ A4.out).mono ?_);rintro e w12 ⟨rfl,hb⟩;refine ⟨_,rfl,?_⟩;have n0_:=mk3_ (blk_below (g:=gb126) (o:=.cells #[.int .i64 a0_0,.int .i64 a0_1,.int .i64 a0_2,.slice A0_3 l0_3.length c0_3,.int .i64 a0_4,.int .i64 a0_5,.bool a0_6,.int .i64 a0_7] 40 (0,0)) (by (with_reducible repeat (first|refine kN3_ ?_ _|refine kD3_ ?_|refine kA3_ ?_ _));exact BK126.out) hb);have n1_:=mk3_ (bT3_ (by repeat (first|(with_reducible first|exact HB.out|apply bA3_|apply bN3_|apply bD3_|refine bS3_ ?_ GE126.out)|exact HB.out)) hb);clear BK126;clear HB;have BK126:=n0_;have HB:=n1_;clear n0_ n1_;(try clear hb);(try clear hb2);(try clear hk);(try clear hi);have hcz13_0:w12.cell? ⟨gb126,0,none⟩=some (.int .i64 a0_0):=(blk_cell BK126.out 0).trans rfl;have hcz13_1:w12.cell? ⟨gb126,1,none⟩=some (.int .i64 a0_1):=(blk_cell BK126.out 1).trans rfl;have hcz13_2:w12.cell? ⟨gb126,2,none⟩=some (.int .i64 a0_2):=(blk_cell BK126.out 2).trans rfl;have hcz13_3:w12.cell? ⟨gb126,3,none⟩=some (.slice A0_3 l0_3.length c0_3):=(blk_cell BK126.out 3).trans rfl;have hcz13_4:w12.cell? ⟨gb126,4,none⟩=some (.int .i64 a0_4):=(blk_cell BK126.out 4).trans rfl;have hcz13_5:w12.cell? ⟨gb126,5,none⟩=some (.int .i64 a0_5):=(blk_cell BK126.out 5).trans rfl;have hcz13_6:w12.cell? ⟨gb126,6,none⟩=some (.bool a0_6):=(blk_cell BK126.out 6).trans rfl;have hcz13_7:w12.cell? ⟨gb126,7,none⟩=some (.int .i64 a0_7):=(blk_cell BK126.out 7).trans rfl;have hfz13_0:=fZ3_ BK126.out 0;have hfz13_1:=fZ3_ BK126.out 1;have hfz13_2:=fZ3_ BK126.out 2;have hfz13_3:=fZ3_ BK126.out 3;have hfz13_4:=fZ3_ BK126.out 4;have hfz13_5:=fZ3_ BK126.out 5;have hfz13_6:=fZ3_ BK126.out 6;have hfz13_7:=fZ3_ BK126.out 7)|(go_at_call 47;(with_reducible refine (spec_l00In.calls a0_4 (-1) 1000000 true _ A7.out).mono ?_);rintro e w' ⟨rfl,⟨nd,rfl⟩⟩)|(go_at_call 47;(with_reducible refine (spec_l00In.calls a0_5 0 91 true _ A9.out).mono ?_);rintro e w' ⟨rfl,⟨nd,rfl⟩⟩))
      go_meet
      case rel=>exact ⟨_,(decide (a0_7 < 0)),(by first|rfl|(simp;done)|(simp [*];done)),H',⟨by first|omega|exact Nat.le_refl _⟩,⟨by (with_reducible repeat (first|refine kN3_ ?_ _|refine kD3_ ?_|refine kA3_ ?_ _));exact BK126.out⟩,⟨by repeat (first|(with_reducible first|exact HB.out|apply bA3_|apply bN3_|apply bD3_|refine bS3_ ?_ GE126.out)|exact HB.out)⟩⟩
     ·replace c10 := Bool.eq_false_iff.mpr c10
      subst c10
      have H1:(spec_ValidFlash.j0 k true a0_0 a0_1 a0_2 l0_3 a0_4 a0_5 a0_6 a0_7)=some r:=by rw [if_neg (show ¬ (false=true) by decide)] at H;exact H
      clear H
      have H := H1
      clear H1
      have H' := Aside0.mk H
      clear H
      have hcz14_0:w3.cell? ⟨gb126,0,none⟩=some (.int .i64 a0_0):=(blk_cell BK126.out 0).trans rfl
      have hcz14_1:w3.cell? ⟨gb126,1,none⟩=some (.int .i64 a0_1):=(blk_cell BK126.out 1).trans rfl
      have hcz14_2:w3.cell? ⟨gb126,2,none⟩=some (.int .i64 a0_2):=(blk_cell BK126.out 2).trans rfl
      have hcz14_3:w3.cell? ⟨gb126,3,none⟩=some (.slice A0_3 l0_3.length c0_3):=(blk_cell BK126.out 3).trans rfl
      have hcz14_4:w3.cell? ⟨gb126,4,none⟩=some (.int .i64 a0_4):=(blk_cell BK126.out 4).trans rfl
      have hcz14_5:w3.cell? ⟨gb126,5,none⟩=some (.int .i64 a0_5):=(blk_cell BK126.out 5).trans rfl
      have hcz14_6:w3.cell? ⟨gb126,6,none⟩=some (.bool a0_6):=(blk_cell BK126.out 6).trans rfl
      have hcz14_7:w3.cell? ⟨gb126,7,none⟩=some (.int .i64 a0_7):=(blk_cell BK126.out 7).trans rfl
      have hfz14_0 := blk_frozen BK126.out 0
      have hfz14_1 := blk_frozen BK126.out 1
      have hfz14_2 := blk_frozen BK126.out 2
      have hfz14_3 := blk_frozen BK126.out 3
      have hfz14_4 := blk_frozen BK126.out 4
      have hfz14_5 := blk_frozen BK126.out 5
      have hfz14_6 := blk_frozen BK126.out 6
      have hfz14_7 := blk_frozen BK126.out 7
      go_wp2_with (first|((with_reducible refine gate_callee (f:=68) rfl ?_);refine goesL_ (some 6) rfl rfl Try.func68 (by kernel_rfl) rfl #[.agg #[.int .i64 a0_0,.int .i64 a0_1,.int .i64 a0_2]] rfl (by (try simp only [mA3_,mC3_,mN3_]);first|done|rfl|(simp only [List.length_drop,List.length_take];rfl)) ?_;(with_reducible refine (spec_ValidGeometry.calls a0_0 a0_1 a0_2 true _ A4.out).mono ?_);rintro e w15 ⟨rfl,hb⟩;refine ⟨_,rfl,?_⟩;have n0_:=mk3_ (blk_below (g:=gb126) (o:=.cells #[.int .i64 a0_0,.int .i64 a0_1,.int .i64 a0_2,.slice A0_3 l0_3.length c0_3,.int .i64 a0_4,.int .i64 a0_5,.bool a0_6,.int .i64 a0_7] 40 (0,0)) (by (with_reducible repeat (first|refine kN3_ ?_ _|refine kD3_ ?_|refine kA3_ ?_ _));exact BK126.out) hb);have n1_:=mk3_ (bT3_ (by repeat (first|(with_reducible first|exact HB.out|apply bA3_|apply bN3_|apply bD3_|refine bS3_ ?_ GE126.out)|exact HB.out)) hb);clear BK126;clear HB;have BK126:=n0_;have HB:=n1_;clear n0_ n1_;(try clear hb);(try clear hb2);(try clear hk);(try clear hi);have hcz16_0:w15.cell? ⟨gb126,0,none⟩=some (.int .i64 a0_0):=(blk_cell BK126.out 0).trans rfl;have hcz16_1:w15.cell? ⟨gb126,1,none⟩=some (.int .i64 a0_1):=(blk_cell BK126.out 1).trans rfl;have hcz16_2:w15.cell? ⟨gb126,2,none⟩=some (.int .i64 a0_2):=(blk_cell BK126.out 2).trans rfl;have hcz16_3:w15.cell? ⟨gb126,3,none⟩=some (.slice A0_3 l0_3.length c0_3):=(blk_cell BK126.out 3).trans rfl;have hcz16_4:w15.cell? ⟨gb126,4,none⟩=some (.int .i64 a0_4):=(blk_cell BK126.out 4).trans rfl;have hcz16_5:w15.cell? ⟨gb126,5,none⟩=some (.int .i64 a0_5):=(blk_cell BK126.out 5).trans rfl;have hcz16_6:w15.cell? ⟨gb126,6,none⟩=some (.bool a0_6):=(blk_cell BK126.out 6).trans rfl;have hcz16_7:w15.cell? ⟨gb126,7,none⟩=some (.int .i64 a0_7):=(blk_cell BK126.out 7).trans rfl;have hfz16_0:=fZ3_ BK126.out 0;have hfz16_1:=fZ3_ BK126.out 1;have hfz16_2:=fZ3_ BK126.out 2;have hfz16_3:=fZ3_ BK126.out 3;have hfz16_4:=fZ3_ BK126.out 4;have hfz16_5:=fZ3_ BK126.out 5;have hfz16_6:=fZ3_ BK126.out 6;have hfz16_7:=fZ3_ BK126.out 7)|(go_at_call 47;(with_reducible refine (spec_l00In.calls a0_4 (-1) 1000000 true _ A7.out).mono ?_);rintro e w' ⟨rfl,⟨nd,rfl⟩⟩)|(go_at_call 47;(with_reducible refine (spec_l00In.calls a0_5 0 91 false _ A9.out).mono ?_);rintro e w' ⟨rfl,⟨nd,rfl⟩⟩))
      go_meet
      case rel=>exact ⟨_,(true),(by first|rfl|(simp;done)|(simp [*];done)),H',⟨by first|omega|exact Nat.le_refl _⟩,⟨by (with_reducible repeat (first|refine kN3_ ?_ _|refine kD3_ ?_|refine kA3_ ?_ _));exact BK126.out⟩,⟨by repeat (first|(with_reducible first|exact HB.out|apply bA3_|apply bN3_|apply bD3_|refine bS3_ ?_ GE126.out)|exact HB.out)⟩⟩
    ·replace c8 := Bool.eq_false_iff.mpr c8
     subst c8
     have H1:(spec_ValidFlash.j0 k true a0_0 a0_1 a0_2 l0_3 a0_4 a0_5 a0_6 a0_7)=some r:=by rw [if_neg (show ¬ (false=true) by decide)] at H;exact H
     clear H
     have H := H1
     clear H1
     have H' := Aside0.mk H
     clear H
     have hcz17_0:w3.cell? ⟨gb126,0,none⟩=some (.int .i64 a0_0):=(blk_cell BK126.out 0).trans rfl
     have hcz17_1:w3.cell? ⟨gb126,1,none⟩=some (.int .i64 a0_1):=(blk_cell BK126.out 1).trans rfl
     have hcz17_2:w3.cell? ⟨gb126,2,none⟩=some (.int .i64 a0_2):=(blk_cell BK126.out 2).trans rfl
     have hcz17_3:w3.cell? ⟨gb126,3,none⟩=some (.slice A0_3 l0_3.length c0_3):=(blk_cell BK126.out 3).trans rfl
     have hcz17_4:w3.cell? ⟨gb126,4,none⟩=some (.int .i64 a0_4):=(blk_cell BK126.out 4).trans rfl
     have hcz17_5:w3.cell? ⟨gb126,5,none⟩=some (.int .i64 a0_5):=(blk_cell BK126.out 5).trans rfl
     have hcz17_6:w3.cell? ⟨gb126,6,none⟩=some (.bool a0_6):=(blk_cell BK126.out 6).trans rfl
     have hcz17_7:w3.cell? ⟨gb126,7,none⟩=some (.int .i64 a0_7):=(blk_cell BK126.out 7).trans rfl
     have hfz17_0 := blk_frozen BK126.out 0
     have hfz17_1 := blk_frozen BK126.out 1
     have hfz17_2 := blk_frozen BK126.out 2
     have hfz17_3 := blk_frozen BK126.out 3
     have hfz17_4 := blk_frozen BK126.out 4
     have hfz17_5 := blk_frozen BK126.out 5
     have hfz17_6 := blk_frozen BK126.out 6
     have hfz17_7 := blk_frozen BK126.out 7
     go_wp2_with (first|((with_reducible refine gate_callee (f:=68) rfl ?_);refine goesL_ (some 6) rfl rfl Try.func68 (by kernel_rfl) rfl #[.agg #[.int .i64 a0_0,.int .i64 a0_1,.int .i64 a0_2]] rfl (by (try simp only [mA3_,mC3_,mN3_]);first|done|rfl|(simp only [List.length_drop,List.length_take];rfl)) ?_;(with_reducible refine (spec_ValidGeometry.calls a0_0 a0_1 a0_2 true _ A4.out).mono ?_);rintro e w18 ⟨rfl,hb⟩;refine ⟨_,rfl,?_⟩;have n0_:=mk3_ (blk_below (g:=gb126) (o:=.cells #[.int .i64 a0_0,.int .i64 a0_1,.int .i64 a0_2,.slice A0_3 l0_3.length c0_3,.int .i64 a0_4,.int .i64 a0_5,.bool a0_6,.int .i64 a0_7] 40 (0,0)) (by (with_reducible repeat (first|refine kN3_ ?_ _|refine kD3_ ?_|refine kA3_ ?_ _));exact BK126.out) hb);have n1_:=mk3_ (bT3_ (by repeat (first|(with_reducible first|exact HB.out|apply bA3_|apply bN3_|apply bD3_|refine bS3_ ?_ GE126.out)|exact HB.out)) hb);clear BK126;clear HB;have BK126:=n0_;have HB:=n1_;clear n0_ n1_;(try clear hb);(try clear hb2);(try clear hk);(try clear hi);have hcz19_0:w18.cell? ⟨gb126,0,none⟩=some (.int .i64 a0_0):=(blk_cell BK126.out 0).trans rfl;have hcz19_1:w18.cell? ⟨gb126,1,none⟩=some (.int .i64 a0_1):=(blk_cell BK126.out 1).trans rfl;have hcz19_2:w18.cell? ⟨gb126,2,none⟩=some (.int .i64 a0_2):=(blk_cell BK126.out 2).trans rfl;have hcz19_3:w18.cell? ⟨gb126,3,none⟩=some (.slice A0_3 l0_3.length c0_3):=(blk_cell BK126.out 3).trans rfl;have hcz19_4:w18.cell? ⟨gb126,4,none⟩=some (.int .i64 a0_4):=(blk_cell BK126.out 4).trans rfl;have hcz19_5:w18.cell? ⟨gb126,5,none⟩=some (.int .i64 a0_5):=(blk_cell BK126.out 5).trans rfl;have hcz19_6:w18.cell? ⟨gb126,6,none⟩=some (.bool a0_6):=(blk_cell BK126.out 6).trans rfl;have hcz19_7:w18.cell? ⟨gb126,7,none⟩=some (.int .i64 a0_7):=(blk_cell BK126.out 7).trans rfl;have hfz19_0:=fZ3_ BK126.out 0;have hfz19_1:=fZ3_ BK126.out 1;have hfz19_2:=fZ3_ BK126.out 2;have hfz19_3:=fZ3_ BK126.out 3;have hfz19_4:=fZ3_ BK126.out 4;have hfz19_5:=fZ3_ BK126.out 5;have hfz19_6:=fZ3_ BK126.out 6;have hfz19_7:=fZ3_ BK126.out 7)|(go_at_call 47;(with_reducible refine (spec_l00In.calls a0_4 (-1) 1000000 false _ A7.out).mono ?_);rintro e w' ⟨rfl,⟨nd,rfl⟩⟩))
     go_meet
     case rel=>exact ⟨_,(true),(by first|rfl|(simp;done)|(simp [*];done)),H',⟨by first|omega|exact Nat.le_refl _⟩,⟨by (with_reducible repeat (first|refine kN3_ ?_ _|refine kD3_ ?_|refine kA3_ ?_ _));exact BK126.out⟩,⟨by repeat (first|(with_reducible first|exact HB.out|apply bA3_|apply bN3_|apply bD3_|refine bS3_ ?_ GE126.out)|exact HB.out)⟩⟩
   ·rw [if_neg c6] at H
    have c6b0:((l0_3.length:Int) == (wrap64 (a0_0 * a0_1)))=false:=beq_eq_false_iff_ne.mpr c6
    have c6b1:((l0_3.length:Int) != (wrap64 (a0_0 * a0_1)))=true:=bne_iff_ne.mpr c6
    (first|rw [c6b0]|(simp only [i64_w,i32_w];rw [c6b0])|skip)
    have H' := Aside0.mk H
    clear H
    have hcz20_0:w3.cell? ⟨gb126,0,none⟩=some (.int .i64 a0_0):=(blk_cell BK126.out 0).trans rfl
    have hcz20_1:w3.cell? ⟨gb126,1,none⟩=some (.int .i64 a0_1):=(blk_cell BK126.out 1).trans rfl
    have hcz20_2:w3.cell? ⟨gb126,2,none⟩=some (.int .i64 a0_2):=(blk_cell BK126.out 2).trans rfl
    have hcz20_3:w3.cell? ⟨gb126,3,none⟩=some (.slice A0_3 l0_3.length c0_3):=(blk_cell BK126.out 3).trans rfl
    have hcz20_4:w3.cell? ⟨gb126,4,none⟩=some (.int .i64 a0_4):=(blk_cell BK126.out 4).trans rfl
    have hcz20_5:w3.cell? ⟨gb126,5,none⟩=some (.int .i64 a0_5):=(blk_cell BK126.out 5).trans rfl
    have hcz20_6:w3.cell? ⟨gb126,6,none⟩=some (.bool a0_6):=(blk_cell BK126.out 6).trans rfl
    have hcz20_7:w3.cell? ⟨gb126,7,none⟩=some (.int .i64 a0_7):=(blk_cell BK126.out 7).trans rfl
    have hfz20_0 := blk_frozen BK126.out 0
    have hfz20_1 := blk_frozen BK126.out 1
    have hfz20_2 := blk_frozen BK126.out 2
    have hfz20_3 := blk_frozen BK126.out 3
    have hfz20_4 := blk_frozen BK126.out 4
    have hfz20_5 := blk_frozen BK126.out 5
    have hfz20_6 := blk_frozen BK126.out 6
    have hfz20_7 := blk_frozen BK126.out 7
    go_wp2_with (first|((with_reducible refine gate_callee (f:=68) rfl ?_);refine goesL_ (some 6) rfl rfl Try.func68 (by kernel_rfl) rfl #[.agg #[.int .i64 a0_0,.int .i64 a0_1,.int .i64 a0_2]] rfl (by (try simp only [mA3_,mC3_,mN3_]);first|done|rfl|(simp only [List.length_drop,List.length_take];rfl)) ?_;(with_reducible refine (spec_ValidGeometry.calls a0_0 a0_1 a0_2 true _ A4.out).mono ?_);rintro e w21 ⟨rfl,hb⟩;refine ⟨_,rfl,?_⟩;have n0_:=mk3_ (blk_below (g:=gb126) (o:=.cells #[.int .i64 a0_0,.int .i64 a0_1,.int .i64 a0_2,.slice A0_3 l0_3.length c0_3,.int .i64 a0_4,.int .i64 a0_5,.bool a0_6,.int .i64 a0_7] 40 (0,0)) (by (with_reducible repeat (first|refine kN3_ ?_ _|refine kD3_ ?_|refine kA3_ ?_ _));exact BK126.out) hb);have n1_:=mk3_ (bT3_ (by repeat (first|(with_reducible first|exact HB.out|apply bA3_|apply bN3_|apply bD3_|refine bS3_ ?_ GE126.out)|exact HB.out)) hb);clear BK126;clear HB;have BK126:=n0_;have HB:=n1_;clear n0_ n1_;(try clear hb);(try clear hb2);(try clear hk);(try clear hi);have hcz22_0:w21.cell? ⟨gb126,0,none⟩=some (.int .i64 a0_0):=(blk_cell BK126.out 0).trans rfl;have hcz22_1:w21.cell? ⟨gb126,1,none⟩=some (.int .i64 a0_1):=(blk_cell BK126.out 1).trans rfl;have hcz22_2:w21.cell? ⟨gb126,2,none⟩=some (.int .i64 a0_2):=(blk_cell BK126.out 2).trans rfl;have hcz22_3:w21.cell? ⟨gb126,3,none⟩=some (.slice A0_3 l0_3.length c0_3):=(blk_cell BK126.out 3).trans rfl;have hcz22_4:w21.cell? ⟨gb126,4,none⟩=some (.int .i64 a0_4):=(blk_cell BK126.out 4).trans rfl;have hcz22_5:w21.cell? ⟨gb126,5,none⟩=some (.int .i64 a0_5):=(blk_cell BK126.out 5).trans rfl;have hcz22_6:w21.cell? ⟨gb126,6,none⟩=some (.bool a0_6):=(blk_cell BK126.out 6).trans rfl;have hcz22_7:w21.cell? ⟨gb126,7,none⟩=some (.int .i64 a0_7):=(blk_cell BK126.out 7).trans rfl;have hfz22_0:=fZ3_ BK126.out 0;have hfz22_1:=fZ3_ BK126.out 1;have hfz22_2:=fZ3_ BK126.out 2;have hfz22_3:=fZ3_ BK126.out 3;have hfz22_4:=fZ3_ BK126.out 4;have hfz22_5:=fZ3_ BK126.out 5;have hfz22_6:=fZ3_ BK126.out 6;have hfz22_7:=fZ3_ BK126.out 7))
    go_meet
    case rel=>exact ⟨_,(true),(by first|rfl|(simp;done)|(simp [*];done)),H',⟨by first|omega|exact Nat.le_refl _⟩,⟨by (with_reducible repeat (first|refine kN3_ ?_ _|refine kD3_ ?_|refine kA3_ ?_ _));exact BK126.out⟩,⟨by repeat (first|(with_reducible first|exact HB.out|apply bA3_|apply bN3_|apply bD3_|refine bS3_ ?_ GE126.out)|exact HB.out)⟩⟩
  ·replace c5 := Bool.eq_false_iff.mpr c5
   subst c5
   have H1:(spec_ValidFlash.j0 k true a0_0 a0_1 a0_2 l0_3 a0_4 a0_5 a0_6 a0_7)=some r:=by rw [if_neg (show ¬ (false=true) by decide)] at H;exact H
   clear H
   have H := H1
   clear H1
   have H' := Aside0.mk H
   clear H
   have hcz23_0:w3.cell? ⟨gb126,0,none⟩=some (.int .i64 a0_0):=(blk_cell BK126.out 0).trans rfl
   have hcz23_1:w3.cell? ⟨gb126,1,none⟩=some (.int .i64 a0_1):=(blk_cell BK126.out 1).trans rfl
   have hcz23_2:w3.cell? ⟨gb126,2,none⟩=some (.int .i64 a0_2):=(blk_cell BK126.out 2).trans rfl
   have hcz23_3:w3.cell? ⟨gb126,3,none⟩=some (.slice A0_3 l0_3.length c0_3):=(blk_cell BK126.out 3).trans rfl
   have hcz23_4:w3.cell? ⟨gb126,4,none⟩=some (.int .i64 a0_4):=(blk_cell BK126.out 4).trans rfl
   have hcz23_5:w3.cell? ⟨gb126,5,none⟩=some (.int .i64 a0_5):=(blk_cell BK126.out 5).trans rfl
   have hcz23_6:w3.cell? ⟨gb126,6,none⟩=some (.bool a0_6):=(blk_cell BK126.out 6).trans rfl
   have hcz23_7:w3.cell? ⟨gb126,7,none⟩=some (.int .i64 a0_7):=(blk_cell BK126.out 7).trans rfl
   have hfz23_0 := blk_frozen BK126.out 0
   have hfz23_1 := blk_frozen BK126.out 1
   have hfz23_2 := blk_frozen BK126.out 2
   have hfz23_3 := blk_frozen BK126.out 3
   have hfz23_4 := blk_frozen BK126.out 4
   have hfz23_5 := blk_frozen BK126.out 5
   have hfz23_6 := blk_frozen BK126.out 6
   have hfz23_7 := blk_frozen BK126.out 7
   go_wp2_with (first|((with_reducible refine gate_callee (f:=68) rfl ?_);refine goesL_ (some 6) rfl rfl Try.func68 (by kernel_rfl) rfl #[.agg #[.int .i64 a0_0,.int .i64 a0_1,.int .i64 a0_2]] rfl (by (try simp only [mA3_,mC3_,mN3_]);first|done|rfl|(simp only [List.length_drop,List.length_take];rfl)) ?_;(with_reducible refine (spec_ValidGeometry.calls a0_0 a0_1 a0_2 false _ A4.out).mono ?_);rintro e w24 ⟨rfl,hb⟩;refine ⟨_,rfl,?_⟩;have n0_:=mk3_ (blk_below (g:=gb126) (o:=.cells #[.int .i64 a0_0,.int .i64 a0_1,.int .i64 a0_2,.slice A0_3 l0_3.length c0_3,.int .i64 a0_4,.int .i64 a0_5,.bool a0_6,.int .i64 a0_7] 40 (0,0)) (by (with_reducible repeat (first|refine kN3_ ?_ _|refine kD3_ ?_|refine kA3_ ?_ _));exact BK126.out) hb);have n1_:=mk3_ (bT3_ (by repeat (first|(with_reducible first|exact HB.out|apply bA3_|apply bN3_|apply bD3_|refine bS3_ ?_ GE126.out)|exact HB.out)) hb);clear BK126;clear HB;have BK126:=n0_;have HB:=n1_;clear n0_ n1_;(try clear hb);(try clear hb2);(try clear hk);(try clear hi)))
   go_meet
   case rel=>exact ⟨_,(true),(by first|rfl|(simp;done)|(simp [*];done)),H',⟨by first|omega|exact Nat.le_refl _⟩,⟨by (with_reducible repeat (first|refine kN3_ ?_ _|refine kD3_ ?_|refine kA3_ ?_ _));exact BK126.out⟩,⟨by repeat (first|(with_reducible first|exact HB.out|apply bA3_|apply bN3_|apply bD3_|refine bS3_ ?_ GE126.out)|exact HB.out)⟩⟩
 case rest =>
  clear HC2
  try clear c1
  try clear p2
  try clear c4
  try clear c5
  try clear c6
  try clear c6b0
  try clear c6b1
  try clear p6
  try clear c8
  try clear c10
  try clear hcz11_0
  try clear hcz11_1
  try clear hcz11_2
  try clear hcz11_3
  try clear hcz11_4
  try clear hcz11_5
  try clear hcz11_6
  try clear hcz11_7
  try clear hcz13_0
  try clear hcz13_1
  try clear hcz13_2
  try clear hcz13_3
  try clear hcz13_4
  try clear hcz13_5
  try clear hcz13_6
  try clear hcz13_7
  try clear hcz14_0
  try clear hcz14_1
  try clear hcz14_2
  try clear hcz14_3
  try clear hcz14_4
  try clear hcz14_5
  try clear hcz14_6
  try clear hcz14_7
  try clear hcz16_0
  try clear hcz16_1
  try clear hcz16_2
  try clear hcz16_3
  try clear hcz16_4
  try clear hcz16_5
  try clear hcz16_6
  try clear hcz16_7
  try clear hcz17_0
  try clear hcz17_1
  try clear hcz17_2
  try clear hcz17_3
  try clear hcz17_4
  try clear hcz17_5
  try clear hcz17_6
  try clear hcz17_7
  try clear hcz19_0
  try clear hcz19_1
  try clear hcz19_2
  try clear hcz19_3
  try clear hcz19_4
  try clear hcz19_5
  try clear hcz19_6
  try clear hcz19_7
  try clear hcz20_0
  try clear hcz20_1
  try clear hcz20_2
  try clear hcz20_3
  try clear hcz20_4
  try clear hcz20_5
  try clear hcz20_6
  try clear hcz20_7
  try clear hcz22_0
  try clear hcz22_1
  try clear hcz22_2
  try clear hcz22_3
  try clear hcz22_4
  try clear hcz22_5
  try clear hcz22_6
  try clear hcz22_7
  try clear hcz23_0
  try clear hcz23_1
  try clear hcz23_2
  try clear hcz23_3
  try clear hcz23_4
  try clear hcz23_5
  try clear hcz23_6
  try clear hcz23_7
  try clear hfz11_0
  try clear hfz11_1
  try clear hfz11_2
  try clear hfz11_3
  try clear hfz11_4
  try clear hfz11_5
  try clear hfz11_6
  try clear hfz11_7
  try clear hfz13_0
  try clear hfz13_1
  try clear hfz13_2
  try clear hfz13_3
  try clear hfz13_4
  try clear hfz13_5
  try clear hfz13_6
  try clear hfz13_7
  try clear hfz14_0
  try clear hfz14_1
  try clear hfz14_2
  try clear hfz14_3
  try clear hfz14_4
  try clear hfz14_5
  try clear hfz14_6
  try clear hfz14_7
  try clear hfz16_0
  try clear hfz16_1
  try clear hfz16_2
  try clear hfz16_3
  try clear hfz16_4
  try clear hfz16_5
  try clear hfz16_6
  try clear hfz16_7
  try clear hfz17_0
  try clear hfz17_1
  try clear hfz17_2
  try clear hfz17_3
  try clear hfz17_4
  try clear hfz17_5
  try clear hfz17_6
  try clear hfz17_7
  try clear hfz19_0
  try clear hfz19_1
  try clear hfz19_2
  try clear hfz19_3
  try clear hfz19_4
  try clear hfz19_5
  try clear hfz19_6
  try clear hfz19_7
  try clear hfz20_0
  try clear hfz20_1
  try clear hfz20_2
  try clear hfz20_3
  try clear hfz20_4
  try clear hfz20_5
  try clear hfz20_6
  try clear hfz20_7
  try clear hfz22_0
  try clear hfz22_1
  try clear hfz22_2
  try clear hfz22_3
  try clear hfz22_4
  try clear hfz22_5
  try clear hfz22_6
  try clear hfz22_7
  try clear hfz23_0
  try clear hfz23_1
  try clear hfz23_2
  try clear hfz23_3
  try clear hfz23_4
  try clear hfz23_5
  try clear hfz23_6
  try clear hfz23_7
  obtain ⟨kq, x37_1, rfl, HA, HJ1, BK126, HB⟩ := hcut
  cases kq with
  | zero => exact absurd HA.out (by simp [spec_ValidFlash.j0])
  | succ kj1 =>
   have H := HA.out
   clear HA
   simp only [spec_ValidFlash.j0] at H
   by_cases c25 : x37_1 = true
   ·subst c25
    have H1:(some false)=some r:=by rw [if_pos rfl] at H;exact H
    clear H
    have H := H1
    clear H1
    obtain rfl := Option.some.inj H
    go_wp2
    go_ret
    exact ⟨by first|rfl|(simp [errW_none,errW_some] <;> rfl)|(simp [*,errW_none,errW_some] <;> rfl),by repeat (first|(with_reducible first|exact HB.out|apply bA3_|apply bN3_|apply bD3_|refine bS3_ ?_ GE126.out)|exact HB.out)⟩
   ·replace c25 := Bool.eq_false_iff.mpr c25
    subst c25
    have H1:(spec_ValidFlash.l0 kj1 0 a0_0 a0_1 a0_2 l0_3 a0_4 a0_5 a0_6 a0_7)=some r:=by rw [if_neg (show ¬ (false=true) by decide)] at H;exact H
    clear H
    have H := H1
    clear H1
    have H' := Aside0.mk H
    clear H
    go_wp2
    go_loopg [3] kj1 (fun kq v3 w'=>∃ (x3_2:Int),v3=.int .i64 x3_2∧Aside0 (spec_ValidFlash.l0 kq x3_2 a0_0 a0_1 a0_2 l0_3 a0_4 a0_5 a0_6 a0_7=some r)∧Aside0 (kq≤kj1)∧Aside0 (w'.heap[gb126]?=some (.cells #[.int .i64 a0_0,.int .i64 a0_1,.int .i64 a0_2,(.slice A0_3 l0_3.length c0_3),.int .i64 a0_4,.int .i64 a0_5,.bool a0_6,.int .i64 a0_7] 40 (0,0)))∧Aside0 (Below w.heap.size w w'))
    case atStart=>exact ⟨(0),(by first|rfl|(simp;done)|(simp [*];done)),H',⟨Nat.le_refl _⟩,⟨by (with_reducible repeat (first|refine kN3_ ?_ _|refine kD3_ ?_|refine kA3_ ?_ _));exact BK126.out⟩,⟨by repeat (first|(with_reducible first|exact HB.out|apply bA3_|apply bN3_|apply bD3_|refine bS3_ ?_ GE126.out)|exact HB.out)⟩⟩
    case round =>
     clear H'
     try clear c1
     try clear c2
     try clear p2
     try clear c4
     try clear c5
     try clear c6
     try clear c6b0
     try clear c6b1
     try clear p6
     try clear c8
     try clear c10
     try clear c25
     try clear hcz11_0
     try clear hcz11_1
     try clear hcz11_2
     try clear hcz11_3
     try clear hcz11_4
     try clear hcz11_5
     try clear hcz11_6
     try clear hcz11_7
     try clear hcz13_0
     try clear hcz13_1
     try clear hcz13_2
     try clear hcz13_3
     try clear hcz13_4
     try clear hcz13_5
     try clear hcz13_6
     try clear hcz13_7
     try clear hcz14_0
     try clear hcz14_1
     try clear hcz14_2
     try clear hcz14_3
     try clear hcz14_4
     try clear hcz14_5
     try clear hcz14_6
     try clear hcz14_7
     try clear hcz16_0
     try clear hcz16_1
     try clear hcz16_2
     try clear hcz16_3
     try clear hcz16_4
     try clear hcz16_5
     try clear hcz16_6
     try clear hcz16_7
     try clear hcz17_0
     try clear hcz17_1
     try clear hcz17_2
     try clear hcz17_3
     try clear hcz17_4
     try clear hcz17_5
     try clear hcz17_6
     try clear hcz17_7
     try clear hcz19_0
     try clear hcz19_1
     try clear hcz19_2
     try clear hcz19_3
     try clear hcz19_4
     try clear hcz19_5
     try clear hcz19_6
     try clear hcz19_7
     try clear hcz20_0
     try clear hcz20_1
     try clear hcz20_2
     try clear hcz20_3
     try clear hcz20_4
     try clear hcz20_5
     try clear hcz20_6
     try clear hcz20_7
     try clear hcz22_0
     try clear hcz22_1
     try clear hcz22_2
     try clear hcz22_3
     try clear hcz22_4
     try clear hcz22_5
     try clear hcz22_6
     try clear hcz22_7
     try clear hcz23_0
     try clear hcz23_1
     try clear hcz23_2
     try clear hcz23_3
     try clear hcz23_4
     try clear hcz23_5
     try clear hcz23_6
     try clear hcz23_7
     try clear hfz11_0
     try clear hfz11_1
     try clear hfz11_2
     try clear hfz11_3
     try clear hfz11_4
     try clear hfz11_5
     try clear hfz11_6
     try clear hfz11_7
     try clear hfz13_0
     try clear hfz13_1
     try clear hfz13_2
     try clear hfz13_3
     try clear hfz13_4
     try clear hfz13_5
     try clear hfz13_6
     try clear hfz13_7
     try clear hfz14_0
     try clear hfz14_1
     try clear hfz14_2
     try clear hfz14_3
     try clear hfz14_4
     try clear hfz14_5
     try clear hfz14_6
     try clear hfz14_7
     try clear hfz16_0
     try clear hfz16_1
     try clear hfz16_2
     try clear hfz16_3
     try clear hfz16_4
     try clear hfz16_5
     try clear hfz16_6
     try clear hfz16_7
     try clear hfz17_0
     try clear hfz17_1
     try clear hfz17_2
     try clear hfz17_3
     try clear hfz17_4
     try clear hfz17_5
     try clear hfz17_6
     try clear hfz17_7
     try clear hfz19_0
     try clear hfz19_1
     try clear hfz19_2
     try clear hfz19_3
     try clear hfz19_4
     try clear hfz19_5
     try clear hfz19_6
     try clear hfz19_7
     try clear hfz20_0
     try clear hfz20_1
     try clear hfz20_2
     try clear hfz20_3
     try clear hfz20_4
     try clear hfz20_5
     try clear hfz20_6
     try clear hfz20_7
     try clear hfz22_0
     try clear hfz22_1
     try clear hfz22_2
     try clear hfz22_3
     try clear hfz22_4
     try clear hfz22_5
     try clear hfz22_6
     try clear hfz22_7
     try clear hfz23_0
     try clear hfz23_1
     try clear hfz23_2
     try clear hfz23_3
     try clear hfz23_4
     try clear hfz23_5
     try clear hfz23_6
     try clear hfz23_7
     try clear p2
     try clear p6
     obtain ⟨x3_2, rfl, HA, HK2, BK126, HB⟩ := hrel
     cases gk with
     | zero=>exact absurd HA.out (by simp [spec_ValidFlash.l0])
     | succ k2 =>
      have H := HA.out
      clear HA
      simp only [spec_ValidFlash.l0] at H
      by_cases c26 : x3_2 < (l0_3.length : Int)
      ·rw [if_pos c26] at H
       have c26b0:decide (x3_2 < (l0_3.length:Int))=true:=decide_eq_true c26
       clear c26
       by_cases c27 : 0 ≤ x3_2
       ·rw [if_pos c27] at H
        have c27b0:decide (0≤x3_2)=true:=decide_eq_true c27
        clear c27
        replace H := Option.bind_eq_some_iff.mp H
        obtain ⟨t131, A280, H⟩ := H
        replace H:(if t131=true then (spec_ValidFlash.l0 k2 (wrap64 (x3_2+1)) a0_0 a0_1 a0_2 l0_3 a0_4 a0_5 a0_6 a0_7) else (some false))=some r:=H
        have A28 := Aside0.mk A280
        clear A280
        by_cases c29 : t131 = true
        ·subst c29
         have H1:(spec_ValidFlash.l0 k2 (wrap64 (x3_2+1)) a0_0 a0_1 a0_2 l0_3 a0_4 a0_5 a0_6 a0_7)=some r:=by rw [if_pos rfl] at H;exact H
         clear H
         have H := H1
         clear H1
         have H' := Aside0.mk H
         clear H
         have hcz30_0:wr.cell? ⟨gb126,0,none⟩=some (.int .i64 a0_0):=(blk_cell BK126.out 0).trans rfl
         have hcz30_1:wr.cell? ⟨gb126,1,none⟩=some (.int .i64 a0_1):=(blk_cell BK126.out 1).trans rfl
         have hcz30_2:wr.cell? ⟨gb126,2,none⟩=some (.int .i64 a0_2):=(blk_cell BK126.out 2).trans rfl
         have hcz30_3:wr.cell? ⟨gb126,3,none⟩=some (.slice A0_3 l0_3.length c0_3):=(blk_cell BK126.out 3).trans rfl
         have hcz30_4:wr.cell? ⟨gb126,4,none⟩=some (.int .i64 a0_4):=(blk_cell BK126.out 4).trans rfl
         have hcz30_5:wr.cell? ⟨gb126,5,none⟩=some (.int .i64 a0_5):=(blk_cell BK126.out 5).trans rfl
         have hcz30_6:wr.cell? ⟨gb126,6,none⟩=some (.bool a0_6):=(blk_cell BK126.out 6).trans rfl
         have hcz30_7:wr.cell? ⟨gb126,7,none⟩=some (.int .i64 a0_7):=(blk_cell BK126.out 7).trans rfl
         have hfz30_0 := blk_frozen BK126.out 0
         have hfz30_1 := blk_frozen BK126.out 1
         have hfz30_2 := blk_frozen BK126.out 2
         have hfz30_3 := blk_frozen BK126.out 3
         have hfz30_4 := blk_frozen BK126.out 4
         have hfz30_5 := blk_frozen BK126.out 5
         have hfz30_6 := blk_frozen BK126.out 6
         have hfz30_7 := blk_frozen BK126.out 7
         try go_wp2
         have n0_ := Aside0.mk (blk_drew BK126.out)
         have n1_ := Aside0.mk (below_drew1 HB.out)
         clear BK126
         clear HB
         have BK126 := n0_
         have HB := n1_
         clear n0_ n1_
         have p130:0≤(x3_2:Int):=of_decide_eq_true (by first|(with_reducible assumption)|assumption)
         have q130:x3_2 < (l0_3.length:Int):=of_decide_eq_true (by first|(with_reducible assumption)|assumption)
         obtain ⟨ad130,A130_3,c130_3,e130,hx130_0,hx130_1,hx130_2,hx130_3,hl130_3,hi130_3⟩:=at_T92 HR0_3.out x3_2 p130 q130
         have hw130_3 := hx130_3
         have hw130_2 := hx130_2
         have hw130_1 := hx130_1
         have hw130_0 := hx130_0
         cases e130
         replace hx130_0:=(HB.out.cell (World.block_lt_of_cell? w _ hx130_0)).trans hx130_0
         replace hx130_1:=(HB.out.cell (World.block_lt_of_cell? w _ hx130_1)).trans hx130_1
         replace hx130_2:=(HB.out.cell (World.block_lt_of_cell? w _ hx130_2)).trans hx130_2
         replace hx130_3:=(HB.out.cell (World.block_lt_of_cell? w _ hx130_3)).trans hx130_3
         have HR130_3 := Aside0.mk hi130_3
         have HC130_3 := Aside0.mk hl130_3
         clear hi130_3 hl130_3
         replace p130 := eq_true p130
         replace q130 := eq_true q130
         refine start_ (n:=10) (S:=fun w'=>w'.cell? ⟨gb126,0,none⟩=some (.int .i64 a0_0)∧w'.cell? ⟨gb126,1,none⟩=some (.int .i64 a0_1)∧w'.cell? ⟨gb126,2,none⟩=some (.int .i64 a0_2)∧w'.cell? ⟨gb126,3,none⟩=some (.slice (some ad130) l0_3.length c0_3)∧w'.cell? ⟨gb126,4,none⟩=some (.int .i64 a0_4)∧w'.cell? ⟨gb126,5,none⟩=some (.int .i64 a0_5)∧w'.cell? ⟨gb126,6,none⟩=some (.bool a0_6)∧w'.cell? ⟨gb126,7,none⟩=some (.int .i64 a0_7)∧w'.cell? (ad130.add ((x3_2).toNat * 4))=some (.int .i64 ((rd_T92 l0_3 x3_2).f0))∧w'.cell? ⟨(ad130.add ((x3_2).toNat * 4)).block,(ad130.add ((x3_2).toNat * 4)).off+1,none⟩=some (.int .i64 ((rd_T92 l0_3 x3_2).f1))∧w'.cell? ⟨(ad130.add ((x3_2).toNat * 4)).block,(ad130.add ((x3_2).toNat * 4)).off+2,none⟩=some (.bool ((rd_T92 l0_3 x3_2).f2))∧w'.cell? ⟨(ad130.add ((x3_2).toNat * 4)).block,(ad130.add ((x3_2).toNat * 4)).off+3,none⟩=some (.slice A130_3 ((rd_T92 l0_3 x3_2).f3).length c130_3)) (ds:=[]) #[false,false,false,false,false,false,false,false,false,false] (by kernel_rfl) rfl rfl ⟨(blk_cell BK126.out 0).trans rfl,(blk_cell BK126.out 1).trans rfl,(blk_cell BK126.out 2).trans rfl,(blk_cell BK126.out 3).trans rfl,(blk_cell BK126.out 4).trans rfl,(blk_cell BK126.out 5).trans rfl,(blk_cell BK126.out 6).trans rfl,(blk_cell BK126.out 7).trans rfl,((HB.out.cell (World.block_lt_of_cell? w _ hw130_0)).trans hw130_0),((HB.out.cell (World.block_lt_of_cell? w _ hw130_1)).trans hw130_1),((HB.out.cell (World.block_lt_of_cell? w _ hw130_2)).trans hw130_2),((HB.out.cell (World.block_lt_of_cell? w _ hw130_3)).trans hw130_3)⟩ (fun hHeld=>?_);refine with_tabW spec_ValidFlash.tab6 spec_ValidFlash.bits6 (fun HT_ HW_=>?_)
         generalize wr.drew=w31 at BK126 HB HR130_3 hx130_0 hx130_1 hx130_2 hx130_3 hHeld ⊢
         refine pure_ (i:=0) (N:=some 45) (v:=?_) (a':=?_) #[true,false,false,false,false,false,false,false,false,false] rfl rfl (any_of HT_.out (by kernel_rfl)) (fun _ _ _ h=>h) (Or.inl ⟨by rfl,?_⟩) ?_ ?_
         rotate_left
         ·intro w'
          go_simp
          with_reducible rfl
         rotate_left
         ·simp only [Act.put,lS3_,lZ3_,lC3_,i64_w,i32_w]
          rfl
         refine pure_ (i:=2) (N:=some 47) (v:=?_) (a':=?_) #[true,false,true,false,false,false,false,false,false,false] rfl rfl (any_of HT_.out (by kernel_rfl)) (fun _ _ _ h=>h) (Or.inl ⟨by rfl,?_⟩) ?_ ?_
         rotate_left
         ·intro w'
          go_simp
          with_reducible rfl
         rotate_left
         ·simp only [Act.put,lS3_,lZ3_,lC3_,i64_w,i32_w]
          rfl
         refine pure_ (i:=5) (N:=some 50) (v:=?_) (a':=?_) #[true,false,true,false,false,true,false,false,false,false] rfl rfl (any_of HT_.out (by kernel_rfl)) (fun _ _ _ h=>h) (Or.inl ⟨by rfl,?_⟩) ?_ ?_
         rotate_left
         ·intro w'
          go_simp
          with_reducible rfl
         rotate_left
         ·simp only [Act.put,lS3_,lZ3_,lC3_,i64_w,i32_w]
          rfl
         refine pure_ (i:=6) (N:=some 51) (v:=?_) (a':=?_) #[true,false,true,false,false,true,true,false,false,false] rfl rfl (any_of HT_.out (by kernel_rfl)) (fun _ _ _ h=>h) (Or.inl ⟨by rfl,?_⟩) ?_ ?_
         rotate_left
         ·intro w'
          go_simp
          with_reducible rfl
         rotate_left
         ·simp only [Act.put,lS3_,lZ3_,lC3_,i64_w,i32_w]
          rfl
         refine take_ (i:=1) (N:=some 46) (v:=?_) (a':=?_) #[true,true,true,false,false,true,true,false,false,false] rfl rfl (take_ofW HT_.out HW_.out (by kernel_rfl)) (fun _ _ _ h=>h) (Or.inl ⟨by rfl,?_⟩) hHeld ?_ ?_
         rotate_left
         ·rintro w' ⟨s0,s1,s2,s3,s4,s5,s6,s7,s8,s9,s10,s11⟩
          go_simp
          with_reducible rfl
         rotate_left
         ·simp only [Act.put,lS3_,lZ3_,lC3_,i64_w,i32_w]
          rfl
         refine pure_ (i:=3) (N:=some 48) (v:=?_) (a':=?_) #[true,true,true,true,false,true,true,false,false,false] rfl rfl (any_of HT_.out (by kernel_rfl)) (fun _ _ _ h=>h) (Or.inl ⟨by rfl,?_⟩) ?_ ?_
         rotate_left
         ·intro w'
          go_simp
          with_reducible rfl
         rotate_left
         ·simp only [Act.put,lS3_,lZ3_,lC3_,i64_w,i32_w]
          rfl
         refine take_ (i:=4) (N:=some 49) (v:=?_) (a':=?_) #[true,true,true,true,true,true,true,false,false,false] rfl rfl (take_ofW HT_.out HW_.out (by kernel_rfl)) (fun _ _ _ h=>h) (Or.inl ⟨by rfl,?_⟩) hHeld ?_ ?_
         rotate_left
         ·rintro w' ⟨s0,s1,s2,s3,s4,s5,s6,s7,s8,s9,s10,s11⟩
          go_simp
          with_reducible rfl
         rotate_left
         ·simp only [Act.put,lS3_,lZ3_,lC3_,i64_w,i32_w]
          rfl
         refine take_ (i:=7) (N:=some 52) (v:=?_) (a':=?_) #[true,true,true,true,true,true,true,true,false,false] rfl rfl (take_ofW HT_.out HW_.out (by kernel_rfl)) (fun _ _ _ h=>h) (Or.inl ⟨by rfl,?_⟩) hHeld ?_ ?_
         rotate_left
         ·rintro w' ⟨s0,s1,s2,s3,s4,s5,s6,s7,s8,s9,s10,s11⟩
          go_simp
          with_reducible rfl
         rotate_left
         ·simp only [Act.put,lS3_,lZ3_,lC3_,i64_w,i32_w]
          rfl
         refine one_ (i:=8) (N:=some 53) #[true,true,true,true,true,true,true,true,true,false] rfl rfl (one_of HT_.out (by kernel_rfl)) (by decide) (fun K hK=>?_)
         refine goes_ Try.func69 (by kernel_rfl) rfl #[.agg #[.int .i64 ((rd_T92 l0_3 x3_2).f0),.int .i64 ((rd_T92 l0_3 x3_2).f1),.bool ((rd_T92 l0_3 x3_2).f2),.slice A130_3 ((rd_T92 l0_3 x3_2).f3).length c130_3],.int .i64 a0_2] (by rfl) rfl rfl (by (try simp only [mA3_,mC3_,mN3_]);first|done|rfl|(simp only [List.length_drop,List.length_take];rfl)) ?_
         with_reducible refine (spec_l06Block.calls k2 ((rd_T92 l0_3 x3_2).f0) ((rd_T92 l0_3 x3_2).f1) ((rd_T92 l0_3 x3_2).f2) _ _ ((rd_T92 l0_3 x3_2).f3) a0_2 true _ ?side1 ?side2 A28.out).mono ?_
         (case side1=>repeat (first|exact (Kd.C_below HR130_3.out HB.out)|(with_reducible refine Kd.C_alloc ?_ _)|(with_reducible refine Kd.C_drewN ?_ _)|(with_reducible refine Kd.C_drew ?_)))
         (case side2 => exact HC130_3.out)
         rintro e w32 ⟨rfl, hb⟩
         refine ⟨_, rfl, ?_⟩
         have n0_:=mk3_ (blk_below (g:=gb126) (o:=.cells #[.int .i64 a0_0,.int .i64 a0_1,.int .i64 a0_2,.slice (some ad130) l0_3.length c0_3,.int .i64 a0_4,.int .i64 a0_5,.bool a0_6,.int .i64 a0_7] 40 (0,0)) (by (with_reducible repeat (first|refine kN3_ ?_ _|refine kD3_ ?_|refine kA3_ ?_ _));exact BK126.out) hb)
         have n1_:=mk3_ (bT3_ (by repeat (first|(with_reducible first|exact HB.out|apply bA3_|apply bN3_|apply bD3_|refine bS3_ ?_ GE126.out)|exact HB.out)) hb)
         clear BK126
         clear HB
         have BK126 := n0_
         have HB := n1_
         clear n0_ n1_
         (try clear hb)
         (try clear hb2)
         (try clear hk)
         (try clear hi)
         refine hK.out _ _ ⟨(blk_cell BK126.out 0).trans rfl,(blk_cell BK126.out 1).trans rfl,(blk_cell BK126.out 2).trans rfl,(blk_cell BK126.out 3).trans rfl,(blk_cell BK126.out 4).trans rfl,(blk_cell BK126.out 5).trans rfl,(blk_cell BK126.out 6).trans rfl,(blk_cell BK126.out 7).trans rfl,((HB.out.cell (World.block_lt_of_cell? w _ hw130_0)).trans hw130_0),((HB.out.cell (World.block_lt_of_cell? w _ hw130_1)).trans hw130_1),((HB.out.cell (World.block_lt_of_cell? w _ hw130_2)).trans hw130_2),((HB.out.cell (World.block_lt_of_cell? w _ hw130_3)).trans hw130_3)⟩ (fun hHeld=>?_)
         clear hK K
         refine norm_ (a' := ?_) ?_ ?_
         rotate_left
         ·show Act.put _ (some 53) _ = _
          simp only [Act.put,lS3_,lZ3_,lC3_,i64_w,i32_w]
          rfl
         refine pure_ (i:=9) (N:=some 54) (v:=?_) (a':=?_) #[true,true,true,true,true,true,true,true,true,true] rfl rfl (any_of HT_.out (by kernel_rfl)) (fun _ _ _ h=>h) (Or.inl ⟨by rfl,?_⟩) ?_ ?_
         rotate_left
         ·intro w'
          go_simp
          with_reducible rfl
         rotate_left
         ·simp only [Act.put,lS3_,lZ3_,lC3_,i64_w,i32_w]
          rfl
         refine done_ (done_of HT_.out (by kernel_rfl)) ?_
         try go_wp2
         go_roundg k2
         case measure=>have:=HJ1.out;have:=HK2.out;omega
         case rel=>exact ⟨(wrap64 (x3_2+1)),(by first|rfl|(simp;done)|(simp [*];done)),H',⟨by have:=HJ1.out;have:=HK2.out;omega⟩,⟨by (with_reducible repeat (first|refine kN3_ ?_ _|refine kD3_ ?_|refine kA3_ ?_ _));exact BK126.out⟩,⟨by repeat (first|(with_reducible first|exact HB.out|apply bA3_|apply bN3_|apply bD3_|refine bS3_ ?_ GE126.out)|exact HB.out)⟩⟩
        ·replace c29 := Bool.eq_false_iff.mpr c29
         subst c29
         have H1:(some false)=some r:=by rw [if_neg (show ¬ (false=true) by decide)] at H;exact H
         clear H
         have H := H1
         clear H1
         obtain rfl := Option.some.inj H
         have hcz33_0:wr.cell? ⟨gb126,0,none⟩=some (.int .i64 a0_0):=(blk_cell BK126.out 0).trans rfl
         have hcz33_1:wr.cell? ⟨gb126,1,none⟩=some (.int .i64 a0_1):=(blk_cell BK126.out 1).trans rfl
         have hcz33_2:wr.cell? ⟨gb126,2,none⟩=some (.int .i64 a0_2):=(blk_cell BK126.out 2).trans rfl
         have hcz33_3:wr.cell? ⟨gb126,3,none⟩=some (.slice A0_3 l0_3.length c0_3):=(blk_cell BK126.out 3).trans rfl
         have hcz33_4:wr.cell? ⟨gb126,4,none⟩=some (.int .i64 a0_4):=(blk_cell BK126.out 4).trans rfl
         have hcz33_5:wr.cell? ⟨gb126,5,none⟩=some (.int .i64 a0_5):=(blk_cell BK126.out 5).trans rfl
         have hcz33_6:wr.cell? ⟨gb126,6,none⟩=some (.bool a0_6):=(blk_cell BK126.out 6).trans rfl
         have hcz33_7:wr.cell? ⟨gb126,7,none⟩=some (.int .i64 a0_7):=(blk_cell BK126.out 7).trans rfl
         have hfz33_0 := blk_frozen BK126.out 0
         have hfz33_1 := blk_frozen BK126.out 1
         have hfz33_2 := blk_frozen BK126.out 2
         have hfz33_3 := blk_frozen BK126.out 3
         have hfz33_4 := blk_frozen BK126.out 4
         have hfz33_5 := blk_frozen BK126.out 5
         have hfz33_6 := blk_frozen BK126.out 6
         have hfz33_7 := blk_frozen BK126.out 7
         try go_wp2
         have n0_ := Aside0.mk (blk_drew BK126.out)
         have n1_ := Aside0.mk (below_drew1 HB.out)
         clear BK126
         clear HB
         have BK126 := n0_
         have HB := n1_
         clear n0_ n1_
         have p130:0≤(x3_2:Int):=of_decide_eq_true (by first|(with_reducible assumption)|assumption)
         have q130:x3_2 < (l0_3.length:Int):=of_decide_eq_true (by first|(with_reducible assumption)|assumption)
         obtain ⟨ad130,A130_3,c130_3,e130,hx130_0,hx130_1,hx130_2,hx130_3,hl130_3,hi130_3⟩:=at_T92 HR0_3.out x3_2 p130 q130
         have hw130_3 := hx130_3
         have hw130_2 := hx130_2
         have hw130_1 := hx130_1
         have hw130_0 := hx130_0
         cases e130
         replace hx130_0:=(HB.out.cell (World.block_lt_of_cell? w _ hx130_0)).trans hx130_0
         replace hx130_1:=(HB.out.cell (World.block_lt_of_cell? w _ hx130_1)).trans hx130_1
         replace hx130_2:=(HB.out.cell (World.block_lt_of_cell? w _ hx130_2)).trans hx130_2
         replace hx130_3:=(HB.out.cell (World.block_lt_of_cell? w _ hx130_3)).trans hx130_3
         have HR130_3 := Aside0.mk hi130_3
         have HC130_3 := Aside0.mk hl130_3
         clear hi130_3 hl130_3
         replace p130 := eq_true p130
         replace q130 := eq_true q130
         refine start_ (n:=10) (S:=fun w'=>w'.cell? ⟨gb126,0,none⟩=some (.int .i64 a0_0)∧w'.cell? ⟨gb126,1,none⟩=some (.int .i64 a0_1)∧w'.cell? ⟨gb126,2,none⟩=some (.int .i64 a0_2)∧w'.cell? ⟨gb126,3,none⟩=some (.slice (some ad130) l0_3.length c0_3)∧w'.cell? ⟨gb126,4,none⟩=some (.int .i64 a0_4)∧w'.cell? ⟨gb126,5,none⟩=some (.int .i64 a0_5)∧w'.cell? ⟨gb126,6,none⟩=some (.bool a0_6)∧w'.cell? ⟨gb126,7,none⟩=some (.int .i64 a0_7)∧w'.cell? (ad130.add ((x3_2).toNat * 4))=some (.int .i64 ((rd_T92 l0_3 x3_2).f0))∧w'.cell? ⟨(ad130.add ((x3_2).toNat * 4)).block,(ad130.add ((x3_2).toNat * 4)).off+1,none⟩=some (.int .i64 ((rd_T92 l0_3 x3_2).f1))∧w'.cell? ⟨(ad130.add ((x3_2).toNat * 4)).block,(ad130.add ((x3_2).toNat * 4)).off+2,none⟩=some (.bool ((rd_T92 l0_3 x3_2).f2))∧w'.cell? ⟨(ad130.add ((x3_2).toNat * 4)).block,(ad130.add ((x3_2).toNat * 4)).off+3,none⟩=some (.slice A130_3 ((rd_T92 l0_3 x3_2).f3).length c130_3)) (ds:=[]) #[false,false,false,false,false,false,false,false,false,false] (by kernel_rfl) rfl rfl ⟨(blk_cell BK126.out 0).trans rfl,(blk_cell BK126.out 1).trans rfl,(blk_cell BK126.out 2).trans rfl,(blk_cell BK126.out 3).trans rfl,(blk_cell BK126.out 4).trans rfl,(blk_cell BK126.out 5).trans rfl,(blk_cell BK126.out 6).trans rfl,(blk_cell BK126.out 7).trans rfl,((HB.out.cell (World.block_lt_of_cell? w _ hw130_0)).trans hw130_0),((HB.out.cell (World.block_lt_of_cell? w _ hw130_1)).trans hw130_1),((HB.out.cell (World.block_lt_of_cell? w _ hw130_2)).trans hw130_2),((HB.out.cell (World.block_lt_of_cell? w _ hw130_3)).trans hw130_3)⟩ (fun hHeld=>?_);refine with_tabW spec_ValidFlash.tab6 spec_ValidFlash.bits6 (fun HT_ HW_=>?_)
         generalize wr.drew=w34 at BK126 HB HR130_3 hx130_0 hx130_1 hx130_2 hx130_3 hHeld ⊢
         refine pure_ (i:=0) (N:=some 45) (v:=?_) (a':=?_) #[true,false,false,false,false,false,false,false,false,false] rfl rfl (any_of HT_.out (by kernel_rfl)) (fun _ _ _ h=>h) (Or.inl ⟨by rfl,?_⟩) ?_ ?_
         rotate_left
         ·intro w'
          go_simp
          with_reducible rfl
         rotate_left
         ·simp only [Act.put,lS3_,lZ3_,lC3_,i64_w,i32_w]
          rfl
         refine pure_ (i:=2) (N:=some 47) (v:=?_) (a':=?_) #[true,false,true,false,false,false,false,false,false,false] rfl rfl (any_of HT_.out (by kernel_rfl)) (fun _ _ _ h=>h) (Or.inl ⟨by rfl,?_⟩) ?_ ?_
         rotate_left
         ·intro w'
          go_simp
          with_reducible rfl
         rotate_left
         ·simp only [Act.put,lS3_,lZ3_,lC3_,i64_w,i32_w]
          rfl
         refine pure_ (i:=5) (N:=some 50) (v:=?_) (a':=?_) #[true,false,true,false,false,true,false,false,false,false] rfl rfl (any_of HT_.out (by kernel_rfl)) (fun _ _ _ h=>h) (Or.inl ⟨by rfl,?_⟩) ?_ ?_
         rotate_left
         ·intro w'
          go_simp
          with_reducible rfl
         rotate_left
         ·simp only [Act.put,lS3_,lZ3_,lC3_,i64_w,i32_w]
          rfl
         refine pure_ (i:=6) (N:=some 51) (v:=?_) (a':=?_) #[true,false,true,false,false,true,true,false,false,false] rfl rfl (any_of HT_.out (by kernel_rfl)) (fun _ _ _ h=>h) (Or.inl ⟨by rfl,?_⟩) ?_ ?_
         rotate_left
         ·intro w'
          go_simp
          with_reducible rfl
         rotate_left
         ·simp only [Act.put,lS3_,lZ3_,lC3_,i64_w,i32_w]
          rfl
         refine take_ (i:=1) (N:=some 46) (v:=?_) (a':=?_) #[true,true,true,false,false,true,true,false,false,false] rfl rfl (take_ofW HT_.out HW_.out (by kernel_rfl)) (fun _ _ _ h=>h) (Or.inl ⟨by rfl,?_⟩) hHeld ?_ ?_
         rotate_left
         ·rintro w' ⟨s0,s1,s2,s3,s4,s5,s6,s7,s8,s9,s10,s11⟩
          go_simp
          with_reducible rfl
         rotate_left
         ·simp only [Act.put,lS3_,lZ3_,lC3_,i64_w,i32_w]
          rfl
         refine pure_ (i:=3) (N:=some 48) (v:=?_) (a':=?_) #[true,true,true,true,false,true,true,false,false,false] rfl rfl (any_of HT_.out (by kernel_rfl)) (fun _ _ _ h=>h) (Or.inl ⟨by rfl,?_⟩) ?_ ?_
         rotate_left
         ·intro w'
          go_simp
          with_reducible rfl
         rotate_left
         ·simp only [Act.put,lS3_,lZ3_,lC3_,i64_w,i32_w]
          rfl
         refine take_ (i:=4) (N:=some 49) (v:=?_) (a':=?_) #[true,true,true,true,true,true,true,false,false,false] rfl rfl (take_ofW HT_.out HW_.out (by kernel_rfl)) (fun _ _ _ h=>h) (Or.inl ⟨by rfl,?_⟩) hHeld ?_ ?_
         rotate_left
         ·rintro w' ⟨s0,s1,s2,s3,s4,s5,s6,s7,s8,s9,s10,s11⟩
          go_simp
          with_reducible rfl
         rotate_left
         ·simp only [Act.put,lS3_,lZ3_,lC3_,i64_w,i32_w]
          rfl
         refine take_ (i:=7) (N:=some 52) (v:=?_) (a':=?_) #[true,true,true,true,true,true,true,true,false,false] rfl rfl (take_ofW HT_.out HW_.out (by kernel_rfl)) (fun _ _ _ h=>h) (Or.inl ⟨by rfl,?_⟩) hHeld ?_ ?_
         rotate_left
         ·rintro w' ⟨s0,s1,s2,s3,s4,s5,s6,s7,s8,s9,s10,s11⟩
          go_simp
          with_reducible rfl
         rotate_left
         ·simp only [Act.put,lS3_,lZ3_,lC3_,i64_w,i32_w]
          rfl
         refine one_ (i:=8) (N:=some 53) #[true,true,true,true,true,true,true,true,true,false] rfl rfl (one_of HT_.out (by kernel_rfl)) (by decide) (fun K hK=>?_)
         refine goes_ Try.func69 (by kernel_rfl) rfl #[.agg #[.int .i64 ((rd_T92 l0_3 x3_2).f0),.int .i64 ((rd_T92 l0_3 x3_2).f1),.bool ((rd_T92 l0_3 x3_2).f2),.slice A130_3 ((rd_T92 l0_3 x3_2).f3).length c130_3],.int .i64 a0_2] (by rfl) rfl rfl (by (try simp only [mA3_,mC3_,mN3_]);first|done|rfl|(simp only [List.length_drop,List.length_take];rfl)) ?_
         with_reducible refine (spec_l06Block.calls k2 ((rd_T92 l0_3 x3_2).f0) ((rd_T92 l0_3 x3_2).f1) ((rd_T92 l0_3 x3_2).f2) _ _ ((rd_T92 l0_3 x3_2).f3) a0_2 false _ ?side1 ?side2 A28.out).mono ?_
         (case side1=>repeat (first|exact (Kd.C_below HR130_3.out HB.out)|(with_reducible refine Kd.C_alloc ?_ _)|(with_reducible refine Kd.C_drewN ?_ _)|(with_reducible refine Kd.C_drew ?_)))
         (case side2 => exact HC130_3.out)
         rintro e w35 ⟨rfl, hb⟩
         refine ⟨_, rfl, ?_⟩
         have n0_:=mk3_ (blk_below (g:=gb126) (o:=.cells #[.int .i64 a0_0,.int .i64 a0_1,.int .i64 a0_2,.slice (some ad130) l0_3.length c0_3,.int .i64 a0_4,.int .i64 a0_5,.bool a0_6,.int .i64 a0_7] 40 (0,0)) (by (with_reducible repeat (first|refine kN3_ ?_ _|refine kD3_ ?_|refine kA3_ ?_ _));exact BK126.out) hb)
         have n1_:=mk3_ (bT3_ (by repeat (first|(with_reducible first|exact HB.out|apply bA3_|apply bN3_|apply bD3_|refine bS3_ ?_ GE126.out)|exact HB.out)) hb)
         clear BK126
         clear HB
         have BK126 := n0_
         have HB := n1_
         clear n0_ n1_
         (try clear hb)
         (try clear hb2)
         (try clear hk)
         (try clear hi)
         refine hK.out _ _ ⟨(blk_cell BK126.out 0).trans rfl,(blk_cell BK126.out 1).trans rfl,(blk_cell BK126.out 2).trans rfl,(blk_cell BK126.out 3).trans rfl,(blk_cell BK126.out 4).trans rfl,(blk_cell BK126.out 5).trans rfl,(blk_cell BK126.out 6).trans rfl,(blk_cell BK126.out 7).trans rfl,((HB.out.cell (World.block_lt_of_cell? w _ hw130_0)).trans hw130_0),((HB.out.cell (World.block_lt_of_cell? w _ hw130_1)).trans hw130_1),((HB.out.cell (World.block_lt_of_cell? w _ hw130_2)).trans hw130_2),((HB.out.cell (World.block_lt_of_cell? w _ hw130_3)).trans hw130_3)⟩ (fun hHeld=>?_)
         clear hK K
         refine norm_ (a' := ?_) ?_ ?_
         rotate_left
         ·show Act.put _ (some 53) _ = _
          simp only [Act.put,lS3_,lZ3_,lC3_,i64_w,i32_w]
          rfl
         refine pure_ (i:=9) (N:=some 54) (v:=?_) (a':=?_) #[true,true,true,true,true,true,true,true,true,true] rfl rfl (any_of HT_.out (by kernel_rfl)) (fun _ _ _ h=>h) (Or.inl ⟨by rfl,?_⟩) ?_ ?_
         rotate_left
         ·intro w'
          go_simp
          with_reducible rfl
         rotate_left
         ·simp only [Act.put,lS3_,lZ3_,lC3_,i64_w,i32_w]
          rfl
         refine done_ (done_of HT_.out (by kernel_rfl)) ?_
         try go_wp2
         go_ret
         exact ⟨by first|rfl|(simp [errW_none,errW_some] <;> rfl)|(simp [*,errW_none,errW_some] <;> rfl),by repeat (first|(with_reducible first|exact HB.out|apply bA3_|apply bN3_|apply bD3_|refine bS3_ ?_ GE126.out)|exact HB.out)⟩
       ·rw [if_neg c27] at H
        exact absurd H (by simp)
      ·rw [if_neg c26] at H
       have c26b0:decide (x3_2 < (l0_3.length:Int))=false:=decide_eq_false c26
       clear c26
       obtain rfl := Option.some.inj H
       have hcz36_0:wr.cell? ⟨gb126,0,none⟩=some (.int .i64 a0_0):=(blk_cell BK126.out 0).trans rfl
       have hcz36_1:wr.cell? ⟨gb126,1,none⟩=some (.int .i64 a0_1):=(blk_cell BK126.out 1).trans rfl
       have hcz36_2:wr.cell? ⟨gb126,2,none⟩=some (.int .i64 a0_2):=(blk_cell BK126.out 2).trans rfl
       have hcz36_3:wr.cell? ⟨gb126,3,none⟩=some (.slice A0_3 l0_3.length c0_3):=(blk_cell BK126.out 3).trans rfl
       have hcz36_4:wr.cell? ⟨gb126,4,none⟩=some (.int .i64 a0_4):=(blk_cell BK126.out 4).trans rfl
       have hcz36_5:wr.cell? ⟨gb126,5,none⟩=some (.int .i64 a0_5):=(blk_cell BK126.out 5).trans rfl
       have hcz36_6:wr.cell? ⟨gb126,6,none⟩=some (.bool a0_6):=(blk_cell BK126.out 6).trans rfl
       have hcz36_7:wr.cell? ⟨gb126,7,none⟩=some (.int .i64 a0_7):=(blk_cell BK126.out 7).trans rfl
       have hfz36_0 := blk_frozen BK126.out 0
       have hfz36_1 := blk_frozen BK126.out 1
       have hfz36_2 := blk_frozen BK126.out 2
       have hfz36_3 := blk_frozen BK126.out 3
       have hfz36_4 := blk_frozen BK126.out 4
       have hfz36_5 := blk_frozen BK126.out 5
       have hfz36_6 := blk_frozen BK126.out 6
       have hfz36_7 := blk_frozen BK126.out 7
       go_wp2
       go_ret
       exact ⟨by first|rfl|(simp [errW_none,errW_some] <;> rfl)|(simp [*,errW_none,errW_some] <;> rfl),by repeat (first|(with_reducible first|exact HB.out|apply bA3_|apply bN3_|apply bD3_|refine bS3_ ?_ GE126.out)|exact HB.out)⟩

end Go.Proofs.Ytajocpalpnpmdaa.Q
