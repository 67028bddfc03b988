/- The program's functions as Lean functions,and for each the proof that the machine's call comes to what its function says. Conditions: those that stand before each theorem. -/
import Derived.Test.YtajocpalpnpmdaaQ0
import Derived.Test.YtajocpalpnpmdaaQ1
namespace Go.Proofs.Ytajocpalpnpmdaa.Q
open Go.RowKit Go.Proofs.YtajocpalpnpmdaaW.PrintWords Go.Proofs.YtajocpalpnpmdaaW.PrintLast Go.Proofs.YtajocpalpnpmdaaW.PrintMore
abbrev kN2_ := @blk_drewN
abbrev kA2_ := @blk_alloc
abbrev bA2_ := @below_alloc
abbrev bN2_ := @pw_below_drewN
abbrev bD2_ := @below_drew1
abbrev bS2_ := @below_set
abbrev mA2_ := @List.map_toArray
set_option linter.unusedVariables false
set_option linter.unusedSimpArgs false

mutual
def spec_l06Block.j0:Nat→Int→Bool→Int→Int→Bool→List ByteArray→Option (Bool)
 | 0, _, _, _, _, _, _ => none
 | k+1,x1,x24,x123000,x123001,x123002,x123003=>if x24=true then (some false) else (spec_l06Block.l0 k x1 0 x123000 x123001 x123002 x123003)
def spec_l06Block.l0:Nat→Int→Int→Int→Int→Bool→List ByteArray→Option (Bool)
 | 0, _, _, _, _, _, _ => none
 | k+1,x1,x5,x123000,x123001,x123002,x123003=>if x5 < x1 then (if 0≤x5 then (if x5 < (x123003.length:Int) then (if ((rdOf ByteArray.empty x123003 x5).size:Int)=0 then (spec_l06Block.l0 k x1 (wrap64 (x5+1)) x123000 x123001 x123002 x123003) else (if ((rdOf ByteArray.empty x123003 x5).size:Int)=91 then (if x5 ≥ x123001 then (some false) else (spec_l06Block.l0 k x1 (wrap64 (x5+1)) x123000 x123001 x123002 x123003)) else (some false))) else (none)) else (none)) else (some true)
end
def spec_l06Block.f (k:Nat) (a0_0:Int) (a0_1:Int) (a0_2:Bool) (l0_3:List ByteArray) (a1:Int):Option (Bool):=(spec_l00In.f a0_0 0 1000).bind fun t123=>(if t123=true then ((spec_l00In.f a0_1 0 a1).bind fun t124=>(if t124=true then (spec_l06Block.j0 k a1 ((l0_3.length:Int) != a1) a0_0 a0_1 a0_2 l0_3) else (spec_l06Block.j0 k a1 true a0_0 a0_1 a0_2 l0_3))) else (spec_l06Block.j0 k a1 true a0_0 a0_1 a0_2 l0_3))
set_option maxHeartbeats 8000000 in
set_option maxRecDepth 100000 in
theorem spec_l06Block.calls (k:Nat) (a0_0:Int) (a0_1:Int) (a0_2:Bool) (A0_3:Option Addr) (c0_3:Nat) (l0_3:List ByteArray) (a1:Int) (r:Bool) (w:World) (hr0_3:Kd.C Kd.string w A0_3 l0_3.length l0_3) (hc0_3:l0_3.length≤c0_3) (h:spec_l06Block.f k a0_0 a0_1 a0_2 l0_3 a1=some r) :
  Calls Try.prog 69 #[.agg #[.int .i64 a0_0,.int .i64 a0_1,.bool a0_2,.slice A0_3 l0_3.length c0_3],.int .i64 a1] w fun e w'=>e=.returned (.bool r)∧Below w.heap.size w w':=by
 have hu92 := Try.underlying92
 have HR0_3 := Aside0.mk hr0_3
 have HC0_3 := Aside0.mk hc0_3
 clear hr0_3 hc0_3
 have HB := Aside0.mk (Below.refl w.heap.size w)
 have H:((spec_l00In.f a0_0 0 1000).bind fun t123=>(if t123=true then ((spec_l00In.f a0_1 0 a1).bind fun t124=>(if t124=true then (spec_l06Block.j0 k a1 ((l0_3.length:Int) != a1) a0_0 a0_1 a0_2 l0_3) else (spec_l06Block.j0 k a1 true a0_0 a0_1 a0_2 l0_3))) else (spec_l06Block.j0 k a1 true a0_0 a0_1 a0_2 l0_3)))=some r:=h
 clear h
 have HC3 := Aside0.mk H
 clear H
 go_enter Try.func69, Try.ntmps69
 go_upto_region 1 with (first|((with_reducible refine gate_dst (N:=2) rfl ?_);(try (refine gate_guard (by rfl) ?_;dsimp only));refine box_event ?hg (N:=2) ?hd (cs:=#[.int .i64 a0_0,.int .i64 a0_1,.bool a0_2,.slice A0_3 l0_3.length c0_3]) (t:=92) ?hr ?_;(case hd=>rfl);(case hg=>rfl);(case hr=>first|(go_simp;done)|(go_simp;rfl));intro gb122 hg w4 hbox hb;have n0_:=Aside0.mk (below_step (by repeat (first|(with_reducible first|exact HB.out|apply bA2_|apply bN2_|apply bD2_)|exact HB.out)) hb);have n1_:=Aside0.mk (hbox);have n2_:=Aside0.mk ((by rw [hg];exact (below_size (by repeat (first|(with_reducible first|exact HB.out|apply bA2_|apply bN2_|apply bD2_)|exact HB.out))):w.heap.size≤gb122));have n3_:=Aside0.mk ((by rw [hg];exact (below_size (by repeat (first|(with_reducible first|exact HB.out|apply bA2_|apply bN2_|apply bD2_)|exact HB.out))):w.heap.size≤gb122));clear HB;have HB:=n0_;have BK122:=n1_;have GW122:=n2_;have GE122:=n3_;clear n0_ n1_ n2_ n3_;clear hb hbox hg))
 (try simp only [Act.put,List.setIfInBounds_toArray,List.set_cons_zero,List.set_cons_succ])
 go_cut [24] (fun v24 wc=>∃ (kq:Nat) (x24_2:Bool),v24=.bool x24_2∧Aside0 (spec_l06Block.j0 kq a1 x24_2 a0_0 a0_1 a0_2 l0_3=some r)∧Aside0 (kq≤k)∧Aside0 (wc.heap[gb122]?=some (.cells #[.int .i64 a0_0,.int .i64 a0_1,.bool a0_2,(.slice A0_3 l0_3.length c0_3)] 92 (0,0)))∧Aside0 (Below w.heap.size w wc))
 case first =>
  have H := HC3.out
  clear HC3
  replace H := Option.bind_eq_some_iff.mp H
  obtain ⟨t123, A50, H⟩ := H
  replace H:(if t123=true then ((spec_l00In.f a0_1 0 a1).bind fun t124=>(if t124=true then (spec_l06Block.j0 k a1 ((l0_3.length:Int) != a1) a0_0 a0_1 a0_2 l0_3) else (spec_l06Block.j0 k a1 true a0_0 a0_1 a0_2 l0_3))) else (spec_l06Block.j0 k a1 true a0_0 a0_1 a0_2 l0_3))=some r:=H
  have A5 := Aside0.mk A50
  clear A50
  by_cases c6 : t123 = true
  ·subst c6
   have H1:((spec_l00In.f a0_1 0 a1).bind fun t124=>(if t124=true then (spec_l06Block.j0 k a1 ((l0_3.length:Int) != a1) a0_0 a0_1 a0_2 l0_3) else (spec_l06Block.j0 k a1 true a0_0 a0_1 a0_2 l0_3)))=some r:=by rw [if_pos rfl] at H;exact H
   clear H
   have H := H1
   clear H1
   replace H := Option.bind_eq_some_iff.mp H
   obtain ⟨t124, A70, H⟩ := H
   replace H:(if t124=true then (spec_l06Block.j0 k a1 ((l0_3.length:Int) != a1) a0_0 a0_1 a0_2 l0_3) else (spec_l06Block.j0 k a1 true a0_0 a0_1 a0_2 l0_3))=some r:=H
   have A7 := Aside0.mk A70
   clear A70
   by_cases c8 : t124 = true
   ·subst c8
    have H1:(spec_l06Block.j0 k a1 ((l0_3.length:Int) != a1) a0_0 a0_1 a0_2 l0_3)=some r:=by rw [if_pos rfl] at H;exact H
    clear H
    have H := H1
    clear H1
    have H' := Aside0.mk H
    clear H
    have hcz9_0:w4.cell? ⟨gb122,0,none⟩=some (.int .i64 a0_0):=(blk_cell BK122.out 0).trans rfl
    have hcz9_1:w4.cell? ⟨gb122,1,none⟩=some (.int .i64 a0_1):=(blk_cell BK122.out 1).trans rfl
    have hcz9_2:w4.cell? ⟨gb122,2,none⟩=some (.bool a0_2):=(blk_cell BK122.out 2).trans rfl
    have hcz9_3:w4.cell? ⟨gb122,3,none⟩=some (.slice A0_3 l0_3.length c0_3):=(blk_cell BK122.out 3).trans rfl
    have hfz9_0 := blk_frozen BK122.out 0
    have hfz9_1 := blk_frozen BK122.out 1
    have hfz9_2 := blk_frozen BK122.out 2
    have hfz9_3 := blk_frozen BK122.out 3
    go_wp2_with (first|((with_reducible refine gate_callee (f:=47) rfl ?_);refine goesL_ (some 9) rfl rfl Try.func47 (by kernel_rfl) rfl #[.int .i64 a0_0,.int .i64 0,.int .i64 1000] rfl (by (try simp only [mA2_,List.map_cons,List.map_nil]);first|done|rfl|(simp only [List.length_drop,List.length_take];rfl)) ?_;(with_reducible refine (spec_l00In.calls a0_0 0 1000 true _ A5.out).mono ?_);rintro e w' ⟨rfl,⟨nd,rfl⟩⟩;refine ⟨_,rfl,?_⟩)|(go_at_call 47;(with_reducible refine (spec_l00In.calls a0_1 0 a1 true _ A7.out).mono ?_);rintro e w' ⟨rfl,⟨nd,rfl⟩⟩))
    go_meet
    case rel=>exact ⟨_,(((l0_3.length:Int) != a1)),(by first|rfl|(simp;done)|(simp [*];done)),H',⟨by first|omega|exact Nat.le_refl _⟩,⟨by (with_reducible repeat (first|refine kN2_ ?_ _|refine blk_drew ?_|refine kA2_ ?_ _));exact BK122.out⟩,⟨by repeat (first|(with_reducible first|exact HB.out|apply bA2_|apply bN2_|apply bD2_|refine bS2_ ?_ GE122.out)|exact HB.out)⟩⟩
   ·replace c8 := Bool.eq_false_iff.mpr c8
    subst c8
    have H1:(spec_l06Block.j0 k a1 true a0_0 a0_1 a0_2 l0_3)=some r:=by rw [if_neg (show ¬ (false=true) by decide)] at H;exact H
    clear H
    have H := H1
    clear H1
    have H' := Aside0.mk H
    clear H
    have hcz10_0:w4.cell? ⟨gb122,0,none⟩=some (.int .i64 a0_0):=(blk_cell BK122.out 0).trans rfl
    have hcz10_1:w4.cell? ⟨gb122,1,none⟩=some (.int .i64 a0_1):=(blk_cell BK122.out 1).trans rfl
    have hcz10_2:w4.cell? ⟨gb122,2,none⟩=some (.bool a0_2):=(blk_cell BK122.out 2).trans rfl
    have hcz10_3:w4.cell? ⟨gb122,3,none⟩=some (.slice A0_3 l0_3.length c0_3):=(blk_cell BK122.out 3).trans rfl
    have hfz10_0 := blk_frozen BK122.out 0
    have hfz10_1 := blk_frozen BK122.out 1
    have hfz10_2 := blk_frozen BK122.out 2
    have hfz10_3 := blk_frozen BK122.out 3
    go_wp2_with (first|((with_reducible refine gate_callee (f:=47) rfl ?_);refine goesL_ (some 9) rfl rfl Try.func47 (by kernel_rfl) rfl #[.int .i64 a0_0,.int .i64 0,.int .i64 1000] rfl (by (try simp only [mA2_,List.map_cons,List.map_nil]);first|done|rfl|(simp only [List.length_drop,List.length_take];rfl)) ?_;(with_reducible refine (spec_l00In.calls a0_0 0 1000 true _ A5.out).mono ?_);rintro e w' ⟨rfl,⟨nd,rfl⟩⟩;refine ⟨_,rfl,?_⟩)|(go_at_call 47;(with_reducible refine (spec_l00In.calls a0_1 0 a1 false _ A7.out).mono ?_);rintro e w' ⟨rfl,⟨nd,rfl⟩⟩))
    go_meet
    case rel=>exact ⟨_,(true),(by first|rfl|(simp;done)|(simp [*];done)),H',⟨by first|omega|exact Nat.le_refl _⟩,⟨by (with_reducible repeat (first|refine kN2_ ?_ _|refine blk_drew ?_|refine kA2_ ?_ _));exact BK122.out⟩,⟨by repeat (first|(with_reducible first|exact HB.out|apply bA2_|apply bN2_|apply bD2_|refine bS2_ ?_ GE122.out)|exact HB.out)⟩⟩
  ·replace c6 := Bool.eq_false_iff.mpr c6
   subst c6
   have H1:(spec_l06Block.j0 k a1 true a0_0 a0_1 a0_2 l0_3)=some r:=by rw [if_neg (show ¬ (false=true) by decide)] at H;exact H
   clear H
   have H := H1
   clear H1
   have H' := Aside0.mk H
   clear H
   have hcz11_0:w4.cell? ⟨gb122,0,none⟩=some (.int .i64 a0_0):=(blk_cell BK122.out 0).trans rfl
   have hcz11_1:w4.cell? ⟨gb122,1,none⟩=some (.int .i64 a0_1):=(blk_cell BK122.out 1).trans rfl
   have hcz11_2:w4.cell? ⟨gb122,2,none⟩=some (.bool a0_2):=(blk_cell BK122.out 2).trans rfl
   have hcz11_3:w4.cell? ⟨gb122,3,none⟩=some (.slice A0_3 l0_3.length c0_3):=(blk_cell BK122.out 3).trans rfl
   have hfz11_0 := blk_frozen BK122.out 0
   have hfz11_1 := blk_frozen BK122.out 1
   have hfz11_2 := blk_frozen BK122.out 2
   have hfz11_3 := blk_frozen BK122.out 3
   go_wp2_with (first|((with_reducible refine gate_callee (f:=47) rfl ?_);refine goesL_ (some 9) rfl rfl Try.func47 (by kernel_rfl) rfl #[.int .i64 a0_0,.int .i64 0,.int .i64 1000] rfl (by (try simp only [mA2_,List.map_cons,List.map_nil]);first|done|rfl|(simp only [List.length_drop,List.length_take];rfl)) ?_;(with_reducible refine (spec_l00In.calls a0_0 0 1000 false _ A5.out).mono ?_);rintro e w' ⟨rfl,⟨nd,rfl⟩⟩;refine ⟨_,rfl,?_⟩))
   go_meet
   case rel=>exact ⟨_,(true),(by first|rfl|(simp;done)|(simp [*];done)),H',⟨by first|omega|exact Nat.le_refl _⟩,⟨by (with_reducible repeat (first|refine kN2_ ?_ _|refine blk_drew ?_|refine kA2_ ?_ _));exact BK122.out⟩,⟨by repeat (first|(with_reducible first|exact HB.out|apply bA2_|apply bN2_|apply bD2_|refine bS2_ ?_ GE122.out)|exact HB.out)⟩⟩
 case rest =>
  clear HC3
  try clear p2
  try clear c4
  try clear c6
  try clear c8
  try clear hcz10_0
  try clear hcz10_1
  try clear hcz10_2
  try clear hcz10_3
  try clear hcz11_0
  try clear hcz11_1
  try clear hcz11_2
  try clear hcz11_3
  try clear hcz9_0
  try clear hcz9_1
  try clear hcz9_2
  try clear hcz9_3
  try clear hfz10_0
  try clear hfz10_1
  try clear hfz10_2
  try clear hfz10_3
  try clear hfz11_0
  try clear hfz11_1
  try clear hfz11_2
  try clear hfz11_3
  try clear hfz9_0
  try clear hfz9_1
  try clear hfz9_2
  try clear hfz9_3
  obtain ⟨kq, x24_2, rfl, HA, HJ2, BK122, HB⟩ := hcut
  cases kq with
  | zero => exact absurd HA.out (by simp [spec_l06Block.j0])
  | succ kj2 =>
   have H := HA.out
   clear HA
   simp only [spec_l06Block.j0] at H
   by_cases c12 : x24_2 = true
   ·subst c12
    have H1:(some false)=some r:=by rw [if_pos rfl] at H;exact H
    clear H
    have H := H1
    clear H1
    obtain rfl := Option.some.inj H
    go_wp2
    go_ret
    exact ⟨by first|rfl|(simp [errW_none,errW_some] <;> rfl)|(simp [*,errW_none,errW_some] <;> rfl),by repeat (first|(with_reducible first|exact HB.out|apply bA2_|apply bN2_|apply bD2_|refine bS2_ ?_ GE122.out)|exact HB.out)⟩
   ·replace c12 := Bool.eq_false_iff.mpr c12
    subst c12
    have H1:(spec_l06Block.l0 kj2 a1 0 a0_0 a0_1 a0_2 l0_3)=some r:=by rw [if_neg (show ¬ (false=true) by decide)] at H;exact H
    clear H
    have H := H1
    clear H1
    have H' := Aside0.mk H
    clear H
    go_wp2
    go_loopg [5] kj2 (fun kq v5 w'=>∃ (x5_2:Int),v5=.int .i64 x5_2∧Aside0 (spec_l06Block.l0 kq a1 x5_2 a0_0 a0_1 a0_2 l0_3=some r)∧Aside0 (kq≤kj2)∧Aside0 (w'.heap[gb122]?=some (.cells #[.int .i64 a0_0,.int .i64 a0_1,.bool a0_2,(.slice A0_3 l0_3.length c0_3)] 92 (0,0)))∧Aside0 (Below w.heap.size w w'))
    case atStart=>exact ⟨(0),(by first|rfl|(simp;done)|(simp [*];done)),H',⟨Nat.le_refl _⟩,⟨by (with_reducible repeat (first|refine kN2_ ?_ _|refine blk_drew ?_|refine kA2_ ?_ _));exact BK122.out⟩,⟨by repeat (first|(with_reducible first|exact HB.out|apply bA2_|apply bN2_|apply bD2_|refine bS2_ ?_ GE122.out)|exact HB.out)⟩⟩
    case round =>
     clear H'
     try clear c1
     try clear p2
     try clear c4
     try clear c6
     try clear c8
     try clear c12
     try clear hcz10_0
     try clear hcz10_1
     try clear hcz10_2
     try clear hcz10_3
     try clear hcz11_0
     try clear hcz11_1
     try clear hcz11_2
     try clear hcz11_3
     try clear hcz9_0
     try clear hcz9_1
     try clear hcz9_2
     try clear hcz9_3
     try clear hfz10_0
     try clear hfz10_1
     try clear hfz10_2
     try clear hfz10_3
     try clear hfz11_0
     try clear hfz11_1
     try clear hfz11_2
     try clear hfz11_3
     try clear hfz9_0
     try clear hfz9_1
     try clear hfz9_2
     try clear hfz9_3
     try clear p2
     obtain ⟨x5_2, rfl, HA, HK2, BK122, HB⟩ := hrel
     cases gk with
     | zero => exact absurd HA.out (by simp [spec_l06Block.l0])
     | succ k2 =>
      have H := HA.out
      clear HA
      simp only [spec_l06Block.l0] at H
      by_cases c13 : x5_2 < a1
      ·rw [if_pos c13] at H
       have c13b0:decide (x5_2 < a1)=true:=decide_eq_true c13
       clear c13
       by_cases c14 : 0 ≤ x5_2
       ·rw [if_pos c14] at H
        have c14b0:decide (0≤x5_2)=true:=decide_eq_true c14
        clear c14
        by_cases c15 : x5_2 < (l0_3.length : Int)
        ·rw [if_pos c15] at H
         have c15b0:decide (x5_2 < (l0_3.length:Int))=true:=decide_eq_true c15
         clear c15
         by_cases c16:((rdOf ByteArray.empty l0_3 x5_2).size:Int)=0
         ·rw [if_pos c16] at H
          have c16b0:(((rdOf ByteArray.empty l0_3 x5_2).size:Int) == 0)=true:=beq_iff_eq.mpr c16
          have c16b1:(((rdOf ByteArray.empty l0_3 x5_2).size:Int) != 0)=false:=bne_eq_false_iff_eq.mpr c16
          clear c16
          have H' := Aside0.mk H
          clear H
          have hcz17_0:wr.cell? ⟨gb122,0,none⟩=some (.int .i64 a0_0):=(blk_cell BK122.out 0).trans rfl
          have hcz17_1:wr.cell? ⟨gb122,1,none⟩=some (.int .i64 a0_1):=(blk_cell BK122.out 1).trans rfl
          have hcz17_2:wr.cell? ⟨gb122,2,none⟩=some (.bool a0_2):=(blk_cell BK122.out 2).trans rfl
          have hcz17_3:wr.cell? ⟨gb122,3,none⟩=some (.slice A0_3 l0_3.length c0_3):=(blk_cell BK122.out 3).trans rfl
          have hfz17_0 := blk_frozen BK122.out 0
          have hfz17_1 := blk_frozen BK122.out 1
          have hfz17_2 := blk_frozen BK122.out 2
          have hfz17_3 := blk_frozen BK122.out 3
          have p125:0≤(x5_2:Int):=of_decide_eq_true (by first|(with_reducible assumption)|assumption)
          have q125:x5_2 < (l0_3.length:Int):=of_decide_eq_true (by first|(with_reducible assumption)|assumption)
          obtain ⟨ad125,e125,hx125_0⟩:=Kd.at_string HR0_3.out x5_2 p125 q125
          cases e125
          replace hx125_0:=(HB.out.cell (World.block_lt_of_cell? w _ hx125_0)).trans hx125_0
          replace p125 := eq_true p125
          replace q125 := eq_true q125
          go_wp2
          go_roundg k2
          case measure=>have:=HJ2.out;have:=HK2.out;omega
          case rel=>exact ⟨(wrap64 (x5_2+1)),(by first|rfl|(simp;done)|(simp [*];done)),H',⟨by have:=HJ2.out;have:=HK2.out;omega⟩,⟨by (with_reducible repeat (first|refine kN2_ ?_ _|refine blk_drew ?_|refine kA2_ ?_ _));exact BK122.out⟩,⟨by repeat (first|(with_reducible first|exact HB.out|apply bA2_|apply bN2_|apply bD2_|refine bS2_ ?_ GE122.out)|exact HB.out)⟩⟩
         ·rw [if_neg c16] at H
          have c16b0:(((rdOf ByteArray.empty l0_3 x5_2).size:Int) == 0)=false:=beq_eq_false_iff_ne.mpr c16
          have c16b1:(((rdOf ByteArray.empty l0_3 x5_2).size:Int) != 0)=true:=bne_iff_ne.mpr c16
          by_cases c18:((rdOf ByteArray.empty l0_3 x5_2).size:Int)=91
          ·rw [if_pos c18] at H
           have c18b0:(((rdOf ByteArray.empty l0_3 x5_2).size:Int) == 91)=true:=beq_iff_eq.mpr c18
           have c18b1:(((rdOf ByteArray.empty l0_3 x5_2).size:Int) != 91)=false:=bne_eq_false_iff_eq.mpr c18
           clear c18
           by_cases c19 : x5_2 ≥ a0_1
           ·rw [if_pos c19] at H
            have c19b0:decide (a0_1≤x5_2)=true:=decide_eq_true c19
            clear c19
            obtain rfl := Option.some.inj H
            have hcz20_0:wr.cell? ⟨gb122,0,none⟩=some (.int .i64 a0_0):=(blk_cell BK122.out 0).trans rfl
            have hcz20_1:wr.cell? ⟨gb122,1,none⟩=some (.int .i64 a0_1):=(blk_cell BK122.out 1).trans rfl
            have hcz20_2:wr.cell? ⟨gb122,2,none⟩=some (.bool a0_2):=(blk_cell BK122.out 2).trans rfl
            have hcz20_3:wr.cell? ⟨gb122,3,none⟩=some (.slice A0_3 l0_3.length c0_3):=(blk_cell BK122.out 3).trans rfl
            have hfz20_0 := blk_frozen BK122.out 0
            have hfz20_1 := blk_frozen BK122.out 1
            have hfz20_2 := blk_frozen BK122.out 2
            have hfz20_3 := blk_frozen BK122.out 3
            have p125:0≤(x5_2:Int):=of_decide_eq_true (by first|(with_reducible assumption)|assumption)
            have q125:x5_2 < (l0_3.length:Int):=of_decide_eq_true (by first|(with_reducible assumption)|assumption)
            obtain ⟨ad125,e125,hx125_0⟩:=Kd.at_string HR0_3.out x5_2 p125 q125
            cases e125
            replace hx125_0:=(HB.out.cell (World.block_lt_of_cell? w _ hx125_0)).trans hx125_0
            replace p125 := eq_true p125
            replace q125 := eq_true q125
            go_wp2
            go_ret
            exact ⟨by first|rfl|(simp [errW_none,errW_some] <;> rfl)|(simp [*,errW_none,errW_some] <;> rfl),by repeat (first|(with_reducible first|exact HB.out|apply bA2_|apply bN2_|apply bD2_|refine bS2_ ?_ GE122.out)|exact HB.out)⟩
           ·rw [if_neg c19] at H
            have c19b0:decide (a0_1≤x5_2)=false:=decide_eq_false c19
            clear c19
            have H' := Aside0.mk H
            clear H
            have hcz21_0:wr.cell? ⟨gb122,0,none⟩=some (.int .i64 a0_0):=(blk_cell BK122.out 0).trans rfl
            have hcz21_1:wr.cell? ⟨gb122,1,none⟩=some (.int .i64 a0_1):=(blk_cell BK122.out 1).trans rfl
            have hcz21_2:wr.cell? ⟨gb122,2,none⟩=some (.bool a0_2):=(blk_cell BK122.out 2).trans rfl
            have hcz21_3:wr.cell? ⟨gb122,3,none⟩=some (.slice A0_3 l0_3.length c0_3):=(blk_cell BK122.out 3).trans rfl
            have hfz21_0 := blk_frozen BK122.out 0
            have hfz21_1 := blk_frozen BK122.out 1
            have hfz21_2 := blk_frozen BK122.out 2
            have hfz21_3 := blk_frozen BK122.out 3
            have p125:0≤(x5_2:Int):=of_decide_eq_true (by first|(with_reducible assumption)|assumption)
            have q125:x5_2 < (l0_3.length:Int):=of_decide_eq_true (by first|(with_reducible assumption)|assumption)
            obtain ⟨ad125,e125,hx125_0⟩:=Kd.at_string HR0_3.out x5_2 p125 q125
            cases e125
            replace hx125_0:=(HB.out.cell (World.block_lt_of_cell? w _ hx125_0)).trans hx125_0
            replace p125 := eq_true p125
            replace q125 := eq_true q125
            go_wp2
            go_roundg k2
            case measure=>have:=HJ2.out;have:=HK2.out;omega
            case rel=>exact ⟨(wrap64 (x5_2+1)),(by first|rfl|(simp;done)|(simp [*];done)),H',⟨by have:=HJ2.out;have:=HK2.out;omega⟩,⟨by (with_reducible repeat (first|refine kN2_ ?_ _|refine blk_drew ?_|refine kA2_ ?_ _));exact BK122.out⟩,⟨by repeat (first|(with_reducible first|exact HB.out|apply bA2_|apply bN2_|apply bD2_|refine bS2_ ?_ GE122.out)|exact HB.out)⟩⟩
          ·rw [if_neg c18] at H
           have c18b0:(((rdOf ByteArray.empty l0_3 x5_2).size:Int) == 91)=false:=beq_eq_false_iff_ne.mpr c18
           have c18b1:(((rdOf ByteArray.empty l0_3 x5_2).size:Int) != 91)=true:=bne_iff_ne.mpr c18
           obtain rfl := Option.some.inj H
           have hcz22_0:wr.cell? ⟨gb122,0,none⟩=some (.int .i64 a0_0):=(blk_cell BK122.out 0).trans rfl
           have hcz22_1:wr.cell? ⟨gb122,1,none⟩=some (.int .i64 a0_1):=(blk_cell BK122.out 1).trans rfl
           have hcz22_2:wr.cell? ⟨gb122,2,none⟩=some (.bool a0_2):=(blk_cell BK122.out 2).trans rfl
           have hcz22_3:wr.cell? ⟨gb122,3,none⟩=some (.slice A0_3 l0_3.length c0_3):=(blk_cell BK122.out 3).trans rfl
           have hfz22_0 := blk_frozen BK122.out 0
           have hfz22_1 := blk_frozen BK122.out 1
           have hfz22_2 := blk_frozen BK122.out 2
           have hfz22_3 := blk_frozen BK122.out 3
           have p125:0≤(x5_2:Int):=of_decide_eq_true (by first|(with_reducible assumption)|assumption)
           have q125:x5_2 < (l0_3.length:Int):=of_decide_eq_true (by first|(with_reducible assumption)|assumption)
           obtain ⟨ad125,e125,hx125_0⟩:=Kd.at_string HR0_3.out x5_2 p125 q125
           cases e125
           replace hx125_0:=(HB.out.cell (World.block_lt_of_cell? w _ hx125_0)).trans hx125_0
           replace p125 := eq_true p125
           replace q125 := eq_true q125
           go_wp2
           go_ret
           exact ⟨by first|rfl|(simp [errW_none,errW_some] <;> rfl)|(simp [*,errW_none,errW_some] <;> rfl),by repeat (first|(with_reducible first|exact HB.out|apply bA2_|apply bN2_|apply bD2_|refine bS2_ ?_ GE122.out)|exact HB.out)⟩
        ·rw [if_neg c15] at H
         exact absurd H (by simp)
       ·rw [if_neg c14] at H
        exact absurd H (by simp)
      ·rw [if_neg c13] at H
       have c13b0:decide (x5_2 < a1)=false:=decide_eq_false c13
       clear c13
       obtain rfl := Option.some.inj H
       go_wp2
       go_ret
       exact ⟨by first|rfl|(simp [errW_none,errW_some] <;> rfl)|(simp [*,errW_none,errW_some] <;> rfl),by repeat (first|(with_reducible first|exact HB.out|apply bA2_|apply bN2_|apply bD2_|refine bS2_ ?_ GE122.out)|exact HB.out)⟩

end Go.Proofs.Ytajocpalpnpmdaa.Q
