/- The program's functions as Lean functions,and for each the proof that the machine's call comes to what its function says. Conditions: those that stand before each theorem. -/
import Derived.Test.YtdjbphffibcbeaaQ0
import Derived.Test.YtdjbphffibcbeaaQ12
namespace Go.Proofs.Ytdjbphffibcbeaa.Q
open Go.RowKit Go.Proofs.YtdjbphffibcbeaaW.PrintWords Go.Proofs.YtdjbphffibcbeaaW.PrintLast Go.Proofs.YtdjbphffibcbeaaW.PrintMore
abbrev kN13_ := @blk_drewN
abbrev kD13_ := @blk_drew
abbrev rN13_ := @Kd.R_drewN
abbrev bA13_ := @below_alloc
abbrev bN13_ := @pw_below_drewN
abbrev bD13_ := @below_drew1
abbrev bS13_ := @below_set
abbrev mk13_ := @Aside0.mk
abbrev fZ13_ := @blk_frozen
abbrev sB13_ := @Kd.S_below
abbrev bT13_ := @below_step
abbrev bZ13_ := @below_size
set_option linter.unusedVariables false
set_option linter.unusedSimpArgs false

mutual
def impl_Geometry_blockOk.j0 : Nat → Bool → Int → Int → Bool → List ByteArray → Option (Bool)
 | 0, _, _, _, _, _ => none
 | k+1,x26,x360000,x360001,x360002,x360003=>if x26=true then (some false) else (impl_Geometry_blockOk.l0 k x360003 (x360003.length:Int) 0 x360000 x360001 x360002 x360003)
def impl_Geometry_blockOk.l0:Nat→List ByteArray→Int→Int→Int→Int→Bool→List ByteArray→Option (Bool)
 | 0, _, _, _, _, _, _, _ => none
 | k+1,x28,x29,x30,x360000,x360001,x360002,x360003=>if x30 < x29 then (if 0≤x30 then (if x30 < (x28.length:Int) then (if (rdOf ByteArray.empty x28 x30).toList=([]:List UInt8) then (impl_Geometry_blockOk.l0 k x28 x29 (wrap64 (x30+1)) x360000 x360001 x360002 x360003) else (if ((rdOf ByteArray.empty x28 x30).size:Int)=91 then (if x30 ≥ x360001 then (some false) else (impl_Geometry_blockOk.l0 k x28 x29 (wrap64 (x30+1)) x360000 x360001 x360002 x360003)) else (some false))) else (none)) else (none)) else (some true)
end
def impl_Geometry_blockOk.f (k:Nat) (a0_0:Int) (a0_1:Int) (a0_2:Int) (a1_0:Int) (a1_1:Int) (a1_2:Bool) (l1_3:List ByteArray):Option (Bool):=(impl_within.f a1_0 0 1000).bind fun t360=>(if t360=true then ((impl_within.f a1_1 0 a0_2).bind fun t361=>(if t361=true then (impl_Geometry_blockOk.j0 k ((l1_3.length:Int) != a0_2) a1_0 a1_1 a1_2 l1_3) else (impl_Geometry_blockOk.j0 k true a1_0 a1_1 a1_2 l1_3))) else (impl_Geometry_blockOk.j0 k true a1_0 a1_1 a1_2 l1_3))
set_option maxHeartbeats 8000000 in
set_option maxRecDepth 100000 in
theorem impl_Geometry_blockOk.calls (k:Nat) (a0_0:Int) (a0_1:Int) (a0_2:Int) (a1_0:Int) (a1_1:Int) (a1_2:Bool) (A1_3:Option Addr) (c1_3:Nat) (l1_3:List ByteArray) (r:Bool) (w:World) (hr1_3:Kd.C Kd.string w A1_3 l1_3.length l1_3) (hc1_3:l1_3.length≤c1_3) (h:impl_Geometry_blockOk.f k a0_0 a0_1 a0_2 a1_0 a1_1 a1_2 l1_3=some r) :
  Calls Try.prog 43 #[.agg #[.int .i64 a0_0,.int .i64 a0_1,.int .i64 a0_2],.agg #[.int .i64 a1_0,.int .i64 a1_1,.bool a1_2,.slice A1_3 l1_3.length c1_3]] w fun e w'=>e=.returned (.bool r)∧Below w.heap.size w w':=by
 have hu32 := Try.underlying32
 have hu68 := Try.underlying68
 have HR1_3 := Aside0.mk hr1_3
 have HC1_3 := Aside0.mk hc1_3
 clear hr1_3 hc1_3
 have HB := Aside0.mk (Below.refl w.heap.size w)
 have H:((impl_within.f a1_0 0 1000).bind fun t360=>(if t360=true then ((impl_within.f a1_1 0 a0_2).bind fun t361=>(if t361=true then (impl_Geometry_blockOk.j0 k ((l1_3.length:Int) != a0_2) a1_0 a1_1 a1_2 l1_3) else (impl_Geometry_blockOk.j0 k true a1_0 a1_1 a1_2 l1_3))) else (impl_Geometry_blockOk.j0 k true a1_0 a1_1 a1_2 l1_3)))=some r:=h
 clear h
 have HC3 := Aside0.mk H
 clear H
 go_enter Try.func43, Try.ntmps43
 go_upto_region 1 with (first|((with_reducible refine gate_dst (N:=2) rfl ?_);(try (refine gate_guard (by rfl) ?_;dsimp only));refine box_event ?hg (N:=2) ?hd (cs:=#[.int .i64 a0_0,.int .i64 a0_1,.int .i64 a0_2]) (t:=32) ?hr ?_;(case hd=>rfl);(case hg=>rfl);(case hr=>first|(go_simp;done)|(go_simp;rfl));intro gb358 hg w4 hbox hb;have n0_:=mk13_ (bT13_ (by repeat (first|(with_reducible first|exact HB.out|apply bA13_|apply bN13_|apply bD13_)|exact HB.out)) hb);have n1_:=mk13_ (hbox);have n2_:=mk13_ ((by rw [hg];exact (bZ13_ (by repeat (first|(with_reducible first|exact HB.out|apply bA13_|apply bN13_|apply bD13_)|exact HB.out))):w.heap.size≤gb358));have n3_:=mk13_ ((by rw [hg];exact (bZ13_ (by repeat (first|(with_reducible first|exact HB.out|apply bA13_|apply bN13_|apply bD13_)|exact HB.out))):w.heap.size≤gb358));clear HB;have HB:=n0_;have BK358:=n1_;have GW358:=n2_;have GE358:=n3_;clear n0_ n1_ n2_ n3_;clear hb hbox hg)|((with_reducible refine gate_dst (N:=3) rfl ?_);(try (refine gate_guard (by rfl) ?_;dsimp only));refine box_event ?hg (N:=3) ?hd (cs:=#[.int .i64 a1_0,.int .i64 a1_1,.bool a1_2,.slice A1_3 l1_3.length c1_3]) (t:=68) ?hr ?_;(case hd=>rfl);(case hg=>rfl);(case hr=>first|(go_simp;done)|(go_simp;rfl));intro gb359 hg w5 hbox hb;have n0_:=mk13_ (blk_below (g:=gb358) (o:=.cells #[.int .i64 a0_0,.int .i64 a0_1,.int .i64 a0_2] 32 (0,0)) (by (with_reducible repeat (first|refine kN13_ ?_ _|refine kD13_ ?_|refine blk_alloc ?_ _));exact BK358.out) hb);have n1_:=mk13_ (bT13_ (by repeat (first|(with_reducible first|exact HB.out|apply bA13_|apply bN13_|apply bD13_|refine bS13_ ?_ GE358.out)|exact HB.out)) hb);have n2_:=mk13_ (hbox);have n3_:=mk13_ ((by rw [hg];exact (bZ13_ (by repeat (first|(with_reducible first|exact HB.out|apply bA13_|apply bN13_|apply bD13_|refine bS13_ ?_ GE358.out)|exact HB.out))):w.heap.size≤gb359));have n4_:=mk13_ ((by rw [hg];exact (bZ13_ (by repeat (first|(with_reducible first|exact HB.out|apply bA13_|apply bN13_|apply bD13_|refine bS13_ ?_ GE358.out)|exact HB.out))):w.heap.size≤gb359));have n5_:=mk13_ ((by rw [hg];exact Nat.ne_of_lt (blk_lt (g:=gb358) (o:=.cells #[.int .i64 a0_0,.int .i64 a0_1,.int .i64 a0_2] 32 (0,0)) (by (with_reducible repeat (first|refine kN13_ ?_ _|refine kD13_ ?_|refine blk_alloc ?_ _));exact BK358.out)):gb358≠gb359));have n6_:=mk13_ ((by rw [hg];exact Nat.ne_of_gt (blk_lt (g:=gb358) (o:=.cells #[.int .i64 a0_0,.int .i64 a0_1,.int .i64 a0_2] 32 (0,0)) (by (with_reducible repeat (first|refine kN13_ ?_ _|refine kD13_ ?_|refine blk_alloc ?_ _));exact BK358.out)):gb359≠gb358));clear BK358;clear HB;have BK358:=n0_;have HB:=n1_;have BK359:=n2_;have GW359:=n3_;have GE359:=n4_;have NB358_359:=n5_;have NB359_358:=n6_;clear n0_ n1_ n2_ n3_ n4_ n5_ n6_;clear hb hbox hg))
 (try simp only [Act.put, List.setIfInBounds_toArray, List.set_cons_zero, List.set_cons_succ])
 go_cut [26] (fun v26 wc=>∃ (kq:Nat) (x26_2:Bool),v26=.bool x26_2∧Aside0 (impl_Geometry_blockOk.j0 kq x26_2 a1_0 a1_1 a1_2 l1_3=some r)∧Aside0 (kq≤k)∧Aside0 (wc.heap[gb358]?=some (.cells #[.int .i64 a0_0,.int .i64 a0_1,.int .i64 a0_2] 32 (0,0)))∧Aside0 (wc.heap[gb359]?=some (.cells #[.int .i64 a1_0,.int .i64 a1_1,.bool a1_2,(.slice A1_3 l1_3.length c1_3)] 68 (0,0)))∧Aside0 (Below w.heap.size w wc))
 case first =>
  have H := HC3.out
  clear HC3
  replace H := Option.bind_eq_some_iff.mp H
  obtain ⟨t360, A60, H⟩ := H
  replace H:(if t360=true then ((impl_within.f a1_1 0 a0_2).bind fun t361=>(if t361=true then (impl_Geometry_blockOk.j0 k ((l1_3.length:Int) != a0_2) a1_0 a1_1 a1_2 l1_3) else (impl_Geometry_blockOk.j0 k true a1_0 a1_1 a1_2 l1_3))) else (impl_Geometry_blockOk.j0 k true a1_0 a1_1 a1_2 l1_3))=some r:=H
  have A6 := Aside0.mk A60
  clear A60
  by_cases c7 : t360 = true
  ·subst c7
   have H1:((impl_within.f a1_1 0 a0_2).bind fun t361=>(if t361=true then (impl_Geometry_blockOk.j0 k ((l1_3.length:Int) != a0_2) a1_0 a1_1 a1_2 l1_3) else (impl_Geometry_blockOk.j0 k true a1_0 a1_1 a1_2 l1_3)))=some r:=by rw [if_pos rfl] at H;exact H
   clear H
   have H := H1
   clear H1
   replace H := Option.bind_eq_some_iff.mp H
   obtain ⟨t361, A80, H⟩ := H
   replace H:(if t361=true then (impl_Geometry_blockOk.j0 k ((l1_3.length:Int) != a0_2) a1_0 a1_1 a1_2 l1_3) else (impl_Geometry_blockOk.j0 k true a1_0 a1_1 a1_2 l1_3))=some r:=H
   have A8 := Aside0.mk A80
   clear A80
   by_cases c9 : t361 = true
   ·subst c9
    have H1:(impl_Geometry_blockOk.j0 k ((l1_3.length:Int) != a0_2) a1_0 a1_1 a1_2 l1_3)=some r:=by rw [if_pos rfl] at H;exact H
    clear H
    have H := H1
    clear H1
    have H' := Aside0.mk H
    clear H
    have hnb10 := NB359_358.out
    have hnc10 := NB358_359.out
    have hcz11_0:w5.cell? ⟨gb359,0,none⟩=some (.int .i64 a1_0):=(blk_cell BK359.out 0).trans rfl
    have hcz11_1:w5.cell? ⟨gb359,1,none⟩=some (.int .i64 a1_1):=(blk_cell BK359.out 1).trans rfl
    have hcz11_2:w5.cell? ⟨gb359,2,none⟩=some (.bool a1_2):=(blk_cell BK359.out 2).trans rfl
    have hcz11_3:w5.cell? ⟨gb359,3,none⟩=some (.slice A1_3 l1_3.length c1_3):=(blk_cell BK359.out 3).trans rfl
    have hfz11_0 := blk_frozen BK359.out 0
    have hfz11_1 := blk_frozen BK359.out 1
    have hfz11_2 := blk_frozen BK359.out 2
    have hfz11_3 := blk_frozen BK359.out 3
    go_wp2_with (first|((with_reducible refine gate_callee (f:=23) rfl ?_);refine goesL_ (some 9) rfl rfl Try.func23 (by kernel_rfl) rfl #[.int .i64 a1_0,.int .i64 0,.int .i64 1000] rfl (by (try simp only [List.map_toArray,List.map_cons,List.map_nil]);first|done|rfl|(simp only [List.length_drop,List.length_take];rfl)) ?_;(with_reducible refine (impl_within.calls a1_0 0 1000 true _ A6.out).mono ?_);rintro e w' ⟨rfl,⟨nd,rfl⟩⟩;refine ⟨_,rfl,?_⟩;have hcz12_0:w5.cell? ⟨gb358,0,none⟩=some (.int .i64 a0_0):=(blk_cell BK358.out 0).trans rfl;have hcz12_1:w5.cell? ⟨gb358,1,none⟩=some (.int .i64 a0_1):=(blk_cell BK358.out 1).trans rfl;have hcz12_2:w5.cell? ⟨gb358,2,none⟩=some (.int .i64 a0_2):=(blk_cell BK358.out 2).trans rfl;have hfz12_0:=fZ13_ BK358.out 0;have hfz12_1:=fZ13_ BK358.out 1;have hfz12_2:=fZ13_ BK358.out 2)|(go_at_call 23;(with_reducible refine (impl_within.calls a1_1 0 a0_2 true _ A8.out).mono ?_);rintro e w' ⟨rfl,⟨nd,rfl⟩⟩))
    go_meet
    case rel=>exact ⟨_,(((l1_3.length:Int) != a0_2)),(by first|rfl|(simp;done)|(simp [*];done)|(simp;rw [Bool.eq_iff_iff];simp)),H',⟨by first|omega|exact Nat.le_refl _⟩,⟨by (with_reducible repeat (first|refine kN13_ ?_ _|refine kD13_ ?_|refine blk_alloc ?_ _));exact BK358.out⟩,⟨by (with_reducible repeat (first|refine kN13_ ?_ _|refine kD13_ ?_|refine blk_alloc ?_ _));exact BK359.out⟩,⟨by repeat (first|(with_reducible first|exact HB.out|apply bA13_|apply bN13_|apply bD13_|refine bS13_ ?_ GE358.out|refine bS13_ ?_ GE359.out)|exact HB.out)⟩⟩
   ·replace c9 := Bool.eq_false_iff.mpr c9
    subst c9
    have H1:(impl_Geometry_blockOk.j0 k true a1_0 a1_1 a1_2 l1_3)=some r:=by rw [if_neg (show ¬ (false=true) by decide)] at H;exact H
    clear H
    have H := H1
    clear H1
    have H' := Aside0.mk H
    clear H
    have hnb13 := NB359_358.out
    have hnc13 := NB358_359.out
    have hcz14_0:w5.cell? ⟨gb359,0,none⟩=some (.int .i64 a1_0):=(blk_cell BK359.out 0).trans rfl
    have hcz14_1:w5.cell? ⟨gb359,1,none⟩=some (.int .i64 a1_1):=(blk_cell BK359.out 1).trans rfl
    have hcz14_2:w5.cell? ⟨gb359,2,none⟩=some (.bool a1_2):=(blk_cell BK359.out 2).trans rfl
    have hcz14_3:w5.cell? ⟨gb359,3,none⟩=some (.slice A1_3 l1_3.length c1_3):=(blk_cell BK359.out 3).trans rfl
    have hfz14_0 := blk_frozen BK359.out 0
    have hfz14_1 := blk_frozen BK359.out 1
    have hfz14_2 := blk_frozen BK359.out 2
    have hfz14_3 := blk_frozen BK359.out 3
    go_wp2_with (first|((with_reducible refine gate_callee (f:=23) rfl ?_);refine goesL_ (some 9) rfl rfl Try.func23 (by kernel_rfl) rfl #[.int .i64 a1_0,.int .i64 0,.int .i64 1000] rfl (by (try simp only [List.map_toArray,List.map_cons,List.map_nil]);first|done|rfl|(simp only [List.length_drop,List.length_take];rfl)) ?_;(with_reducible refine (impl_within.calls a1_0 0 1000 true _ A6.out).mono ?_);rintro e w' ⟨rfl,⟨nd,rfl⟩⟩;refine ⟨_,rfl,?_⟩;have hcz15_0:w5.cell? ⟨gb358,0,none⟩=some (.int .i64 a0_0):=(blk_cell BK358.out 0).trans rfl;have hcz15_1:w5.cell? ⟨gb358,1,none⟩=some (.int .i64 a0_1):=(blk_cell BK358.out 1).trans rfl;have hcz15_2:w5.cell? ⟨gb358,2,none⟩=some (.int .i64 a0_2):=(blk_cell BK358.out 2).trans rfl;have hfz15_0:=fZ13_ BK358.out 0;have hfz15_1:=fZ13_ BK358.out 1;have hfz15_2:=fZ13_ BK358.out 2)|(go_at_call 23;(with_reducible refine (impl_within.calls a1_1 0 a0_2 false _ A8.out).mono ?_);rintro e w' ⟨rfl,⟨nd,rfl⟩⟩))
    go_meet
    case rel=>exact ⟨_,(true),(by first|rfl|(simp;done)|(simp [*];done)|(simp;rw [Bool.eq_iff_iff];simp)),H',⟨by first|omega|exact Nat.le_refl _⟩,⟨by (with_reducible repeat (first|refine kN13_ ?_ _|refine kD13_ ?_|refine blk_alloc ?_ _));exact BK358.out⟩,⟨by (with_reducible repeat (first|refine kN13_ ?_ _|refine kD13_ ?_|refine blk_alloc ?_ _));exact BK359.out⟩,⟨by repeat (first|(with_reducible first|exact HB.out|apply bA13_|apply bN13_|apply bD13_|refine bS13_ ?_ GE358.out|refine bS13_ ?_ GE359.out)|exact HB.out)⟩⟩
  ·replace c7 := Bool.eq_false_iff.mpr c7
   subst c7
   have H1:(impl_Geometry_blockOk.j0 k true a1_0 a1_1 a1_2 l1_3)=some r:=by rw [if_neg (show ¬ (false=true) by decide)] at H;exact H
   clear H
   have H := H1
   clear H1
   have H' := Aside0.mk H
   clear H
   have hnb16 := NB359_358.out
   have hnc16 := NB358_359.out
   have hcz17_0:w5.cell? ⟨gb359,0,none⟩=some (.int .i64 a1_0):=(blk_cell BK359.out 0).trans rfl
   have hcz17_1:w5.cell? ⟨gb359,1,none⟩=some (.int .i64 a1_1):=(blk_cell BK359.out 1).trans rfl
   have hcz17_2:w5.cell? ⟨gb359,2,none⟩=some (.bool a1_2):=(blk_cell BK359.out 2).trans rfl
   have hcz17_3:w5.cell? ⟨gb359,3,none⟩=some (.slice A1_3 l1_3.length c1_3):=(blk_cell BK359.out 3).trans rfl
   have hfz17_0 := blk_frozen BK359.out 0
   have hfz17_1 := blk_frozen BK359.out 1
   have hfz17_2 := blk_frozen BK359.out 2
   have hfz17_3 := blk_frozen BK359.out 3
   go_wp2_with (first|((with_reducible refine gate_callee (f:=23) rfl ?_);refine goesL_ (some 9) rfl rfl Try.func23 (by kernel_rfl) rfl #[.int .i64 a1_0,.int .i64 0,.int .i64 1000] rfl (by (try simp only [List.map_toArray,List.map_cons,List.map_nil]);first|done|rfl|(simp only [List.length_drop,List.length_take];rfl)) ?_;(with_reducible refine (impl_within.calls a1_0 0 1000 false _ A6.out).mono ?_);rintro e w' ⟨rfl,⟨nd,rfl⟩⟩;refine ⟨_,rfl,?_⟩))
   go_meet
   case rel=>exact ⟨_,(true),(by first|rfl|(simp;done)|(simp [*];done)|(simp;rw [Bool.eq_iff_iff];simp)),H',⟨by first|omega|exact Nat.le_refl _⟩,⟨by (with_reducible repeat (first|refine kN13_ ?_ _|refine kD13_ ?_|refine blk_alloc ?_ _));exact BK358.out⟩,⟨by (with_reducible repeat (first|refine kN13_ ?_ _|refine kD13_ ?_|refine blk_alloc ?_ _));exact BK359.out⟩,⟨by repeat (first|(with_reducible first|exact HB.out|apply bA13_|apply bN13_|apply bD13_|refine bS13_ ?_ GE358.out|refine bS13_ ?_ GE359.out)|exact HB.out)⟩⟩
 case rest =>
  clear HC3
  try clear c1
  try clear c2
  try clear p2
  try clear c4
  try clear c7
  try clear c9
  try clear c10
  try clear c13
  try clear c16
  try clear hcz11_0
  try clear hcz11_1
  try clear hcz11_2
  try clear hcz11_3
  try clear hcz12_0
  try clear hcz12_1
  try clear hcz12_2
  try clear hcz14_0
  try clear hcz14_1
  try clear hcz14_2
  try clear hcz14_3
  try clear hcz15_0
  try clear hcz15_1
  try clear hcz15_2
  try clear hcz17_0
  try clear hcz17_1
  try clear hcz17_2
  try clear hcz17_3
  try clear hfz11_0
  try clear hfz11_1
  try clear hfz11_2
  try clear hfz11_3
  try clear hfz12_0
  try clear hfz12_1
  try clear hfz12_2
  try clear hfz14_0
  try clear hfz14_1
  try clear hfz14_2
  try clear hfz14_3
  try clear hfz15_0
  try clear hfz15_1
  try clear hfz15_2
  try clear hfz17_0
  try clear hfz17_1
  try clear hfz17_2
  try clear hfz17_3
  obtain ⟨kq, x26_2, rfl, HA, HJ2, BK358, BK359, HB⟩ := hcut
  cases kq with
  | zero => exact absurd HA.out (by simp [impl_Geometry_blockOk.j0])
  | succ kj2 =>
   have H := HA.out
   clear HA
   simp only [impl_Geometry_blockOk.j0] at H
   by_cases c18 : x26_2 = true
   ·subst c18
    have H1 : (some false) = some r := by rw [if_pos rfl] at H; exact H
    clear H
    have H := H1
    clear H1
    obtain rfl := Option.some.inj H
    go_wp2
    go_ret
    exact ⟨by first|rfl|(simp [errW_none,errW_some] <;> rfl)|(simp [*,errW_none,errW_some] <;> rfl),by repeat (first|(with_reducible first|exact HB.out|apply bA13_|apply bN13_|apply bD13_|refine bS13_ ?_ GE358.out|refine bS13_ ?_ GE359.out)|exact HB.out)⟩
   ·replace c18 := Bool.eq_false_iff.mpr c18
    subst c18
    have H1:(impl_Geometry_blockOk.l0 kj2 l1_3 (l1_3.length:Int) 0 a1_0 a1_1 a1_2 l1_3)=some r:=by rw [if_neg (show ¬ (false=true) by decide)] at H;exact H
    clear H
    have H := H1
    clear H1
    have H' := Aside0.mk H
    clear H
    have hnb19 := NB359_358.out
    have hnc19 := NB358_359.out
    have hcz20_0:wc.cell? ⟨gb359,0,none⟩=some (.int .i64 a1_0):=(blk_cell BK359.out 0).trans rfl
    have hcz20_1:wc.cell? ⟨gb359,1,none⟩=some (.int .i64 a1_1):=(blk_cell BK359.out 1).trans rfl
    have hcz20_2:wc.cell? ⟨gb359,2,none⟩=some (.bool a1_2):=(blk_cell BK359.out 2).trans rfl
    have hcz20_3:wc.cell? ⟨gb359,3,none⟩=some (.slice A1_3 l1_3.length c1_3):=(blk_cell BK359.out 3).trans rfl
    have hfz20_0 := blk_frozen BK359.out 0
    have hfz20_1 := blk_frozen BK359.out 1
    have hfz20_2 := blk_frozen BK359.out 2
    have hfz20_3 := blk_frozen BK359.out 3
    go_wp2
    go_loopg [30] kj2 (fun kq v30 w'=>∃ (x30_2:Int),v30=.int .i64 x30_2∧Aside0 (impl_Geometry_blockOk.l0 kq l1_3 (l1_3.length:Int) x30_2 a1_0 a1_1 a1_2 l1_3=some r)∧Aside0 (kq≤kj2)∧Aside0 (w'.heap[gb358]?=some (.cells #[.int .i64 a0_0,.int .i64 a0_1,.int .i64 a0_2] 32 (0,0)))∧Aside0 (w'.heap[gb359]?=some (.cells #[.int .i64 a1_0,.int .i64 a1_1,.bool a1_2,(.slice A1_3 l1_3.length c1_3)] 68 (0,0)))∧Aside0 (Below w.heap.size w w'))
    case atStart=>exact ⟨(0),(by first|rfl|(simp;done)|(simp [*];done)|(simp;rw [Bool.eq_iff_iff];simp)),H',⟨Nat.le_refl _⟩,⟨by (with_reducible repeat (first|refine kN13_ ?_ _|refine kD13_ ?_|refine blk_alloc ?_ _));exact BK358.out⟩,⟨by (with_reducible repeat (first|refine kN13_ ?_ _|refine kD13_ ?_|refine blk_alloc ?_ _));exact BK359.out⟩,⟨by repeat (first|(with_reducible first|exact HB.out|apply bA13_|apply bN13_|apply bD13_|refine bS13_ ?_ GE358.out|refine bS13_ ?_ GE359.out)|exact HB.out)⟩⟩
    case round =>
     clear H'
     try clear c1
     try clear c2
     try clear p2
     try clear c4
     try clear c7
     try clear c9
     try clear c10
     try clear c13
     try clear c16
     try clear c18
     try clear c19
     try clear hcz11_0
     try clear hcz11_1
     try clear hcz11_2
     try clear hcz11_3
     try clear hcz12_0
     try clear hcz12_1
     try clear hcz12_2
     try clear hcz14_0
     try clear hcz14_1
     try clear hcz14_2
     try clear hcz14_3
     try clear hcz15_0
     try clear hcz15_1
     try clear hcz15_2
     try clear hcz17_0
     try clear hcz17_1
     try clear hcz17_2
     try clear hcz17_3
     try clear hcz20_0
     try clear hcz20_1
     try clear hcz20_2
     try clear hcz20_3
     try clear hfz11_0
     try clear hfz11_1
     try clear hfz11_2
     try clear hfz11_3
     try clear hfz12_0
     try clear hfz12_1
     try clear hfz12_2
     try clear hfz14_0
     try clear hfz14_1
     try clear hfz14_2
     try clear hfz14_3
     try clear hfz15_0
     try clear hfz15_1
     try clear hfz15_2
     try clear hfz17_0
     try clear hfz17_1
     try clear hfz17_2
     try clear hfz17_3
     try clear hfz20_0
     try clear hfz20_1
     try clear hfz20_2
     try clear hfz20_3
     try clear p2
     obtain ⟨x30_2, rfl, HA, HK2, BK358, BK359, HB⟩ := hrel
     cases gk with
     | zero => exact absurd HA.out (by simp [impl_Geometry_blockOk.l0])
     | succ k2 =>
      have H := HA.out
      clear HA
      simp only [impl_Geometry_blockOk.l0] at H
      by_cases c21 : x30_2 < (l1_3.length : Int)
      ·rw [if_pos c21] at H
       have c21b0 : decide (x30_2 < (l1_3.length : Int)) = true := decide_eq_true c21
       clear c21
       by_cases c22 : 0 ≤ x30_2
       ·rw [if_pos c22] at H
        have c22b0 : decide (0 ≤ x30_2) = true := decide_eq_true c22
        clear c22
        by_cases c23 : x30_2 < (l1_3.length : Int)
        ·rw [if_pos c23] at H
         have c23b0 : decide (x30_2 < (l1_3.length : Int)) = true := decide_eq_true c23
         clear c23
         by_cases c24 : (rdOf ByteArray.empty l1_3 x30_2).toList = ([] : List UInt8)
         ·rw [if_pos c24] at H
          have c24b0:((rdOf ByteArray.empty l1_3 x30_2).toList == ([]:List UInt8))=true:=beq_iff_eq.mpr c24
          have c24b1:((rdOf ByteArray.empty l1_3 x30_2).toList != ([]:List UInt8))=false:=bne_eq_false_iff_eq.mpr c24
          clear c24
          have H' := Aside0.mk H
          clear H
          have p362:0≤(x30_2:Int):=of_decide_eq_true (by first|(with_reducible assumption)|assumption)
          have q362:x30_2 < (l1_3.length:Int):=of_decide_eq_true (by first|(with_reducible assumption)|assumption)
          obtain ⟨ad362, e362, hx362_0⟩ := Kd.at_string HR1_3.out x30_2 p362 q362
          cases e362
          replace hx362_0:=(HB.out.cell (World.block_lt_of_cell? w _ hx362_0)).trans hx362_0
          replace p362 := eq_true p362
          replace q362 := eq_true q362
          go_wp2
          go_roundg k2
          case measure => have := HJ2.out; have := HK2.out; omega
          case rel=>exact ⟨(wrap64 (x30_2+1)),(by first|rfl|(simp;done)|(simp [*];done)|(simp;rw [Bool.eq_iff_iff];simp)),H',⟨by have:=HJ2.out;have:=HK2.out;omega⟩,⟨by (with_reducible repeat (first|refine kN13_ ?_ _|refine kD13_ ?_|refine blk_alloc ?_ _));exact BK358.out⟩,⟨by (with_reducible repeat (first|refine kN13_ ?_ _|refine kD13_ ?_|refine blk_alloc ?_ _));exact BK359.out⟩,⟨by repeat (first|(with_reducible first|exact HB.out|apply bA13_|apply bN13_|apply bD13_|refine bS13_ ?_ GE358.out|refine bS13_ ?_ GE359.out)|exact HB.out)⟩⟩
         ·rw [if_neg c24] at H
          have c24b0:((rdOf ByteArray.empty l1_3 x30_2).toList == ([]:List UInt8))=false:=beq_eq_false_iff_ne.mpr c24
          have c24b1:((rdOf ByteArray.empty l1_3 x30_2).toList != ([]:List UInt8))=true:=bne_iff_ne.mpr c24
          by_cases c25 : ((rdOf ByteArray.empty l1_3 x30_2).size : Int) = 91
          ·rw [if_pos c25] at H
           have c25b0:(((rdOf ByteArray.empty l1_3 x30_2).size:Int) == 91)=true:=beq_iff_eq.mpr c25
           have c25b1:(((rdOf ByteArray.empty l1_3 x30_2).size:Int) != 91)=false:=bne_eq_false_iff_eq.mpr c25
           clear c25
           by_cases c26 : x30_2 ≥ a1_1
           ·rw [if_pos c26] at H
            have c26b0 : decide (a1_1 ≤ x30_2) = true := decide_eq_true c26
            clear c26
            obtain rfl := Option.some.inj H
            have p362:0≤(x30_2:Int):=of_decide_eq_true (by first|(with_reducible assumption)|assumption)
            have q362:x30_2 < (l1_3.length:Int):=of_decide_eq_true (by first|(with_reducible assumption)|assumption)
            obtain ⟨ad362, e362, hx362_0⟩ := Kd.at_string HR1_3.out x30_2 p362 q362
            cases e362
            replace hx362_0:=(HB.out.cell (World.block_lt_of_cell? w _ hx362_0)).trans hx362_0
            replace p362 := eq_true p362
            replace q362 := eq_true q362
            have hnb27 := NB359_358.out
            have hnc27 := NB358_359.out
            have hcz28_0:wr.cell? ⟨gb359,0,none⟩=some (.int .i64 a1_0):=(blk_cell BK359.out 0).trans rfl
            have hcz28_1:wr.cell? ⟨gb359,1,none⟩=some (.int .i64 a1_1):=(blk_cell BK359.out 1).trans rfl
            have hcz28_2:wr.cell? ⟨gb359,2,none⟩=some (.bool a1_2):=(blk_cell BK359.out 2).trans rfl
            have hcz28_3:wr.cell? ⟨gb359,3,none⟩=some (.slice (some ad362) l1_3.length c1_3):=(blk_cell BK359.out 3).trans rfl
            have hfz28_0 := blk_frozen BK359.out 0
            have hfz28_1 := blk_frozen BK359.out 1
            have hfz28_2 := blk_frozen BK359.out 2
            have hfz28_3 := blk_frozen BK359.out 3
            go_wp2
            go_ret
            exact ⟨by first|rfl|(simp [errW_none,errW_some] <;> rfl)|(simp [*,errW_none,errW_some] <;> rfl),by repeat (first|(with_reducible first|exact HB.out|apply bA13_|apply bN13_|apply bD13_|refine bS13_ ?_ GE358.out|refine bS13_ ?_ GE359.out)|exact HB.out)⟩
           ·rw [if_neg c26] at H
            have c26b0 : decide (a1_1 ≤ x30_2) = false := decide_eq_false c26
            clear c26
            have H' := Aside0.mk H
            clear H
            have p362:0≤(x30_2:Int):=of_decide_eq_true (by first|(with_reducible assumption)|assumption)
            have q362:x30_2 < (l1_3.length:Int):=of_decide_eq_true (by first|(with_reducible assumption)|assumption)
            obtain ⟨ad362, e362, hx362_0⟩ := Kd.at_string HR1_3.out x30_2 p362 q362
            cases e362
            replace hx362_0:=(HB.out.cell (World.block_lt_of_cell? w _ hx362_0)).trans hx362_0
            replace p362 := eq_true p362
            replace q362 := eq_true q362
            have hnb29 := NB359_358.out
            have hnc29 := NB358_359.out
            have hcz30_0:wr.cell? ⟨gb359,0,none⟩=some (.int .i64 a1_0):=(blk_cell BK359.out 0).trans rfl
            have hcz30_1:wr.cell? ⟨gb359,1,none⟩=some (.int .i64 a1_1):=(blk_cell BK359.out 1).trans rfl
            have hcz30_2:wr.cell? ⟨gb359,2,none⟩=some (.bool a1_2):=(blk_cell BK359.out 2).trans rfl
            have hcz30_3:wr.cell? ⟨gb359,3,none⟩=some (.slice (some ad362) l1_3.length c1_3):=(blk_cell BK359.out 3).trans rfl
            have hfz30_0 := blk_frozen BK359.out 0
            have hfz30_1 := blk_frozen BK359.out 1
            have hfz30_2 := blk_frozen BK359.out 2
            have hfz30_3 := blk_frozen BK359.out 3
            go_wp2
            go_roundg k2
            case measure => have := HJ2.out; have := HK2.out; omega
            case rel=>exact ⟨(wrap64 (x30_2+1)),(by first|rfl|(simp;done)|(simp [*];done)|(simp;rw [Bool.eq_iff_iff];simp)),H',⟨by have:=HJ2.out;have:=HK2.out;omega⟩,⟨by (with_reducible repeat (first|refine kN13_ ?_ _|refine kD13_ ?_|refine blk_alloc ?_ _));exact BK358.out⟩,⟨by (with_reducible repeat (first|refine kN13_ ?_ _|refine kD13_ ?_|refine blk_alloc ?_ _));exact BK359.out⟩,⟨by repeat (first|(with_reducible first|exact HB.out|apply bA13_|apply bN13_|apply bD13_|refine bS13_ ?_ GE358.out|refine bS13_ ?_ GE359.out)|exact HB.out)⟩⟩
          ·rw [if_neg c25] at H
           have c25b0:(((rdOf ByteArray.empty l1_3 x30_2).size:Int) == 91)=false:=beq_eq_false_iff_ne.mpr c25
           have c25b1:(((rdOf ByteArray.empty l1_3 x30_2).size:Int) != 91)=true:=bne_iff_ne.mpr c25
           obtain rfl := Option.some.inj H
           have p362:0≤(x30_2:Int):=of_decide_eq_true (by first|(with_reducible assumption)|assumption)
           have q362:x30_2 < (l1_3.length:Int):=of_decide_eq_true (by first|(with_reducible assumption)|assumption)
           obtain ⟨ad362, e362, hx362_0⟩ := Kd.at_string HR1_3.out x30_2 p362 q362
           cases e362
           replace hx362_0:=(HB.out.cell (World.block_lt_of_cell? w _ hx362_0)).trans hx362_0
           replace p362 := eq_true p362
           replace q362 := eq_true q362
           go_wp2
           go_ret
           exact ⟨by first|rfl|(simp [errW_none,errW_some] <;> rfl)|(simp [*,errW_none,errW_some] <;> rfl),by repeat (first|(with_reducible first|exact HB.out|apply bA13_|apply bN13_|apply bD13_|refine bS13_ ?_ GE358.out|refine bS13_ ?_ GE359.out)|exact HB.out)⟩
        ·rw [if_neg c23] at H
         exact absurd H (by simp)
       ·rw [if_neg c22] at H
        exact absurd H (by simp)
      ·rw [if_neg c21] at H
       have c21b0 : decide (x30_2 < (l1_3.length : Int)) = false := decide_eq_false c21
       clear c21
       obtain rfl := Option.some.inj H
       go_wp2
       go_ret
       exact ⟨by first|rfl|(simp [errW_none,errW_some] <;> rfl)|(simp [*,errW_none,errW_some] <;> rfl),by repeat (first|(with_reducible first|exact HB.out|apply bA13_|apply bN13_|apply bD13_|refine bS13_ ?_ GE358.out|refine bS13_ ?_ GE359.out)|exact HB.out)⟩

end Go.Proofs.Ytdjbphffibcbeaa.Q
