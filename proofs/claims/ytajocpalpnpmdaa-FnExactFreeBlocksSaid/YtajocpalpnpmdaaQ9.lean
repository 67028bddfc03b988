/- The program's functions as Lean functions,and for each the proof that the machine's call comes to what its function says. Conditions: those that stand before each theorem. -/
import Derived.Test.YtajocpalpnpmdaaQ0
import Derived.Test.YtajocpalpnpmdaaQ5
namespace Go.Proofs.Ytajocpalpnpmdaa.Q
open Go.RowKit Go.Proofs.YtajocpalpnpmdaaW.PrintWords Go.Proofs.YtajocpalpnpmdaaW.PrintLast Go.Proofs.YtajocpalpnpmdaaW.PrintMore
abbrev kN9_ := @blk_drewN
abbrev kD9_ := @blk_drew
abbrev kA9_ := @blk_alloc
abbrev bA9_ := @below_alloc
abbrev bN9_ := @pw_below_drewN
abbrev bD9_ := @below_drew1
abbrev bS9_ := @below_set
abbrev mk9_ := @Aside0.mk
abbrev fZ9_ := @blk_frozen
abbrev mA9_ := @List.map_toArray
set_option linter.unusedVariables false
set_option linter.unusedSimpArgs false

mutual
def impl_Geometry_blockOk.j0:Nat→Bool→Int→Int→Bool→List ByteArray→Option (Bool)
 | 0, _, _, _, _, _ => none
 | k+1,x26,x413000,x413001,x413002,x413003=>if x26=true then (some false) else (impl_Geometry_blockOk.l0 k x413003 (x413003.length:Int) 0 x413000 x413001 x413002 x413003)
def impl_Geometry_blockOk.l0:Nat→List ByteArray→Int→Int→Int→Int→Bool→List ByteArray→Option (Bool)
 | 0, _, _, _, _, _, _, _ => none
 | k+1,x28,x29,x30,x413000,x413001,x413002,x413003=>if x30 < x29 then (if 0≤x30 then (if x30 < (x28.length:Int) then (if (rdOf ByteArray.empty x28 x30).toList=([]:List UInt8) then (impl_Geometry_blockOk.l0 k x28 x29 (wrap64 (x30+1)) x413000 x413001 x413002 x413003) else (if ((rdOf ByteArray.empty x28 x30).size:Int)=91 then (if x30 ≥ x413001 then (some false) else (impl_Geometry_blockOk.l0 k x28 x29 (wrap64 (x30+1)) x413000 x413001 x413002 x413003)) else (some false))) else (none)) else (none)) else (some true)
end
def impl_Geometry_blockOk.f (k:Nat) (a0_0:Int) (a0_1:Int) (a0_2:Int) (a1_0:Int) (a1_1:Int) (a1_2:Bool) (l1_3:List ByteArray):Option (Bool):=(impl_within.f a1_0 0 1000).bind fun t413=>(if t413=true then ((impl_within.f a1_1 0 a0_2).bind fun t414=>(if t414=true then (impl_Geometry_blockOk.j0 k ((l1_3.length:Int) != a0_2) a1_0 a1_1 a1_2 l1_3) else (impl_Geometry_blockOk.j0 k true a1_0 a1_1 a1_2 l1_3))) else (impl_Geometry_blockOk.j0 k true a1_0 a1_1 a1_2 l1_3))
set_option maxHeartbeats 8000000 in
set_option maxRecDepth 100000 in
theorem impl_Geometry_blockOk.calls (k:Nat) (a0_0:Int) (a0_1:Int) (a0_2:Int) (a1_0:Int) (a1_1:Int) (a1_2:Bool) (A1_3:Option Addr) (c1_3:Nat) (l1_3:List ByteArray) (r:Bool) (w:World) (hr1_3:Kd.C Kd.string w A1_3 l1_3.length l1_3) (hc1_3:l1_3.length≤c1_3) (h:impl_Geometry_blockOk.f k a0_0 a0_1 a0_2 a1_0 a1_1 a1_2 l1_3=some r) :
  Calls Try.prog 54 #[.agg #[.int .i64 a0_0,.int .i64 a0_1,.int .i64 a0_2],.agg #[.int .i64 a1_0,.int .i64 a1_1,.bool a1_2,.slice A1_3 l1_3.length c1_3]] w fun e w'=>e=.returned (.bool r)∧Below w.heap.size w w':=by
 have hu37 := Try.underlying37
 have hu92 := Try.underlying92
 have HR1_3 := Aside0.mk hr1_3
 have HC1_3 := Aside0.mk hc1_3
 clear hr1_3 hc1_3
 have HB := Aside0.mk (Below.refl w.heap.size w)
 have H:((impl_within.f a1_0 0 1000).bind fun t413=>(if t413=true then ((impl_within.f a1_1 0 a0_2).bind fun t414=>(if t414=true then (impl_Geometry_blockOk.j0 k ((l1_3.length:Int) != a0_2) a1_0 a1_1 a1_2 l1_3) else (impl_Geometry_blockOk.j0 k true a1_0 a1_1 a1_2 l1_3))) else (impl_Geometry_blockOk.j0 k true a1_0 a1_1 a1_2 l1_3)))=some r:=h
 clear h
 have HC3 := Aside0.mk H
 clear H
 go_enter Try.func54, Try.ntmps54
 go_upto_region 1 with (first|((with_reducible refine gate_dst (N:=2) rfl ?_);(try (refine gate_guard (by rfl) ?_;dsimp only));refine box_event ?hg (N:=2) ?hd (cs:=#[.int .i64 a0_0,.int .i64 a0_1,.int .i64 a0_2]) (t:=37) ?hr ?_;(case hd=>rfl);(case hg=>rfl);(case hr=>first|(go_simp;done)|(go_simp;rfl));intro gb411 hg w4 hbox hb;have n0_:=mk9_ (below_step (by repeat (first|(with_reducible first|exact HB.out|apply bA9_|apply bN9_|apply bD9_)|exact HB.out)) hb);have n1_:=mk9_ (hbox);have n2_:=mk9_ ((by rw [hg];exact (below_size (by repeat (first|(with_reducible first|exact HB.out|apply bA9_|apply bN9_|apply bD9_)|exact HB.out))):w.heap.size≤gb411));have n3_:=mk9_ ((by rw [hg];exact (below_size (by repeat (first|(with_reducible first|exact HB.out|apply bA9_|apply bN9_|apply bD9_)|exact HB.out))):w.heap.size≤gb411));clear HB;have HB:=n0_;have BK411:=n1_;have GW411:=n2_;have GE411:=n3_;clear n0_ n1_ n2_ n3_;clear hb hbox hg)|((with_reducible refine gate_dst (N:=3) rfl ?_);(try (refine gate_guard (by rfl) ?_;dsimp only));refine box_event ?hg (N:=3) ?hd (cs:=#[.int .i64 a1_0,.int .i64 a1_1,.bool a1_2,.slice A1_3 l1_3.length c1_3]) (t:=92) ?hr ?_;(case hd=>rfl);(case hg=>rfl);(case hr=>first|(go_simp;done)|(go_simp;rfl));intro gb412 hg w5 hbox hb;have n0_:=mk9_ (blk_below (g:=gb411) (o:=.cells #[.int .i64 a0_0,.int .i64 a0_1,.int .i64 a0_2] 37 (0,0)) (by (with_reducible repeat (first|refine kN9_ ?_ _|refine kD9_ ?_|refine kA9_ ?_ _));exact BK411.out) hb);have n1_:=mk9_ (below_step (by repeat (first|(with_reducible first|exact HB.out|apply bA9_|apply bN9_|apply bD9_|refine bS9_ ?_ GE411.out)|exact HB.out)) hb);have n2_:=mk9_ (hbox);have n3_:=mk9_ ((by rw [hg];exact (below_size (by repeat (first|(with_reducible first|exact HB.out|apply bA9_|apply bN9_|apply bD9_|refine bS9_ ?_ GE411.out)|exact HB.out))):w.heap.size≤gb412));have n4_:=mk9_ ((by rw [hg];exact (below_size (by repeat (first|(with_reducible first|exact HB.out|apply bA9_|apply bN9_|apply bD9_|refine bS9_ ?_ GE411.out)|exact HB.out))):w.heap.size≤gb412));have n5_:=mk9_ ((by rw [hg];exact Nat.ne_of_lt (blk_lt (g:=gb411) (o:=.cells #[.int .i64 a0_0,.int .i64 a0_1,.int .i64 a0_2] 37 (0,0)) (by (with_reducible repeat (first|refine kN9_ ?_ _|refine kD9_ ?_|refine kA9_ ?_ _));exact BK411.out)):gb411≠gb412));have n6_:=mk9_ ((by rw [hg];exact Nat.ne_of_gt (blk_lt (g:=gb411) (o:=.cells #[.int .i64 a0_0,.int .i64 a0_1,.int .i64 a0_2] 37 (0,0)) (by (with_reducible repeat (first|refine kN9_ ?_ _|refine kD9_ ?_|refine kA9_ ?_ _));exact BK411.out)):gb412≠gb411));clear BK411;clear HB;have BK411:=n0_;have HB:=n1_;have BK412:=n2_;have GW412:=n3_;have GE412:=n4_;have NB411_412:=n5_;have NB412_411:=n6_;clear n0_ n1_ n2_ n3_ n4_ n5_ n6_;clear hb hbox hg))
 (try simp only [Act.put,List.setIfInBounds_toArray,List.set_cons_zero,List.set_cons_succ])
 go_cut [26] (fun v26 wc=>∃ (kq:Nat) (x26_2:Bool),v26=.bool x26_2∧Aside0 (impl_Geometry_blockOk.j0 kq x26_2 a1_0 a1_1 a1_2 l1_3=some r)∧Aside0 (kq≤k)∧Aside0 (wc.heap[gb411]?=some (.cells #[.int .i64 a0_0,.int .i64 a0_1,.int .i64 a0_2] 37 (0,0)))∧Aside0 (wc.heap[gb412]?=some (.cells #[.int .i64 a1_0,.int .i64 a1_1,.bool a1_2,(.slice A1_3 l1_3.length c1_3)] 92 (0,0)))∧Aside0 (Below w.heap.size w wc))
 case first =>
  have H := HC3.out
  clear HC3
  replace H := Option.bind_eq_some_iff.mp H
  obtain ⟨t413, A60, H⟩ := H
  replace H:(if t413=true then ((impl_within.f a1_1 0 a0_2).bind fun t414=>(if t414=true then (impl_Geometry_blockOk.j0 k ((l1_3.length:Int) != a0_2) a1_0 a1_1 a1_2 l1_3) else (impl_Geometry_blockOk.j0 k true a1_0 a1_1 a1_2 l1_3))) else (impl_Geometry_blockOk.j0 k true a1_0 a1_1 a1_2 l1_3))=some r:=H
  have A6 := Aside0.mk A60
  clear A60
  by_cases c7 : t413 = true
  ·subst c7
   have H1:((impl_within.f a1_1 0 a0_2).bind fun t414=>(if t414=true then (impl_Geometry_blockOk.j0 k ((l1_3.length:Int) != a0_2) a1_0 a1_1 a1_2 l1_3) else (impl_Geometry_blockOk.j0 k true a1_0 a1_1 a1_2 l1_3)))=some r:=by rw [if_pos rfl] at H;exact H
   clear H
   have H := H1
   clear H1
   replace H := Option.bind_eq_some_iff.mp H
   obtain ⟨t414, A80, H⟩ := H
   replace H:(if t414=true then (impl_Geometry_blockOk.j0 k ((l1_3.length:Int) != a0_2) a1_0 a1_1 a1_2 l1_3) else (impl_Geometry_blockOk.j0 k true a1_0 a1_1 a1_2 l1_3))=some r:=H
   have A8 := Aside0.mk A80
   clear A80
   by_cases c9 : t414 = true
   ·subst c9
    have H1:(impl_Geometry_blockOk.j0 k ((l1_3.length:Int) != a0_2) a1_0 a1_1 a1_2 l1_3)=some r:=by rw [if_pos rfl] at H;exact H
    clear H
    have H := H1
    clear H1
    have H' := Aside0.mk H
    clear H
    have hnb10 := NB412_411.out
    have hnc10 := NB411_412.out
    have hcz11_0:w5.cell? ⟨gb412,0,none⟩=some (.int .i64 a1_0):=(blk_cell BK412.out 0).trans rfl
    have hcz11_1:w5.cell? ⟨gb412,1,none⟩=some (.int .i64 a1_1):=(blk_cell BK412.out 1).trans rfl
    have hcz11_2:w5.cell? ⟨gb412,2,none⟩=some (.bool a1_2):=(blk_cell BK412.out 2).trans rfl
    have hcz11_3:w5.cell? ⟨gb412,3,none⟩=some (.slice A1_3 l1_3.length c1_3):=(blk_cell BK412.out 3).trans rfl
    have hfz11_0 := blk_frozen BK412.out 0
    have hfz11_1 := blk_frozen BK412.out 1
    have hfz11_2 := blk_frozen BK412.out 2
    have hfz11_3 := blk_frozen BK412.out 3
    go_wp2_with (first|((with_reducible refine gate_callee (f:=29) rfl ?_);refine goesL_ (some 9) rfl rfl Try.func29 (by kernel_rfl) rfl #[.int .i64 a1_0,.int .i64 0,.int .i64 1000] rfl (by (try simp only [mA9_,List.map_cons,List.map_nil]);first|done|rfl|(simp only [List.length_drop,List.length_take];rfl)) ?_;(with_reducible refine (impl_within.calls a1_0 0 1000 true _ A6.out).mono ?_);rintro e w' ⟨rfl,⟨nd,rfl⟩⟩;refine ⟨_,rfl,?_⟩;have hcz12_0:w5.cell? ⟨gb411,0,none⟩=some (.int .i64 a0_0):=(blk_cell BK411.out 0).trans rfl;have hcz12_1:w5.cell? ⟨gb411,1,none⟩=some (.int .i64 a0_1):=(blk_cell BK411.out 1).trans rfl;have hcz12_2:w5.cell? ⟨gb411,2,none⟩=some (.int .i64 a0_2):=(blk_cell BK411.out 2).trans rfl;have hfz12_0:=fZ9_ BK411.out 0;have hfz12_1:=fZ9_ BK411.out 1;have hfz12_2:=fZ9_ BK411.out 2)|(go_at_call 29;(with_reducible refine (impl_within.calls a1_1 0 a0_2 true _ A8.out).mono ?_);rintro e w' ⟨rfl,⟨nd,rfl⟩⟩))
    go_meet
    case rel=>exact ⟨_,(((l1_3.length:Int) != a0_2)),(by first|rfl|(simp;done)|(simp [*];done)|(simp;rw [Bool.eq_iff_iff];simp)),H',⟨by first|omega|exact Nat.le_refl _⟩,⟨by (with_reducible repeat (first|refine kN9_ ?_ _|refine kD9_ ?_|refine kA9_ ?_ _));exact BK411.out⟩,⟨by (with_reducible repeat (first|refine kN9_ ?_ _|refine kD9_ ?_|refine kA9_ ?_ _));exact BK412.out⟩,⟨by repeat (first|(with_reducible first|exact HB.out|apply bA9_|apply bN9_|apply bD9_|refine bS9_ ?_ GE411.out|refine bS9_ ?_ GE412.out)|exact HB.out)⟩⟩
   ·replace c9 := Bool.eq_false_iff.mpr c9
    subst c9
    have H1:(impl_Geometry_blockOk.j0 k true a1_0 a1_1 a1_2 l1_3)=some r:=by rw [if_neg (show ¬ (false=true) by decide)] at H;exact H
    clear H
    have H := H1
    clear H1
    have H' := Aside0.mk H
    clear H
    have hnb13 := NB412_411.out
    have hnc13 := NB411_412.out
    have hcz14_0:w5.cell? ⟨gb412,0,none⟩=some (.int .i64 a1_0):=(blk_cell BK412.out 0).trans rfl
    have hcz14_1:w5.cell? ⟨gb412,1,none⟩=some (.int .i64 a1_1):=(blk_cell BK412.out 1).trans rfl
    have hcz14_2:w5.cell? ⟨gb412,2,none⟩=some (.bool a1_2):=(blk_cell BK412.out 2).trans rfl
    have hcz14_3:w5.cell? ⟨gb412,3,none⟩=some (.slice A1_3 l1_3.length c1_3):=(blk_cell BK412.out 3).trans rfl
    have hfz14_0 := blk_frozen BK412.out 0
    have hfz14_1 := blk_frozen BK412.out 1
    have hfz14_2 := blk_frozen BK412.out 2
    have hfz14_3 := blk_frozen BK412.out 3
    go_wp2_with (first|((with_reducible refine gate_callee (f:=29) rfl ?_);refine goesL_ (some 9) rfl rfl Try.func29 (by kernel_rfl) rfl #[.int .i64 a1_0,.int .i64 0,.int .i64 1000] rfl (by (try simp only [mA9_,List.map_cons,List.map_nil]);first|done|rfl|(simp only [List.length_drop,List.length_take];rfl)) ?_;(with_reducible refine (impl_within.calls a1_0 0 1000 true _ A6.out).mono ?_);rintro e w' ⟨rfl,⟨nd,rfl⟩⟩;refine ⟨_,rfl,?_⟩;have hcz15_0:w5.cell? ⟨gb411,0,none⟩=some (.int .i64 a0_0):=(blk_cell BK411.out 0).trans rfl;have hcz15_1:w5.cell? ⟨gb411,1,none⟩=some (.int .i64 a0_1):=(blk_cell BK411.out 1).trans rfl;have hcz15_2:w5.cell? ⟨gb411,2,none⟩=some (.int .i64 a0_2):=(blk_cell BK411.out 2).trans rfl;have hfz15_0:=fZ9_ BK411.out 0;have hfz15_1:=fZ9_ BK411.out 1;have hfz15_2:=fZ9_ BK411.out 2)|(go_at_call 29;(with_reducible refine (impl_within.calls a1_1 0 a0_2 false _ A8.out).mono ?_);rintro e w' ⟨rfl,⟨nd,rfl⟩⟩))
    go_meet
    case rel=>exact ⟨_,(true),(by first|rfl|(simp;done)|(simp [*];done)|(simp;rw [Bool.eq_iff_iff];simp)),H',⟨by first|omega|exact Nat.le_refl _⟩,⟨by (with_reducible repeat (first|refine kN9_ ?_ _|refine kD9_ ?_|refine kA9_ ?_ _));exact BK411.out⟩,⟨by (with_reducible repeat (first|refine kN9_ ?_ _|refine kD9_ ?_|refine kA9_ ?_ _));exact BK412.out⟩,⟨by repeat (first|(with_reducible first|exact HB.out|apply bA9_|apply bN9_|apply bD9_|refine bS9_ ?_ GE411.out|refine bS9_ ?_ GE412.out)|exact HB.out)⟩⟩
  ·replace c7 := Bool.eq_false_iff.mpr c7
   subst c7
   have H1:(impl_Geometry_blockOk.j0 k true a1_0 a1_1 a1_2 l1_3)=some r:=by rw [if_neg (show ¬ (false=true) by decide)] at H;exact H
   clear H
   have H := H1
   clear H1
   have H' := Aside0.mk H
   clear H
   have hnb16 := NB412_411.out
   have hnc16 := NB411_412.out
   have hcz17_0:w5.cell? ⟨gb412,0,none⟩=some (.int .i64 a1_0):=(blk_cell BK412.out 0).trans rfl
   have hcz17_1:w5.cell? ⟨gb412,1,none⟩=some (.int .i64 a1_1):=(blk_cell BK412.out 1).trans rfl
   have hcz17_2:w5.cell? ⟨gb412,2,none⟩=some (.bool a1_2):=(blk_cell BK412.out 2).trans rfl
   have hcz17_3:w5.cell? ⟨gb412,3,none⟩=some (.slice A1_3 l1_3.length c1_3):=(blk_cell BK412.out 3).trans rfl
   have hfz17_0 := blk_frozen BK412.out 0
   have hfz17_1 := blk_frozen BK412.out 1
   have hfz17_2 := blk_frozen BK412.out 2
   have hfz17_3 := blk_frozen BK412.out 3
   go_wp2_with (first|((with_reducible refine gate_callee (f:=29) rfl ?_);refine goesL_ (some 9) rfl rfl Try.func29 (by kernel_rfl) rfl #[.int .i64 a1_0,.int .i64 0,.int .i64 1000] rfl (by (try simp only [mA9_,List.map_cons,List.map_nil]);first|done|rfl|(simp only [List.length_drop,List.length_take];rfl)) ?_;(with_reducible refine (impl_within.calls a1_0 0 1000 false _ A6.out).mono ?_);rintro e w' ⟨rfl,⟨nd,rfl⟩⟩;refine ⟨_,rfl,?_⟩))
   go_meet
   case rel=>exact ⟨_,(true),(by first|rfl|(simp;done)|(simp [*];done)|(simp;rw [Bool.eq_iff_iff];simp)),H',⟨by first|omega|exact Nat.le_refl _⟩,⟨by (with_reducible repeat (first|refine kN9_ ?_ _|refine kD9_ ?_|refine kA9_ ?_ _));exact BK411.out⟩,⟨by (with_reducible repeat (first|refine kN9_ ?_ _|refine kD9_ ?_|refine kA9_ ?_ _));exact BK412.out⟩,⟨by repeat (first|(with_reducible first|exact HB.out|apply bA9_|apply bN9_|apply bD9_|refine bS9_ ?_ GE411.out|refine bS9_ ?_ GE412.out)|exact HB.out)⟩⟩
 case rest =>
  clear HC3
  try clear c1
  try clear c2
  try clear p2
  try clear c5
  try clear c7
  try clear c9
  try clear c10
  try clear c13
  try clear c16
  try clear hcz11_0
  try clear hcz11_1
  try clear hcz11_2
  try clear hcz11_3
  try clear hcz12_0
  try clear hcz12_1
  try clear hcz12_2
  try clear hcz14_0
  try clear hcz14_1
  try clear hcz14_2
  try clear hcz14_3
  try clear hcz15_0
  try clear hcz15_1
  try clear hcz15_2
  try clear hcz17_0
  try clear hcz17_1
  try clear hcz17_2
  try clear hcz17_3
  try clear hfz11_0
  try clear hfz11_1
  try clear hfz11_2
  try clear hfz11_3
  try clear hfz12_0
  try clear hfz12_1
  try clear hfz12_2
  try clear hfz14_0
  try clear hfz14_1
  try clear hfz14_2
  try clear hfz14_3
  try clear hfz15_0
  try clear hfz15_1
  try clear hfz15_2
  try clear hfz17_0
  try clear hfz17_1
  try clear hfz17_2
  try clear hfz17_3
  obtain ⟨kq, x26_2, rfl, HA, HJ2, BK411, BK412, HB⟩ := hcut
  cases kq with
  | zero=>exact absurd HA.out (by simp [impl_Geometry_blockOk.j0])
  | succ kj2 =>
   have H := HA.out
   clear HA
   simp only [impl_Geometry_blockOk.j0] at H
   by_cases c18 : x26_2 = true
   ·subst c18
    have H1:(some false)=some r:=by rw [if_pos rfl] at H;exact H
    clear H
    have H := H1
    clear H1
    obtain rfl := Option.some.inj H
    go_wp2
    go_ret
    exact ⟨by first|rfl|(simp [errW_none,errW_some] <;> rfl)|(simp [*,errW_none,errW_some] <;> rfl),by repeat (first|(with_reducible first|exact HB.out|apply bA9_|apply bN9_|apply bD9_|refine bS9_ ?_ GE411.out|refine bS9_ ?_ GE412.out)|exact HB.out)⟩
   ·replace c18 := Bool.eq_false_iff.mpr c18
    subst c18
    have H1:(impl_Geometry_blockOk.l0 kj2 l1_3 (l1_3.length:Int) 0 a1_0 a1_1 a1_2 l1_3)=some r:=by rw [if_neg (show ¬ (false=true) by decide)] at H;exact H
    clear H
    have H := H1
    clear H1
    have H' := Aside0.mk H
    clear H
    have hnb19 := NB412_411.out
    have hnc19 := NB411_412.out
    have hcz20_0:wc.cell? ⟨gb412,0,none⟩=some (.int .i64 a1_0):=(blk_cell BK412.out 0).trans rfl
    have hcz20_1:wc.cell? ⟨gb412,1,none⟩=some (.int .i64 a1_1):=(blk_cell BK412.out 1).trans rfl
    have hcz20_2:wc.cell? ⟨gb412,2,none⟩=some (.bool a1_2):=(blk_cell BK412.out 2).trans rfl
    have hcz20_3:wc.cell? ⟨gb412,3,none⟩=some (.slice A1_3 l1_3.length c1_3):=(blk_cell BK412.out 3).trans rfl
    have hfz20_0 := blk_frozen BK412.out 0
    have hfz20_1 := blk_frozen BK412.out 1
    have hfz20_2 := blk_frozen BK412.out 2
    have hfz20_3 := blk_frozen BK412.out 3
    go_wp2
    go_loopg [30] kj2 (fun kq v30 w'=>∃ (x30_2:Int),v30=.int .i64 x30_2∧Aside0 (impl_Geometry_blockOk.l0 kq l1_3 (l1_3.length:Int) x30_2 a1_0 a1_1 a1_2 l1_3=some r)∧Aside0 (kq≤kj2)∧Aside0 (w'.heap[gb411]?=some (.cells #[.int .i64 a0_0,.int .i64 a0_1,.int .i64 a0_2] 37 (0,0)))∧Aside0 (w'.heap[gb412]?=some (.cells #[.int .i64 a1_0,.int .i64 a1_1,.bool a1_2,(.slice A1_3 l1_3.length c1_3)] 92 (0,0)))∧Aside0 (Below w.heap.size w w'))
    case atStart=>exact ⟨(0),(by first|rfl|(simp;done)|(simp [*];done)|(simp;rw [Bool.eq_iff_iff];simp)),H',⟨Nat.le_refl _⟩,⟨by (with_reducible repeat (first|refine kN9_ ?_ _|refine kD9_ ?_|refine kA9_ ?_ _));exact BK411.out⟩,⟨by (with_reducible repeat (first|refine kN9_ ?_ _|refine kD9_ ?_|refine kA9_ ?_ _));exact BK412.out⟩,⟨by repeat (first|(with_reducible first|exact HB.out|apply bA9_|apply bN9_|apply bD9_|refine bS9_ ?_ GE411.out|refine bS9_ ?_ GE412.out)|exact HB.out)⟩⟩
    case round =>
     clear H'
     try clear c1
     try clear c2
     try clear p2
     try clear c5
     try clear c7
     try clear c9
     try clear c10
     try clear c13
     try clear c16
     try clear c18
     try clear c19
     try clear hcz11_0
     try clear hcz11_1
     try clear hcz11_2
     try clear hcz11_3
     try clear hcz12_0
     try clear hcz12_1
     try clear hcz12_2
     try clear hcz14_0
     try clear hcz14_1
     try clear hcz14_2
     try clear hcz14_3
     try clear hcz15_0
     try clear hcz15_1
     try clear hcz15_2
     try clear hcz17_0
     try clear hcz17_1
     try clear hcz17_2
     try clear hcz17_3
     try clear hcz20_0
     try clear hcz20_1
     try clear hcz20_2
     try clear hcz20_3
     try clear hfz11_0
     try clear hfz11_1
     try clear hfz11_2
     try clear hfz11_3
     try clear hfz12_0
     try clear hfz12_1
     try clear hfz12_2
     try clear hfz14_0
     try clear hfz14_1
     try clear hfz14_2
     try clear hfz14_3
     try clear hfz15_0
     try clear hfz15_1
     try clear hfz15_2
     try clear hfz17_0
     try clear hfz17_1
     try clear hfz17_2
     try clear hfz17_3
     try clear hfz20_0
     try clear hfz20_1
     try clear hfz20_2
     try clear hfz20_3
     try clear p2
     obtain ⟨x30_2, rfl, HA, HK2, BK411, BK412, HB⟩ := hrel
     cases gk with
     | zero=>exact absurd HA.out (by simp [impl_Geometry_blockOk.l0])
     | succ k2 =>
      have H := HA.out
      clear HA
      simp only [impl_Geometry_blockOk.l0] at H
      by_cases c21 : x30_2 < (l1_3.length : Int)
      ·rw [if_pos c21] at H
       have c21b0:decide (x30_2 < (l1_3.length:Int))=true:=decide_eq_true c21
       clear c21
       by_cases c22 : 0 ≤ x30_2
       ·rw [if_pos c22] at H
        have c22b0:decide (0≤x30_2)=true:=decide_eq_true c22
        clear c22
        by_cases c23 : x30_2 < (l1_3.length : Int)
        ·rw [if_pos c23] at H
         have c23b0:decide (x30_2 < (l1_3.length:Int))=true:=decide_eq_true c23
         clear c23
         by_cases c24:(rdOf ByteArray.empty l1_3 x30_2).toList=([]:List UInt8)
         ·rw [if_pos c24] at H
          have c24b0:((rdOf ByteArray.empty l1_3 x30_2).toList == ([]:List UInt8))=true:=beq_iff_eq.mpr c24
          have c24b1:((rdOf ByteArray.empty l1_3 x30_2).toList != ([]:List UInt8))=false:=bne_eq_false_iff_eq.mpr c24
          clear c24
          have H' := Aside0.mk H
          clear H
          have p415:0≤(x30_2:Int):=of_decide_eq_true (by first|(with_reducible assumption)|assumption)
          have q415:x30_2 < (l1_3.length:Int):=of_decide_eq_true (by first|(with_reducible assumption)|assumption)
          obtain ⟨ad415,e415,hx415_0⟩:=Kd.at_string HR1_3.out x30_2 p415 q415
          cases e415
          replace hx415_0:=(HB.out.cell (World.block_lt_of_cell? w _ hx415_0)).trans hx415_0
          replace p415 := eq_true p415
          replace q415 := eq_true q415
          go_wp2
          go_roundg k2
          case measure=>have:=HJ2.out;have:=HK2.out;omega
          case rel=>exact ⟨(wrap64 (x30_2+1)),(by first|rfl|(simp;done)|(simp [*];done)|(simp;rw [Bool.eq_iff_iff];simp)),H',⟨by have:=HJ2.out;have:=HK2.out;omega⟩,⟨by (with_reducible repeat (first|refine kN9_ ?_ _|refine kD9_ ?_|refine kA9_ ?_ _));exact BK411.out⟩,⟨by (with_reducible repeat (first|refine kN9_ ?_ _|refine kD9_ ?_|refine kA9_ ?_ _));exact BK412.out⟩,⟨by repeat (first|(with_reducible first|exact HB.out|apply bA9_|apply bN9_|apply bD9_|refine bS9_ ?_ GE411.out|refine bS9_ ?_ GE412.out)|exact HB.out)⟩⟩
         ·rw [if_neg c24] at H
          have c24b0:((rdOf ByteArray.empty l1_3 x30_2).toList == ([]:List UInt8))=false:=beq_eq_false_iff_ne.mpr c24
          have c24b1:((rdOf ByteArray.empty l1_3 x30_2).toList != ([]:List UInt8))=true:=bne_iff_ne.mpr c24
          by_cases c25:((rdOf ByteArray.empty l1_3 x30_2).size:Int)=91
          ·rw [if_pos c25] at H
           have c25b0:(((rdOf ByteArray.empty l1_3 x30_2).size:Int) == 91)=true:=beq_iff_eq.mpr c25
           have c25b1:(((rdOf ByteArray.empty l1_3 x30_2).size:Int) != 91)=false:=bne_eq_false_iff_eq.mpr c25
           clear c25
           by_cases c26 : x30_2 ≥ a1_1
           ·rw [if_pos c26] at H
            have c26b0:decide (a1_1≤x30_2)=true:=decide_eq_true c26
            clear c26
            obtain rfl := Option.some.inj H
            have p415:0≤(x30_2:Int):=of_decide_eq_true (by first|(with_reducible assumption)|assumption)
            have q415:x30_2 < (l1_3.length:Int):=of_decide_eq_true (by first|(with_reducible assumption)|assumption)
            obtain ⟨ad415,e415,hx415_0⟩:=Kd.at_string HR1_3.out x30_2 p415 q415
            cases e415
            replace hx415_0:=(HB.out.cell (World.block_lt_of_cell? w _ hx415_0)).trans hx415_0
            replace p415 := eq_true p415
            replace q415 := eq_true q415
            have hnb27 := NB412_411.out
            have hnc27 := NB411_412.out
            have hcz28_0:wr.cell? ⟨gb412,0,none⟩=some (.int .i64 a1_0):=(blk_cell BK412.out 0).trans rfl
            have hcz28_1:wr.cell? ⟨gb412,1,none⟩=some (.int .i64 a1_1):=(blk_cell BK412.out 1).trans rfl
            have hcz28_2:wr.cell? ⟨gb412,2,none⟩=some (.bool a1_2):=(blk_cell BK412.out 2).trans rfl
            have hcz28_3:wr.cell? ⟨gb412,3,none⟩=some (.slice (some ad415) l1_3.length c1_3):=(blk_cell BK412.out 3).trans rfl
            have hfz28_0 := blk_frozen BK412.out 0
            have hfz28_1 := blk_frozen BK412.out 1
            have hfz28_2 := blk_frozen BK412.out 2
            have hfz28_3 := blk_frozen BK412.out 3
            go_wp2
            go_ret
            exact ⟨by first|rfl|(simp [errW_none,errW_some] <;> rfl)|(simp [*,errW_none,errW_some] <;> rfl),by repeat (first|(with_reducible first|exact HB.out|apply bA9_|apply bN9_|apply bD9_|refine bS9_ ?_ GE411.out|refine bS9_ ?_ GE412.out)|exact HB.out)⟩
           ·rw [if_neg c26] at H
            have c26b0:decide (a1_1≤x30_2)=false:=decide_eq_false c26
            clear c26
            have H' := Aside0.mk H
            clear H
            have p415:0≤(x30_2:Int):=of_decide_eq_true (by first|(with_reducible assumption)|assumption)
            have q415:x30_2 < (l1_3.length:Int):=of_decide_eq_true (by first|(with_reducible assumption)|assumption)
            obtain ⟨ad415,e415,hx415_0⟩:=Kd.at_string HR1_3.out x30_2 p415 q415
            cases e415
            replace hx415_0:=(HB.out.cell (World.block_lt_of_cell? w _ hx415_0)).trans hx415_0
            replace p415 := eq_true p415
            replace q415 := eq_true q415
            have hnb29 := NB412_411.out
            have hnc29 := NB411_412.out
            have hcz30_0:wr.cell? ⟨gb412,0,none⟩=some (.int .i64 a1_0):=(blk_cell BK412.out 0).trans rfl
            have hcz30_1:wr.cell? ⟨gb412,1,none⟩=some (.int .i64 a1_1):=(blk_cell BK412.out 1).trans rfl
            have hcz30_2:wr.cell? ⟨gb412,2,none⟩=some (.bool a1_2):=(blk_cell BK412.out 2).trans rfl
            have hcz30_3:wr.cell? ⟨gb412,3,none⟩=some (.slice (some ad415) l1_3.length c1_3):=(blk_cell BK412.out 3).trans rfl
            have hfz30_0 := blk_frozen BK412.out 0
            have hfz30_1 := blk_frozen BK412.out 1
            have hfz30_2 := blk_frozen BK412.out 2
            have hfz30_3 := blk_frozen BK412.out 3
            go_wp2
            go_roundg k2
            case measure=>have:=HJ2.out;have:=HK2.out;omega
            case rel=>exact ⟨(wrap64 (x30_2+1)),(by first|rfl|(simp;done)|(simp [*];done)|(simp;rw [Bool.eq_iff_iff];simp)),H',⟨by have:=HJ2.out;have:=HK2.out;omega⟩,⟨by (with_reducible repeat (first|refine kN9_ ?_ _|refine kD9_ ?_|refine kA9_ ?_ _));exact BK411.out⟩,⟨by (with_reducible repeat (first|refine kN9_ ?_ _|refine kD9_ ?_|refine kA9_ ?_ _));exact BK412.out⟩,⟨by repeat (first|(with_reducible first|exact HB.out|apply bA9_|apply bN9_|apply bD9_|refine bS9_ ?_ GE411.out|refine bS9_ ?_ GE412.out)|exact HB.out)⟩⟩
          ·rw [if_neg c25] at H
           have c25b0:(((rdOf ByteArray.empty l1_3 x30_2).size:Int) == 91)=false:=beq_eq_false_iff_ne.mpr c25
           have c25b1:(((rdOf ByteArray.empty l1_3 x30_2).size:Int) != 91)=true:=bne_iff_ne.mpr c25
           obtain rfl := Option.some.inj H
           have p415:0≤(x30_2:Int):=of_decide_eq_true (by first|(with_reducible assumption)|assumption)
           have q415:x30_2 < (l1_3.length:Int):=of_decide_eq_true (by first|(with_reducible assumption)|assumption)
           obtain ⟨ad415,e415,hx415_0⟩:=Kd.at_string HR1_3.out x30_2 p415 q415
           cases e415
           replace hx415_0:=(HB.out.cell (World.block_lt_of_cell? w _ hx415_0)).trans hx415_0
           replace p415 := eq_true p415
           replace q415 := eq_true q415
           go_wp2
           go_ret
           exact ⟨by first|rfl|(simp [errW_none,errW_some] <;> rfl)|(simp [*,errW_none,errW_some] <;> rfl),by repeat (first|(with_reducible first|exact HB.out|apply bA9_|apply bN9_|apply bD9_|refine bS9_ ?_ GE411.out|refine bS9_ ?_ GE412.out)|exact HB.out)⟩
        ·rw [if_neg c23] at H
         exact absurd H (by simp)
       ·rw [if_neg c22] at H
        exact absurd H (by simp)
      ·rw [if_neg c21] at H
       have c21b0:decide (x30_2 < (l1_3.length:Int))=false:=decide_eq_false c21
       clear c21
       obtain rfl := Option.some.inj H
       go_wp2
       go_ret
       exact ⟨by first|rfl|(simp [errW_none,errW_some] <;> rfl)|(simp [*,errW_none,errW_some] <;> rfl),by repeat (first|(with_reducible first|exact HB.out|apply bA9_|apply bN9_|apply bD9_|refine bS9_ ?_ GE411.out|refine bS9_ ?_ GE412.out)|exact HB.out)⟩

end Go.Proofs.Ytajocpalpnpmdaa.Q
